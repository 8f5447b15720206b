/- A sound engine for Go code. No condition. -/
import Derived.WalkKit
import Derived.ChangeKeysEq
import Derived.Laws.StructEq
import Derived.Laws.Externs
import Derived.Orders
open Array renaming ext' -> dP, getD -> jV, getD_eq_getD_getElem? -> bh, getElem?_eq_getElem -> gK, getElem?_toList -> cZ, length_toList -> aO, replicate -> dR
open Bool renaming and_eq_true -> az, eq_iff_iff -> eJ, false_eq_true -> aJ, not_eq_true' -> dv
open Go.Instr renaming buildSlice -> dG
open Int renaming fdiv_eq_ediv_of_nonneg -> qP
open Go.IntKind renaming i64 -> af, u8 -> fu
open List renaming Nodup -> vJ, Pairwise -> eg, Sublist -> ni, all_eq_true -> aT, append_assoc -> av, append_nil -> bw, drop_drop -> fq, drop_eq_nil_of_le -> bo, drop_zero -> aV, filter_cons -> kS, flatten_append -> b9, flatten_cons -> cE, foldl_cons -> bS, getD_cons_succ -> cz, getD_cons_zero -> bZ, getD_eq_getElem?_getD -> aa, getElem?_append_left -> bc, getElem?_append_right -> bq, getElem?_drop -> br, getElem?_eq_getElem -> ab, getElem?_eq_none -> kf, getElem?_map -> aP, getElem?_range -> cP, getElem?_set -> gu, getElem?_take -> bJ, getElem?_toArray -> xu, getElem_mem -> bx, getElem_of_mem -> bY, length_append -> ac, length_cons -> aA, length_drop -> aI, length_eq_zero_iff -> cA, length_map -> aS, length_nil -> aY, length_pos_iff -> mi, length_replicate -> bQ, length_set -> cB, length_singleton -> aH, length_take -> aw, map_append -> cV, map_cons -> aE, map_nil -> cT, mem_append -> ak, mem_cons -> al, mem_cons_of_mem -> am, mem_cons_self -> ax, mem_map -> aR, mem_map_of_mem -> ii, mem_of_mem_drop -> D1, mem_of_mem_take -> bD, mem_range -> jF, mem_singleton -> aZ, nil_append -> aG, nodup_cons -> dU, pairwise_iff_getElem -> nY, pairwise_map -> gr, range -> bU, replicate -> ao, take_append_drop -> ke, take_length -> bi, take_of_length_le -> bB
open Nat renaming add_assoc -> dH, add_mul -> bA, add_zero -> dL, div_eq_of_lt -> xx, eq_zero_or_pos -> gj, le_refl -> aN, le_trans -> p6, lt_or_ge -> bO, min_eq_left -> gM, mod_eq_of_lt -> dp, mul_comm -> cm, mul_le_mul_right -> bv, mul_one -> db, succ_mul -> dJ, zero_add -> cj, zero_le -> bH, zero_mul -> gz
open Go.Op renaming bytesLess -> bF, intCmp -> pZ
open Option renaming bind_some -> cS, getD_some -> bp, ite_none_right_eq_some -> aF, map_eq_some_iff -> ah, map_some -> bl, some -> aq
open Prod renaming fst -> cM, mk -> bj
open Go.Result renaming andThen_ok -> aj
open Go.Sem renaming run_bind -> ay, run_pure -> aD
open UInt8 renaming lt_iff_toNat_lt -> sk, ofInt -> ct, ofNat -> gy
set_option linter.unusedVariables false
set_option linter.unusedSimpArgs false
set_option linter.unnecessarySimpa false
set_option linter.unusedSectionVars false
namespace Go.Sy
abbrev t7:=List UInt8
abbrev LAb:=List Nat
abbrev LAc:=Option Nat
abbrev LAd:=List Value
abbrev LAe:=Array Value
abbrev LBb:=Exit->Act->World->Prop
abbrev LBc:=Act->World->Prop
inductive Tok where
 |no
 |clip
 |id (t:Nat)
 deriving DecidableEq
inductive SV where
 |undef
 |bool (b:Bool)
 |int (k:IntKind) (n:Int)
 |u8 (b:UInt8)
 |str (l:List UInt8)
 |byt (l:List UInt8) (t:Tok)
 |lst (sz:Nat) (xs:List (List SV)) (t:Tok)
 |nilp
 |nili
 |pp (cs:List SV)
 |ptr (o off:Nat)
 |ap (o sz i j:Nat)
 |psl (o sz off n:Nat) (cap:Option Nat)
 |agg (cs:List SV)
 |tup (vs:List SV)
 |fn (f:Nat) (first cap:List SV)
 deriving Inhabited
abbrev LAa:=List SV
abbrev f8:=List (List SV)
inductive aC where
 |rc (cs:List SV)
 |arr (sz:Nat) (xs:List (List SV))
 |bar (l:List UInt8)
def aC.size:aC->Nat
 | .rc cs=>cs.length
 | .arr y h=>h.length*y
 | .bar l=>l.length
def aC.cell:aC->Nat->SV
 | .rc cs,k=>cs.getD k .undef
 | .arr sz xs,k=>(xs.getD (k/sz) []).getD (k % sz) .undef
 | .bar l,k=> .u8 (l.getD k 0)
def aC.arrB:aC->Bool
 | .arr _ _=>true
 |_=>false
abbrev GM:=Nat->Nat->Option Value
structure Sit where
 G:GM
 bk:Nat->Nat×Nat
 τ:Nat->Nat×Nat×Nat
inductive cL(G:GM):SV->Value->Prop
 |bool (b:Bool):cL G (.bool b) (.bool b)
 |int (k:IntKind) (n:Int):cL G (.int k n) (.int k n)
 |u8 (b:UInt8):cL G (.u8 b) (.int .u8 b.toNat)
 |str (l:List UInt8):cL G (.str l) (.string ⟨⟨l⟩⟩)
 |nilp:cL G .nilp (.pointer none)
 |nili:cL G .nili .nilIface
 |bytN (t:Tok):cL G (.byt [] t) (.slice none 0 0)
 |bytE (t:Tok) (a:Addr):cL G (.byt [] t) (.slice (some a) 0 0)
 |byt (l:List UInt8) (t:Tok) (b off cap n:Nat) (hn:n=l.length) (hc:n<=cap)
  (h:∀i,i<n->G b (off+i)=some (.int .u8 (l.getD i 0).toNat)):cL G (.byt l t) (.slice (some ⟨b,off,none⟩) n cap)
 |lstN (sz:Nat) (t:Tok):cL G (.lst sz [] t) (.slice none 0 0)
 |lstE (sz:Nat) (t:Tok) (a:Addr):cL G (.lst sz [] t) (.slice (some a) 0 0)
 |lst (sz:Nat) (xs:List (List SV)) (t:Tok) (b off cap n:Nat) (val:Nat->Nat->Value) (hn:n=xs.length) (hc:n<=cap)
  (hl:∀i,i<n->(xs.getD i []).length=sz)
  (hg:∀i j,i<n->j<sz->G b (off+i*sz+j)=some (val i j))
  (h:∀i j,i<n->j<sz->cL G ((xs.getD i []).getD j .undef) (val i j)):cL G (.lst sz xs t) (.slice (some ⟨b,off,none⟩) n cap)
 |pp (cs:List SV) (b off:Nat) (val:Nat->Value) (hg:∀j,j<cs.length->G b (off+j)=some (val j))
  (h:∀j,j<cs.length->cL G (cs.getD j .undef) (val j)):cL G (.pp cs) (.pointer (some ⟨b,off,none⟩))
class aX where
 cells:Nat->Option (List SV)
variable [aX]
def Lay(G:GM):Prop:=∀g cs,aX.cells g=some cs->∀j,j<cs.length->∃v,G g j=some v/\cL G (cs.getD j .undef) v
def dk(x:Sit)(h:Nat)(t:Tok)(v:Value):Prop:=
 match t with
 | .no=>True
 | .clip=>∃a n,v= .slice a n n
 | .id t=>∃a n cap,v= .slice a n cap/\(cap=n\/∃b off,a=some ⟨b,off,none⟩/\x.τ t=(b,off+n*h,off+cap*h))
def O4(x:Sit):SV->Value->Prop
 | .byt _ t,v=>dk x 1 t v
 | .lst sz _ t,v=>dk x sz t v
 |_,_=>True
inductive Rep(x:Sit):SV->Value->Prop
 |undef (v:Value):Rep x .undef v
 |dat (s:SV) (v:Value) (h:cL x.G s v) (ht:O4 x s v):Rep x s v
 |ptr (o off:Nat):Rep x (.ptr o off) (.pointer (some ⟨(x.bk o).1,off,none⟩))
 |ap (o sz i j:Nat):Rep x (.ap o sz i j) (.pointer (some ⟨(x.bk o).1,i*sz+j,none⟩))
 |psl (o sz off n:Nat) (cap:Option Nat) (off' cap':Nat) (h:cap'=0\/off'=off*sz) (hn:n<=cap') (hc:∀c,cap=some c->c=cap') (hk:cap=none->cap'=0\/off'+cap'*sz<=(x.bk o).2):Rep x (.psl o sz off n cap) (.slice (some ⟨(x.bk o).1,off',none⟩) n cap')
 |agg (cs:List SV) (vs:List Value) (hl:cs.length=vs.length) (h:∀i,i<cs.length->Rep x (cs.getD i .undef) (vs.getD i undef)):Rep x (.agg cs) (.agg ⟨vs⟩)
 |tup (cs:List SV) (vs:List Value) (hl:cs.length=vs.length) (h:∀i,i<cs.length->Rep x (cs.getD i .undef) (vs.getD i undef)):Rep x (.tup cs) (.tuple ⟨vs⟩)
 |fn (f:Nat) (c1 c2:List SV) (v1 v2:List Value) (hl1:c1.length=v1.length) (h1:∀i,i<c1.length->Rep x (c1.getD i .undef) (v1.getD i undef))
  (hl2:c2.length=v2.length) (h2:∀i,i<c2.length->Rep x (c2.getD i .undef) (v2.getD i undef)):Rep x (.fn f c1 c2) (.func (.func f) ⟨v1⟩ ⟨v2⟩)
def cD(x:Sit)(cs:LAa)(vs:LAd):Prop:=cs.length=vs.length/\∀i,i<cs.length->Rep x (cs.getD i .undef) (vs.getD i undef)
structure St where
 tm:List SV
 ob:List (Nat×aC)
 tk:List Nat
structure Ctx where
 w0:World
 G0:GM
 mine:Nat->Prop
 β0:Nat->Nat×Nat
def eS(w:World)(b:Nat)(c:LAe)(e:TypeId)(fl fh:Nat):Prop:=
 w.heap[b]? =some (.cells c e (fl,fh))/\∀i,i<c.size->¬(fl<=i/\i<fh)
def co(x:Sit)(obj:aC)(k:Nat)(v:Value):Prop:=
 match obj with
 | .rc cs=>Rep x (cs.getD k .undef) v
 |obj=>cL x.G (obj.cell k) v
def dO(x:Sit)(w:World)(o:Nat)(obj:aC):Prop:=
 ∃c e fl fh,eS w ((x.bk o).1) c e fl fh/\(obj.size<=c.size/\(x.bk o).2<=c.size/\(obj.arrB=true->¬(fl<=c.size/\c.size<fh)))/\∀k,k<obj.size->co x obj k (c.getD k undef)
def gY(x:Sit)(w:World)(mine:Nat->Prop)(t:Nat):Prop:=
 (x.τ t).2.1=(x.τ t).2.2\/
 ((∃c e fl fh,eS w (x.τ t).1 c e fl fh/\(x.τ t).2.2<=c.size)/\mine (x.τ t).1/\∀o,(x.τ t).2.1<=o->o<(x.τ t).2.2->x.G (x.τ t).1 o=none)
def ln(p q:Nat×Nat×Nat):Prop:=p.1≠q.1
structure cY(C:Ctx)(x:Sit)(ob:List (Nat×aC))(tk:List Nat)(w:World):Prop where
 per:∀b o v,x.G b o=some v->w.cell? ⟨b,o,none⟩=some v
 g0:∀b o v,C.G0 b o=some v->x.G b o=some v
 gm:∀b o v,x.G b o=some v->C.G0 b o=some v\/C.mine b
 new:∀b,C.w0.heap.size<=b->C.mine b
 obs:∀p∈ob,dO x w p.1 p.2/\C.mine ((x.bk p.1).1)/\∀off,x.G ((x.bk p.1).1) off=none
 nd:(ob.map cM).Nodup
 inj:∀p∈ob,∀q∈ob,(x.bk p.1).1=(x.bk q.1).1->p.1=q.1
 tks:∀t∈tk,gY x w C.mine t
 tko:∀t∈tk,∀p∈ob,(x.τ t).1≠(x.bk p.1).1\/(x.τ t).2.1=(x.τ t).2.2
 tkd:∀t∈tk,∀u∈tk,t≠u->ln (x.τ t) (x.τ u)\/(x.τ t).2.1=(x.τ t).2.2\/(x.τ u).2.1=(x.τ u).2.2
 os:w.os=C.w0.os
 tape:w.tape=C.w0.tape
 output:w.output=C.w0.output
 size:C.w0.heap.size<=w.heap.size
 ext:∀b,¬C.mine b->w.heap[b]? =C.w0.heap[b]?
 pin:∀i,i<100->x.bk i=C.β0 i
 lay:Lay C.G0
structure aL(C:Ctx)(x:Sit)(s:St)(a:Act)(w:World):Prop where
 tm:cD x s.tm a.tmps.toList
 defers:a.defers=[]
 heap:cY C x s.ob s.tk w
end Go.Sy
namespace Go.Sy
variable [aX]
inductive Arg where
 |t (n:Nat)
 |c (v:SV)
 |f (g:Nat)
inductive SOp where
 |mov (x:Arg)
 |pick (c a b:Arg)
 |new (o:aC)
 |box (x:Arg)
 |build (z:List SV) (ps:List (Nat×Nat×Arg))
 |lit (sz:Nat) (xs:List Arg)
 |litB (xs:List Arg)
 |load (n:Nat) (ag:Bool) (a:Arg)
 |store (n:Nat) (a x:Arg)
 |nchk (x:Arg)
 |bin (op:BinOp) (x y:Arg)
 |beq (ne:Bool) (x y:Arg)
 |un (op:UnOp) (x:Arg)
 |toInt (k:IntKind) (x:Arg)
 |toStr (x:Arg)
 |s2b (x:Arg)
 |b2s (x:Arg)
 |mkfn (f:Nat) (first cap:List Arg)
 |mk (z:List SV) (bytes:Nat) (len cap:Arg)
 |mkB (len cap:Arg)
 |slcS (x:Arg) (lo hi:Option Arg)
 |slcL (sz:Nat) (x:Arg) (lo hi mx:Option Arg)
 |slcA (len sz:Nat) (x:Arg) (lo hi mx:Option Arg)
 |faddr (off:Nat) (x:Arg)
 |fld (off n:Nat) (ag:Bool) (x:Arg)
 |iaddrL (sz:Nat) (x i:Arg)
 |iaddrA (len sz:Nat) (x i:Arg)
 |idxA (len sz:Nat) (ag:Bool) (x i:Arg)
 |idxS (x i:Arg)
 |ext (x:Arg) (i:Nat)
 |len (str:Bool) (x:Arg)
 |lenC (n:Nat)
 |cap (x:Arg)
 |app (z:List SV) (bytes:Nat) (x y:Arg)
 |appM (z:List SV) (bytes:Nat) (x k:Arg)
 |appO (z:List SV) (bytes:Nat) (x y:Arg)
 |eqS (ne:Bool) (ts:List Nat) (x y:Arg)
 |isnil (ne:Bool) (x:Arg)
 |isni (ne:Bool) (x:Arg)
 |slid (x:Arg)
 |newB (xs:List Arg)
 |ovl (x y:Arg)
 |cpy (sz:Nat) (x y:Arg)
 |clr (z:List SV) (x:Arg)
 |mini (x y:Arg)
 |maxi (x y:Arg)
 |call (f:Arg) (args:List Arg)
structure SI where
 dst:Option Nat
 g:Option (Nat×Bool)
 op:SOp
abbrev LAf:=List SI
inductive fY where
 |skip
 |ops (l:List SI)
 |drw (b ds:List Nat) (l:List SI)
 |seq (a b:fY)
 |cond (c:Arg) (a b:fY)
 |block (id:Nat) (b:fY)
 |loop (b:fY)
 |exit (id:Nat)
 |ret
 |bad
def St.get(s:St)(n:Nat):SV:=s.tm.getD n .undef
def St.ev(s:St):Arg->SV
 | .t n=>s.get n
 | .c v=>v
 | .f g=> .fn g [] []
def St.put(s:St)(d:LAc)(v:SV):St:=
 match d with
 |some d=> {s with tm:=s.tm.set d v}
 |none=>s
def St.look(s:St)(o:Nat):Option aC:=s.ob.lookup o
def Tok.purge(lo hi:Nat):Tok->Tok
 | .id t=>if lo<=t/\t<hi then .no else .id t
 |t=>t
mutual
def SV.purge(lo hi:Nat):SV->SV
 | .byt l t=> .byt l (t.purge lo hi)
 | .lst h y t=> .lst h y (t.purge lo hi)
 | .ptr o off=>if lo<=o/\o<hi then .undef else .ptr o off
 | .ap o h i j=>if lo<=o/\o<hi then .undef else .ap o h i j
 | .psl o h off n cap=>if lo<=o/\o<hi then .undef else .psl o h off n cap
 | .agg cs=> .agg (SV.purgeL lo hi cs)
 | .tup cs=> .tup (SV.purgeL lo hi cs)
 | .fn f a b=> .fn f (SV.purgeL lo hi a) (SV.purgeL lo hi b)
 |v=>v
def SV.purgeL(lo hi:Nat):LAa->LAa
 |[]=> []
 |v::r=>v.purge lo hi::SV.purgeL lo hi r
end
def aC.purge(lo hi:Nat):aC->aC
 | .rc cs=> .rc (SV.purgeL lo hi cs)
 | .arr y h=> .arr y h
 | .bar l=> .bar l
def bz(lo hi:Nat):List (Nat×aC)->List (Nat×aC)
 |[]=> []
 |p::r=>if lo<=p.1/\p.1<hi then bz lo hi r else(p.1,p.2.purge lo hi)::bz lo hi r
def cy(lo hi:Nat):LAb->LAb
 |[]=> []
 |t::r=>if lo<=t/\t<hi then cy lo hi r else t::cy lo hi r
def St.purge(s:St)(lo hi:Nat):St:= {tm:=SV.purgeL lo hi s.tm,ob:=bz lo hi s.ob,tk:=cy lo hi s.tk}
def St.addO(s:St)(d:Nat)(o:aC):St:= {s with ob:=(d,o)::s.ob}
def setO(d:Nat)(o:aC):List (Nat×aC)->List (Nat×aC)
 |[]=> []
 |p::r=>if p.1=d then(d,o)::r else p::setO d o r
def St.setO(s:St)(d:Nat)(o:aC):St:= {s with ob:=Sy.setO d o s.ob}
def SV.data:SV->SV
 | .byt l _=> .byt l .no
 | .lst y h _=> .lst y h .no
 |v=>v
def SV.isData:SV->Bool
 | .bool _| .int _ _| .u8 _| .str _| .byt _ _| .lst _ _ _| .nilp| .nili| .pp _=>true
 |_=>false
def SV.cells:SV->LAa
 | .agg cs=>cs
 | .undef=> []
 |v=> [v]
def SV.isDef:SV->Bool
 | .undef=>false
 |_=>true
def PP(op:BinOp)(a b:Int):Option SV:=
 match op with
 | .eql=>some (.bool (decide (a=b)))
 | .neq=>some (.bool (decide (a≠b)))
 | .lss=>some (.bool (decide (a<b)))
 | .leq=>some (.bool (decide (a<=b)))
 | .gtr=>some (.bool (decide (b<a)))
 | .geq=>some (.bool (decide (b<=a)))
 |_=>none
def bt(op:BinOp)(k:IntKind)(x y:Int):Int:=
 let a:=BitVec.ofInt k.bits x
 let b:=BitVec.ofInt k.bits y
 k.wrap (match op with| .and=>a&&&b| .or=>a|||b| .xor=>a^^^b|_=>a&&& ~~~b:BitVec k.bits).toNat
def Sb(op:BinOp)(k:IntKind)(a b:Int):Option (Prop×SV):=
 match op with
 | .add=>some (True,.int k (k.wrap (a+b)))
 | .sub=>some (True,.int k (k.wrap (a-b)))
 | .mul=>some (True,.int k (k.wrap (a*b)))
 | .quo=>some (b≠0,.int k (k.wrap (a.tdiv b)))
 | .rem=>some (b≠0,.int k (a.tmod b))
 | .and=>some (True,.int k (bt .and k a b))
 | .or=>some (True,.int k (bt .or k a b))
 | .xor=>some (True,.int k (bt .xor k a b))
 | .andNot=>some (True,.int k (bt .andNot k a b))
 | .shl| .shr=>none
 |op=>(PP op a b).map fun v=>(True,v)
def D3(op:BinOp)(a b:UInt8):Option (Prop×SV):=
 match op with
 | .add=>some (True,.u8 (a+b))
 | .sub=>some (True,.u8 (a-b))
 | .mul=>some (True,.u8 (a*b))
 | .quo=>some (b≠0,.u8 (a/b))
 | .rem=>some (b≠0,.u8 (a % b))
 | .and=>some (True,.u8 (a&&&b))
 | .or=>some (True,.u8 (a|||b))
 | .xor=>some (True,.u8 (a^^^b))
 | .andNot=>some (True,.u8 (a&&& ~~~b))
 | .eql=>some (True,.bool (decide (a=b)))
 | .neq=>some (True,.bool (decide (a≠b)))
 | .lss=>some (True,.bool (decide (a<b)))
 | .leq=>some (True,.bool (decide (a<=b)))
 | .gtr=>some (True,.bool (decide (b<a)))
 | .geq=>some (True,.bool (decide (b<=a)))
 |_=>none
def tT(op:BinOp)(k:IntKind)(a b:Int):Option (Prop×SV):=
 match op with
 | .shl=>some (0<=b,.int k (k.wrap (a*2^(min b.toNat k.bits))))
 | .shr=>some (0<=b,.int k (a.fdiv (2^(min b.toNat k.bits))))
 |_=>none
def Tn(op:BinOp)(a:UInt8)(b:Int):Option (Prop×SV):=
 match op with
 | .shl=>some (0<=b,.u8 (gy (a.toNat*2^(min b.toNat 8))))
 | .shr=>some (0<=b,.u8 (gy (a.toNat/2^(min b.toNat 8))))
 |_=>none
def Tp(op:BinOp)(a b:t7):Option (Prop×SV):=
 match op with
 | .add=>some (a.length+b.length<=9223372036854775807,.str (a++b))
 | .eql=>some (True,.bool (decide (a=b)))
 | .neq=>some (True,.bool (decide (a≠b)))
 | .lss=>some (True,.bool (bF a b))
 | .leq=>some (True,.bool (bF a b||decide (a=b)))
 | .gtr=>some (True,.bool (!(bF a b||decide (a=b))))
 | .geq=>some (True,.bool (!bF a b))
 |_=>none
def xc(op:BinOp):SV->SV->Option (Prop×SV)
 | .int k a,.int k' b=>
  match op with
  | .shl=>tT .shl k a b
  | .shr=>tT .shr k a b
  |op=>if k=k' then Sb op k a b else none
 | .u8 a,.int _ b=>Tn op a b
 | .u8 a,.u8 b=>D3 op a b
 | .str a,.str b=>Tp op a b
 |_,_=>none
def vK(op:UnOp):SV->Option SV
 | .bool b=>match op with| .not=>some (.bool (!b))|_=>none
 | .int k n=>match op with
  | .neg=>some (.int k (k.wrap (0-n)))
  | .xor=>some (.int k (bt .xor k (if k.signed then-1 else k.max) n))
  |_=>none
 |_=>none
def gZ(k:IntKind):SV->Option SV
 | .int _ n=>match k with| .u8=>some (.u8 (ct n))|k=>some (.int k (k.wrap n))
 | .u8 b=>match k with| .u8=>some (.u8 b)| .i8=>none|k=>some (.int k b.toNat)
 |_=>none
def jN(b:Bool):SV->LAc
 | .str l=>if b then some l.length else none
 | .byt l _=>if b then none else some l.length
 | .lst _ h _=>if b then none else some h.length
 | .psl _ _ _ n _=>if b then none else some n
 |_=>none
def dt(h:Bool)(n:Nat)(cs:LAa):SV:=if h then .agg (cs.take n)else cs.getD 0 .undef
def iC(s:St)(n:Nat)(y:Bool):SV->Option (Prop×SV)
 | .pp cs=>some (n<=cs.length,dt y n (cs.map SV.data))
 | .ptr o off=>match s.look o with
  |some (.rc cs)=>some (off+n<=cs.length,dt y n (cs.drop off))
  |some (.arr h xs)=>if off=0 then some (n<=xs.flatten.length/\(∀x∈xs,x.length=h),dt y n (xs.flatten.map SV.data))else none
  |some (.bar l)=>if off=0 then some (n<=l.length,dt y n (l.map .u8))else none
  |none=>none
 | .ap o h i j=>match s.look o with
  |some (.arr sz' xs)=>some (h=sz'/\i<xs.length/\j+n<=h/\(xs.getD i []).length=h,dt y n (((xs.getD i []).drop j).map SV.data))
  |some (.bar l)=>some (h=1/\j=0/\n=1/\i<l.length,dt y n [.u8 (l.getD i 0)])
  |_=>none
 |_=>none
def SV.num:SV->Option Int
 | .int _ n=>some n
 | .u8 b=>some b.toNat
 |_=>none
def iB(s:St)(x:Option Arg)(h:Int):Option Int:=
 match x with
 |none=>some h
 |some a=>(s.ev a).num
def lJ(t:Tok)(h clip:Bool):Tok:=if clip then .clip else if h then t else .no
def jl(s:St)(z:Nat)(x:SV)(lo hi y:Option Arg):Option (Prop×SV):=
 match x with
 | .byt l t=>
  match iB s lo 0,iB s hi l.length,iB s y l.length with
  |some a,some b,some c=>some (0<=a/\a<=b/\b<=c/\c<=l.length/\z=1/\(y.isSome=true->b=c),.byt ((l.take b.toNat).drop a.toNat) (lJ t hi.isNone y.isSome))
  |_,_,_=>none
 | .lst h l t=>
  match iB s lo 0,iB s hi l.length,iB s y l.length with
  |some a,some b,some c=>some (0<=a/\a<=b/\b<=c/\c<=l.length/\z=h/\(y.isSome=true->b=c),.lst z ((l.take b.toNat).drop a.toNat) (lJ t hi.isNone y.isSome))
  |_,_,_=>none
 | .psl o h off n none=>
  match iB s lo 0,iB s hi n,y with
  |some a,some b,none=>some (0<=a/\a<=b/\b<=n/\z=h,.psl o z (off+a.toNat) (b.toNat-a.toNat) none)
  |_,_,_=>none
 | .psl o h off n (some cap)=>
  match iB s lo 0,iB s hi n,iB s y cap with
  |some a,some b,some c=>some (0<=a/\a<=b/\b<=c/\c<=cap/\z=h,.psl o z (off+a.toNat) (b.toNat-a.toNat) (some (c.toNat-a.toNat)))
  |_,_,_=>none
 |_=>none
def iF(cs:LAa):List (Nat×Nat×SV)->Option LAa
 |[]=>some cs
 |(off,n,v)::r=>if v.isDef=true/\v.cells.length=n/\off+n<=cs.length then iF (cs.take off++v.cells++cs.drop (off+n)) r else none
def toB:LAa->Option t7
 |[]=>some []
 | .u8 b::r=>(toB r).map (b:: ·)
 |_::_=>none
def rows(h:Nat):LAa->Option f8
 |[]=>some []
 |v::r=>if v.isDef=true/\v.cells.length=h/\v.cells.all SV.isData=true then(rows h r).map (v.cells.map SV.data:: ·)else none
def xd(s:St):SV->Option (Prop×SV)
 | .byt l _=>some (True,.str l)
 | .psl o h off n _=>match s.look o with
  |some (.bar l)=>some (h=1/\off+n<=l.length,.str ((l.drop off).take n))
  |_=>none
 |_=>none
def tV:Nat->SV->SV->Option Bool
 |0,.bool a,.bool b=>some (decide (a=b))
 |1,.int k a,.int k' b=>if k=k' then some (decide (a=b))else none
 |1,.u8 a,.u8 b=>some (decide (a=b))
 |2,.str a,.str b=>some (decide (a=b))
 |_,_,_=>none
def gH:LAb->LAa->LAa->Option Bool
 |[],[],[]=>some true
 |t::ts,a::r,b::s=>match tV t a b,gH ts r s with
  |some p,some q=>some (p&&q)
  |_,_=>none
 |_,_,_=>none
def val(s:St):SOp->Option (Prop×SV)
 | .mov x=>some (True,s.ev x)
 | .build z J=>(iF z (J.map fun(o,n,x)=>(o,n,s.ev x))).map fun cs=>(True,.agg cs)
 | .lit h E=>(rows h (E.map s.ev)).map fun r=>(True,.lst h r .clip)
 | .litB E=>(toB (E.map s.ev)).map fun r=>(True,.byt r .clip)
 | .load n F a=>iC s n F (s.ev a)
 | .nchk x=>match s.ev x with
  | .ptr o off=>some (True,.ptr o off)
  | .ap o h i j=>some (True,.ap o h i j)
  | .pp cs=>some (True,.pp cs)
  | .fn f a b=>some (True,.fn f a b)
  |_=>none
 | .bin op x y=>xc op (s.ev x) (s.ev y)
 | .beq H x y=>match s.ev x,s.ev y with
  | .bool a,.bool b=>some (True,.bool (if H then decide (a≠b)else decide (a=b)))
  |_,_=>none
 | .eqS H L x y=>match s.ev x,s.ev y with
  | .agg cs,.agg ds=>(gH L cs ds).map fun b=>(True,.bool (if H then !b else b))
  |_,_=>none
 | .un op x=>(vK op (s.ev x)).map (True,·)
 | .toInt k x=>(gZ k (s.ev x)).map (True,·)
 | .toStr x=>match s.ev x with| .str l=>some (True,.str l)|_=>none
 | .slid _=>none
 | .newB _=>none
 | .isni H x=>match s.ev x with| .nili=>some (True,.bool (!H))|_=>none
 | .s2b x=>match s.ev x with| .str l=>some (True,.byt l .no)|_=>none
 | .b2s x=>xd s (s.ev x)
 | .mkfn f a b=>some (True,.fn f (a.map s.ev) (b.map s.ev))
 | .slcS x lo hi=>match s.ev x with
  | .str l=>match iB s lo 0,iB s hi l.length with
   |some a,some b=>some (0<=a/\a<=b/\b<=l.length,.str ((l.take b.toNat).drop a.toNat))
   |_,_=>none
  |_=>none
 | .slcL h x lo hi I=>jl s h (s.ev x) lo hi I
 | .slcA len h x lo hi I=>match s.ev x with
  | .ptr o 0=>jl s h (.psl o h 0 len (some len)) lo hi I
  |_=>none
 | .faddr off x=>match s.ev x with
  | .ptr o k=>some (True,.ptr o (k+off))
  | .ap o h i j=>some (True,.ap o h i (j+off))
  | .pp cs=>some (True,.pp (cs.drop off))
  |_=>none
 | .fld off n F x=>match s.ev x with
  | .agg cs=>some (off+n<=cs.length,dt F n (cs.drop off))
  |_=>none
 | .iaddrL h x i=>match s.ev x,(s.ev i).num with
  | .byt l _,some n=>some (0<=n/\n<l.length/\h=1,.pp [.u8 (l.getD n.toNat 0)])
  | .lst sz' E _,some n=>some (0<=n/\n<E.length/\h=sz',.pp (E.getD n.toNat []))
  | .psl o sz' off k _,some n=>some (0<=n/\n<k/\h=sz',.ap o h (off+n.toNat) 0)
  |_,_=>none
 | .iaddrA len h x i=>match s.ev x,(s.ev i).num with
  | .ptr o off,some n=>match s.look o with
   |some (.rc _)=>some (0<=n/\n<len,.ptr o (off+n.toNat*h))
   |some _=>if off=0 then some (0<=n/\n<len,.ap o h n.toNat 0)else none
   |none=>none
  | .pp cs,some n=>some (0<=n/\n<len/\cs.length=len*h,.pp (cs.drop (n.toNat*h)))
  |_,_=>none
 | .idxA len h F x i=>match s.ev x,(s.ev i).num with
  | .agg cs,some n=>some (0<=n/\n<len/\cs.length=len*h,dt F h (cs.drop (n.toNat*h)))
  |_,_=>none
 | .idxS x i=>match s.ev x,(s.ev i).num with
  | .str l,some n=>some (0<=n/\n<l.length,.u8 (l.getD n.toNat 0))
  |_,_=>none
 | .ext x i=>match s.ev x with
  | .tup vs=>some (i<vs.length,vs.getD i .undef)
  |_=>none
 | .len b x=>match jN b (s.ev x)with
  |some n=>some (True,.int .i64 (n:Nat))
  |none=>none
 | .lenC n=>some (True,.int .i64 n)
 | .cap x=>match s.ev x with
  | .psl _ _ _ _ (some c)=>some (True,.int .i64 c)
  | .byt l .clip=>some (True,.int .i64 l.length)
  | .lst _ E .clip=>some (True,.int .i64 E.length)
  |_=>none
 | .mini x y=>match s.ev x,s.ev y with
  | .int k a,.int k' b=>if k=k' then some (True,.int k (if b<a then b else a))else none
  |_,_=>none
 | .maxi x y=>match s.ev x,s.ev y with
  | .int k a,.int k' b=>if k=k' then some (True,.int k (if a<b then b else a))else none
  |_,_=>none
 |_=>none
end Go.Sy
namespace Go.Sy
variable [aX]
def Tok.ren(m:Nat->Nat):Tok->Tok
 | .id t=> .id (m t)
 |t=>t
mutual
def SV.ren(m mt:Nat->Nat):SV->SV
 | .byt l t=> .byt l (t.ren mt)
 | .lst h y t=> .lst h y (t.ren mt)
 | .ptr o off=> .ptr (m o) off
 | .ap o h i j=> .ap (m o) h i j
 | .psl o h off n cap=> .psl (m o) h off n cap
 | .agg cs=> .agg (SV.renL m mt cs)
 | .tup cs=> .tup (SV.renL m mt cs)
 | .fn f a b=> .fn f (SV.renL m mt a) (SV.renL m mt b)
 |v=>v
def SV.renL(m mt:Nat->Nat):LAa->LAa
 |[]=> []
 |v::r=>v.ren m mt::SV.renL m mt r
end
def aC.ren(m mt:Nat->Nat):aC->aC
 | .rc cs=> .rc (SV.renL m mt cs)
 |o=>o
mutual
def SV.toks:SV->LAb
 | .byt _ t=>match t with| .id t=> [t]|_=> []
 | .lst _ _ t=>match t with| .id t=> [t]|_=> []
 | .agg cs=>SV.toksL cs
 | .tup cs=>SV.toksL cs
 | .fn _ a b=>SV.toksL a++SV.toksL b
 |_=> []
def SV.toksL:LAa->LAb
 |[]=> []
 |v::r=>v.toks++SV.toksL r
end
mutual
def SV.ids:SV->LAb
 | .ptr o _=> [o]
 | .ap o _ _ _=> [o]
 | .psl o _ _ _ _=> [o]
 | .agg cs=>SV.idsL cs
 | .tup cs=>SV.idsL cs
 | .fn _ a b=>SV.idsL a++SV.idsL b
 |_=> []
def SV.idsL:LAa->LAb
 |[]=> []
 |v::r=>v.ids++SV.idsL r
end
def aC.ids:aC->LAb
 | .rc cs=>SV.idsL cs
 |_=> []
def aC.toks:aC->LAb
 | .rc cs=>SV.toksL cs
 |_=> []
def idx(os:List aC):List (Nat×aC):=os.zipIdx.map fun p=>(p.2,p.1)
def ej(P:Program)(f:Nat):Bool:=
 match P.funcs[f]? with
 |some fn=>fn.body.isSome&& !(fn.name== "runtime.NumGoroutine")
 |none=>false
def xoH(P:Program)(f:Nat)(args:LAa)(os:List aC)(R:SV->List (Nat×aC)->Prop):Prop:=
 ej P f=true/\∀(C:Ctx)(x:Sit)(w:World)(vs:LAd),C.w0=w->C.G0=x.G->
  (∀b,C.mine b->w.heap.size<=b\/∃i,i<os.length/\(x.bk i).1=b)->os.length<=100->
  cY C x (idx os) [] w->cD x args vs->
  Calls P f ⟨vs⟩ w fun e w'=>∃v x' r h,e= .returned v/\R r h/\Rep x' r v/\cY C x' h r.toks w'/\∀i,i<os.length->x'.bk i=x.bk i
def Fn(P:Program)(f:Nat)(args:LAa)(r:SV):Prop:=xoH P f args [] fun y h=>y=r/\h=[]
def iH(d:Nat)(m:LAb)(o:Nat):Nat:=if o<m.length then m.getD o 0 else(d+1)*1000+o
def kj(d:Nat)(t:Nat):Nat:=(d+1)*1000+t
def inR(d:Nat)(o:Nat):Bool:=decide ((d+1)*1000<=o)&&decide (o<(d+2)*1000)
def eY(m:LAb):List (Nat×aC)->List (Nat×aC)
 |[]=> []
 |p::r=>if p.1∈m then eY m r else p::eY m r
def ox(d:Nat)(m:LAb):List (Nat×aC)->List (Nat×aC)
 |[]=> []
 |p::r=>(iH d m p.1,p.2.ren (iH d m) (kj d))::ox d m r
def St.after(s:St)(d:LAc)(m:LAb)(r:SV)(os:List (Nat×aC)):St:=
 St.put {
  tm:=SV.purgeL ((d.getD 0+1)*1000) ((d.getD 0+2)*1000) s.tm
  ob:=ox (d.getD 0) m os++eY m (bz ((d.getD 0+1)*1000) ((d.getD 0+2)*1000) s.ob)
  tk:=r.toks.map (kj (d.getD 0))++cy ((d.getD 0+1)*1000) ((d.getD 0+2)*1000) s.tk}
  d (r.ren (iH (d.getD 0) m) (kj (d.getD 0)))
structure Eff where
 pre:Prop
 val:SV
 wr:List (Nat×aC):=[]
 new:Option aC:=none
 eat:Tok:= .no
 tok:Bool:=false
def iz(y:Nat)(h:f8)(i j n:Nat)(v:LAa):f8:=
 if j=0/\n=y then h.set i v else h.set i (((h.getD i []).take j)++v++((h.getD i []).drop (j+n)))
def gA(cs:LAa)(off:Nat)(v:LAa):LAa:=
 match v with
 |[u]=>cs.set off u
 |v=>cs.take off++v++cs.drop (off+v.length)
def SV.one:SV->Bool
 | .undef| .agg _| .tup _=>false
 |_=>true
def jw(h:Nat):Nat->LAa->f8
 |0,_=> []
 |m+1,v=>v.take h::jw h m (v.drop h)
def qa(s:St)(n:Nat)(v:LAa):SV->Option Eff
 | .ptr o off=>match s.look o with
  |some (.rc cs)=>some {pre:=off+n<=cs.length/\v.length=n/\v.all SV.one=true,val:= .undef,wr:=[(o,.rc (gA cs off v))]}
  |some (.arr h xs)=>some {pre:=off=0/\n=xs.length*h/\v.length=n/\v.all SV.isData=true,val:= .undef,wr:=[(o,.arr h (jw h xs.length (v.map SV.data)))]}
  |some (.bar l)=>match toB v with
   |some y=>some {pre:=off=0/\n=l.length/\y.length=n,val:= .undef,wr:=[(o,.bar y)]}
   |none=>none
  |_=>none
 | .ap o h i j=>match s.look o with
  |some (.arr sz' xs)=>some {pre:=h=sz'/\i<xs.length/\j+n<=h/\v.length=n/\(∀x∈xs,x.length=h)/\v.all SV.isData=true,val:= .undef,wr:=[(o,.arr sz' (iz h xs i j n (v.map SV.data)))]}
  |some (.bar l)=>match v with
   |[.u8 b]=>some {pre:=h=1/\j=0/\n=1/\i<l.length,val:= .undef,wr:=[(o,.bar (l.set i b))]}
   |_=>none
  |_=>none
 |_=>none
def Tok.ready(s:St):Tok->Bool
 | .no=>false
 | .clip=>true
 | .id t=>s.tk.contains t
def Tok.eat(t:Tok)(tk:LAb):LAb:=
 match t with
 | .id t=>cy t (t+1) tk
 |_=>tk
def bytesOf(s:St):SV->Option (Prop×t7)
 | .byt l _=>some (True,l)
 | .str l=>some (True,l)
 | .psl o h off n _=>match s.look o with
  |some (.bar l)=>some (h=1/\off+n<=l.length,(l.drop off).take n)
  |_=>none
 |_=>none
def jJ(s:St)(z:Nat):SV->Option (Prop×f8)
 | .lst h y _=>some (z=h,y)
 | .psl o h off n _=>match s.look o with
  |some (.arr sz'' y)=>some (z=h/\z=sz''/\off+n<=y.length/\(∀x∈y,x.length=z),((y.drop off).take n))
  |_=>none
 |_=>none
def eff(s:St)(d:LAc):SOp->Option Eff
 | .new o=>match d with
  |some d=>some {pre:=True,val:= .ptr (d+100) 0,new:=some o}
  |none=>none
 | .box x=>match d with
  |some d=>some {pre:=True,val:= .ptr (d+100) 0,new:=some (.rc (s.ev x).cells)}
  |none=>none
 | .mk z bytes n c=>match d,s.ev n,s.ev c with
  |some d,.int _ n,.int _ c=>some {pre:=0<=n/\n<=c/\bytes*c<=140737488355328/\c<=9223372036854775807,val:= .psl (d+100) z.length 0 n.toNat (some c.toNat),new:=some (.arr z.length (ao c.toNat z))}
  |_,_,_=>none
 | .mkB n c=>match d,s.ev n,s.ev c with
  |some d,.int _ n,.int _ c=>some {pre:=0<=n/\n<=c/\c<=140737488355328,val:= .psl (d+100) 1 0 n.toNat (some c.toNat),new:=some (.bar (ao c.toNat 0))}
  |_,_,_=>none
 | .store n a x=>match (s.ev x).isDef with
  |true=>qa s n (s.ev x).cells (s.ev a)
  |false=>none
 | .app z bytes x y=>match d with
  |some d=>match s.ev x with
   | .byt l t=>match bytesOf s (s.ev y)with
    |some (p,l')=>some {pre:=p/\z.length=1/\bytes=1/\t.ready s=true/\l.length+l'.length<=140737488355328,val:= .byt (l++l') (.id (d+100)),eat:=t,tok:=true}
    |none=>none
   | .lst h l t=>match jJ s z.length (s.ev y)with
    |some (p,l')=>some {pre:=p/\z.length=h/\t.ready s=true/\(l.length+l'.length)*bytes<=140737488355328,val:= .lst z.length (l++l') (.id (d+100)),eat:=t,tok:=true}
    |none=>none
   |_=>none
  |none=>none
 | .cpy E x y=>match s.ev x with
  | .psl o h off n _=>match s.look o with
   |some (.bar l)=>match bytesOf s (s.ev y)with
    |some (p,l')=>some {pre:=p/\E=1/\h=1/\off+n<=l.length,val:= .int .i64 (min l'.length n:Nat),wr:=[(o,.bar (l.take off++l'.take n++l.drop (off+(l'.take n).length)))]}
    |none=>none
   |some (.arr sz'' xs)=>match jJ s E (s.ev y)with
    |some (p,l')=>some {pre:=p/\E=h/\E=sz''/\off+n<=xs.length/\(∀x∈xs,x.length=E),val:= .int .i64 (min l'.length n:Nat),wr:=[(o,.arr E (xs.take off++l'.take n++xs.drop (off+(l'.take n).length)))]}
    |none=>none
   |_=>none
  |_=>none
 | .pick _ _ _=>none
 | .call _ _=>none
 | .appM _ _ _ _=>none
 | .appO _ _ _ _=>none
 | .clr z x=>match s.ev x with
  | .psl o h off n _=>match s.look o with
   |some (.arr sz'' xs)=>some {pre:=0<n/\z.length=h/\z.length=sz''/\off+n<=xs.length/\(∀x∈xs,x.length=z.length),val:= .tup [],wr:=[(o,.arr z.length (xs.take off++ao n z++xs.drop (off+n)))]}
   |_=>none
  |_=>none
 | .isnil _ _=>none
 |so=>match val s so with
  |some (p,v)=>some {pre:=p,val:=v}
  |none=>none
def St.wr(s:St):List (Nat×aC)->St
 |[]=>s
 |p::r=>(s.setO p.1 p.2).wr r
def St.grew(s:St)(t:Tok)(d:Nat):St:=
 {tm:=SV.purgeL d (d+1) s.tm,ob:=bz d (d+1) s.ob,tk:=d::cy d (d+1) (t.eat s.tk)}
def St.app(s:St)(d:LAc)(e:Eff):St:=
 match e.new,e.tok with
 |some o,_=>((s.purge (d.getD 0+100) (d.getD 0+100+1)).addO (d.getD 0+100) (o.purge (d.getD 0+100) (d.getD 0+100+1))).put d e.val
 |none,true=>(s.grew e.eat (d.getD 0+100)).put d e.val
 |none,false=>(s.wr e.wr).put d e.val
def Tok.ids:Tok->LAb
 | .id t=> [t]
 |_=> []
def SOp.args:SOp->List Arg
 | .mov x| .box x| .load _ _ x| .nchk x| .un _ x| .toInt _ x| .toStr x| .s2b x| .b2s x| .faddr _ x| .fld _ _ _ x| .ext x _| .len _ x| .cap x| .isnil _ x| .isni _ x| .slid x| .clr _ x=> [x]
 | .pick c a b=> [c,a,b]
 | .new _| .lenC _=> []
 | .build _ z=>z.map fun p=>p.2.2
 | .lit _ h| .litB h| .newB h=>h
 | .store _ a b| .bin _ a b| .beq _ a b| .mk _ _ a b| .mkB a b| .iaddrL _ a b| .iaddrA _ _ a b| .idxA _ _ _ a b| .idxS a b| .app _ _ a b| .appM _ _ a b| .appO _ _ a b| .eqS _ _ a b| .ovl a b| .cpy _ a b| .mini a b| .maxi a b=> [a,b]
 | .mkfn _ a b=>a++b
 | .slcS x lo hi=>x::(lo.toList++hi.toList)
 | .slcL _ x lo hi y| .slcA _ _ x lo hi y=>x::(lo.toList++hi.toList++y.toList)
 | .call f a_=>f::a_
structure xf1 where
 r:List Nat
 w:List Nat
 t:List Nat
 n:List Nat
 m:List Nat
 l:List Nat
def SV.names(v:SV):LAb:=v.ids++v.toks
def aC.names(o:aC):LAb:=o.ids++o.toks
def OH:List (Nat×aC)->LAb
 |[]=> []
 |p::r=>p.2.names++OH r
def Eff.names(e:Eff):LAb:=e.val.names++OH e.wr++(match e.new with|some o=>o.names|none=> [])
def xif(a b:LAb):Bool:=a.any b.contains
def xf1.before(a b:xf1):Bool:= !xif b.n (a.r++a.w++a.t++a.m++a.n)
end Go.Sy
namespace Go.Sy
variable [aX]
theorem cL.mono{G J:GM}(F:∀b o v,G b o=some v->J b o=some v){s:SV}{v:Value}(h:cL G s v):cL J s v:=by
 induction h with
 |bool b=>exact .bool b
 |int k n=>exact .int k n
 |u8 b=>exact .u8 b
 |str l=>exact .str l
 |nilp=>exact .nilp
 |nili=>exact .nili
 |bytN t=>exact .bytN t
 |bytE t a=>exact .bytE t a
 |byt l t b off cap n hn E h=>exact .byt l t b off cap n hn E fun i hi=>F _ _ _ (h i hi)
 |lstN z t=>exact .lstN z t
 |lstE z t a=>exact .lstE z t a
 |lst z O t b off cap n val hn E L H _ I=>exact .lst z O t b off cap n val hn E L (fun i j hi y=>F _ _ _ (H i j hi y)) fun i j hi y=>I i j hi y
 |pp cs b off val H _ I=>exact .pp cs b off val (fun j y=>F _ _ _ (H j y)) fun j y=>I j y
theorem Lay.mono{G z:GM}(h:Lay G)(y:∀b o v,G b o=some v->z b o=some v):Lay z:=fun g cs H j I=>by obtain⟨v,F,E⟩:=h g cs H j I;exact⟨v,y _ _ _ F,E.mono y⟩
theorem dm(lo hi:Nat)(cs:LAa):SV.purgeL lo hi cs=cs.map (SV.purge lo hi):=by
 induction cs with
 |nil=>simp[SV.purgeL]
 |cons c r h=>simp[SV.purgeL,h]
theorem eV(m mt:Nat->Nat)(cs:LAa):SV.renL m mt cs=cs.map (SV.ren m mt):=by
 induction cs with
 |nil=>simp[SV.renL]
 |cons c r h=>simp[SV.renL,h]
theorem aU(f:SV->SV)(h:f .undef= .undef)(cs:LAa)(i:Nat):(cs.map f).getD i .undef=f (cs.getD i .undef):=by simp only[aa,aP];cases cs[i]? <;>simp[h]
@[simp] theorem purge_undef (lo hi:Nat):SV.purge lo hi .undef= .undef:=by simp[SV.purge]
@[simp] theorem ren_undef (m mt:Nat->Nat):SV.ren m mt .undef= .undef:=by simp[SV.ren]
theorem cL.tok{G:GM}{s:SV}{v:Value}(h:cL G s v)(s':SV)
 (I:(∃l t y,s= .byt l t/\s'= .byt l y)\/(∃F E t y,s= .lst F E t/\s'= .lst F E y)):cL G s' v:=by
 rcases I with⟨l,t,y,rfl,rfl⟩|⟨F,E,t,y,rfl,rfl⟩
 ·cases h with
  |bytN=>exact .bytN _
  |bytE _ a=>exact .bytE _ a
  |byt _ _ b off cap n hn z h=>exact .byt _ _ b off cap n hn z h
 ·cases h with
  |lstN=>exact .lstN _ _
  |lstE _ _ a=>exact .lstE _ _ a
  |lst _ _ _ b off cap n val hn z H J h=>exact .lst _ _ _ b off cap n val hn z H J h
theorem dk.mono{x x':Sit}{lo hi y:Nat}{t:Tok}{v:Value}(F:∀o,¬(lo<=o/\o<hi)->x'.τ o=x.τ o)(h:dk x y t v):dk x' y (t.purge lo hi) v:=by
 cases t with
 |no=>trivial
 |clip=>exact h
 |id t=>
  simp only[Tok.purge];split
  ·trivial
  ·rename_i hn
   obtain⟨a,n,cap,E,H⟩:=h;refine⟨a,n,cap,E,H.imp id ?_⟩;rintro⟨b,off,z,I⟩;exact⟨b,off,z,by rw[F _ hn];exact I⟩
theorem Rep.mono{x x':Sit}{lo hi:Nat}(hG:∀b o v,x.G b o=some v->x'.G b o=some v)(J:∀o,¬(lo<=o/\o<hi)->x'.bk o=x.bk o)
 (hτ:∀o,¬(lo<=o/\o<hi)->x'.τ o=x.τ o) {s:SV} {v:Value} (h:Rep x s v):Rep x' (s.purge lo hi) v:=by
 induction h with
 |undef v=>simp only[purge_undef];exact .undef v
 |dat s v h ht=>
  have y:=h.mono hG;cases s with
  |byt l t=>simp only[SV.purge];exact .dat _ _ (y.tok _ (.inl ⟨l,t,_,rfl,rfl⟩)) (dk.mono hτ ht)
  |lst z xs t=>simp only[SV.purge];exact .dat _ _ (y.tok _ (.inr ⟨z,xs,t,_,rfl,rfl⟩)) (dk.mono hτ ht)
  |undef=>simp only[SV.purge];exact .undef v
  |bool b=>simp only[SV.purge];exact .dat _ _ y trivial
  |int k n=>simp only[SV.purge];exact .dat _ _ y trivial
  |u8 b=>simp only[SV.purge];exact .dat _ _ y trivial
  |str l=>simp only[SV.purge];exact .dat _ _ y trivial
  |nilp=>simp only[SV.purge];exact .dat _ _ y trivial
  |nili=>simp only[SV.purge];exact .dat _ _ y trivial
  |pp cs=>simp only[SV.purge];exact .dat _ _ y trivial
  |ptr o off=>cases h
  |ap o z i j=>cases h
  |psl o z off n cap=>cases h
  |agg cs=>cases h
  |tup cs=>cases h
  |fn f a b=>cases h
 |ptr o off=>
  simp only[SV.purge];split
  ·exact .undef _
  ·rename_i hn;rw[<-J o hn];exact .ptr o off
 |ap o z i j=>
  simp only[SV.purge];split
  ·exact .undef _
  ·rename_i hn;rw[<-J o hn];exact .ap o z i j
 |psl o z off n cap E H h Q Z F=>
  simp only[SV.purge];split
  ·exact .undef _
  ·rename_i hn;rw[<-J o hn]at F ⊢;exact .psl o z off n cap E H h Q Z F
 |agg cs vs L _ T=>simp only[SV.purge,dm];exact .agg _ _ (by simpa using L) fun i hi=>by rw[aU _ (by simp)];exact T i (by simpa using hi)
 |tup cs vs L _ T=>simp only[SV.purge,dm];exact .tup _ _ (by simpa using L) fun i hi=>by rw[aU _ (by simp)];exact T i (by simpa using hi)
 |fn f c1 c2 v1 v2 I _ W _ O U=>
  simp only[SV.purge,dm]
  exact .fn _ _ _ _ _ (by simpa using I) (fun i hi=>by rw[aU _ (by simp)];exact O i (by simpa using hi))
   (by simpa using W) fun i hi=>by rw[aU _ (by simp)];exact U i (by simpa using hi)
theorem Cg(s:SV):s.purge 0 0=s:=by
 have h:∀t:Tok,t.purge 0 0=t:=fun t=>by cases t<;>simp[Tok.purge]
 refine SV.rec (motive_1:=fun s=>s.purge 0 0=s) (motive_2:=fun _=>True) (motive_3:=fun l=>SV.purgeL 0 0 l=l) ?_ ?_ ?_ ?_ ?_ ?_ ?_ ?_ ?_ ?_ ?_ ?_ ?_ ?_ ?_ ?_ ?_ ?_ ?_ ?_ s<;>
  intros<;>simp_all [SV.purge,SV.purgeL]
theorem FG(l:LAa):SV.purgeL 0 0 l=l:=by
 rw[dm];induction l with
 |nil=>rfl
 |cons c r h=>simp[Cg,h]
theorem FF(l:List (Nat×aC)):bz 0 0 l=l:=by
 induction l with
 |nil=>rfl
 |cons q r h=>simp only[bz];rw[if_neg (by omega),h];obtain⟨n,o⟩:=q;cases o<;>simp[aC.purge,FG]
theorem Rep.grow{x x':Sit}(y:∀b o v,x.G b o=some v->x'.G b o=some v)(F:x'.bk=x.bk)(E:x'.τ=x.τ){s:SV}{v:Value}(h:Rep x s v):Rep x' s v:=by have z:=h.mono (x':=x') (lo:=0) (hi:=0) y (fun o _=>by rw[F]) (fun o _=>by rw[E]);rwa[Cg]at z
theorem cD.mono{x x':Sit}{lo hi:Nat}(y:∀b o v,x.G b o=some v->x'.G b o=some v)(E:∀o,¬(lo<=o/\o<hi)->x'.bk o=x.bk o)
 (z:∀o,¬(lo<=o/\o<hi)->x'.τ o=x.τ o) {cs:LAa} {vs:LAd} (h:cD x cs vs):cD x' (SV.purgeL lo hi cs) vs:=by
 refine⟨by rw[dm];simpa using h.1,fun i hi=> ?_⟩;rw[dm,aU _ (by simp)];exact(h.2 i (by rw[dm]at hi;simpa using hi)).mono y E z
theorem cD.grow{x x':Sit}(y:∀b o v,x.G b o=some v->x'.G b o=some v)(E:x'.bk=x.bk)(z:x'.τ=x.τ){cs:LAa}{vs:LAd}(h:cD x cs vs):cD x' cs vs:=
 ⟨h.1,fun i hi=>(h.2 i hi).grow y E z⟩
theorem Rep.data{x:Sit}{s:SV}{v:Value}(h:Rep x s v)(y:s.isData=true):cL x.G s v:=by
 cases h with
 |dat _ _ h _=>exact h
 |_=>simp[SV.isData]at y
theorem cL.rep{x:Sit}{s:SV}{v:Value}(h:cL x.G s v):Rep x s.data v:=by
 cases h with
 |byt l t b off cap n hn y h=>exact .dat _ _ (.byt l _ b off cap n hn y h) trivial
 |bytN t=>exact .dat _ _ (.bytN _) trivial
 |bytE t a=>exact .dat _ _ (.bytE _ a) trivial
 |lstN E t=>exact .dat _ _ (.lstN _ _) trivial
 |lstE E t a=>exact .dat _ _ (.lstE _ _ a) trivial
 |lst E H t b off cap n val hn y F z h=>exact .dat _ _ (.lst _ _ _ b off cap n val hn y F z h) trivial
 |bool b=>exact .dat _ _ (.bool b) trivial
 |int k n=>exact .dat _ _ (.int k n) trivial
 |u8 b=>exact .dat _ _ (.u8 b) trivial
 |str l=>exact .dat _ _ (.str l) trivial
 |nilp=>exact .dat _ _ .nilp trivial
 |nili=>exact .dat _ _ .nili trivial
 |pp cs b off val z h=>exact .dat _ _ (.pp cs b off val z h) trivial
theorem cL.toData{G:GM}{s:SV}{v:Value}(h:cL G s v):cL G s.data v:=by
 cases h with
 |byt l t b off cap n hn y h=>exact .byt l _ b off cap n hn y h
 |bytN t=>exact .bytN _
 |bytE t a=>exact .bytE _ a
 |lstN E t=>exact .lstN _ _
 |lstE E t a=>exact .lstE _ _ a
 |lst E H t b off cap n val hn y F z h=>exact .lst _ _ _ b off cap n val hn y F z h
 |bool b=>exact .bool b
 |int k n=>exact .int k n
 |u8 b=>exact .u8 b
 |str l=>exact .str l
 |nilp=>exact .nilp
 |nili=>exact .nili
 |pp cs b off val z h=>exact .pp cs b off val z h
theorem cw{lo hi:Nat}{ob:List (Nat×aC)}{p:Nat×aC}(h:p∈bz lo hi ob):
 ¬(lo<=p.1/\p.1<hi)/\∃o,(p.1,o)∈ob/\p.2=o.purge lo hi:=by
 induction ob with
 |nil=>simp[bz]at h
 |cons q r F=>
  simp only[bz]at h;split at h
  ·obtain⟨z,o,y,E⟩:=F h;exact⟨z,o,am _ y,E⟩
  ·rename_i H
   rcases al.1 h with rfl|h
   ·exact⟨H,q.2,ax ..,rfl⟩
   ·obtain⟨z,o,y,E⟩:=F h;exact⟨z,o,am _ y,E⟩
theorem eC{lo hi:Nat}(ob:List (Nat×aC)):(bz lo hi ob).map cM=(ob.map cM).filter fun o=>decide (¬(lo<=o/\o<hi)):=by
 induction ob with
 |nil=>simp[bz]
 |cons q r y=>
  simp only[bz,aE,kS];split<;>rename_i h
  ·rw[y,if_neg (by simp;omega)]
  ·rw[if_pos (by simp;omega),aE,y]
theorem bC{lo hi t:Nat}{tk:LAb}:t∈cy lo hi tk↔t∈tk/\¬(lo<=t/\t<hi):=by
 induction tk with
 |nil=>simp[cy]
 |cons u r h=>
  simp only[cy];split<;>rename_i hu
  ·rw[h,al];constructor
   ·rintro⟨a,b⟩;exact⟨.inr a,b⟩
   ·rintro⟨a|a,b⟩
    ·subst a;exact absurd hu b
    ·exact⟨a,b⟩
  ·rw[al,h,al];constructor
   ·rintro(rfl|⟨a,b⟩)
    ·exact⟨.inl rfl,hu⟩
    ·exact⟨.inr a,b⟩
   ·rintro⟨a|a,b⟩
    ·exact .inl a
    ·exact .inr ⟨a,b⟩
end Go.Sy
namespace Go.Sy
variable [aX]
theorem wI{w:World}{b:Nat}{o:Obj}(h:w.heap[b]? =some o):b<w.heap.size:=by
 rcases bO b w.heap.size with y|y
 ·exact y
 ·simp[Array.getElem?_eq_none y]at h
theorem du{w:World}{o:Obj}{b:Nat}(h:b<w.heap.size):(w.alloc o).heap[b]? =w.heap[b]? :=by show(w.heap.push o)[b]? =_;rw[Array.getElem?_push,if_neg (by omega)]
theorem dz{w:World}{o:Obj}:(w.alloc o).heap[w.heap.size]? =some o:=by show(w.heap.push o)[w.heap.size]? =_;rw[Array.getElem?_push,if_pos rfl]
theorem eS.lt{w:World}{b:Nat}{c:LAe}{e:TypeId}{fl fh:Nat}(h:eS w b c e fl fh):b<w.heap.size:=wI h.1
theorem eS.of_heap{w w':World}{b:Nat}{c:LAe}{e:TypeId}{fl fh:Nat}(h:eS w b c e fl fh)(y:w'.heap[b]? =w.heap[b]?):eS w' b c e fl fh:=⟨y.trans h.1,h.2⟩
theorem dh{w w':World}{b o:Nat}(h:w'.heap[b]? =w.heap[b]?):w'.cell? ⟨b,o,none⟩=w.cell? ⟨b,o,none⟩:=by simp only[World.cell?,h]
theorem eS.cell{w:World}{b:Nat}{c:LAe}{e:TypeId}{fl fh:Nat}(h:eS w b c e fl fh)(o:Nat):w.cell? ⟨b,o,none⟩=c[o]? :=by simp[World.cell?,h.1]
theorem eS.free{w:World}{b:Nat}{c:LAe}{e:TypeId}{fl fh:Nat}(h:eS w b c e fl fh){o:Nat}(y:o<c.size):w.frozen? ⟨b,o,none⟩=false:=by simp only[World.frozen?,h.1];have:=h.2 o y;simpa using this
theorem cY.ltG{C:Ctx}{x:Sit}{ob:List (Nat×aC)}{tk:LAb}{w:World}(h:cY C x ob tk w){b o:Nat}{v:Value}(y:x.G b o=some v):b<w.heap.size:=by have:=h.per b o v y;exact World.block_lt_of_cell? (w:=w) (a:=⟨b,o,none⟩) this
theorem dO.of_heap{x x':Sit}{w w':World}{o:Nat}{obj:aC}{lo hi:Nat}(h:dO x w o obj)(O:w'.heap[(x.bk o).1]? =w.heap[(x.bk o).1]?)
 (I:∀b o v,x.G b o=some v->x'.G b o=some v) (z:∀o,¬(lo<=o/\o<hi)->x'.bk o=x.bk o) (T:∀o,¬(lo<=o/\o<hi)->x'.τ o=x.τ o)
 (J:¬(lo<=o/\o<hi)):dO x' w' o (obj.purge lo hi):=by
 obtain⟨c,e,fl,fh,L,⟨Q,F,E⟩,y⟩:=h;refine⟨c,e,fl,fh,by rw[z o J];exact L.of_heap O,⟨?_,by rw[z o J];exact F,by cases obj<;>exact E⟩, ?_⟩
 ·cases obj<;>simpa[aC.purge,aC.size,dm]using Q
 ·intro k H
  cases obj with
  |rc cs=>simp only[aC.purge,co,dm];rw[aU _ (by simp)];exact(y k (by simpa[aC.purge,aC.size,dm]using H)).mono I z T
  |arr W U=>exact(y k H).mono I
  |bar l=>exact(y k H).mono I
theorem cY.congr{C:Ctx}{x:Sit}{ob:List (Nat×aC)}{tk:LAb}{w w':World}(h:cY C x ob tk w)(y:w'.heap=w.heap)(J:w'.os=w.os)(F:w'.tape=w.tape)
 (z:w'.output=w.output):cY C x ob tk w':=by
 have O:∀a,w'.cell? a=w.cell? a:=fun a=>by simp only[World.cell?,y]
 refine⟨fun b o v I=>by rw[O];exact h.per b o v I,h.g0,h.gm,h.new, ?_,h.nd,h.inj, ?_,h.tko,h.tkd,J.trans h.os,F.trans h.tape,z.trans h.output,by rw[y];exact h.size,fun b H=>by rw[y];exact h.ext b H,h.pin,h.lay⟩
 ·intro p L
  obtain⟨⟨c,e,fl,fh,E,r⟩,q⟩:=h.obs p L;exact⟨⟨c,e,fl,fh,E.of_heap (by rw[y]),r⟩,q⟩
 ·intro t F
  exact(h.tks t F).imp id fun⟨⟨c,e,fl,fh,E,r⟩,q⟩=>⟨⟨c,e,fl,fh,E.of_heap (by rw[y]),r⟩,q⟩
theorem cY.drew{C:Ctx}{x:Sit}{ob:List (Nat×aC)}{tk:LAb}{w:World}(h:cY C x ob tk w):cY C x ob tk w.drew:=h.congr rfl rfl rfl rfl
theorem cY.drawn{C:Ctx}{x:Sit}{ob:List (Nat×aC)}{tk:LAb}{w:World}(h:cY C x ob tk w)(n:Nat):cY C x ob tk {w with drawn:=n}:=h.congr rfl rfl rfl rfl
def Sit.newO(x:Sit)(d b:Nat)(k:Nat:=0):Sit:= {x with bk:=fun o=>if o=d then(b,k)else x.bk o}
theorem Sit.newO_ne(x:Sit)(d b:Nat){k:Nat}(o:Nat)(h:¬(d<=o/\o<d+1)):(x.newO d b k).bk o=x.bk o:=if_neg (by omega)
theorem cY.allocO{C:Ctx}{x:Sit}{ob:List (Nat×aC)}{tk:LAb}{w:World}(h:cY C x ob tk w)(d:Nat)(a1:100<=d){c:LAe}{e:TypeId}{fl fh:Nat}(obj:aC)
 (hf:∀i,i<c.size->¬(fl<=i/\i<fh)) (hs:obj.size<=c.size) (hr:∀k,k<obj.size->co x obj k (c.getD k undef)) {K:Nat} (hK:K<=c.size) (a2:obj.arrB=true->¬(fl<=c.size/\c.size<fh)):
 cY C (x.newO d w.heap.size K) ((d,obj.purge d (d+1))::bz d (d+1) ob) (cy d (d+1) tk) (w.alloc (.cells c e (fl,fh))):=by
 have hβ:=Sit.newO_ne x d w.heap.size (k:=K)
 have a0:∀off,x.G w.heap.size off=none:=by
  intro off;cases hg:x.G w.heap.size off with
  |none=>rfl
  |some v=>exact absurd (h.ltG hg) (by omega)
 have E:∀p∈bz d (d+1) ob,p.1≠d/\(x.newO d w.heap.size K).bk p.1=x.bk p.1/\(x.bk p.1).1<w.heap.size:=by intro p z;obtain⟨h1,o,I,_⟩:=cw z;obtain⟨⟨c,e,fl,fh,L,_⟩,_⟩:=h.obs _ I;exact⟨by omega,hβ _ h1,L.lt⟩
 have Z:(x.newO d w.heap.size K).bk d=(w.heap.size,K):=if_pos rfl;have hd:((x.newO d w.heap.size K).bk d).1=w.heap.size:=by rw[Z]
 refine⟨?_,h.g0,h.gm,h.new, ?_, ?_, ?_, ?_, ?_, ?_,h.os,h.tape,h.output, ?_, ?_,fun i hi=>by rw[hβ i (by omega)];exact h.pin i hi,h.lay⟩
 ·intro b o v O
  rw[dh (du (h.ltG O))];exact h.per b o v O
 ·intro p z
  rcases al.1 z with rfl|z
  ·refine⟨⟨c,e,fl,fh,⟨by rw[hd];exact dz,hf⟩,⟨?_,by rw[Z];exact hK,by cases obj<;>exact a2⟩, ?_⟩, ?_, ?_⟩
   ·cases obj<;>simpa[aC.purge,aC.size,dm]using hs
   ·intro k hk
    cases obj with
    |rc cs=>simp only[aC.purge,co,dm];rw[aU _ (by simp)];exact Rep.mono (x:=x) (x':=x.newO d w.heap.size K) (lo:=d) (hi:=d+1) (fun _ _ _ O=>O) hβ (fun _ _=>rfl) (hr k (by simpa[aC.purge,aC.size,dm]using hk))
    |arr sz xs=>exact hr k hk
    |bar l=>exact hr k hk
   ·rw[hd];exact h.new _ h.size
   ·intro off;rw[hd];exact a0 off
  ·obtain⟨h1,o,I,h3⟩:=cw z
   obtain⟨U,hm,hg⟩:=h.obs _ I;obtain⟨a4,y,J⟩:=E p z;refine⟨?_,by rw[y];exact hm,fun off=>by rw[y];exact hg off⟩;rw[h3];exact U.of_heap (du J) (fun _ _ _ O=>O) hβ (fun _ _=>rfl) h1
 ·rw[aE,dU,eC]
  refine⟨?_,h.nd.filter _⟩;simp
 ·intro p z q T H
  rcases al.1 z with rfl|z<;>rcases al.1 T with rfl|T
  ·rfl
  ·obtain⟨_,y,J⟩:=E q T
   rw[hd,y]at H;omega
  ·obtain⟨_,y,J⟩:=E p z
   rw[hd,y]at H;omega
  ·obtain⟨_,y,_⟩:=E q T
   obtain⟨_,Q,_⟩:=E p z;obtain⟨_,o,I,_⟩:=cw z;obtain⟨_,o',a3,_⟩:=cw T;rw[y,Q]at H;exact h.inj (_,o) I (_,o') a3 H
 ·intro t F
  obtain⟨F,_⟩:=bC.1 F;exact(h.tks t F).imp id fun⟨⟨c,e,fl,fh,L,r⟩,q⟩=>⟨⟨c,e,fl,fh,L.of_heap (du L.lt),r⟩,q⟩
 ·intro t F p z
  obtain⟨F,_⟩:=bC.1 F;rcases al.1 z with rfl|z
  ·rcases h.tks t F with W|⟨⟨c,e,fl,fh,L,r⟩,q⟩
   ·exact .inr W
   ·refine .inl ?_
    rw[hd];have:=L.lt;show(x.τ t).1≠_;omega
  ·obtain⟨_,o,I,_⟩:=cw z
   rw[(E p z).2.1];exact h.tko t F (_,o) I
 ·intro t F u hu
  exact h.tkd t (bC.1 F).1 u (bC.1 hu).1
 ·have:=h.size;rw[World.size_alloc];omega
 ·intro b hb
  rw[du,h.ext b hb];rcases bO b w.heap.size with W|W
  ·exact W
  ·exact absurd (h.new b (p6 h.size W)) hb
def Sit.newD(x:Sit)(b:Nat)(c:LAe)(n:Nat):Sit:= {x with G:=fun h o=>if h=b/\o<n then c[o]? else x.G h o}
theorem cY.newD_le{C:Ctx}{x:Sit}{ob:List (Nat×aC)}{tk:LAb}{w:World}(h:cY C x ob tk w)(c:LAe)(n:Nat):
 ∀b o v,x.G b o=some v->(x.newD w.heap.size c n).G b o=some v:=by
 intro b o v y;have:=h.ltG y;simp only[Sit.newD];rw[if_neg (by omega)];exact y
theorem cY.allocD{C:Ctx}{x:Sit}{ob:List (Nat×aC)}{tk:LAb}{w:World}(h:cY C x ob tk w){c:LAe}{e:TypeId}{fl fh:Nat}(n:Nat):
 cY C (x.newD w.heap.size c n) ob tk (w.alloc (.cells c e (fl,fh))):=by
 have F:=h.newD_le c n
 have y:∀b,b≠w.heap.size->∀o,(x.newD w.heap.size c n).G b o=x.G b o:=by intro b E o;simp only[Sit.newD];rw[if_neg (by rintro⟨L,_⟩;exact E L)]
 refine⟨?_,fun b o v z=>F b o v (h.g0 b o v z), ?_,h.new, ?_,h.nd,h.inj, ?_,h.tko,h.tkd,h.os,h.tape,h.output, ?_, ?_,h.pin,h.lay⟩
 ·intro b o v z
  by_cases E:b=w.heap.size
  ·subst E
   simp only[Sit.newD]at z;split at z
   ·simp only[World.cell?,dz];simpa using z
   ·exact absurd (h.ltG z) (by omega)
  ·rw[y b E]at z
   rw[dh (du (h.ltG z))];exact h.per b o v z
 ·intro b o v z
  by_cases E:b=w.heap.size
  ·right;rw[E];exact h.new _ h.size
  ·rw[y b E]at z;exact h.gm b o v z
 ·intro p hp
  obtain⟨L,hm,hg⟩:=h.obs p hp;have U:(x.bk p.1).1<w.heap.size:=by obtain⟨c,e,fl,fh,H,_⟩:=L;exact H.lt
  refine⟨?_,hm,fun off=>by rw[show(x.newD w.heap.size c n).bk p.1=x.bk p.1 from rfl,y _ (by omega)];exact hg off⟩;obtain⟨T,O,I,J,H,hs,hr⟩:=L;refine⟨T,O,I,J,H.of_heap (du U),hs,fun k Z=> ?_⟩;have:=hr k Z;generalize p.2=obj at*;cases obj with
  |rc cs=>exact Rep.grow F rfl rfl this
  |arr sz xs=>exact cL.mono F this
  |bar l=>exact cL.mono F this
 ·intro t ht
  refine(h.tks t ht).imp id ?_;rintro⟨⟨T,O,I,J,H,r⟩,q,g⟩;refine⟨⟨T,O,I,J,H.of_heap (du H.lt),r⟩,q,fun o L W=> ?_⟩;rw[show((x.newD w.heap.size c n).τ t).1=(x.τ t).1 from rfl,y _ (by have:=H.lt;omega)];exact g o L W
 ·have:=h.size;rw[World.size_alloc];omega
 ·intro b E
  rw[du,h.ext b E];rcases bO b w.heap.size with Q|Q
  ·exact Q
  ·exact absurd (h.new b (p6 h.size Q)) E
def Sit.newT(x:Sit)(d b lo hi:Nat):Sit:= {x with τ:=fun t=>if t=d then(b,lo,hi)else x.τ t}
theorem Sit.newT_ne(x:Sit)(d b lo hi:Nat)(o:Nat)(h:¬(d<=o/\o<d+1)):(x.newT d b lo hi).τ o=x.τ o:=if_neg (by omega)
theorem Sit.newT_eq(x:Sit)(d b lo hi:Nat):(x.newT d b lo hi).τ d=(b,lo,hi):=if_pos rfl
theorem cY.addT{C:Ctx}{x:Sit}{ob:List (Nat×aC)}{tk:LAb}{w:World}(h:cY C x ob tk w)(d b lo hi:Nat)
 (W:lo=hi\/((∃c e fl fh,eS w b c e fl fh/\hi<=c.size)/\C.mine b/\∀o,lo<=o->o<hi->x.G b o=none))
 (F:lo=hi\/∀p∈ob,p.1≠d->b≠(x.bk p.1).1) (y:lo=hi\/∀t∈tk,t≠d->ln (b,lo,hi) (x.τ t)\/(x.τ t).2.1=(x.τ t).2.2):
 cY C (x.newT d b lo hi) (bz d (d+1) ob) (d::cy d (d+1) tk) w:=by
 have H:=Sit.newT_ne x d b lo hi;have hd:=Sit.newT_eq x d b lo hi;refine⟨h.per,h.g0,h.gm,h.new, ?_, ?_, ?_, ?_, ?_, ?_,h.os,h.tape,h.output,h.size,h.ext,h.pin,h.lay⟩
 ·intro p L
  obtain⟨h1,o,J,h3⟩:=cw L;obtain⟨Q,hm,hg⟩:=h.obs _ J;exact⟨by rw[h3];exact Q.of_heap rfl (fun _ _ _ W=>W) (fun _ _=>rfl) H h1,hm,hg⟩
 ·rw[eC];exact h.nd.filter _
 ·intro p L q hq U
  obtain⟨_,o,J,_⟩:=cw L;obtain⟨_,o',Z,_⟩:=cw hq;exact h.inj (_,o) J (_,o') Z U
 ·intro t z
  rcases al.1 z with rfl|z
  ·unfold gY;rw[hd];exact W
  ·obtain⟨z,E⟩:=bC.1 z
   unfold gY;rw[H _ E];exact h.tks t z
 ·intro t z p L
  obtain⟨h1,o,J,_⟩:=cw L;rcases al.1 z with rfl|z
  ·rw[hd]
   rcases F with F|F
   ·exact .inr F
   ·exact .inl (F (_,o) J (by show p.1≠t;omega))
  ·obtain⟨z,E⟩:=bC.1 z
   rw[H _ E];exact h.tko t z (_,o) J
 ·intro t z u hu T
  rcases al.1 z with rfl|z<;>rcases al.1 hu with rfl|hu
  ·exact absurd rfl T
  ·obtain⟨hu,E⟩:=bC.1 hu
   rw[hd,H _ E];rcases y with y|y
   ·exact .inr (.inl y)
   ·rcases y u hu (by omega)with I|I
    ·exact .inl I
    ·exact .inr (.inr I)
  ·obtain⟨z,E⟩:=bC.1 z
   rw[hd,H _ E];rcases y with y|y
   ·exact .inr (.inr y)
   ·rcases y t z (by omega)with I|I
    ·refine .inl ?_
     unfold ln at*;exact fun e=>I e.symm
    ·exact .inr (.inl I)
  ·obtain⟨z,E⟩:=bC.1 z
   obtain⟨hu,O⟩:=bC.1 hu;rw[H _ E,H _ O];exact h.tkd t z u hu T
end Go.Sy
namespace Go.Sy
variable [aX]
def cn(w:World)(b off:Nat):LAd->World
 |[]=>w
 |v::r=>cn (w.setCell ⟨b,off,none⟩ v) b (off+1) r
theorem sh(w:World)(a:Addr)(v:Value):(w.setCell a v).os=w.os/\(w.setCell a v).tape=w.tape/\(w.setCell a v).output=w.output/\(w.setCell a v).heap.size=w.heap.size:=
 ⟨rfl,rfl,rfl,by simp⟩
theorem eW(b:Nat)(vs:LAd):∀(w:World)(off:Nat),(cn w b off vs).os=w.os/\(cn w b off vs).tape=w.tape/\(cn w b off vs).output=w.output/\
 (cn w b off vs).heap.size=w.heap.size/\(∀h,h≠b->(cn w b off vs).heap[h]? =w.heap[h]?):=by
 induction vs with
 |nil=>intro w off;exact⟨rfl,rfl,rfl,rfl,fun _ _=>rfl⟩
 |cons v r T=>intro w off;obtain⟨E,z,F,Q,O⟩:=T (w.setCell ⟨b,off,none⟩ v) (off+1);obtain⟨L,J,I,H⟩:=sh w ⟨b,off,none⟩ v;refine⟨E.trans L,z.trans J,F.trans I,Q.trans H,fun h y=> ?_⟩;rw[cn,O h y];exact Go.RowKit.Below.heap_setCell _ _ _ _ y
theorem oY(c:LAe)(i k:Nat)(v:Value)(h:i<c.size):(c.setIfInBounds i v).getD k undef=if k=i then v else c.getD k undef:=by
 simp only[bh,Array.getElem?_setIfInBounds]
 by_cases y:i=k
 ·subst y;simp[h]
 ·rw[if_neg y,if_neg (fun e=>y e.symm)]
theorem ez{b:Nat}{e:TypeId}{fl fh:Nat}(vs:LAd):∀(w:World)(off:Nat)(c:LAe),eS w b c e fl fh->off+vs.length<=c.size->
 ∃y,eS (cn w b off vs) b y e fl fh/\y.size=c.size/\∀k,y.getD k undef=if off<=k/\k<off+vs.length then vs.getD (k-off) undef else c.getD k undef:=by
 induction vs with
 |nil=>intro w off c h _;exact⟨c,h,rfl,fun k=>by rw[if_neg (by simp only[aY];omega)]⟩
 |cons v r L=>
  intro w off c h J;simp only[aA]at J
  have z:eS (w.setCell ⟨b,off,none⟩ v) b (c.setIfInBounds off v) e fl fh:=by refine⟨?_,by simpa using h.2⟩;simp only[World.setCell,Array.getElem?_modify];rw[if_pos trivial,h.1];simp
  obtain⟨y,H,E,I⟩:=L _ (off+1) _ z (by simp;omega);refine⟨y,H,by simpa using E,fun k=> ?_⟩;rw[I k];simp only[aA]
  by_cases z:k=off
  ·subst z
   rw[if_neg (by omega),if_pos (by omega),oY _ _ _ _ (by omega),if_pos rfl];simp
  ·by_cases F:off+1<=k/\k<off+1+r.length
   ·rw[if_pos F,if_pos (by omega)]
    rw[show k-off=(k-(off+1))+1 from by omega];simp
   ·rw[if_neg F,if_neg (by omega),oY _ _ _ _ (by omega),if_neg z]
theorem da(b off n:Nat):(⟨b,off,none⟩:Addr).add n=⟨b,off+n,none⟩:=by
 unfold Addr.add;split
 ·rename_i h;subst h;rfl
 ·rfl
theorem ey{P:Program}{b:Nat}{e:TypeId}{fl fh:Nat}(off:Nat)(vs:LAd):∀(w:World)(c:LAe)(i:Nat),eS w b c e fl fh->off+i+vs.length<=c.size->
 (∀v∈vs,v.oneCell'=true)->(storeCells ⟨b,off,none⟩ vs i).run P w= .ok () (cn w b (off+i) vs):=by
 induction vs with
 |nil=>intro w c i _ _ _;rfl
 |cons v r H=>
  intro w c i h F z;simp only[aA]at F
  have E:eS (w.setCell ⟨b,off+i,none⟩ v) b (c.setIfInBounds (off+i) v) e fl fh:=by refine⟨?_,by simpa using h.2⟩;simp only[World.setCell,Array.getElem?_modify];rw[if_pos trivial,h.1];simp
  have y:w.cell? ⟨b,off+i,none⟩=some (c[off+i]'(by omega)):=by rw[h.cell];exact gK _
  simp only[storeCells,ay,da,run_store P w _ v _ (z v (by simp)),y,h.free (o:=off+i) (by omega),aJ,if_false,aj];rw[H _ _ (i+1) E (by simp;omega) (fun u hu=>z u (am _ hu))];rfl
theorem l3{d:Nat}{o:aC}{ob:List (Nat×aC)}(y:(ob.map cM).Nodup){p:Nat×aC}(h:p∈setO d o ob):(p=(d,o)/\d∈ob.map cM)\/(p∈ob/\p.1≠d):=by
 induction ob with
 |nil=>simp[setO]at h
 |cons q r H=>
  simp only[aE,dU]at y;simp only[setO]at h;split at h<;>rename_i z
  ·rcases al.1 h with rfl|h
   ·exact .inl ⟨rfl,by simp[z]⟩
   ·refine .inr ⟨am _ h,fun e=>y.1 ?_⟩
    rw[z,<-e];exact ii h
  ·rcases al.1 h with rfl|h
   ·exact .inr ⟨ax ..,z⟩
   ·rcases H y.2 h with⟨F,E⟩|⟨F,E⟩
    ·exact .inl ⟨F,by simp[E]⟩
    ·exact .inr ⟨am _ F,E⟩
theorem Ge{d:Nat}{o:aC}(ob:List (Nat×aC)):(setO d o ob).map cM=ob.map cM:=by
 induction ob with
 |nil=>rfl
 |cons q r y=>
  simp only[setO];split<;>rename_i h
  ·simp[h]
  ·simp[y]
theorem cR{s:St}{o:Nat}{obj:aC}(h:s.look o=some obj):(o,obj)∈s.ob:=by
 unfold St.look at h;generalize s.ob=l at h;induction l with
 |nil=>simp at h
 |cons p r z=>
  rw[show p=(p.1,p.2)from rfl,List.lookup_cons]at h;split at h
  ·rename_i y
   have:o=p.1:=by simpa using y
   subst this;simp at h;subst h;simp
  ·exact am _ (z h)
theorem cY.block{C:Ctx}{x:Sit}{ob:List (Nat×aC)}{tk:LAb}{w w':World}(h:cY C x ob tk w){d:Nat}{obj obj':aC}(hd:(d,obj)∈ob)
 (ho:w'.os=w.os) (F:w'.tape=w.tape) (O:w'.output=w.output) (Z:w'.heap.size=w.heap.size) (U:∀b,b≠(x.bk d).1->w'.heap[b]? =w.heap[b]?)
 (hr:dO x w' d obj'):cY C x (setO d obj' ob) tk w':=by
 obtain⟨_,L,Q⟩:=h.obs _ hd;have H:∀p∈ob,p.1≠d->(x.bk p.1).1≠(x.bk d).1:=fun p y z e=>z (h.inj p y _ hd e)
 refine⟨?_,h.g0,h.gm,h.new, ?_,by rw[Ge];exact h.nd, ?_, ?_, ?_,h.tkd,ho.trans h.os,F.trans h.tape,O.trans h.output,by rw[Z];exact h.size, ?_,h.pin,h.lay⟩
 ·intro b o v hv
  have:b≠(x.bk d).1:=by rintro rfl;simp[Q]at hv
  rw[dh (U b this)];exact h.per b o v hv
 ·intro p y
  rcases l3 h.nd y with⟨rfl,_⟩|⟨y,z⟩
  ·exact⟨hr,L,Q⟩
  ·obtain⟨⟨c,e,fl,fh,W,r⟩,q⟩:=h.obs p y
   exact⟨⟨c,e,fl,fh,W.of_heap (U _ (H p y z)),r⟩,q⟩
 ·intro p y q T E
  rcases l3 h.nd y with⟨rfl,_⟩|⟨y,z⟩<;>rcases l3 h.nd T with⟨rfl,_⟩|⟨T,hqd⟩
  ·rfl
  ·exact absurd E.symm (H q T hqd)
  ·exact absurd E (H p y z)
  ·exact h.inj p y q T E
 ·intro t F
  rcases h.tks t F with h'|⟨⟨c,e,fl,fh,W,r⟩,q⟩
  ·exact .inl h'
  ·rcases h.tko t F _ hd with I|I
   ·exact .inr ⟨⟨c,e,fl,fh,W.of_heap (U _ I),r⟩,q⟩
   ·exact .inl I
 ·intro t F p y
  rcases l3 h.nd y with⟨rfl,_⟩|⟨y,_⟩
  ·exact h.tko t F (d,obj) hd
  ·exact h.tko t F p y
 ·intro b J
  rw[U b (fun e=>J (e ▸ L))];exact h.ext b J
def Sit.fill(x:Sit)(b lo:Nat)(vs:LAd):Sit:= {x with G:=fun h o=>if h=b/\lo<=o/\o<lo+vs.length then some (vs.getD (o-lo) undef)else x.G h o}
theorem cY.fill{C:Ctx}{x:Sit}{ob:List (Nat×aC)}{tk:LAb}{w:World}(h:cY C x ob tk w){t:Nat}(ht:t∈tk){b lo hi:Nat}(hτ:x.τ t=(b,lo,hi))
 (vs:LAd) (b4:lo+vs.length<=hi) (h0:0<vs.length):
 (∀E o v,x.G E o=some v->(x.fill b lo vs).G E o=some v)/\cY C (x.fill b lo vs) ob (cy t (t+1) tk) (cn w b lo vs)/\
 (∃c e fl fh,eS (cn w b lo vs) b c e fl fh/\hi<=c.size)/\C.mine b/\(∀o,lo+vs.length<=o->o<hi->(x.fill b lo vs).G b o=none)/\
 (∀p∈ob,b≠(x.bk p.1).1)/\(∀u∈cy t (t+1) tk,ln (b,lo+vs.length,hi) (x.τ u)\/(x.τ u).2.1=(x.τ u).2.2)/\(∃c e fl fh,eS w b c e fl fh/\hi<=c.size):=by
 have I:=h.tks t ht;unfold gY at I;rw[hτ]at I;rcases I with I|⟨⟨c,e,fl,fh,hO,hc⟩,hm,hg⟩
 ·simp only at I;omega
 simp only at hc hm hg hO;obtain⟨g1,g2,g3,g4,g5⟩:=eW b vs w lo;obtain⟨U,a1,a8,b2⟩:=ez vs w lo c hO (by omega)
 have a3:∀p∈ob,b≠(x.bk p.1).1:=by
  intro p hp;have:=h.tko t ht p hp;rw[hτ]at this;rcases this with h'|h'
  ·exact h'
  ·simp only at h';omega
 have J:∀E o v,x.G E o=some v->(x.fill b lo vs).G E o=some v:=by
  intro E o v z;simp only[Sit.fill];rw[if_neg ?_]
  ·exact z
  ·rintro⟨rfl,F,W⟩
   rw[hg o F (by omega)]at z;cases z
 refine⟨J,⟨?_,fun b o v z=>J b o v (h.g0 b o v z), ?_,h.new, ?_,h.nd,h.inj, ?_, ?_, ?_,g1.trans h.os,g2.trans h.tape,g3.trans h.output,by rw[g4];exact h.size, ?_,h.pin,h.lay⟩,
  ⟨U,e,fl,fh,a1,by omega⟩,hm, ?_,a3, ?_,⟨c,e,fl,fh,hO,hc⟩⟩
 ·intro E o v z
  by_cases hb:E=b
  ·subst hb
   rw[a1.cell];simp only[Sit.fill]at z;have hk:=b2 o;split at z
   ·rename_i H
    rw[if_pos H.2]at hk;have ho:o<U.size:=by omega
    rw[gK ho];have:U.getD o undef=U[o]:=by simp[jV,ho]
    rw[<-this,hk];exact z
   ·rename_i H
    have Q:=h.per _ _ _ z;rw[hO.cell]at Q
    have ho:o<c.size:=by
     rcases bO o c.size with h'|h'
     ·exact h'
     ·simp[Array.getElem?_eq_none h']at Q
    rw[if_neg (by rintro⟨F,W⟩;exact H ⟨trivial,F,W⟩)]at hk;rw[gK (by omega)];have e1:U.getD o undef=U[o]'(by omega):=by simp[jV,show o<U.size from by omega]
    have e2:c.getD o undef=c[o]:=by simp[jV,ho]
    rw[gK ho]at Q;rw[<-e1,hk,e2];exact Q
  ·rw[dh (g5 E hb)]
   refine h.per E o v ?_;simp only[Sit.fill]at z;rwa[if_neg (by rintro⟨F,_⟩;exact hb F)]at z
 ·intro E o v z
  simp only[Sit.fill]at z;split at z
  ·rename_i H;right;rw[H.1];exact hm
  ·exact h.gm E o v z
 ·intro p hp
  obtain⟨F,a9,b3⟩:=h.obs p hp;have T:=a3 p hp;refine⟨?_,a9,fun off=> ?_⟩
  ·obtain⟨c2,e2,Z,a0,L,O,a4⟩:=F
   refine⟨c2,e2,Z,a0,L.of_heap (g5 _ (fun e=>T e.symm)),O,fun k hk=> ?_⟩;have:=a4 k hk;generalize p.2=obj at*;cases obj with
   |rc cs=>exact Rep.grow J rfl rfl this
   |arr sz xs=>exact cL.mono J this
   |bar l=>exact cL.mono J this
  ·simp only[Sit.fill]
   rw[if_neg (by rintro⟨F,_⟩;exact T F.symm)];exact b3 off
 ·intro u hu
  obtain⟨hu,T⟩:=bC.1 hu;have y:=h.tkd t ht u hu (by omega);rw[hτ]at y;refine(h.tks u hu).imp id ?_;rintro⟨⟨c2,e2,Z,a0,L,O⟩,a7,a5⟩;refine⟨?_,a7,fun o F W=> ?_⟩
  ·by_cases hb:(x.τ u).1=b
   ·rw[hb]at L
    have e1:=L.1.symm.trans hO.1;simp at e1;exact⟨U,e,fl,fh,by rw[show((x.fill b lo vs).τ u).1=b from hb];exact a1,by rw[a8,<-e1.1];exact O⟩
   ·exact⟨c2,e2,Z,a0,L.of_heap (g5 _ hb),O⟩
  ·show(x.fill b lo vs).G (x.τ u).1 o=none
   simp only[Sit.fill];rw[if_neg ?_]
   ·exact a5 o F W
   ·rintro⟨e1,e2,e3⟩
    change (x.τ u).2.1<=o at F;change o<(x.τ u).2.2 at W;rcases y with y|y|y
    ·exact y e1.symm
    ·simp only at y;omega
    ·omega
 ·intro u hu p hp
  exact h.tko u (bC.1 hu).1 p hp
 ·intro u hu v z a6
  exact h.tkd u (bC.1 hu).1 v (bC.1 z).1 a6
 ·intro E a2
  rw[g5 E (fun e=>a2 (e ▸ hm))];exact h.ext E a2
 ·intro o F W
  simp only[Sit.fill];rw[if_neg (by rintro⟨_,_,h3⟩;omega)];exact hg o (by omega) W
 ·intro u hu
  obtain⟨hu,T⟩:=bC.1 hu;have y:=h.tkd t ht u hu (by omega);rw[hτ]at y;unfold ln at*;simp only at*;rcases y with y|y|y
  ·left;exact y
  ·omega
  ·exact .inr y
theorem fV{lo hi:Nat}{tk:LAb}{t:Nat}(h:t∈cy lo hi tk):t∈tk:=(bC.1 h).1
theorem cY.sub{C:Ctx}{x:Sit}{ob z:List (Nat×aC)}{tk tk':LAb}{w:World}(h:cY C x ob tk w)(y:z.Sublist ob)(F:∀t∈tk',t∈tk):cY C x z tk' w:=
 ⟨h.per,h.g0,h.gm,h.new,fun p E=>h.obs p (y.subset E),h.nd.sublist (y.map _),fun p E q H=>h.inj p (y.subset E) q (y.subset H),fun t hu=>h.tks t (F t hu),
  fun t hu p E=>h.tko t (F t hu) p (y.subset E),fun t hu u I=>h.tkd t (F t hu) u (F u I),h.os,h.tape,h.output,h.size,h.ext,h.pin,h.lay⟩
end Go.Sy
namespace Go.Sy
variable [aX]
def zD:SV->Value->Bool
 | .bool b,.bool c=>b==c
 | .int k n,.int k' m=>decide (k=k')&&decide (n=m)
 | .u8 b,.int .u8 n=>decide (n=b.toNat)
 | .str l,.string s=>decide (s.data.toList=l)
 | .byt [] _,.slice none 0 0=>true
 | .lst _ [] _,.slice none 0 0=>true
 | .nilp,.pointer none=>true
 | .nili,.nilIface=>true
 |_,_=>false
def lF(P:Program)(e:TypeId):Bool:=match P.underlying e with|some (.int .u8)=>true|_=>false
def qB(P:Program)(t:TypeId):Option Bool:=(P.underlying t).map fun| .struct _| .array _ _=>true|_=>false
def fi(P:Program)(t:TypeId):LAc:=(P.info? t).map (·.size)
def s7(P:Program)(t:TypeId):LAc:=(P.info? t).map (·.bytes)
def cvT(P:Program)(t:TypeId):Value->Option SV
 | .bool b=>some (.bool b)
 | .int .u8 n=>some (.u8 (gy n.toNat))
 | .int k n=>some (.int k n)
 | .string s=>some (.str s.data.toList)
 | .pointer none=>some .nilp
 | .nilIface=>some .nili
 | .slice none 0 0=>match P.underlying t with
  |some (.slice e)=>some (if lF P e then .byt [] .clip else .lst (P.cellsOf e) [] .clip)
  |_=>none
 |_=>none
def bm(P:Program)(t:TypeId):Operand->Option Arg
 | .tmp n=>some (.t n)
 | .const v=>(cvT P t v).bind fun sv=>if zD sv v then some (.c sv)else none
 | .func f=>some (.f f)
 | .global g=>(aX.cells g).map fun cs=> .c (.pp cs)
def mA(P:Program):Nat->TypeId->List TypeId
 |0,_=> []
 |d+1,t=>match P.underlying t with
  |some (.struct fs)=>fs.toList.flatMap fun f=>mA P d f.type
  |some (.array n e)=>(ao n (mA P d e)).flatten
  |_=> [t]
def D2(P:Program):List TypeId->LAd->Option LAa
 |[],[]=>some []
 |t::ts,v::vs=>match cvT P t v,D2 P ts vs with
  |some s,some r=>some (s::r)
  |_,_=>none
 |_,_=>none
def fQ(P:Program)(t:TypeId):Option LAd:=(P.info? t).bind fun i=>i.zero.map fun z=>z.cells.toList
def Eo(cs:LAa)(vs:LAd):Bool:=decide (cs.length=vs.length)&&(bU cs.length).all fun i=>zD (cs.getD i .undef) (vs.getD i undef)
def lS(P:Program)(t:TypeId):Option LAa:=(fQ P t).bind fun vs=>(D2 P (mA P 30 t) vs).bind fun cs=>if Eo cs vs then some cs else none
def xy(P:Program)(t:TypeId):Option LAa:=(lS P t).map (List.map SV.data)
def GF(P:Program)(t:TypeId):Option aC:=
 match P.underlying t with
 |some (.array n e)=>if lF P e then some (.bar (ao n 0))else match P.underlying e with
  |some (.slice _)=>(lS P e).map fun z=> .rc (ao n z).flatten
  |_=>(lS P e).map fun z=> .arr z.length (ao n z)
 |_=>(lS P t).map .rc
def Z6(o:aC)(vs:LAd):Bool:=decide (o.size<=vs.length)&&(bU o.size).all fun k=>zD (o.cell k) (vs.getD k undef)
def js{α β:Type}(f:α->Option β):List α->Option (List β)
 |[]=>some []
 |a::r=>match f a,js f r with
  |some b,some s=>some (b::s)
  |_,_=>none
def uU{α β:Type}(f:α->Option β):Option α->Option (Option β)
 |none=>some none
 |some a=>(f a).map some
def vR(P:Program)(t:TypeId):LAc:=
 match P.underlying t with
 |some .bool=>some 0
 |some (.int _)=>some 1
 |some .string=>some 2
 |_=>none
def wS(P:Program):Nat->List Field->Option LAb
 |_,[]=>some []
 |k,f::r=>if f.name≠ "_" /\f.offset=k then(match vR P f.type,wS P (k+1) r with
  |some t,some ts=>some (t::ts)
  |_,_=>none)else none
def xiw(P:Program)(f:FuncId):Bool:=
 match P.funcs[f]? with
 |some fn=>fn.body.isNone&& !(fn.name== "runtime.NumGoroutine")&&(Extern.findNext fn).isNone&&decide (fn.origin= "slices.overlaps")&&
  (Extern.allGenericRows.lookup fn.name).isNone&&(Extern.allTypedRows.lookup fn.name).isNone&&(Extern.allRows.lookup fn.name).isNone&&
  (match fn.params[0]? with|some t=>(match P.underlying t with|some (.slice e)=>(fi P e).isSome|_=>false)|none=>false)
 |none=>false
def z0:LAa->Bool
 |[.u8 b]=>b==0
 |_=>false
def bn(P:Program)(o:Oper):Option SOp:=
 match o.op with
 | .move x=>(bm P o.type x).map .mov
 | .assign x=>(bm P o.type x).map .mov
 | .pick c a b=>match bm P 0 c,bm P o.type a,bm P o.type b with
  |some c,some a,some b=>some (.pick c a b)
  |_,_,_=>none
 | .alloc e=>match GF P e,fQ P e with
  |some o,some z=>if Z6 o z then some (.new o)else none
  |_,_=>none
 | .box e x=>(bm P e x).map .box
 | .build t h=>match P.underlying t,lS P t with
  |some (.struct fs),some z=>
   if fs.toList.all fun f=>(P.info? f.type).isSome then
    (js (fun p=>match fs[p.1]? with
     |some f=>match fi P f.type,bm P f.type p.2 with
      |some n,some a=>some (f.offset,n,a)
      |_,_=>none
     |none=>none) h.toList).map (.build z)
   else none
  |some (.array _ e),some z=>match fi P e with
   |some n=>(js (fun p=>(bm P e p.2).map fun a=>(p.1*n,n,a)) h.toList).map (.build z)
   |none=>none
  |_,_=>none
 | .buildSlice t len h=>match P.underlying t with
  |some (.slice e)=>match fi P e,fQ P e with
   |some n,some _=>
    if decide (h.toList.map (·.1)=bU len)&&decide (len*n<=16777216)&&(!lF P e||decide (n=1))then
     (js (fun p=>bm P e p.2) h.toList).map fun I=>if lF P e then .litB I else .lit n I
    else none
   |_,_=>none
  |_=>none
 | .load t a=>match fi P t,qB P t,bm P 0 a with
  |some n,some ag,some a=>if ag||n==1 then some (.load n ag a)else none
  |_,_,_=>none
 | .store t a x=>match fi P t,bm P 0 a,bm P t x with
  |some n,some a,some x=>some (.store n a x)
  |_,_,_=>none
 | .nilCheck x=>(bm P o.type x).map .nchk
 | .binOp op H x y L=>match P.underlying H,bm P H x,bm P L y with
  |some .bool,some x,some y=>match op with
   | .eql=>some (.beq false x y)
   | .neq=>some (.beq true x y)
   |_=>none
  |some (.int _),some x,some y=>some (.bin op x y)
  |some .string,some x,some y=>some (.bin op x y)
  |some (.struct fs),some x,some y=>
   match wS P 0 fs.toList with
   |
    some J=>if !P.stoodInHeld H&& !P.eqGuardType P.depth H then
    (match op with
    | .eql=>some (.eqS false J x y)
    | .neq=>some (.eqS true J x y)
    |_=>none)
    else none
   |none=>none
  |some (.slice _),some x,some _=>match op,y with
   | .eql,.const (.slice none 0 0)=>some (.isnil false x)
   | .neq,.const (.slice none 0 0)=>some (.isnil true x)
   |_,_=>none
  |some (.interface _),some x,some _=>match op,y with
   | .eql,.const .nilIface=>some (.isni false x)
   | .neq,.const .nilIface=>some (.isni true x)
   |_,_=>none
  |_,_,_=>none
 | .unOp op t x=>(bm P t x).map (.un op)
 | .convert E dst x=>match P.underlying E,P.underlying dst,bm P E x with
  |some (.int _),some (.int k),some x=>some (.toInt k x)
  |some .string,some .string,some x=>some (.toStr x)
  |some (.slice e),some .string,some x=>if lF P e then some (.b2s x)else none
  |some .string,some (.slice e),some x=>if lF P e then some (.s2b x)else none
  |some (.slice _),some (.slice e),some x=>if decide (E=dst)&&lF P e then some (.slid x)else none
  |_,_,_=>none
 | .makeFunc (.func f) first cap=>match js (bm P 0) first.toList,js (bm P 0) cap.toList with
  |some a,some b=>some (.mkfn f a b)
  |_,_=>none
 | .makeSlice t l c=>match P.underlying t with
  |some (.slice e)=>match fi P e,s7 P e,xy P e,bm P 0 l,bm P 0 c with
   |some n,some by_,some z,some l,some c=>if lF P e then(if n=1/\by_=1/\z0 z=true then some (.mkB l c)else none)else(if z.length=n/\n≠0 then some (.mk z by_ l c)else none)
   |_,_,_,_,_=>none
  |_=>none
 | .slice t x lo hi F=>match uU (bm P 0) lo,uU (bm P 0) hi,uU (bm P 0) F,bm P t x with
  |some lo,some hi,some F,some x=>if F.isSome&&hi.isNone then none else match P.underlying t with
   |some .string=>if F.isNone then some (.slcS x lo hi)else none
   |some (.slice e)=>match fi P e with
    |some n=>some (.slcL n x lo hi F)
    |none=>none
   |some (.array k e)=>match fi P e with
    |some n=>some (.slcA k n x lo hi F)
    |none=>none
   |_=>none
  |_,_,_,_=>none
 | .fieldAddr t x i=>match P.underlying t,bm P 0 x with
  |some (.struct fs),some x=>match fs[i]? with
   |some f=>match fi P f.type with
    |some n=>if n=0 then none else some (.faddr f.offset x)
    |none=>none
   |none=>none
  |_,_=>none
 | .field t x i=>match P.underlying t,bm P t x with
  |some (.struct fs),some x=>match fs[i]? with
   |some f=>match fi P f.type,qB P f.type with
    |some n,some ag=>if ag||n==1 then some (.fld f.offset n ag x)else none
    |_,_=>none
   |none=>none
  |_,_=>none
 | .indexAddr t x i=>match P.underlying t,bm P t x,bm P 0 i with
  |some (.slice e),some x,some i=>match fi P e with
   |some n=>some (.iaddrL n x i)
   |none=>none
  |some (.array k e),some x,some i=>match fi P e with
   |some n=>some (.iaddrA k n x i)
   |none=>none
  |_,_,_=>none
 | .index t x i=>match P.underlying t,bm P t x,bm P 0 i with
  |some (.array k e),some x,some i=>match fi P e,qB P e with
   |some n,some ag=>if ag||n==1 then some (.idxA k n ag x i)else none
   |_,_=>none
  |some .string,some x,some i=>some (.idxS x i)
  |_,_,_=>none
 | .extract x i=>(bm P 0 x).map (.ext · i)
 | .call c=>match c.callee with
  | .value f=>match bm P 0 f,js (fun p=>bm P p.2 p.1) (c.args.toList.zip c.argTypes.toList)with
   |some f,some a_=>if c.args.size=c.argTypes.size then(match f,a_ with
    | .f g,[x,y]=>if xiw P g then some (.ovl x y)else some (.call (.f g) [x,y])
    |f,a_=>some (.call f a_))else none
   |_,_=>none
  | .builtin .len=>match c.args.toList,c.argTypes.toList with
   |[x],[t]=>match P.underlying t,bm P t x with
    |some .string,some x=>some (.len true x)
    |some (.slice _),some x=>some (.len false x)
    |some (.array n _),some _=>some (.lenC n)
    |some (.pointer arr),some _=>match P.underlying arr with
     |some (.array n _)=>some (.lenC n)
     |_=>none
    |_,_=>none
   |_,_=>none
  | .builtin .cap=>match c.args.toList,c.argTypes.toList with
   |[x],[t]=>match P.underlying t,bm P t x with
    |some (.slice _),some x=>some (.cap x)
    |_,_=>none
   |_,_=>none
  | .builtin .append=>match c.args.toList,c.argTypes.toList with
   |[x,y],[t,u]=>match P.underlying t,P.underlying u,bm P t x,bm P u y with
    |some (.slice e),some d,some x,some y=>match fi P e,s7 P e,lS P e with
     |some n,some b,some z=>if decide (b≠0)&&decide (n≠0)&&decide (z.length=n)then(match d with
      | .slice _=>some (.app z b x y)
      | .string=>if lF P e then some (.app z b x y)else none
      | .int _=>some (.appM z b x y)
      |_=>none)else none
     |_,_,_=>none
    |_,_,_,_=>none
   |_,_=>none
  | .builtin .clear=>match c.args.toList,c.argTypes.toList with
   |[x],[t]=>match P.underlying t,bm P t x with
    |some (.slice e),some x=>match xy P e with
     |some z=>some (.clr z x)
     |none=>none
    |_,_=>none
   |_,_=>none
  | .builtin .copy=>match c.args.toList,c.argTypes.toList with
   |[x,y],[t,u]=>match P.underlying t,bm P t x,bm P u y with
    |some (.slice e),some x,some y=>match fi P e with
     |some n=>some (.cpy n x y)
     |none=>none
    |_,_,_=>none
   |_,_=>none
  | .builtin .min=>match c.args.toList,c.argTypes.toList with
   |[x,y],[t,u]=>match bm P t x,bm P u y with
    |some x,some y=>some (.mini x y)
    |_,_=>none
   |_,_=>none
  | .builtin .max=>match c.args.toList,c.argTypes.toList with
   |[x,y],[t,u]=>match bm P t x,bm P u y with
    |some x,some y=>some (.maxi x y)
    |_,_=>none
   |_,_=>none
  |_=>none
 |_=>none
def xcF(ops:Array Oper)(d:Nat):Bool:=ops.any fun o=>match o.op with
 | .convert src dst (.tmp k)=>decide (src=dst)&&k==d
 |_=>false
def nP(ops:Array Oper)(d:LAc)(so:SOp):SOp:=
 match so,d with
 | .litB xs,some d=>if xcF ops d then .newB xs else .litB xs
 |so,_=>so
theorem DH(ops:Array Oper)(d:LAc)(so:SOp):nP ops d so=so\/∃h,so= .litB h/\nP ops d so= .newB h:=by
 unfold nP;split
 ·split
  ·exact .inr ⟨_,rfl,rfl⟩
  ·exact .inl rfl
 ·exact .inl rfl
def fT(P:Program)(ops:Array Oper)(o:Oper):Option SI:=
 match bn P o,o.guard with
 |some so,none=>some ⟨o.dst,none,nP ops o.dst so⟩
 |some so,some (j,b)=>match (ops[j]?).bind (·.dst)with
  |some g=>some ⟨o.dst,some (g,b),nP ops o.dst so⟩
  |none=>none
 |none,_=>none
def xig:SOp->Bool
 | .new _| .box _| .mk _ _ _ _| .mkB _ _| .app _ _ _ _| .newB _=>true
 |_=>false
def xll(l:LAf):LAb:=l.filterMap fun i=>if xig i.op then some (i.dst.getD 0+100)else none
def Arg.tmps:Arg->LAb
 | .t n=> [n]
 |_=> []
def SI.reads(i:SI):LAb:=(i.op.args.flatMap Arg.tmps)++(match i.g with|some (g,_)=> [g]|none=> [])
def QF(b:LAb)(l:LAf):Bool:=
 (bU l.length).all fun j=>(bU l.length).all fun i=>i==j||
  (match (l.getD i ⟨none,none,.lenC 0⟩).dst with
   |some d=> !((l.getD j ⟨none,none,.lenC 0⟩).reads.contains d)||(b.getD (max i j) 0).testBit (min i j)
   |none=>true)
def pY(ops:Array Oper)(b:LAb):Bool:=
 ops.toList.zipIdx.all fun(o,i)=>(o.after.all fun e=> !Region.binds .any e||decide (e.on<i))&&
  (bU ops.size).all fun k=> !(b.getD i 0).testBit k||(decide (k<i)&&o.after.any fun e=>Region.binds .any e&&(e.on==k||(b.getD e.on 0).testBit k))
def drawn(ops:Array Oper)(l:LAf):Bool:=
 let b:=(Region.before ops).toList
 pY ops b&&QF b l&&decide (l.filterMap (·.dst)).Nodup
def aW(P:Program):Code->Option fY
 | .skip=>some .skip
 | .region _ ops h=>match js (fT P ops) ops.toList with
  |some l=>
   if h then(if drawn ops l&&P.follows .mixedOrders then some (.drw (Region.before ops).toList (xll l) l)else none)
   else some (.ops l)
  |none=>none
 | .seq a b=>match aW P a,aW P b with
  |some a,some b=>some (.seq a b)
  |_,_=>none
 | .cond c a b=>match bm P 0 c,aW P a,aW P b with
  |some c,some a,some b=>some (.cond c a b)
  |_,_,_=>none
 | .block id b=>(aW P b).map (.block id)
 | .loop b=>(aW P b).map .loop
 | .exit id=>some (.exit id)
 | .ret=>some .ret
 |_=>none
def cu(P:Program):Code->fY
 | .skip=> .skip
 | .exit id=> .exit id
 | .ret=> .ret
 | .seq a b=> .seq (cu P a) (cu P b)
 | .cond c a b=>match bm P 0 c with
  |some k=> .cond k (cu P a) (cu P b)
  |none=> .bad
 | .block id b=> .block id (cu P b)
 | .loop b=> .loop (cu P b)
 | .region id ops h=>match aW P (.region id ops h)with
  |some s=>s
  |none=> .bad
 |_=> .bad
end Go.Sy
namespace Go.Sy
variable [aX]
variable {P : Program} {C : Ctx} {x : Sit} {s : St} {a : Act} {w : World}
theorem lU{G:GM}{c:SV}{v:Value}(h:zD c v=true):cL G c v:=by
 unfold zD at h;split at h
 ·simp at h;subst h;exact .bool _
 ·simp at h;obtain⟨rfl,rfl⟩:=h;exact .int _ _
 ·simp at h;subst h;exact .u8 _
 ·rename_i l s
  simp at h;obtain⟨⟨d⟩⟩:=s;simp at h;subst h;exact .str _
 ·exact .bytN _
 ·exact .lstN _ _
 ·exact .nilp
 ·exact .nili
 ·cases h
theorem EY{x:Sit}{c:SV}{v:Value}(h:zD c v=true):O4 x c v:=by
 unfold zD at h;split at h
 all_goals first
  |trivial
  |(
   rename_i t;cases t with
   |no=>trivial
   |clip=>exact⟨none,0,rfl⟩
   |id t=>exact⟨none,0,0,rfl,.inl rfl⟩)
  |(cases h;done)
theorem px{x:Sit}{c:SV}{v:Value}(h:zD c v=true):Rep x c v:= .dat _ _ (lU h) (EY h)
theorem cD.get{cs:LAa}{vs:LAd}(h:cD x cs vs)(i:Nat):Rep x (cs.getD i .undef) (vs.getD i undef):=by
 rcases bO i cs.length with hi|hi
 ·exact h.2 i hi
 ·rw[aa,kf hi];exact .undef _
theorem cD.set{cs:LAa}{vs:LAd}(h:cD x cs vs)(d:Nat){c:SV}{v:Value}(y:Rep x c v):cD x (cs.set d c) (vs.set d v):=by
 refine⟨by simpa using h.1,fun i hi=> ?_⟩;simp only[cB]at hi;simp only[aa,gu]
 by_cases hd:d=i
 ·subst hd
  rw[if_pos rfl,if_pos hi,if_pos rfl,if_pos (by rw[<-h.1];exact hi)];exact y
 ·rw[if_neg hd,if_neg hd]
  have:=h.get i;simpa only[aa]using this
theorem aL.slot(h:aL C x s a w)(n:Nat):Rep x (s.get n) (a.tmps.getD n undef):=by have:=h.tm.get n;simpa[St.get,bh]using this
theorem aL.put(h:aL C x s a w)(d:LAc){c:SV}{v:Value}(y:Rep x c v):aL C x (s.put d c) (a.put d v) w:=by
 cases d with
 |none=>exact h
 |some d=>refine⟨?_,h.defers,h.heap⟩;have:=h.tm.set d y;simpa[St.put,Act.put]using this
theorem aK{t:TypeId}{o:Operand}{r:Arg}(h:aL C x s a w)(y:bm P t o=some r):Rep x (s.ev r) (a.eval o):=by
 cases o with
 |tmp n=>simp only[bm]at y;cases y;exact h.slot n
 |const v=>
  simp only[bm]at y;cases hc:cvT P t v with
  |none=>simp[hc]at y
  |some sv=>
   simp only[hc,cS]at y;split at y
   ·cases y;rename_i I;exact px I
   ·cases y
 |func f=>simp only[bm]at y;cases y;exact .fn f [] [] [] [] rfl (fun i hi=>by simp at hi) rfl (fun i hi=>by simp at hi)
 |global g=>
  simp only[bm]at y;obtain⟨cs,z,rfl⟩:=ah.1 y;have H:=(h.heap.lay.mono h.heap.g0) g cs z;refine .dat _ _ (.pp cs g 0 (fun j=>(x.G g j).getD undef) (fun j F=> ?_) (fun j F=> ?_)) trivial
  ·obtain⟨v,E,_⟩:=H j F
   rw[cj,E];rfl
  ·obtain⟨v,E,y⟩:=H j F
   rw[E];exact y
def cg(P:Program)(C:Ctx)(o:Oper)(a:Act)(w:World)(s':St):Prop:=
 ∃u w' x' n,(execOp a.eval o).run P w= .ok n w'/\(n= .value u\/(n= .skip/\u=undef))/\aL C x' s' (a.put o.dst u) w'
theorem cg.val{o:Oper}{m:Sem Value}{u:Value}{c:SV}(h:aL C x s a w)(z:execOp a.eval o=(do pure (.value (<-m))))(y:m.run P w= .ok u w)(E:Rep x c u):
 cg P C o a w (s.put o.dst c):=
 ⟨u,w,x,.value u,by rw[z];simp[y],.inl rfl,h.put o.dst E⟩
theorem cg.grow{o:Oper}{m:Sem Value}{u:Value}{c:SV}{x':Sit}{w':World}(h:aL C x s a w)(I:execOp a.eval o=(do pure (.value (<-m))))(E:m.run P w= .ok u w')
 (z:∀b o v,x.G b o=some v->x'.G b o=some v) (H:x'.bk=x.bk) (F:x'.τ=x.τ) (y:cY C x' s.ob s.tk w') (J:Rep x' c u):
 cg P C o a w (s.put o.dst c):=
 ⟨u,w',x',.value u,by rw[I];simp[E],.inl rfl,aL.put ⟨h.tm.grow z H F,h.defers,y⟩ o.dst J⟩
theorem Rep.int_inv{k:IntKind}{n:Int}{v:Value}(h:Rep x (.int k n) v):v= .int k n:=by
 cases h with|dat _ _ h _=>cases h;rfl
theorem Rep.bool_inv{b:Bool}{v:Value}(h:Rep x (.bool b) v):v= .bool b:=by
 cases h with|dat _ _ h _=>cases h;rfl
theorem Rep.u8_inv{b:UInt8}{v:Value}(h:Rep x (.u8 b) v):v= .int .u8 b.toNat:=by
 cases h with|dat _ _ h _=>cases h;rfl
theorem Rep.str_inv{l:t7}{v:Value}(h:Rep x (.str l) v):v= .string ⟨⟨l⟩⟩:=by
 cases h with|dat _ _ h _=>cases h;rfl
theorem Rep.ptr_inv{o off:Nat}{v:Value}(h:Rep x (.ptr o off) v):v= .pointer (some ⟨(x.bk o).1,off,none⟩):=by
 cases h with
 |dat _ _ h _=>cases h
 |ptr=>rfl
theorem Rep.ap_inv{o y i j:Nat}{v:Value}(h:Rep x (.ap o y i j) v):v= .pointer (some ⟨(x.bk o).1,i*y+j,none⟩):=by
 cases h with
 |dat _ _ h _=>cases h
 |ap=>rfl
theorem Rep.psl_inv{o E off n:Nat}{cap:LAc}{v:Value}(h:Rep x (.psl o E off n cap) v):∃y,n<=y/\(∀c,cap=some c->c=y)/\∃z,v= .slice (some ⟨(x.bk o).1,z,none⟩) n y/\(y=0\/z=off*E):=by
 cases h with
 |dat _ _ h _=>cases h
 |psl _ _ _ _ _ z y h hn F _=>exact⟨y,hn,F,z,rfl,h⟩
theorem Rep.psl_invA{o E off n:Nat}{cap:LAc}{v:Value}(h:Rep x (.psl o E off n cap) v):∃y,n<=y/\(∀c,cap=some c->c=y)/\∃z,v= .slice (some ⟨(x.bk o).1,z,none⟩) n y/\(y=0\/z=off*E)/\(cap=none->y=0\/z+y*E<=(x.bk o).2):=by
 cases h with
 |dat _ _ h _=>cases h
 |psl _ _ _ _ _ z y h hn F H=>exact⟨y,hn,F,z,rfl,h,H⟩
theorem Rep.psl_invK{o E off n:Nat}{v:Value}(h:Rep x (.psl o E off n none) v):∃y,n<=y/\∃z,v= .slice (some ⟨(x.bk o).1,z,none⟩) n y/\(y=0\/z=off*E)/\(y=0\/z+y*E<=(x.bk o).2):=by
 cases h with
 |dat _ _ h _=>cases h
 |psl _ _ _ _ _ z y h hn H F=>exact⟨y,hn,z,rfl,h,F rfl⟩
theorem Rep.agg_inv{cs:LAa}{v:Value}(h:Rep x (.agg cs) v):∃vs,v= .agg ⟨vs⟩/\cD x cs vs:=by
 cases h with
 |dat _ _ h _=>cases h
 |agg _ vs y h=>exact⟨vs,rfl,y,h⟩
theorem Rep.tup_inv{cs:LAa}{v:Value}(h:Rep x (.tup cs) v):∃vs,v= .tuple ⟨vs⟩/\cD x cs vs:=by
 cases h with
 |dat _ _ h _=>cases h
 |tup _ vs y h=>exact⟨vs,rfl,y,h⟩
theorem Rep.fn_inv{f:Nat}{c1 c2:LAa}{v:Value}(h:Rep x (.fn f c1 c2) v):∃v1 y,v= .func (.func f) ⟨v1⟩ ⟨y⟩/\cD x c1 v1/\cD x c2 y:=by
 cases h with
 |dat _ _ h _=>cases h
 |fn _ _ _ v1 y E z F H=>exact⟨v1,y,rfl,⟨E,z⟩,⟨F,H⟩⟩
theorem Rep.pp_inv{cs:LAa}{v:Value}(h:Rep x (.pp cs) v):∃(b off:Nat)(val:Nat->Value),v= .pointer (some ⟨b,off,none⟩)/\(∀j,j<cs.length->x.G b (off+j)=some (val j))/\∀j,j<cs.length->cL x.G (cs.getD j .undef) (val j):=by
 cases h with
 |dat _ _ h _=>cases h with|pp _ b off val y h=>exact⟨b,off,val,rfl,y,h⟩
theorem Rep.nilp_inv{v:Value}(h:Rep x .nilp v):v= .pointer none:=by
 cases h with|dat _ _ h _=>cases h;rfl
theorem Rep.nili_inv{v:Value}(h:Rep x .nili v):v= .nilIface:=by
 cases h with|dat _ _ h _=>cases h;rfl
theorem Rep.byt_inv{l:t7}{t:Tok}{v:Value}(h:Rep x (.byt l t) v):∃b cap,v= .slice b l.length cap/\l.length<=cap/\cL x.G (.byt l t) v/\dk x 1 t v:=by
 cases h with
 |dat _ _ h y=>
  cases h with
  |bytN=>exact⟨none,0,rfl,by simp,.bytN _,y⟩
  |bytE _ a=>exact⟨some a,0,rfl,by simp,.bytE _ a,y⟩
  |byt _ _ b off cap n hn z h=>subst hn;exact⟨_,cap,rfl,z,.byt _ _ b off cap _ rfl z h,y⟩
theorem Rep.lst_inv{z:Nat}{y:f8}{t:Tok}{v:Value}(h:Rep x (.lst z y t) v):∃b cap,v= .slice b y.length cap/\y.length<=cap/\cL x.G (.lst z y t) v/\dk x z t v:=by
 cases h with
 |dat _ _ h E=>
  cases h with
  |lstN=>exact⟨none,0,rfl,by simp,.lstN _ _,E⟩
  |lstE _ _ a=>exact⟨some a,0,rfl,by simp,.lstE _ _ a,E⟩
  |lst _ _ _ b off cap n val hn F H I h=>subst hn;exact⟨_,cap,rfl,F,.lst _ _ _ b off cap _ val rfl F H I h,E⟩
theorem cN(k:IntKind)(n:Int):Rep x (.int k n) (.int k n):= .dat _ _ (.int k n) trivial
theorem dw(b:Bool):Rep x (.bool b) (.bool b):= .dat _ _ (.bool b) trivial
theorem nL(b:UInt8):Rep x (.u8 b) (.int .u8 b.toNat):= .dat _ _ (.u8 b) trivial
theorem lc(l:t7):Rep x (.str l) (.string ⟨⟨l⟩⟩):= .dat _ _ (.str l) trivial
theorem Ft{op:BinOp}{t:TypeId}{k:IntKind}{m n:Int}{p:Prop}{c:SV}(h:Sb op k m n=some (p,c))(y:p):
 ∃r,(binOp op t (.int k m) (.int k n)).run P w= .ok r w/\Rep x c r:=by
 cases op<;>simp only[Sb,PP,bl,aq.injEq,bj.injEq,reduceCtorEq]at h<;>obtain⟨rfl,rfl⟩:=h
 ·exact⟨.int k (k.wrap (m+n)),by simp[binOp,Op.intArith],cN _ _⟩
 ·exact⟨.int k (k.wrap (m-n)),by simp[binOp,Op.intArith],cN _ _⟩
 ·exact⟨.int k (k.wrap (m*n)),by simp[binOp,Op.intArith],cN _ _⟩
 ·exact⟨.int k (k.wrap (m.tdiv n)),by simp[binOp,Op.intDiv,y],cN _ _⟩
 ·exact⟨.int k (m.tmod n),by simp[binOp,Op.intDiv,y],cN _ _⟩
 ·exact⟨.int k (bt .and k m n),by simp[binOp,Op.intBits,bt],cN _ _⟩
 ·exact⟨.int k (bt .or k m n),by simp[binOp,Op.intBits,bt],cN _ _⟩
 ·exact⟨.int k (bt .xor k m n),by simp[binOp,Op.intBits,bt],cN _ _⟩
 ·exact⟨.int k (bt .andNot k m n),by simp[binOp,Op.intBits,bt],cN _ _⟩
 ·exact⟨.bool (decide (m=n)),by simp[binOp,pZ];rw[eJ];simp,dw _⟩
 ·exact⟨.bool (decide (m≠n)),by simp[binOp,pZ];rw[eJ];simp,dw _⟩
 ·exact⟨.bool (decide (m<n)),by simp[binOp,pZ],dw _⟩
 ·exact⟨.bool (decide (m<=n)),by simp[binOp,pZ],dw _⟩
 ·exact⟨.bool (decide (m>n)),by simp[binOp,pZ],dw _⟩
 ·exact⟨.bool (decide (m≥n)),by simp[binOp,pZ],dw _⟩
theorem fJ(n:Int):fu.wrap n=n % 256:=by simp[IntKind.wrap,IntKind.bits,IntKind.signed]
theorem up(n:Int):((ct n).toNat:Int)=n % 256:=by rw[ct,<-UInt8.toNat_toBitVec];simp;omega
theorem lq(b:UInt8):b.toNat<256:=b.toNat_lt
theorem Dg{op:BinOp}{t:TypeId}{a b:UInt8}{p:Prop}{c:SV}(h:D3 op a b=some (p,c))(E:p):
 ∃r,(binOp op t (.int .u8 a.toNat) (.int .u8 b.toNat)).run P w= .ok r w/\Rep x c r:=by
 have F:=lq a;have H:=lq b;have R:∀(r:UInt8)(v:Value),v= .int .u8 r.toNat->Rep x (.u8 r) v:=fun r v e=>e ▸ nL r
 have B:∀(r:Bool)(v:Value),v= .bool r->Rep x (.bool r) v:=fun r v e=>e ▸ dw r
 cases op<;>simp only[D3,aq.injEq,bj.injEq,reduceCtorEq]at h<;>obtain⟨rfl,rfl⟩:=h
 ·exact⟨.int .u8 (fu.wrap (a.toNat+b.toNat)),by simp[binOp,Op.intArith],R _ _ (by rw[fJ,UInt8.toNat_add];simp)⟩
 ·refine⟨.int .u8 (fu.wrap (a.toNat-b.toNat)),by simp[binOp,Op.intArith],R _ _ (by rw[fJ,UInt8.toNat_sub];congr 1;omega)⟩
 ·exact⟨.int .u8 (fu.wrap (a.toNat*b.toNat)),by simp[binOp,Op.intArith],R _ _ (by rw[fJ,UInt8.toNat_mul];simp)⟩
 ·have hb0:¬((b.toNat:Int)=0):=by intro e;exact E (UInt8.toNat_inj.1 (by simpa using e))
  refine⟨.int .u8 (fu.wrap ((a.toNat:Int).tdiv b.toNat)), ?_,R _ _ ?_⟩
  ·simp only[binOp,Op.intDiv];rw[if_neg (fun e=>e rfl),if_neg hb0];rfl
  rw[fJ,UInt8.toNat_div,Int.tdiv_eq_ediv_of_nonneg (by omega)];have:=Nat.div_le_self a.toNat b.toNat;rw[<-Int.natCast_ediv];simp only[Value.int.injEq,true_and];generalize a.toNat/b.toNat=q at*;omega
 ·have hb0:¬((b.toNat:Int)=0):=by intro e;exact E (UInt8.toNat_inj.1 (by simpa using e))
  refine⟨.int .u8 ((a.toNat:Int).tmod b.toNat), ?_,R _ _ ?_⟩
  ·simp only[binOp,Op.intDiv];rw[if_neg (fun e=>e rfl),if_neg hb0];rfl
  rw[UInt8.toNat_mod,Int.tmod_eq_emod_of_nonneg (by omega)];simp
 all_goals have z:BitVec.ofInt fu.bits (a.toNat:Int)=a.toBitVec:=by rw[BitVec.ofInt_natCast];exact BitVec.ofNat_toNat _ _
 all_goals have y:BitVec.ofInt fu.bits (b.toNat:Int)=b.toBitVec:=by rw[BitVec.ofInt_natCast];exact BitVec.ofNat_toNat _ _
 ·refine⟨.int .u8 (bt .and .u8 a.toNat b.toNat),by simp[binOp,Op.intBits,bt],R _ _ ?_⟩
  have:=lq (a&&&b);simp only[bt];rw[z,y,fJ];change Value.int .u8 ((((a&&&b).toNat:Nat):Int) % 256)=_
  congr 1;omega
 ·refine⟨.int .u8 (bt .or .u8 a.toNat b.toNat),by simp[binOp,Op.intBits,bt],R _ _ ?_⟩
  have:=lq (a|||b);simp only[bt];rw[z,y,fJ];change Value.int .u8 ((((a|||b).toNat:Nat):Int) % 256)=_
  congr 1;omega
 ·refine⟨.int .u8 (bt .xor .u8 a.toNat b.toNat),by simp[binOp,Op.intBits,bt],R _ _ ?_⟩
  have:=lq (a^^^b);simp only[bt];rw[z,y,fJ];change Value.int .u8 ((((a^^^b).toNat:Nat):Int) % 256)=_
  congr 1;omega
 ·refine⟨.int .u8 (bt .andNot .u8 a.toNat b.toNat),by simp[binOp,Op.intBits,bt],R _ _ ?_⟩
  have:=lq (a&&& ~~~b);simp only[bt];rw[z,y,fJ];change Value.int .u8 ((((a&&& ~~~b).toNat:Nat):Int) % 256)=_
  congr 1;omega
 all_goals clear z y
 ·exact⟨.bool ((a.toNat:Int)==b.toNat),by simp[binOp,pZ],B _ _ (by congr 1;rw[eJ];simp[<-UInt8.toNat_inj];try omega)⟩
 ·exact⟨.bool ((a.toNat:Int) !=b.toNat),by simp[binOp,pZ],B _ _ (by congr 1;rw[eJ];simp[<-UInt8.toNat_inj];try omega)⟩
 ·exact⟨.bool (decide ((a.toNat:Int)<b.toNat)),by simp[binOp,pZ],B _ _ (by congr 1;rw[eJ];simp[sk])⟩
 ·exact⟨.bool (decide ((a.toNat:Int)<=b.toNat)),by simp[binOp,pZ],B _ _ (by congr 1;rw[eJ];simp[UInt8.le_iff_toNat_le])⟩
 ·exact⟨.bool (decide ((a.toNat:Int)>b.toNat)),by simp[binOp,pZ],B _ _ (by congr 1;rw[eJ];simp[sk])⟩
 ·exact⟨.bool (decide ((a.toNat:Int)≥b.toNat)),by simp[binOp,pZ],B _ _ (by congr 1;rw[eJ];simp[UInt8.le_iff_toNat_le])⟩
theorem Fp{op:BinOp}{t:TypeId}{l m:t7}{p:Prop}{c:SV}(h:Tp op l m=some (p,c))(F:p):
 ∃r,(binOp op t (.string ⟨⟨l⟩⟩) (.string ⟨⟨m⟩⟩)).run P w= .ok r w/\Rep x c r:=by
 have y:∀l:t7,(ByteArray.mk ⟨l⟩).toList=l:=fun l=>by rw[ByteArray.toList_eq]
 have E:(l==m)=decide (l=m):=by rw[eJ];simp
 cases op<;>simp only[Tp,aq.injEq,bj.injEq,reduceCtorEq]at h<;>obtain⟨rfl,rfl⟩:=h
 ·refine⟨.string ⟨⟨l++m⟩⟩, ?_,lc _⟩
  simp only[binOp,Op.stringOp]
  have z:((((ByteArray.mk ⟨l⟩).size+(ByteArray.mk ⟨m⟩).size:Nat):Int)>af.max)=False:=by rw[IntKind.max_i64];simp only[ByteArray.size,eq_iff_iff,iff_false];simp;omega
  simp only[z,if_false];rw[show(ByteArray.mk ⟨l⟩++ByteArray.mk ⟨m⟩)=ByteArray.mk ⟨l++m⟩from by apply ByteArray.ext;simp];rfl
 all_goals refine⟨_,by simp only[binOp,Op.stringOp,y,E];rfl, ?_⟩
 ·exact dw _
 ·rw[show decide (l≠m)= !decide (l=m)from by simp];exact dw _
 all_goals exact dw _
theorem Fl{op:BinOp}{t:TypeId}{k:IntKind}{a:UInt8}{b:Int}{p:Prop}{c:SV}(h:Tn op a b=some (p,c))(E:p):
 ∃r,(binOp op t (.int .u8 a.toNat) (.int k b)).run P w= .ok r w/\Rep x c r:=by
 have y:=lq a;have R:∀(r:UInt8)(v:Value),v= .int .u8 r.toNat->Rep x (.u8 r) v:=fun r v e=>e ▸ nL r
 cases op<;>simp only[Tn,aq.injEq,bj.injEq,reduceCtorEq]at h<;>obtain⟨rfl,rfl⟩:=h
 ·refine⟨.int .u8 (fu.wrap ((a.toNat:Int)*2^(min b.toNat fu.bits))),by simp only[binOp,Op.shift];rw[if_neg (by omega)];rfl,R _ _ ?_⟩
  rw[fJ,UInt8.toNat_ofNat'];have e:((a.toNat:Int)*2^(min b.toNat fu.bits))=((a.toNat*2^(min b.toNat 8):Nat):Int):=by rw[Int.natCast_mul,Int.natCast_pow];rfl
  rw[e];rfl
 ·refine⟨.int .u8 ((a.toNat:Int).fdiv (2^(min b.toNat fu.bits))),by simp only[binOp,Op.shift];rw[if_neg (by omega)];rfl,R _ _ ?_⟩
  have e:(a.toNat:Int).fdiv (2^(min b.toNat fu.bits))=((a.toNat/2^(min b.toNat 8):Nat):Int):=by rw[show((2:Int)^(min b.toNat fu.bits))=((2^(min b.toNat 8):Nat):Int)from by rw[Int.natCast_pow];rfl];rw[qP _ (Int.natCast_nonneg _),Int.natCast_ediv]
  have z:a.toNat/2^(min b.toNat 8)<256:=Nat.lt_of_le_of_lt (Nat.div_le_self _ _) y;rw[e,UInt8.toNat_ofNat',dp z]
theorem Rc{op:BinOp}{t:TypeId}{X Y:Operand}{u v:SV}{a b:Value}{p:Prop}{c:SV}(hu:Rep x u a)(F:Rep x v b)(h:xc op u v=some (p,c))(H:p):
 ∃r,(do eqGuard op t X Y a b;binOp op t a b:Sem Value).run P w= .ok r w/\Rep x c r:=by
 cases u<;>cases v<;>simp only[xc]at h<;>try (cases h;done)
 ·rename_i k m J n
  have y:=hu.int_inv;have z:=F.int_inv;subst y;subst z;rw[show eqGuard op t X Y (.int k m) (.int J n)=pure ()from by cases op<;>rfl];simp only[ay,aD,aj]
  by_cases L:op= .shl\/op= .shr
  ·rcases L with rfl|rfl
   ·simp only[tT,aq.injEq,bj.injEq]at h
    obtain⟨rfl,rfl⟩:=h;exact⟨_,by simp only[binOp,Op.shift];rw[if_neg (by omega)];rfl,cN _ _⟩
   ·simp only[tT,aq.injEq,bj.injEq]at h
    obtain⟨rfl,rfl⟩:=h;exact⟨_,by simp only[binOp,Op.shift];rw[if_neg (by omega)];rfl,cN _ _⟩
  ·have I:(if k=J then Sb op k m n else none)=some (p,c):=by
    cases op<;>simp at L<;>exact h
   split at I
   ·rename_i O;subst O;exact Ft I H
   ·cases I
 ·rename_i b1 k2 E
  have y:=hu.u8_inv;have z:=F.int_inv;subst y;subst z;rw[show eqGuard op t X Y (.int .u8 b1.toNat) (.int k2 E)=pure ()from by cases op<;>rfl];simp only[ay,aD,aj];exact Fl h H
 ·rename_i b1 E
  have y:=hu.u8_inv;have z:=F.u8_inv;subst y;subst z;rw[show eqGuard op t X Y (.int .u8 b1.toNat) (.int .u8 E.toNat)=pure ()from by cases op<;>rfl];simp only[ay,aD,aj];exact Dg h H
 ·rename_i b1 E
  have y:=hu.str_inv;have z:=F.str_inv;subst y;subst z;rw[show eqGuard op t X Y (.string ⟨⟨b1⟩⟩) (.string ⟨⟨E⟩⟩)=pure ()from by cases op<;>rfl];simp only[ay,aD,aj];exact Fp h H
end Go.Sy
namespace Go.Sy
variable [aX]
variable {P : Program} {C : Ctx} {x : Sit} {s : St} {a : Act} {w : World}
theorem cO{t:TypeId}{n:Nat}(h:fi P t=some n)(w:World):(sizeOf t).run P w= .ok n w:=by
 unfold fi at h;cases hi:P.info? t with
 |none=>simp[hi]at h
 |some i=>simp[hi]at h;subst h;simp[sizeOf,run_typeInfo w hi]
theorem kt{t:TypeId}{b:Bool}(h:qB P t=some b)(w:World):(isAgg t).run P w= .ok b w:=by
 unfold qB at h;cases hd:P.underlying t with
 |none=>simp[hd]at h
 |some d=>simp[hd]at h;subst h;unfold isAgg;simp only[ay,run_underlying hd,aj];split<;>first|rfl|(cases d<;>simp_all)
theorem cI{E:Nat}(F:f8)(h:∀y∈F,y.length=E)(k:Nat)(J:k<F.length*E):
 F.flatten.getD k .undef=(F.getD (k/E) []).getD (k % E) .undef:=by
 induction F generalizing k with
 |nil=>simp at J
 |cons y r U=>
  have O:=h y (by simp)
  have L:0<E:=by
   rcases gj E with I|I;· subst I;simp at J
   ·exact I
  simp only[cE,aa]
  by_cases H:k<E
  ·rw[bc (by omega),xx H,dp H]
   simp
  ·rw[bq (by omega),O]
   have:=U (fun z hz=>h z (am _ hz)) (k-E) (by simp only[aA,dJ]at J;omega);simp only[aa]at this;rw[this];have Q:k/E=(k-E)/E+1:=by rw[<-Nat.add_div_right _ L];congr 1;omega
   have T:k % E=(k-E) % E:=(Nat.mod_eq_sub_mod (by omega));rw[Q,T];simp
def CM(x:Sit)(w:World)(b off n:Nat)(cs:LAa):Prop:=
 n<=cs.length/\∀j,j<n->∃v,w.cell? ⟨b,off+j,none⟩=some v/\Rep x (cs.getD j .undef) v
theorem oP{b off n:Nat}{cs:LAa}{t:TypeId}{E:Bool}(h:CM x w b off n cs)(hn:fi P t=some n)(z:qB P t=some E)(I:(E||n==1)=true):
 ∃v,(loadVar t ⟨b,off,none⟩).run P w= .ok v w/\Rep x (dt E n cs) v:=by
 obtain⟨O,H⟩:=h
 have L:∀j,j<n->w.cell? ((⟨b,off,none⟩:Addr).add j)=some ((w.cell? ⟨b,off+j,none⟩).getD undef):=by intro j J;obtain⟨v,y,_⟩:=H j J;rw[da,y];rfl
 cases E with
 |true=>
  refine⟨.agg ((bU n).map fun j=>(w.cell? ⟨b,off+j,none⟩).getD undef).toArray, ?_, ?_⟩
  ·simp only[loadVar,ay,kt z,aj,if_true,cO hn,run_loadCells w _ n _ L,aD]
  ·simp only[dt,if_true]
   refine .agg _ _ (by simp;omega) fun i hi=> ?_
   have hi:i<n/\i<cs.length:=by simp only[aw]at hi;omega
   obtain⟨v,y,F⟩:=H i hi.1;rw[aa,bJ,if_pos hi.1,<-aa]
   have:((bU n).map fun j=>(w.cell? ⟨b,off+j,none⟩).getD undef).getD i undef=v:=by rw[aa];simp[hi.1,y]
   rw[this];exact F
 |false=>simp at I;subst I;obtain⟨v,y,F⟩:=H 0 (by omega);refine⟨v, ?_,by simpa[dt]using F⟩;rw[dL]at y;simp only[loadVar,ay,kt z,aj,aJ,if_false,run_load,y]
theorem ei(hM:aL C x s a w){o:Nat}{obj:aC}(h:s.look o=some obj):dO x w o obj:=(hM.heap.obs _ (cR h)).1
theorem dO.cell{o:Nat}{obj:aC}(h:dO x w o obj){k:Nat}(E:k<obj.size):∃v,w.cell? ⟨(x.bk o).1,k,none⟩=some v/\co x obj k v:=by obtain⟨c,e,fl,fh,z,F,y⟩:=h;refine⟨c.getD k undef, ?_,y k E⟩;rw[z.cell,bh,gK (by omega)];rfl
theorem co.data{obj:aC}(y:∀cs,obj≠ .rc cs){k:Nat}{v:Value}(h:co x obj k v):Rep x (obj.cell k).data v:=by
 cases obj with
 |rc cs=>exact absurd rfl (y cs)
 |arr E z=>exact cL.rep h
 |bar l=>exact cL.rep h
theorem gi(cs:LAa)(j:Nat):(cs.map SV.data).getD j .undef=(cs.getD j .undef).data:=aU _ rfl _ _
theorem kJ{α:Type}(cs:List α)(j k:Nat)(d:α):(cs.drop j).getD k d=cs.getD (j+k) d:=by simp[aa,br]
theorem lC(hM:aL C x s a w){u c:SV}{v:Value}{n:Nat}{ag:Bool}{p:Prop}(hu:Rep x u v)(h:iC s n ag u=some (p,c))(L:p):
 ∃b off cs,v= .pointer (some ⟨b,off,none⟩)/\c=dt ag n cs/\CM x w b off n cs:=by
 cases u with
 |pp cs=>simp only[iC,aq.injEq,bj.injEq]at h;obtain⟨rfl,rfl⟩:=h;obtain⟨b,off,val,rfl,hg,hr⟩:=hu.pp_inv;refine⟨b,off,_,rfl,rfl,by simpa using L,fun j U=>⟨val j,hM.heap.per _ _ _ (hg j (by omega)), ?_⟩⟩;rw[gi];exact(hr j (by omega)).rep
 |ptr o off=>
  have Q:=hu.ptr_inv;simp only[iC]at h;cases hl:s.look o with
  |none=>simp[hl]at h
  |some obj=>
   have E:=ei hM hl;cases obj with
   |rc cs=>simp only[hl,aq.injEq,bj.injEq]at h;obtain⟨rfl,rfl⟩:=h;refine⟨_,off,_,Q,rfl,by simp;omega,fun j U=> ?_⟩;obtain⟨v,I,F⟩:=E.cell (k:=off+j) (by simp only[aC.size];omega);exact⟨v,I,by rw[kJ];exact F⟩
   |arr H O=>
    simp only[hl]at h;split at h
    ·rename_i W;subst W
     simp only[aq.injEq,bj.injEq]at h;obtain⟨rfl,rfl⟩:=h
     have J:O.flatten.length=O.length*H:=by
      have F:=L.2;clear L hl E;induction O with
      |nil=>simp
      |cons y r ih=>simp only[cE,ac,aA,dJ];rw[ih (fun z hz=>F z (am _ hz)),F y (by simp)];omega
     refine⟨_,0,_,Q,rfl,by rw[aS];exact L.1,fun j U=> ?_⟩;have T:j<O.length*H:=by rw[<-J];omega
     obtain⟨v,I,F⟩:=E.cell (k:=j) (by simpa only[aC.size]using T);refine⟨v,by rw[cj];exact I, ?_⟩;rw[gi,cI O L.2 j T];exact F.data (by intro cs;simp)
    ·cases h
   |bar l=>
    simp only[hl]at h;split at h
    ·rename_i W;subst W
     simp only[aq.injEq,bj.injEq]at h;obtain⟨rfl,rfl⟩:=h;refine⟨_,0,_,Q,rfl,by simpa using L,fun j U=> ?_⟩;obtain⟨v,I,F⟩:=E.cell (k:=j) (by simp only[aC.size];omega);refine⟨v,by rw[cj];exact I, ?_⟩
     have:(l.map SV.u8).getD j .undef= .u8 (l.getD j 0):=by simp only[aa,aP];rw[ab (by omega)];rfl
     rw[this];exact F.data (by intro cs;simp)
    ·cases h
 |ap o H i j=>
  have Q:=hu.ap_inv;simp only[iC]at h;cases hl:s.look o with
  |none=>simp[hl]at h
  |some obj=>
   have E:=ei hM hl;cases obj with
   |rc cs=>simp[hl]at h
   |arr a0 O=>
    simp only[hl,aq.injEq,bj.injEq]at h;obtain⟨rfl,rfl⟩:=h;obtain⟨rfl,hi,U,J⟩:=L;refine⟨_,_,_,Q,rfl,by rw[aS,aI];omega,fun k hk=> ?_⟩
    have Z:i*H+(j+k)<O.length*H:=by have:=bv H (Nat.succ_le_of_lt hi);rw[dJ]at this;omega
    obtain⟨v,I,F⟩:=E.cell (k:=i*H+(j+k)) (by simpa only[aC.size]using Z);refine⟨v,by rw[dH];exact I, ?_⟩;rw[gi,kJ];have h3:=F.data (by intro cs;simp);simp only[aC.cell]at h3
    rwa[show(i*H+(j+k))/H=i from by rw[cm,Nat.mul_add_div (by omega),xx (by omega)];rfl,
     show(i*H+(j+k)) % H=j+k from by rw[cm,Nat.mul_add_mod,dp (by omega)]]at h3
   |bar l=>
    simp only[hl,aq.injEq,bj.injEq]at h;obtain⟨rfl,rfl⟩:=h;obtain⟨rfl,rfl,rfl,hi⟩:=L;refine⟨_,_,_,Q,rfl,by simp,fun k hk=> ?_⟩;obtain rfl:k=0:=by omega
    obtain⟨v,I,F⟩:=E.cell (k:=i) (by simpa only[aC.size]using hi);exact⟨v,by simpa using I,F.data (by intro cs;simp)⟩
 |_=>simp[iC]at h
end Go.Sy
namespace Go.Sy
variable [aX]
variable {P : Program} {C : Ctx} {x : Sit} {s : St} {a : Act} {w : World} {o : Oper} {so : SOp} {p : Prop} {c : SV}
theorem uu(hM:aL C x s a w){X:Operand}(h:o.op= .move X\/o.op= .assign X)(F:bn P o=some so)(E:val s so=some (p,c)):cg P C o a w (s.put o.dst c):=by
 have y:(bm P o.type X).map SOp.mov=some so:=by rcases h with h|h<;>simpa only[bn,h]using F
 obtain⟨r,z,rfl⟩:=ah.1 y;simp only[val,aq.injEq,bj.injEq]at E;obtain⟨_,rfl⟩:=E;exact⟨a.eval X,w,x,.value (a.eval X),by rcases h with h|h<;>simp only[execOp,h]<;>rfl,.inl rfl,hM.put o.dst (aK hM z)⟩
theorem ES(hM:aL C x s a w){t:TypeId}{X:Operand}(I:o.op= .load t X)(h:bn P o=some so)(H:val s so=some (p,c))(O:p):cg P C o a w (s.put o.dst c):=by
 simp only[bn,I]at h;split at h<;>try (cases h;done)
 rename_i n Q r hn E F;split at h<;>try (cases h;done)
 rename_i J;cases h;simp only[val]at H;obtain⟨b,off,cs,hX,rfl,L⟩:=lC hM (aK hM F) H O;obtain⟨v,y,z⟩:=oP (P:=P) L hn E J;refine cg.val hM (m:=Instr.loadAt t (a.eval X)) (by simp only[execOp,I]) ?_ z;rw[hX];simp only[Instr.loadAt,Instr.sureAddr,ay,aD,aj];exact y
theorem r9(hM:aL C x s a w){X:Operand}(z:o.op= .nilCheck X)(H:bn P o=some so)(y:val s so=some (p,c)):cg P C o a w (s.put o.dst c):=by
 simp only[bn,z]at H;obtain⟨r,F,rfl⟩:=ah.1 H;have h:=aK hM F;simp only[val]at y;cases hu:s.ev r with
 |ptr I off=>rw[hu]at y h;simp only[aq.injEq,bj.injEq]at y;obtain⟨_,rfl⟩:=y;exact⟨a.eval X,w,x,.value (a.eval X),by simp only[execOp,z];rw[h.ptr_inv];rfl,.inl rfl,hM.put o.dst h⟩
 |ap I L i j=>rw[hu]at y h;simp only[aq.injEq,bj.injEq]at y;obtain⟨_,rfl⟩:=y;exact⟨a.eval X,w,x,.value (a.eval X),by simp only[execOp,z];rw[h.ap_inv];rfl,.inl rfl,hM.put o.dst h⟩
 |pp cs=>rw[hu]at y h;simp only[aq.injEq,bj.injEq]at y;obtain⟨_,rfl⟩:=y;obtain⟨b,off,val,E,_⟩:=h.pp_inv;exact⟨a.eval X,w,x,.value (a.eval X),by simp only[execOp,z];rw[E];rfl,.inl rfl,hM.put o.dst h⟩
 |fn f c1 c2=>rw[hu]at y h;simp only[aq.injEq,bj.injEq]at y;obtain⟨_,rfl⟩:=y;obtain⟨v1,J,E,_⟩:=h.fn_inv;exact⟨a.eval X,w,x,.value (a.eval X),by simp only[execOp,z];rw[E];rfl,.inl rfl,hM.put o.dst h⟩
 |_=>rw[hu]at y;simp at y
theorem CS(hM:aL C x s a w){op:BinOp}{t u:TypeId}{X Y:Operand}(ho:o.op= .binOp op t X Y u)(z:bn P o=some so)(W:∀E n x y,so≠ .eqS E n x y)(h:val s so=some (p,c))(hp:p):cg P C o a w (s.put o.dst c):=by
 have I:execOp a.eval o=(do pure (.value (<-(do eqGuard op t X Y (a.eval X) (a.eval Y);binOp op t (a.eval X) (a.eval Y):Sem Value)))):=by simp only[execOp,ho]
 simp only[bn,ho]at z;split at z<;>try (cases z;done)
 ·rename_i x' y' hb O U
  have L:=aK hM O;have h2:=aK hM U
  have H:∀E:Bool,op=(if E then .neq else .eql)->val s (.beq E x' y')=some (p,c)->cg P C o a w (s.put o.dst c):=by
   intro E F h;simp only[val]at h;cases hu:s.ev x' with
   |bool b1=>
    cases hw:s.ev y' with
    |bool J=>
     rw[hu,hw]at h;rw[hu]at L;rw[hw]at h2;simp only[aq.injEq,bj.injEq]at h;obtain⟨_,rfl⟩:=h;refine cg.val hM I (u:= .bool (if E then decide (b1≠J)else decide (b1=J))) ?_ (dw _);rw[L.bool_inv,h2.bool_inv,show eqGuard op t X Y (.bool b1) (.bool J)=pure ()from by cases op<;>rfl];simp only[ay,aD,aj];cases E<;>simp only[aJ,if_false,if_true]at F<;>subst F
     ·rw[run_eql_bool w t b1 J hb];cases b1<;>cases J<;>rfl
     ·rw[run_neq_bool w t b1 J hb];cases b1<;>cases J<;>rfl
    |_=>rw[hu,hw]at h;simp at h
   |_=>rw[hu]at h;simp at h
  split at z<;>try (cases z;done)
  ·cases z;exact H false rfl h
  ·cases z;exact H true rfl h
 case h_4=>
  exfalso;split at z<;>try (cases z;done)
  split at z<;>try (cases z;done)
  split at z<;>first|(cases z;done)|(cases z;exact W _ _ _ _ rfl)
 case h_5=>exfalso;split at z<;>first|(cases z;done)|(cases z;simp[val]at h)
 case h_6=>
  rename_i ms x' _ hd O U;have L:=aK hM O
  have H:∀E:Bool,op=(if E then .neq else .eql)->Y= .const .nilIface->val s (.isni E x')=some (p,c)->cg P C o a w (s.put o.dst c):=by
   intro E F hY h;simp only[val]at h;cases hu:s.ev x' with
   |nili=>
    rw[hu]at h L;simp only[aq.injEq,bj.injEq]at h;obtain⟨_,rfl⟩:=h;refine cg.val hM I (u:= .bool (!E)) ?_ (dw _);have Z:a.eval Y= .nilIface:=by rw[hY];rfl
    have hm:P.underlying t=some (.interface (P.methodsAt t)):=by rw[hd];simp[Program.methodsAt,hd]
    rw[L.nili_inv,Z]
    have hg:eqGuard op t X Y .nilIface .nilIface=pure ():=by subst hY;subst F;cases E<;>simp[eqGuard]
    rw[hg];simp only[ay,aD,aj];subst F;cases E
    ·simp only[aJ,if_false];rw[run_eql_nil_nil w t hm];rfl
    ·simp only[if_true];rw[run_neq_nil_nil w t hm];rfl
   |_=>rw[hu]at h;simp at h
  split at z<;>first|(cases z;done)|(cases z;exact H false rfl rfl h)|(cases z;exact H true rfl rfl h)
 all_goals
  rename_i O U;cases z;simp only[val]at h;obtain⟨r,Q,T⟩:=Rc (P:=P) (w:=w) (t:=t) (X:=X) (Y:=Y) (aK hM O) (aK hM U) h hp;exact cg.val hM I Q T
theorem ER(hM:aL C x s a w){op:UnOp}{t:TypeId}{X:Operand}(z:o.op= .unOp op t X)(F:bn P o=some so)(I:val s so=some (p,c)):cg P C o a w (s.put o.dst c):=by
 simp only[bn,z]at F;obtain⟨r,E,rfl⟩:=ah.1 F;have h:=aK hM E;simp only[val]at I;obtain⟨J,y,H⟩:=ah.1 I;simp only[bj.injEq]at H;obtain⟨_,rfl⟩:=H;cases hu:s.ev r with
 |bool b=>rw[hu]at y h;cases op<;>simp only[vK,aq.injEq,reduceCtorEq]at y;subst y;exact cg.val hM (m:=Op.unary .not (a.eval X)) (by simp only[execOp,z]) (by rw[h.bool_inv];rfl) (dw _)
 |int k n=>
  rw[hu]at y h;cases op<;>simp only[vK,aq.injEq,reduceCtorEq]at y<;>subst y
  ·exact cg.val hM (m:=Op.unary .neg (a.eval X)) (by simp only[execOp,z]) (by rw[h.int_inv];rfl) (cN _ _)
  ·exact cg.val hM (m:=Op.unary .xor (a.eval X)) (by simp only[execOp,z]) (by rw[h.int_inv];simp only[Op.unary,Op.intBits];rfl) (cN _ _)
 |_=>rw[hu]at y;simp[vK]at y
theorem sa(hM:aL C x s a w){f:Go.Fn}{X Y:Array Operand}(J:o.op= .makeFunc f X Y)(z:bn P o=some so)(I:val s so=some (p,c)):cg P C o a w (s.put o.dst c):=by
 cases f<;>simp only[bn,J,reduceCtorEq]at z;rename_i g;split at z<;>try (cases z;done)
 rename_i Z l2 Q O;cases z;simp only[val,aq.injEq,bj.injEq]at I;obtain⟨_,rfl⟩:=I
 have y:∀(l:List Operand)(r:List Arg),js (bm P 0) l=some r->cD x (r.map s.ev) (l.map a.eval):=by
  intro l;induction l with
  |nil=>intro r h;simp only[js]at h;cases h;exact⟨rfl,fun i hi=>by simp at hi⟩
  |cons q l U=>
   intro r h;simp only[js]at h;split at h<;>try (cases h;done)
   rename_i b W T E;cases h;have L:=U _ E;refine⟨by simpa using L.1,fun i hi=> ?_⟩;cases i with
   |zero=>simpa using aK hM T
   |succ i=>simpa using L.2 i (by simpa using hi)
 have F:=y _ _ Q;have H:=y _ _ O;refine cg.val hM (m:=Instr.makeFunc (.func g) (X.map a.eval) (Y.map a.eval)) (u:= .func (.func g) ⟨X.toList.map a.eval⟩ ⟨Y.toList.map a.eval⟩) (by simp only[execOp,J]) ?_ ?_
 ·simp only[Instr.makeFunc,aD]
  congr 2<;>(apply dP;simp)
 ·exact .fn g _ _ _ _ F.1 F.2 H.1 H.2
theorem ug(hM:aL C x s a w){X:Operand}{i:Nat}(E:o.op= .extract X i)(F:bn P o=some so)(y:val s so=some (p,c))(I:p):cg P C o a w (s.put o.dst c):=by
 simp only[bn,E]at F;obtain⟨r,z,rfl⟩:=ah.1 F;have h:=aK hM z;simp only[val]at y;cases hu:s.ev r with
 |tup vs=>
  rw[hu]at y h;simp only[aq.injEq,bj.injEq]at y;obtain⟨rfl,rfl⟩:=y;obtain⟨us,J,H⟩:=h.tup_inv;have hi:i<us.length:=by rw[<-H.1];exact I
  refine cg.val hM (m:=Instr.extract (a.eval X) i) (u:=us.getD i undef) (by simp only[execOp,E]) ?_ (H.2 i I);rw[J];simp[Instr.extract,hi,aa]
 |_=>rw[hu]at y;simp at y
theorem p9(hM:aL C x s a w){t:TypeId}{X:Operand}{i:Nat}(E:o.op= .fieldAddr t X i)(z:bn P o=some so)(y:val s so=some (p,c)):cg P C o a w (s.put o.dst c):=by
 simp only[bn,E]at z;split at z<;>try (cases z;done)
 rename_i Z r H I;split at z<;>try (cases z;done)
 rename_i f T;split at z<;>try (cases z;done)
 rename_i n hn;split at z
 ·cases z
 rename_i hn0;cases z;have h:=aK hM I
 have run:∀b off,a.eval X= .pointer (some ⟨b,off,none⟩)->(Instr.fieldAt t (a.eval X) i).run P w= .ok (.pointer (some ⟨b,off+f.offset,none⟩)) w:=by intro b off F;rw[F];simp only[Instr.fieldAt,ay,run_underlying H,aj,T,Instr.sureAddr,aD,fieldPlace,cO hn,if_neg hn0,da]
 simp only[val]at y;cases hu:s.ev r with
 |ptr L off=>rw[hu]at y h;simp only[aq.injEq,bj.injEq]at y;obtain⟨_,rfl⟩:=y;exact cg.val hM (by simp only[execOp,E]) (run _ _ h.ptr_inv) (.ptr L (off+f.offset))
 |ap L U i j=>rw[hu]at y h;simp only[aq.injEq,bj.injEq]at y;obtain⟨_,rfl⟩:=y;refine cg.val hM (by simp only[execOp,E]) (run _ _ h.ap_inv) ?_;rw[dH];exact .ap L U i (j+f.offset)
 |pp cs=>
  rw[hu]at y h;simp only[aq.injEq,bj.injEq]at y;obtain⟨_,rfl⟩:=y;obtain⟨b,off,Q,F,W,O⟩:=h.pp_inv;refine cg.val hM (by simp only[execOp,E]) (run _ _ F) (.dat _ _ (.pp _ b (off+f.offset) (fun j=>Q (f.offset+j)) ?_ ?_) trivial)
  ·intro j J;rw[dH];exact W _ (by simp only[aI]at J;omega)
  ·intro j J;rw[kJ];exact O _ (by simp only[aI]at J;omega)
 |_=>rw[hu]at y;simp at y
theorem uS{cs:LAa}{vs:LAd}(h:cD x cs vs){t:TypeId}{n:Nat}{z:Bool}{off:Nat}(hn:fi P t=some n)(y:qB P t=some z)(E:(z||n==1)=true)(F:off+n<=cs.length):
 ∃v,(part t ⟨vs⟩ off).run P w= .ok v w/\Rep x (dt z n (cs.drop off)) v:=by
 have H:=h.1;cases z with
 |true=>
  refine⟨.agg ⟨(vs.drop off).take n⟩, ?_, ?_⟩
  ·simp only[part,ay,kt y,aj,if_true,cO hn,aD]
   congr 2
   apply dP;simp
  ·simp only[dt,if_true]
   refine .agg _ _ (by simp;omega) fun i hi=> ?_
   have hi:i<n:=by simp only[aw]at hi;omega
   have:=h.get (off+i);simp only[aa,bJ,if_pos hi,br]at this ⊢;exact this
 |false=>
  simp at E;subst E;refine⟨vs.getD off undef, ?_, ?_⟩
  ·simp only[part,ay,kt y,aj,aJ,if_false]
   have:off<vs.length:=by omega
   simp[ab this,aa]
  ·simp only[dt,aJ,if_false,kJ,dL]
   exact h.get off
theorem CQ(hM:aL C x s a w){t:TypeId}{X:Operand}{i:Nat}(J:o.op= .field t X i)(h:bn P o=some so)(z:val s so=some (p,c))(W:p):cg P C o a w (s.put o.dst c):=by
 simp only[bn,J]at h;split at h<;>try (cases h;done)
 rename_i Z r H I;split at h<;>try (cases h;done)
 rename_i f U;split at h<;>try (cases h;done)
 rename_i n ag hn F;split at h<;>try (cases h;done)
 rename_i L;cases h;have y:=aK hM I;simp only[val]at z;cases hu:s.ev r with
 |agg cs=>rw[hu]at z y;simp only[aq.injEq,bj.injEq]at z;obtain⟨rfl,rfl⟩:=z;obtain⟨vs,Q,O⟩:=y.agg_inv;obtain⟨v,E,T⟩:=uS (P:=P) (w:=w) O hn F L W;refine cg.val hM (m:=Instr.field t (a.eval X) i) (by simp only[execOp,J]) ?_ T;rw[Q];simp only[Instr.field,ay,run_underlying H,aj,U,asAgg,aD];exact E
 |_=>rw[hu]at z;simp at z
theorem GB{l:t7}{t:Tok}{v:Value}(h:cL x.G (.byt l t) v)(i:Nat)(hi:i<l.length):∃b off cap,v= .slice (some ⟨b,off,none⟩) l.length cap/\x.G b (off+i)=some (.int .u8 (l.getD i 0).toNat):=by
 cases h with
 |bytN=>simp at hi
 |bytE=>simp at hi
 |byt _ _ b off cap n hn y h=>subst hn;exact⟨b,off,cap,rfl,h i hi⟩
theorem iK{u:SV}{v:Value}{n:Int}(h:Rep x u v)(hn:u.num=some n):∃k,v= .int k n:=by
 cases u<;>simp only[SV.num,aq.injEq,reduceCtorEq]at hn
 ·subst hn;exact⟨_,h.int_inv⟩
 ·subst hn;exact⟨_,h.u8_inv⟩
theorem p7(hM:aL C x s a w){t:TypeId}{X Y:Operand}(ho:o.op= .indexAddr t X Y)(O:bn P o=some so)(h:val s so=some (p,c))(Q:p):cg P C o a w (s.put o.dst c):=by
 have z:execOp a.eval o=(do pure (.value (<-Instr.indexAt t (a.eval X) (a.eval Y)))):=by simp only[execOp,ho]
 simp only[bn,ho]at O;split at O<;>try (cases O;done)
 ·rename_i e r q hd U W
  split at O<;>try (cases O;done)
  rename_i n hn;cases O;have F:=aK hM U;have h2:=aK hM W
  have run:∀(b:Nat)(off len cap:Nat)(k:IntKind)(i:Int),a.eval X= .slice (some ⟨b,off,none⟩) len cap->a.eval Y= .int k i->0<=i->i<len->(Instr.indexAt t (a.eval X) (a.eval Y)).run P w= .ok (.pointer (some ⟨b,off+i.toNat*n,none⟩)) w:=by intro b off len cap k i T hf E H;rw[T,hf];simp only[Instr.indexAt,asIntOf,ay,aD,aj,run_underlying hd,if_pos (And.intro E H),cO hn,da]
  simp only[val]at h;split at h<;>try (cases h;done)
  ·rename_i l tk i hu L
   rw[hu]at F;obtain⟨k,I⟩:=iK h2 L;simp only[aq.injEq,bj.injEq]at h;obtain⟨rfl,rfl⟩:=h;obtain⟨E,H,rfl⟩:=Q;obtain⟨b,off,cap,T,hg⟩:=GB (F.data rfl) i.toNat (by omega);refine cg.val hM z (run b off l.length cap k i T I E H) (.dat _ _ (.pp _ b (off+i.toNat*1) (fun _=> .int .u8 (l.getD i.toNat 0).toNat) ?_ ?_) trivial)
   ·intro j J
    obtain rfl:j=0:=by simpa using J
    simpa using hg
   ·intro j J
    obtain rfl:j=0:=by simpa using J
    exact .u8 _
  ·rename_i a2 xs tk i hu L
   rw[hu]at F;obtain⟨k,I⟩:=iK h2 L;simp only[aq.injEq,bj.injEq]at h;obtain⟨rfl,rfl⟩:=h;obtain⟨E,H,rfl⟩:=Q;have y:=F.data rfl;cases hXv:a.eval X with
   |slice ad len cap=>
    rw[hXv]at y;cases y with
    |lstN=>simp at H;omega
    |lstE=>simp at H;omega
    |lst _ _ _ b off a3 n' vl a5 hc hl hg hh=>
     have Z:i.toNat<len:=by omega
     have a4:=hl _ Z;refine cg.val hM z (run b off len cap k i hXv I E (by omega)) (.dat _ _ (.pp _ b (off+i.toNat*n) (fun j=>vl i.toNat j) ?_ ?_) trivial)
     ·intro j J;exact hg _ _ Z (by omega)
     ·intro j J;exact hh _ _ Z (by omega)
   |_=>rw[hXv]at y;cases y
  ·rename_i o' a2 off kk cp i hu L
   rw[hu]at F;obtain⟨k,I⟩:=iK h2 L;simp only[aq.injEq,bj.injEq]at h;obtain⟨rfl,rfl⟩:=h;obtain⟨E,H,rfl⟩:=Q;obtain⟨cp,a6,_,a1,T,a0⟩:=F.psl_inv;refine cg.val hM z (run _ a1 kk _ k i T I E H) ?_;rcases a0 with h'|rfl
   ·omega
   ·rw[<-bA]
    exact .ap o' n (off+i.toNat) 0
 ·rename_i kk e r q hd U W
  split at O<;>try (cases O;done)
  rename_i n hn;cases O;have F:=aK hM U;have h2:=aK hM W
  have run:∀(b:Nat)(off:Nat)(k:IntKind)(i:Int),a.eval X= .pointer (some ⟨b,off,none⟩)->a.eval Y= .int k i->0<=i->i<kk->(Instr.indexAt t (a.eval X) (a.eval Y)).run P w= .ok (.pointer (some ⟨b,off+i.toNat*n,none⟩)) w:=by intro b off k i T hf E H;rw[T,hf];simp only[Instr.indexAt,asIntOf,Instr.sureAddr,ay,aD,aj,run_underlying hd,if_pos (And.intro E H),cO hn,da]
  simp only[val]at h;split at h<;>try (cases h;done)
  ·rename_i o' off i hu L
   rw[hu]at F;obtain⟨k,I⟩:=iK h2 L;split at h<;>try (cases h;done)
   ·simp only[aq.injEq,bj.injEq]at h;obtain⟨rfl,rfl⟩:=h
    exact cg.val hM z (run _ off k i F.ptr_inv I Q.1 Q.2) (.ptr o' _)
   ·split at h<;>try (cases h;done)
    rename_i E;subst E;simp only[aq.injEq,bj.injEq]at h;obtain⟨rfl,rfl⟩:=h;refine cg.val hM z (run _ 0 k i F.ptr_inv I Q.1 Q.2) ?_;rw[cj];exact .ap o' n i.toNat 0
  ·rename_i cs i hu L
   rw[hu]at F;obtain⟨k,I⟩:=iK h2 L;simp only[aq.injEq,bj.injEq]at h;obtain⟨rfl,rfl⟩:=h;obtain⟨E,H,h4⟩:=Q;have y:=F.data rfl;cases hXv:a.eval X with
   |pointer ad=>
    rw[hXv]at y;cases y with
    |pp _ b off vl hg hh=>
     refine cg.val hM z (run b off k i hXv I E H) (.dat _ _ (.pp _ b (off+i.toNat*n) (fun j=>vl (i.toNat*n+j)) ?_ ?_) trivial)
     ·intro j J
      rw[aI]at J;rw[dH];exact hg _ (by omega)
     ·intro j J
      rw[aI]at J;have:=hh (i.toNat*n+j) (by omega);simp only[aa,br]at this ⊢;exact this
   |_=>rw[hXv]at y;cases y
theorem CP(hM:aL C x s a w){t:TypeId}{X Y:Operand}(Z:o.op= .index t X Y)(y:bn P o=some so)(h:val s so=some (p,c))(hp:p):cg P C o a w (s.put o.dst c):=by
 have H:execOp a.eval o=(do pure (.value (<-Instr.index t (a.eval X) (a.eval Y)))):=by simp only[execOp,Z]
 simp only[bn,Z]at y;split at y<;>try (cases y;done)
 ·rename_i kk e r q hd E F
  split at y<;>try (cases y;done)
  rename_i n ag hn U;split at y<;>try (cases y;done)
  rename_i W;cases y;have J:=aK hM E;have O:=aK hM F;simp only[val]at h;split at h<;>try (cases h;done)
  rename_i cs i hu T;rw[hu]at J;obtain⟨k,Q⟩:=iK O T;simp only[aq.injEq,bj.injEq]at h;obtain⟨rfl,rfl⟩:=h;obtain⟨h0,h3,h4⟩:=hp;obtain⟨vs,he,hl⟩:=J.agg_inv;have z:i.toNat<kk:=by omega
  have hb:i.toNat*n+n<=cs.length:=by rw[h4];have:=bv n (Nat.succ_le_of_lt z);rw[dJ]at this;exact this
  obtain⟨v,I,hc⟩:=uS (P:=P) (w:=w) hl hn U W hb;refine cg.val hM H ?_ hc;rw[he,Q];simp only[Instr.index,asIntOf,ay,aD,aj,run_underlying hd,if_pos (And.intro h0 h3),cO hn];exact I
 ·rename_i r q hd E F
  cases y;have J:=aK hM E;have O:=aK hM F;simp only[val]at h;split at h<;>try (cases h;done)
  rename_i l i hu T;rw[hu]at J;obtain⟨k,Q⟩:=iK O T;simp only[aq.injEq,bj.injEq]at h;obtain⟨rfl,rfl⟩:=h;refine cg.val hM H (u:= .int .u8 (l.getD i.toNat 0).toNat) ?_ (nL _);rw[J.str_inv,Q];have z:i.toNat<l.length:=by omega
  have L:(ByteArray.mk ⟨l⟩)[i.toNat]? =some (l.getD i.toNat 0):=by rw[ByteArray.getElem?_lt' _ _ (by simpa[ByteArray.size]using z),aa,ab z];rfl
  simp only[Instr.index,asIntOf,ay,aD,aj,run_underlying hd,if_pos hp.1,L]
end Go.Sy
namespace Go.Sy
variable [aX]
variable {P : Program} {C : Ctx} {x : Sit} {s : St} {a : Act} {w : World} {o : Oper} {so : SOp} {p : Prop} {c : SV}
theorem jI{k:IntKind}{i:Int}{y:Nat}{code:BoundsCode}(h:0<=i)(z:i<=y):(Instr.sliceBound (.int k i) y code).run P w= .ok i.toNat w:=by simp only[Instr.sliceBound,asIntOf,ay,aD,aj,if_pos (And.intro h z)]
theorem sw{b:Bool}{len cp:Nat}{lo hi z:Option Value}{i j m:Int}(h:0<=i)(H:i<=j)(I:j<=m)(J:m<=cp)
 (E:lo=none/\i=0\/∃k,lo=some (.int k i)) (y:hi=none/\j=len\/∃k,hi=some (.int k j)) (F:z=none/\m=cp\/(∃k,z=some (.int k m))/\hi≠none):
 (Instr.sliceBounds b len cp lo hi z).run P w= .ok (i.toNat,j.toNat,m.toNat) w:=by
 rcases F with⟨rfl,rfl⟩|⟨⟨k,rfl⟩,hne⟩<;>rcases y with⟨rfl,rfl⟩|⟨k',rfl⟩<;>rcases E with⟨rfl,rfl⟩|⟨k'',rfl⟩
 all_goals try exact absurd rfl hne
 all_goals simp only[Instr.sliceBounds,ay,aD,aj]
 ·simp
 ·rw[jI h (by omega)];simp
 ·rw[jI (by omega) (by omega)];simp
 ·rw[jI (by omega) (by omega)];simp only[aj];rw[jI h (by omega)];simp
 ·rw[jI (by omega) (by omega)];simp only[aj];rw[jI (by omega) (by omega)];simp
 ·rw[jI (by omega) (by omega)];simp only[aj];rw[jI (by omega) (by omega)];simp only[aj];rw[jI h (by omega)];simp
theorem fF(hM:aL C x s a w){q:Option Operand}{r:Option Arg}{d i:Int}(y:uU (bm P 0) q=some r)(h:iB s r d=some i):
 q.map a.eval=none/\i=d/\r=none\/(∃k,q.map a.eval=some (.int k i))/\r≠none:=by
 cases q with
 |none=>simp only[uU]at y;cases y;simp only[iB,aq.injEq]at h;exact .inl ⟨rfl,h.symm,rfl⟩
 |some q=>simp only[uU]at y;obtain⟨F,z,rfl⟩:=ah.1 y;simp only[iB]at h;obtain⟨k,E⟩:=iK (aK hM z) h;exact .inr ⟨⟨k,by simp[E]⟩,by simp⟩
theorem uA{I:Nat}{h:Option Addr}{n cp:Nat}{i j m:Int}(Z:0<=i)(W:i<=j)(h3:j<=m)(h4:m<=cp)(h5:j<=n){t:Tok}{hn z:Bool}
 (H:dk x I t (.slice h n cp)) (y:hn=true->z=false->j=n/\m=cp) (E:z=true->j=m):
 dk x I (lJ t hn z) (.slice (if m.toNat=i.toNat then h else h.map (·.add (i.toNat*I))) (j.toNat-i.toNat) (m.toNat-i.toNat)):=by
 unfold lJ;split
 ·rename_i L
  exact⟨_,j.toNat-i.toNat,by rw[E L]⟩
 ·rename_i L
  split
  ·rename_i J
   obtain⟨rfl,rfl⟩:=y J (by simpa using L);cases t with
   |no=>trivial
   |clip=>obtain⟨T,Q,F⟩:=H;simp only[Value.slice.injEq]at F;exact⟨_,_,by rw[F.2.1,F.2.2]⟩
   |id t=>
    obtain⟨T,Q,U,F,J⟩:=H;simp only[Value.slice.injEq]at F;obtain⟨rfl,rfl,rfl⟩:=F;refine⟨_,_,_,rfl, ?_⟩;rcases J with rfl|⟨bb,off,rfl,ht⟩
    ·exact .inl rfl
    ·by_cases O:cp=i.toNat
     ·left;omega
     ·right
      refine⟨bb,off+i.toNat*I,by simp[O,da], ?_⟩;rw[ht];simp only[Int.toNat_natCast,bj.injEq,true_and];constructor
      ·rw[dH,<-bA];congr 2;omega
      ·rw[dH,<-bA];congr 2;omega
  ·trivial
theorem gS{α:Type}(l:List α)(i j k:Nat)(d:α)(h:k+i<j):((l.take j).drop i).getD k d=l.getD (i+k) d:=by simp only[aa,br,bJ];rw[if_pos (by omega)]
theorem uj(hM:aL C x s a w){t e:TypeId}{n:Nat}(hd:P.underlying t=some (.slice e))(hn:fi P e=some n){X:Operand}{lo hi mx:Option Operand}{a5 Q y:Option Arg}{r:Arg}
 (h1:Rep x (s.ev r) (a.eval X)) (b4:uU (bm P 0) lo=some a5) (a9:uU (bm P 0) hi=some Q) (a7:uU (bm P 0) mx=some y) (b2:¬(y.isSome&&Q.isNone)=true)
 (F:jl s n (s.ev r) a5 Q y=some (p,c)) (hp:p):∃v,(Instr.sliceAt t (a.eval X) (lo.map a.eval) (hi.map a.eval) (mx.map a.eval)).run P w= .ok v w/\Rep x c v:=by
 have run:∀(H:Option Addr)(len cp:Nat)(i j m:Int),a.eval X= .slice H len cp->0<=i->i<=j->j<=m->m<=cp->iB s a5 0=some i->iB s Q len=some j->
  (y=none->m=cp)->(y≠none->iB s y cp=some m)->
  (Instr.sliceAt t (a.eval X) (lo.map a.eval) (hi.map a.eval) (mx.map a.eval)).run P w= .ok (.slice (if m.toNat=i.toNat then H else H.map (·.add (i.toNat*n))) (j.toNat-i.toNat) (m.toNat-i.toNat)) w:=by
  intro H len cp i j m he h0 h2 h3 h4 L E b6 c3;rw[he];have e1:=fF hM b4 L;have e2:=fF hM a9 E
  have hb:(Instr.sliceBounds true len cp (lo.map a.eval) (hi.map a.eval) (mx.map a.eval)).run P w= .ok (i.toNat,j.toNat,m.toNat) w:=by
   refine sw h0 h2 h3 h4 ?_ ?_ ?_
   ·rcases e1 with⟨I,q2,_⟩|⟨I,_⟩
    ·exact .inl ⟨I,q2⟩
    ·exact .inr I
   ·rcases e2 with⟨I,q2,_⟩|⟨I,_⟩
    ·exact .inl ⟨I,q2⟩
    ·exact .inr I
   ·by_cases z:y=none
    ·subst z
     have:iB s none (cp:Int)=some (cp:Int):=rfl;rcases fF hM a7 this with⟨I,q2,_⟩|⟨_,q2⟩
     ·exact .inl ⟨I,b6 rfl⟩
     ·exact absurd rfl q2
    ·rcases fF hM a7 (c3 z)with⟨_,_,q⟩|⟨I,_⟩
     ·exact absurd q z
     ·refine .inr ⟨I, ?_⟩
      rcases e2 with⟨I,_,q3⟩|⟨⟨k,I⟩,_⟩
      ·exfalso;apply b2;subst q3;cases y with
       |none=>exact absurd rfl z
       |some _=>rfl
      ·rw[I];simp
  simp only[Instr.sliceAt,Instr.slice,ay,run_underlying hd,aj,hb,cO hn,aD]
 cases hu:s.ev r with
 |byt l tk=>
  rw[hu]at F h1;simp only[jl]at F;split at F<;>try (cases F;done)
  rename_i i j m L E a1;simp only[aq.injEq,bj.injEq]at F;obtain⟨rfl,rfl⟩:=F;obtain⟨q0,I,q2,q3,rfl,q4⟩:=hp;obtain⟨H,cp,he,hc,hD,a2⟩:=h1.byt_inv;rw[he]at hD a2
  obtain⟨O,W,Z,a0,U⟩:∃O:Int,O<=cp/\j<=O/\(y=none->O=cp)/\(y≠none->O=m):=by
   by_cases z:y=none
   ·exact⟨cp,by omega,by omega,fun _=>rfl,fun h=>absurd z h⟩
   ·exact⟨m,by omega,q2,fun h=>absurd h z,fun _=>rfl⟩
  refine⟨_,run H l.length cp i j O he q0 I Z W L E a0 (fun h=> ?_), ?_⟩
  ·rw[U h];cases y with
   |none=>exact absurd rfl h
   |some q=>simpa only[iB]using a1
  ·refine .dat _ _ ?_ ?_
   ·have T:((l.take j.toNat).drop i.toNat).length=j.toNat-i.toNat:=by rw[aI,aw,gM (by omega)]
    cases hD with
    |bytN=>
     have:i.toNat=0/\j.toNat=0/\O.toNat=0:=by simp at q3;omega
     obtain⟨z1,z2,z3⟩:=this;simp only[z1,z2,z3,List.take_nil,List.drop_nil,Option.map_none,ite_self];exact .bytN _
    |bytE _ ad=>
     have:i.toNat=0/\j.toNat=0/\O.toNat=0:=by simp at q3;omega
     obtain⟨z1,z2,z3⟩:=this;simp only[z1,z2,z3,List.take_nil,List.drop_nil,if_true];exact .bytE _ _
    |byt _ _ b off _ _ b7 c6 hg=>
     by_cases J:O.toNat=i.toNat
     ·rw[if_pos J]
      exact .byt _ _ b off _ _ T.symm (by omega) (fun k hk=>by omega)
     ·rw[if_neg J,bl,da]
      refine .byt _ _ b (off+i.toNat*1) _ _ T.symm (by omega) (fun k hk=> ?_);rw[gS _ _ _ _ _ (by omega),db,dH];exact hg _ (by omega)
   ·refine uA q0 I Z W (by omega) a2 ?_ ?_
    ·intro hh hx
     have z:y=none:=by cases y with|none=>rfl|some _=>simp at hx
     have a6:Q=none:=by cases Q with|none=>rfl|some _=>simp at hh
     subst a6;simp only[iB,aq.injEq]at E;exact⟨E.symm,a0 z⟩
    ·intro hx
     have z:y≠none:=by rintro rfl;simp at hx
     rw[U z];exact q4 hx
 |lst a8 l tk=>
  rw[hu]at F h1;simp only[jl]at F;split at F<;>try (cases F;done)
  rename_i i j m L E a1;simp only[aq.injEq,bj.injEq]at F;obtain⟨rfl,rfl⟩:=F;obtain⟨q0,I,q2,q3,rfl,q4⟩:=hp;obtain⟨H,cp,he,hc,hD,a2⟩:=h1.lst_inv;rw[he]at hD a2
  obtain⟨O,W,Z,a0,U⟩:∃O:Int,O<=cp/\j<=O/\(y=none->O=cp)/\(y≠none->O=m):=by
   by_cases z:y=none
   ·exact⟨cp,by omega,by omega,fun _=>rfl,fun h=>absurd z h⟩
   ·exact⟨m,by omega,q2,fun h=>absurd h z,fun _=>rfl⟩
  refine⟨_,run H l.length cp i j O he q0 I Z W L E a0 (fun h=> ?_), ?_⟩
  ·rw[U h];cases y with
   |none=>exact absurd rfl h
   |some q=>simpa only[iB]using a1
  ·refine .dat _ _ ?_ ?_
   ·have T:((l.take j.toNat).drop i.toNat).length=j.toNat-i.toNat:=by rw[aI,aw,gM (by omega)]
    cases hD with
    |lstN=>
     have:i.toNat=0/\j.toNat=0/\O.toNat=0:=by simp at q3;omega
     obtain⟨z1,z2,z3⟩:=this;simp only[z1,z2,z3,List.take_nil,List.drop_nil,Option.map_none,ite_self];exact .lstN _ _
    |lstE _ _ ad=>
     have:i.toNat=0/\j.toNat=0/\O.toNat=0:=by simp at q3;omega
     obtain⟨z1,z2,z3⟩:=this;simp only[z1,z2,z3,List.take_nil,List.drop_nil,if_true];exact .lstE _ _ _
    |lst _ _ _ b off _ _ vl b7 c6 hl hg hh=>
     by_cases J:O.toNat=i.toNat
     ·rw[if_pos J]
      exact .lst _ _ _ b off _ _ vl T.symm (by omega) (fun k hk=>by omega) (fun k j' hk hj=>by omega) (fun k j' hk hj=>by omega)
     ·rw[if_neg J,bl,da]
      refine .lst _ _ _ b (off+i.toNat*n) _ _ (fun k j'=>vl (i.toNat+k) j') T.symm (by omega) (fun k hk=> ?_) (fun k j' hk hj=> ?_) (fun k j' hk hj=> ?_)
      ·rw[gS _ _ _ _ _ (by omega)];exact hl _ (by omega)
      ·rw[show off+i.toNat*n+k*n+j'=off+(i.toNat+k)*n+j' from by rw[bA];omega]
       exact hg _ _ (by omega) hj
      ·rw[gS _ _ _ _ _ (by omega)];exact hh _ _ (by omega) hj
   ·refine uA q0 I Z W (by omega) a2 ?_ ?_
    ·intro hh hx
     have z:y=none:=by cases y with|none=>rfl|some _=>simp at hx
     have a6:Q=none:=by cases Q with|none=>rfl|some _=>simp at hh
     subst a6;simp only[iB,aq.injEq]at E;exact⟨E.symm,a0 z⟩
    ·intro hx
     have z:y≠none:=by rintro rfl;simp at hx
     rw[U z];exact q4 hx
 |psl o' a8 off k b5=>
  cases b5 with
  |none=>
   rw[hu]at F h1;simp only[jl]at F;split at F<;>try (cases F;done)
   rename_i i j L E;simp only[aq.injEq,bj.injEq]at F;obtain⟨rfl,rfl⟩:=F;obtain⟨q0,I,q2,rfl⟩:=hp;obtain⟨cp,c4,a4,he,a3,b8⟩:=h1.psl_invK;refine⟨_,run _ k cp i j cp he q0 I (by omega) (by omega) L E (fun _=>rfl) (fun h=>absurd rfl h), ?_⟩
   by_cases J:(cp:Int).toNat=i.toNat
   ·rw[if_pos J]
    exact .psl o' n _ _ _ a4 _ (.inl (by omega)) (by omega) (fun _ e=>by cases e) (fun _=> .inl (by omega))
   ·rw[if_neg J,bl,da]
    refine .psl o' n _ _ _ _ _ (.inr ?_) (by omega) (fun _ e=>by cases e) (fun _=>b8.imp (fun h=>by omega) fun k1=> ?_)
    rotate_left
    ·have e2:i.toNat*n+((cp:Int).toNat-i.toNat)*n=cp*n:=by rw[<-bA];congr 1;omega
     omega
    rcases a3 with h'|rfl
    ·omega
    ·rw[bA]
  |some c7=>
   rw[hu]at F h1;simp only[jl]at F;split at F<;>try (cases F;done)
   rename_i i j m L E a1;simp only[aq.injEq,bj.injEq]at F;obtain⟨rfl,rfl⟩:=F;obtain⟨q0,I,q2,q3,rfl⟩:=hp;obtain⟨cp,c4,b3,a4,he,a3⟩:=h1.psl_inv;obtain rfl:=b3 _ rfl;refine⟨_,run _ k c7 i j m he q0 I q2 q3 L E (fun h=> ?_) (fun _=>a1), ?_⟩
   ·subst h;simp only[iB,aq.injEq]at a1;exact a1.symm
   ·by_cases J:m.toNat=i.toNat
    ·rw[if_pos J]
     exact .psl o' n _ _ _ a4 _ (.inl (by omega)) (by omega) (fun _ e=>by cases e;rfl) (fun e=>by cases e)
    ·rw[if_neg J,bl,da]
     refine .psl o' n _ _ _ _ _ (.inr ?_) (by omega) (fun _ e=>by cases e;rfl) (fun e=>by cases e);rcases a3 with h'|rfl
     ·omega
     ·rw[bA]
 |_=>rw[hu]at F;simp[jl]at F
end Go.Sy
namespace Go.Sy
variable [aX]
variable {P : Program} {C : Ctx} {x : Sit} {s : St} {a : Act} {w : World} {o : Oper} {so : SOp} {p : Prop} {c : SV}
theorem zE(l:t7)(i j:Nat):(ByteArray.mk ⟨l⟩).extract i j=ByteArray.mk ⟨(l.take j).drop i⟩:=by apply ByteArray.ext;simp[ByteArray.data_extract,List.extract_eq_take_drop,List.drop_take]
theorem CO(hM:aL C x s a w){t:TypeId}{X:Operand}{lo hi O:Option Operand}(ho:o.op= .slice t X lo hi O)(z:bn P o=some so)(y:val s so=some (p,c))(hp:p):cg P C o a w (s.put o.dst c):=by
 have L:execOp a.eval o=(do pure (.value (<-Instr.sliceAt t (a.eval X) (lo.map a.eval) (hi.map a.eval) (O.map a.eval)))):=by simp only[execOp,ho]
 simp only[bn,ho]at z;split at z<;>try (cases z;done)
 rename_i a5 a4 a1 r F J E hX;split at z
 ·cases z
 rename_i Z;split at z<;>try (cases z;done)
 ·rename_i hd
  split at z<;>try (cases z;done)
  rename_i a2;cases z;have U:=aK hM hX;simp only[val]at y;cases hu:s.ev r with
  |str l=>
   rw[hu]at y U;simp only[]at y;split at y<;>try (cases y;done)
   rename_i i j H I;simp only[aq.injEq,bj.injEq]at y;obtain⟨rfl,rfl⟩:=y;obtain⟨q0,q1,q2⟩:=hp;refine cg.val hM L (u:= .string ⟨⟨(l.take j.toNat).drop i.toNat⟩⟩) ?_ (lc _);have e1:=fF hM F H;have e2:=fF hM J I
   have Q:O.map a.eval=none:=by
    cases O with
    |none=>rfl
    |some q=>simp only[uU]at E;obtain⟨_,_,rfl⟩:=ah.1 E;simp at a2
   have hb:(Instr.sliceBounds false l.length l.length (lo.map a.eval) (hi.map a.eval) none).run P w= .ok (i.toNat,j.toNat,(l.length:Int).toNat) w:=
    sw q0 q1 q2 (by omega) (e1.imp (fun h=>⟨h.1,h.2.1⟩) (fun h=>h.1)) (e2.imp (fun h=>⟨h.1,h.2.1⟩) (fun h=>h.1)) (.inl ⟨rfl,rfl⟩)
   rw[U.str_inv,Q];have a3:(ByteArray.mk ⟨l⟩).size=l.length:=by simp[ByteArray.size]
   simp only[Instr.sliceAt,Instr.slice,ay,run_underlying hd,aj,a3,hb,zE,Option.isSome_none,aJ,if_false,aD]
  |_=>rw[hu]at y;simp at y
 ·rename_i e hd
  split at z<;>try (cases z;done)
  rename_i n hn;cases z;simp only[val]at y;obtain⟨v,T,hc⟩:=uj hM hd hn (aK hM hX) F J E Z y hp;exact cg.val hM L T hc
 ·rename_i k e hd
  split at z<;>try (cases z;done)
  rename_i n hn;cases z;have U:=aK hM hX;simp only[val]at y;split at y<;>try (cases y;done)
  rename_i o' hu;rw[hu]at U;simp only[jl]at y;split at y<;>try (cases y;done)
  rename_i i j m H I a0;simp only[aq.injEq,bj.injEq]at y;obtain⟨rfl,rfl⟩:=y;obtain⟨q0,q1,q2,q3,_⟩:=hp;have e1:=fF hM F H;have e2:=fF hM J I;have e3:=fF hM E a0
  have hb:(Instr.sliceBounds false k k (lo.map a.eval) (hi.map a.eval) (O.map a.eval)).run P w= .ok (i.toNat,j.toNat,m.toNat) w:=by
   refine sw q0 q1 q2 q3 (e1.imp (fun h=>⟨h.1,h.2.1⟩) (fun h=>h.1)) (e2.imp (fun h=>⟨h.1,h.2.1⟩) (fun h=>h.1)) ?_;rcases e3 with h|⟨h,h'⟩
   ·exact .inl ⟨h.1,h.2.1⟩
   ·refine .inr ⟨h, ?_⟩
    rcases e2 with⟨_,_,q⟩|⟨⟨_,q⟩,_⟩
    ·exfalso;apply Z;subst q;cases a1 with
     |none=>exact absurd rfl h'
     |some _=>rfl
    ·rw[q];simp
  refine cg.val hM L (u:= .slice (some (if m.toNat=i.toNat then⟨(x.bk o').1,0,none⟩else(⟨(x.bk o').1,0,none⟩:Addr).add (i.toNat*n))) (j.toNat-i.toNat) (m.toNat-i.toNat)) ?_ ?_
  ·rw[U.ptr_inv]
   simp only[Instr.sliceAt,Instr.sureAddr,ay,run_underlying hd,aj,hb,cO hn,aD]
  ·by_cases W:m.toNat=i.toNat
   ·rw[if_pos W]
    exact .psl o' n _ _ _ 0 _ (.inl (by omega)) (by omega) (fun _ e=>by cases e;rfl) (fun e=>by cases e)
   ·rw[if_neg W,da]
    exact .psl o' n _ _ _ _ _ (.inr (by rw[cj,cj])) (by omega) (fun _ e=>by cases e;rfl) (fun e=>by cases e)
theorem fA{h:Call}{b:Builtin}(y:o.op= .call h)(E:h.callee= .builtin b)(m:Sem Value)
 (z:builtin b h.argTypes o.type (h.args.map fun| .const _=>true|_=>false) (h.args.map a.eval)=(do pure (.value (<-m)))):execOp a.eval o=(do pure (.value (<-m))):=by
 rw[<-z];simp only[execOp,y,resolve,E];rfl
theorem Qq(hM:aL C x s a w){E:Call}(J:o.op= .call E)(I:E.callee= .builtin .cap)(F:bn P o=some so)(z:val s so=some (p,c)):cg P C o a w (s.put o.dst c):=by
 simp only[bn,J,I]at F;split at F<;>try (cases F;done)
 rename_i X t hX ht;split at F<;>try (cases F;done)
 rename_i e r hd O;cases F;have H:=aK hM O;have ea:E.args= #[X]:=by apply dP;simpa using hX
 have Z:E.argTypes= #[t]:=by apply dP;simpa using ht
 have run:∀(bs:Option Addr)(n cp:Nat),a.eval X= .slice bs n cp->(Builtin.cap_ E.argTypes o.type (E.args.map a.eval)).run P w= .ok (.int .i64 cp) w:=by intro bs n cp h;rw[ea,Z];simp[Builtin.cap_,run_underlying hd,h,goInt]
 simp only[val]at z;split at z<;>try (cases z;done)
 ·rename_i o' W off n cp hu
  rw[hu]at H;simp only[aq.injEq,bj.injEq]at z;obtain⟨rfl,rfl⟩:=z;obtain⟨cp,_,L,U,h,_⟩:=H.psl_inv;obtain rfl:=L _ rfl;exact cg.val hM (fA J I _ rfl) (run _ _ _ h) (cN _ _)
 ·rename_i l hu
  rw[hu]at H;simp only[aq.injEq,bj.injEq]at z;obtain⟨rfl,rfl⟩:=z;obtain⟨b',cp,h,_,_,Q,T,y⟩:=H.byt_inv;rw[h]at y;simp only[Value.slice.injEq]at y;rw[show cp=l.length from by omega]at h;exact cg.val hM (fA J I _ rfl) (run _ _ _ h) (cN _ _)
 ·rename_i W l hu
  rw[hu]at H;simp only[aq.injEq,bj.injEq]at z;obtain⟨rfl,rfl⟩:=z;obtain⟨b',cp,h,_,_,Q,T,y⟩:=H.lst_inv;rw[h]at y;simp only[Value.slice.injEq]at y;rw[show cp=l.length from by omega]at h;exact cg.val hM (fA J I _ rfl) (run _ _ _ h) (cN _ _)
theorem Qo(hM:aL C x s a w){J:Call}(I:o.op= .call J)(F:J.callee= .builtin .len)(y:bn P o=some so)(h:val s so=some (p,c)):cg P C o a w (s.put o.dst c):=by
 simp only[bn,I,F]at y;split at y<;>try (cases y;done)
 rename_i X t hX ht;have L:J.args= #[X]:=by apply dP;simpa using hX
 have O:J.argTypes= #[t]:=by apply dP;simpa using ht
 split at y<;>try (cases y;done)
 ·rename_i r hd z
  cases y;have E:=aK hM z;simp only[val]at h;cases hu:s.ev r with
  |str l=>
   rw[hu]at h E;simp only[jN,if_true,aq.injEq,bj.injEq]at h;obtain⟨_,rfl⟩:=h;refine cg.val hM (fA I F _ rfl) (u:= .int .i64 l.length) ?_ (cN _ _);rw[L,O];have T:(ByteArray.mk ⟨l⟩).size=l.length:=by simp[ByteArray.size]
   simp only[Builtin.len_,List.map_toArray,aE,cT,xu,List.getElem?_cons_zero,ay,run_underlying hd,aj,E.str_inv,T,goInt];rfl
  |_=>rw[hu]at h;simp[jN]at h
 ·rename_i e r hd z
  cases y;have E:=aK hM z;simp only[val]at h
  have run:∀(bs:Option Addr)(n cp:Nat),a.eval X= .slice bs n cp->(Builtin.len_ J.argTypes o.type (J.args.map a.eval)).run P w= .ok (.int .i64 n) w:=by intro bs n cp H;rw[L,O];simp only[Builtin.len_,List.map_toArray,aE,cT,xu,List.getElem?_cons_zero,ay,run_underlying hd,aj,H,goInt];rfl
  cases hu:s.ev r with
  |byt l tk=>rw[hu]at h E;simp only[jN,aJ,if_false,aq.injEq,bj.injEq]at h;obtain⟨_,rfl⟩:=h;obtain⟨Z,cp,H,_⟩:=E.byt_inv;exact cg.val hM (fA I F _ rfl) (run _ _ _ H) (cN _ _)
  |lst sz l tk=>rw[hu]at h E;simp only[jN,aJ,if_false,aq.injEq,bj.injEq]at h;obtain⟨_,rfl⟩:=h;obtain⟨Z,cp,H,_⟩:=E.lst_inv;exact cg.val hM (fA I F _ rfl) (run _ _ _ H) (cN _ _)
  |psl o' sz off n cp=>rw[hu]at h E;simp only[jN,aJ,if_false,aq.injEq,bj.injEq]at h;obtain⟨_,rfl⟩:=h;obtain⟨cp,_,W,U,H,_⟩:=E.psl_inv;exact cg.val hM (fA I F _ rfl) (run _ _ _ H) (cN _ _)
  |_=>rw[hu]at h;simp[jN]at h
 ·rename_i n e r hd z
  cases y;simp only[val,aq.injEq,bj.injEq]at h;obtain⟨_,rfl⟩:=h;refine cg.val hM (fA I F _ rfl) (u:= .int .i64 n) ?_ (cN _ _);rw[L,O];simp only[Builtin.len_,List.map_toArray,aE,cT,xu,List.getElem?_cons_zero,ay,run_underlying hd,aj,goInt];rfl
 ·rename_i arr r hd z
  split at y<;>try (cases y;done)
  rename_i n e Q;cases y;simp only[val,aq.injEq,bj.injEq]at h;obtain⟨_,rfl⟩:=h;refine cg.val hM (fA I F _ rfl) (u:= .int .i64 n) ?_ (cN _ _);rw[L,O];simp only[Builtin.len_,List.map_toArray,aE,cT,xu,List.getElem?_cons_zero,ay,run_underlying hd,run_underlying Q,aj,goInt];rfl
theorem nZ(hM:aL C x s a w){E:Call}(L:o.op= .call E)(z:E.callee= .builtin .min\/E.callee= .builtin .max)(y:bn P o=some so)(h:val s so=some (p,c)):cg P C o a w (s.put o.dst c):=by
 rcases z with z|z
 all_goals
  simp only[bn,L,z]at y;split at y<;>try (cases y;done)
  rename_i X Y t u hX W;split at y<;>try (cases y;done)
  rename_i r q F H;cases y;have J:=aK hM F;have I:=aK hM H;have Q:E.args= #[X,Y]:=by apply dP;simpa using hX
  simp only[val]at h;split at h<;>try (cases h;done)
  rename_i k m U n hu T;rw[hu]at J;rw[T]at I;split at h<;>try (cases h;done)
  rename_i O;subst O;simp only[aq.injEq,bj.injEq]at h;obtain⟨_,rfl⟩:=h;refine cg.val hM (fA L z _ rfl) ?_ (cN _ _);rw[Q,show(#[X,Y].map a.eval)= #[.int k m,.int k n]from by simp[J.int_inv,I.int_inv]]
  first
   |exact run_min_int2 w _ _ _ _ _ _
   |rw[run_max_int2 w _ _ _ _ _ _]
end Go.Sy
namespace Go.Sy
variable [aX]
variable {P : Program} {C : Ctx} {x : Sit} {s : St} {a : Act} {w : World} {o : Oper} {so : SOp} {p : Prop} {c : SV}
theorem ja{e:TypeId}(h:lF P e=true):P.underlying e=some (.int .u8):=by
 unfold lF at h;split at h
 ·assumption
 ·cases h
theorem Qx(k:IntKind)(b:UInt8)(y:k≠ .i8)(h:k≠ .u8):k.wrap (b.toNat:Int)=b.toNat:=by have:=lq b;cases k<;>simp[IntKind.wrap,IntKind.bits,IntKind.signed]at* <;>omega
theorem wP(ns:t7):∀(s:ByteArray),(ns.map fun b=>(b.toNat:Int)).foldl (fun r n=>r.push (gy n.toNat)) s=⟨⟨s.data.toList++ns⟩⟩:=by
 induction ns with
 |nil=>intro s;simp
 |cons b r h=>intro s;simp only[aE,bS];rw[h];simp[ByteArray.push]
theorem zO{bs:Value}{l:t7}{y dst e:TypeId}(z:P.underlying y=some (.slice e))(E:P.underlying e=some (.int .u8))(hd:P.underlying dst=some .string)
 (h:((∃a,bs= .slice a 0 0)/\l=[])\/∃b off cap,bs= .slice (some ⟨b,off,none⟩) l.length cap/\∀i,i<l.length->w.cell? ⟨b,off+i,none⟩=some (.int .u8 (l.getD i 0).toNat)):
 (convert y dst bs).run P w= .ok (.string ⟨⟨l⟩⟩) w:=by
 rcases h with⟨⟨a,rfl⟩,rfl⟩|⟨b,off,cap,rfl,hc⟩
 ·rw[run_convert_bytes_string w y dst e _ _ _ z E hd];cases a<;>rfl
 ·rw[run_convert_bytes_string w y dst e _ _ _ z E hd]
  have H:(loadCells ⟨b,off,none⟩ l.length).run P w= .ok ((l.map fun b=>(b.toNat:Int)).map (Value.int .u8)).toArray w:=by
   rw[run_loadCells w _ _ (fun i=> .int .u8 (l.getD i 0).toNat) (fun j F=>by rw[da];exact hc j F)]
   congr 2
   apply List.ext_getElem?;intro i
   by_cases hi:i<l.length
   ·simp[hi,aa]
   ·simp[hi]
  rw[run_bytesToString w _ _ _ _ H,wP];rfl
theorem gx(w:World)(cs:LAe)(e:TypeId):((w.alloc (.cells cs e (0,0))).freeze ⟨w.heap.size,cs.size,none⟩ 1).heap=(w.alloc (.cells cs e (cs.size,cs.size+1))).heap:=by
 apply Array.ext_getElem?;intro i;simp only[World.freeze,Nat.one_ne_zero,if_false,World.alloc,Array.getElem?_modify,Array.getElem?_push]
 by_cases h:w.heap.size=i
 ·subst h;simp
 ·rw[if_neg h]
  have:¬i=w.heap.size:=fun e=>h e.symm
  simp[this]
theorem ee{b n:Nat}{e:TypeId}{off:Nat}(h:w.shape? b=some (e,n)):(markStringish ⟨b,off,none⟩).run P w= .ok () (w.freeze ⟨b,n,none⟩ 1):=by simp only[markStringish,ay,run_shape,aj,h,run_freeze]
theorem uh(hM:aL C x s a w){U dst:TypeId}{X:Operand}(ho:o.op= .convert U dst X)(I:bn P o=some so)(y:val s so=some (p,c))(hp:p):cg P C o a w (s.put o.dst c):=by
 have J:execOp a.eval o=(do pure (.value (<-convert U dst (a.eval X)))):=by simp only[execOp,ho]
 simp only[bn,ho]at I;split at I<;>try (cases I;done)
 ·rename_i k0 k r O hd E
  cases I;have F:=aK hM E;simp only[val]at y;obtain⟨c',z,L⟩:=ah.1 y;simp only[bj.injEq]at L;obtain⟨_,rfl⟩:=L
  have run:∀k1 n,a.eval X= .int k1 n->(convert U dst (a.eval X)).run P w= .ok (.int k (k.wrap n)) w:=by intro k1 n L;rw[L];simp[convert,run_underlying O,run_underlying hd,Conv.intToInt]
  cases hu:s.ev r with
  |int k1 n=>
   rw[hu]at z F;refine cg.val hM J (run k1 n F.int_inv) ?_
   cases k<;>simp only[gZ,aq.injEq]at z<;>subst z<;>first
    |exact cN _ _
    |(rw[fJ,<-up];exact nL _)
  |u8 b=>
   rw[hu]at z F;refine cg.val hM J (run .u8 b.toNat F.u8_inv) ?_
   cases k<;>simp only[gZ,aq.injEq,reduceCtorEq]at z<;>subst z<;>first
    |(rw[Qx _ _ (by decide) (by decide)];exact cN _ _)
    |(rw[fJ,Int.emod_eq_of_lt (by omega) (by have:=lq b;omega)];exact nL _)
  |_=>rw[hu]at z;simp[gZ]at z
 ·rename_i r O hd E
  cases I;have F:=aK hM E;simp only[val]at y;cases hu:s.ev r with
  |str l=>rw[hu]at y F;simp only[aq.injEq,bj.injEq]at y;obtain⟨_,rfl⟩:=y;refine cg.val hM J (u:= .string ⟨⟨l⟩⟩) ?_ (lc _);rw[F.str_inv];simp[convert,run_underlying O,run_underlying hd]
  |_=>rw[hu]at y;simp at y
 ·rename_i e r O hd E
  split at I<;>try (cases I;done)
  rename_i h8;have L:=ja h8;cases I;have F:=aK hM E;simp only[val]at y;cases hu:s.ev r with
  |byt l tk=>
   rw[hu]at y F;simp only[xd,aq.injEq,bj.injEq]at y;obtain⟨_,rfl⟩:=y;refine cg.val hM J (zO O L hd ?_) (lc _);have hD:=F.data rfl;cases hXv:a.eval X with
   |slice ad n cp=>
    rw[hXv]at hD;cases hD with
    |bytN=>exact .inl ⟨⟨_,rfl⟩,rfl⟩
    |bytE=>exact .inl ⟨⟨_,rfl⟩,rfl⟩
    |byt _ _ b off _ _ hn hc hg=>subst hn;exact .inr ⟨b,off,cp,rfl,fun i hi=>hM.heap.per _ _ _ (hg i hi)⟩
   |_=>rw[hXv]at hD;cases hD
  |psl o' sz off n cp=>
   rw[hu]at y F;simp only[xd]at y;cases hl:s.look o' with
   |none=>simp[hl]at y
   |some obj=>
    cases obj with
    |bar l=>
     simp only[hl,aq.injEq,bj.injEq]at y;obtain⟨rfl,rfl⟩:=y;obtain⟨a2,a7⟩:=hp;obtain⟨cp,a5,_,H,a4,W⟩:=F.psl_inv;have Q:((l.drop off).take n).length=n:=by simp;omega
     refine cg.val hM J (zO O L hd (.inr ⟨(x.bk o').1,H,cp,by rw[Q];exact a4,fun i hi=> ?_⟩)) (lc _);rw[Q]at hi
     have T:H=off:=by
      rcases W with h|h
      ·omega
      ·rw[a2,db]at h;exact h
     subst T;obtain⟨v,h2,h3⟩:=(ei hM hl).cell (k:=H+i) (by simp only[aC.size];omega);rw[h2];have h4:cL x.G (.u8 (l.getD (H+i) 0)) v:=h3;cases h4;simp only[aa,bJ,if_pos hi,br]
    |_=>simp[hl]at y
  |_=>rw[hu]at y;simp[xd]at y
 ·rename_i e r O hd E
  split at I<;>try (cases I;done)
  rename_i h8;have L:=ja h8;cases I;have F:=aK hM E;simp only[val]at y;cases hu:s.ev r with
  |str l=>
   rw[hu]at y F;simp only[aq.injEq,bj.injEq]at y;obtain⟨_,rfl⟩:=y;have hf:(Question.appendCap (ByteArray.mk ⟨l⟩).size 0 e).forced=false:=rfl
   obtain⟨cp,a3,a1⟩:∃cp,(Question.appendCap (ByteArray.mk ⟨l⟩).size 0 e).cut (w.tape w.drawn (Question.appendCap (ByteArray.mk ⟨l⟩).size 0 e))=cp/\l.length<=cp:=by
    refine⟨_,rfl, ?_⟩;simp only[Question.cut];have:(ByteArray.mk ⟨l⟩).size=l.length:=by simp[ByteArray.size]
    omega
   let cs:LAe:=(ByteArray.mk ⟨l⟩).data.map (fun b=> .int .u8 b.toNat)++dR (cp-(ByteArray.mk ⟨l⟩).size) (.int .u8 0)
   have a0:(ByteArray.mk ⟨l⟩).size=l.length:=by simp[ByteArray.size]
   have a6:cs.size=cp:=by simp[cs,a0];omega
   have Z:∀i,i<l.length->cs[i]? =some (.int .u8 (l.getD i 0).toNat):=by intro i hi;simp only[cs];rw[Array.getElem?_append_left (by simpa using hi)];simp[hi,aa]
   have hw:∀w0:World,((w0.alloc (.cells cs e (0,0))).freeze ⟨w0.heap.size,cs.size,none⟩ 1).heap=(w0.alloc (.cells cs e (cs.size,cs.size+1))).heap:=fun w0=>gx w0 cs e
   refine cg.grow (x':=x.newD w.heap.size cs l.length) (w':=((w.drew.alloc (.cells cs e (0,0))).freeze ⟨w.heap.size,cs.size,none⟩ 1)) hM J (u:= .slice (some ⟨w.heap.size,0,none⟩) l.length cp) ?_ (hM.heap.newD_le cs l.length) rfl rfl ?_ ?_
   ·rw[F.str_inv]
    simp only[convert,ay,run_underlying O,run_underlying hd,aj,run_underlying L,Conv.stringToBytes,run_choose_drew,hf,aJ,if_false,a3,newRow,run_newObj_alloc,aD];rw[ee (e:=e) (n:=cs.size) (by simp only[World.shape?];rw[dz])];simp only[aj,a0];rfl
   ·refine cY.congr (w:=(w.drew.alloc (.cells cs e (cs.size,cs.size+1)))) ?_ (hw w.drew) rfl rfl rfl
    exact hM.heap.drew.allocD l.length
   ·refine .dat _ _ (.byt l .no w.heap.size 0 cp l.length rfl a1 fun i hi=> ?_) trivial
    simp only[Sit.newD];rw[if_pos ⟨trivial,by omega⟩,cj];exact Z i hi
  |_=>rw[hu]at y;simp at y
 ·split at I<;>try (cases I;done)
  cases I;simp only[val]at y;cases y
end Go.Sy
namespace Go.Sy
variable [aX]
variable {P : Program} {C : Ctx} {x : Sit} {s : St} {a : Act} {w : World} {o : Oper} {so : SOp} {p : Prop} {c : SV}
theorem cG{t:TypeId}{vs:LAd}(h:fQ P t=some vs):∃z:Value,z.cells.toList=vs/\∀w:World,(zeroValue t).run P w= .ok z w:=by
 unfold fQ at h;cases hi:P.info? t with
 |none=>simp[hi]at h
 |some i=>simp only[hi,cS]at h;obtain⟨z,hz,rfl⟩:=ah.1 h;exact⟨z,rfl,fun w=>by simp[zeroValue,run_typeInfo w hi,hz]⟩
theorem DD{cs:LAa}{vs:LAd}(h:Eo cs vs=true):cD x cs vs:=by unfold Eo at h;simp only[az,decide_eq_true_eq,aT,jF]at h;exact⟨h.1,fun i hi=>px (h.2 i hi)⟩
theorem ra{t:TypeId}{cs:LAa}(h:lS P t=some cs):∃vs,fQ P t=some vs/\cD x cs vs:=by
 unfold lS at h;cases hz:fQ P t with
 |none=>simp[hz]at h
 |some vs=>
  simp only[hz,cS]at h;cases hc:D2 P (mA P 30 t) vs with
  |none=>simp[hc]at h
  |some r=>
   simp only[hc,cS]at h;split at h
   ·rename_i y;simp at h;subst h;exact⟨vs,rfl,DD y⟩
   ·cases h
theorem jg{t:TypeId}{cs:LAa}(h:lS P t=some cs):∃vs,fQ P t=some vs/\cs.length=vs.length/\∀(G:GM) i,i<cs.length->cL G (cs.getD i .undef) (vs.getD i undef):=by
 unfold lS at h;cases hz:fQ P t with
 |none=>simp[hz]at h
 |some vs=>
  simp only[hz,cS]at h;cases hc:D2 P (mA P 30 t) vs with
  |none=>simp[hc]at h
  |some r=>
   simp only[hc,cS]at h;split at h
   ·rename_i y;simp at h;subst h
    unfold Eo at y;simp only[az,decide_eq_true_eq,aT,jF]at y;exact⟨vs,rfl,y.1,fun G i hi=>lU (y.2 i hi)⟩
   ·cases h
theorem Rep.cells{v:SV}{u:Value}(h:Rep x v u)(hd:v.isDef=true):cD x v.cells u.cells.toList:=by
 have one:∀{v:SV}{u:Value},Rep x v u->v.cells=[v]->u.cells= #[u]->cD x v.cells u.cells.toList:=by
  intro v u h H F;rw[H,F]
  exact⟨rfl,fun i hi=>by
   obtain rfl:i=0:=by simpa using hi
   exact h⟩
 cases h with
 |undef=>simp[SV.isDef]at hd
 |agg cs vs I E=>exact⟨I,E⟩
 |dat s v h U=>exact one (.dat _ _ h U) (by cases h<;>rfl) (by cases h<;>rfl)
 |ptr o off=>exact one (.ptr o off) rfl rfl
 |ap o J i j=>exact one (.ap o J i j) rfl rfl
 |psl o J off n cap z y h hn T O=>exact one (.psl o J off n cap z y h hn T O) rfl rfl
 |tup cs vs I E=>exact one (.tup cs vs I E) rfl rfl
 |fn f a b u v H F Q L=>exact one (.fn f a b u v H F Q L) rfl rfl
theorem fR{α:Type}(cs v:List α)(q i:Nat)(h:q+v.length<=cs.length):(cs.take q++v++cs.drop (q+v.length))[i]? =if q<=i/\i<q+v.length then v[i-q]? else cs[i]? :=by
 simp only[List.getElem?_append,ac,aw,bJ,br];have E:min q cs.length=q:=gM (by omega);rw[E]
 by_cases y:i<q
 ·rw[if_pos (by omega),if_pos y,if_pos y,if_neg (by omega)]
 ·by_cases z:i<q+v.length
  ·rw[if_pos z,if_neg y,if_pos ⟨by omega,z⟩]
  ·rw[if_neg z,if_neg (by omega)];congr 1;omega
theorem DJ(off:Nat)(v:LAd):∀(cs:LAe)(k i:Nat),off+k+v.length<=cs.size->
 ((v.zipIdx k).foldl (fun cs (c,j)=>cs.setIfInBounds (off+j) c) cs)[i]? =if off+k<=i/\i<off+k+v.length then v[i-(off+k)]? else cs[i]? :=by
 induction v with
 |nil=>intro cs k i z;rw[if_neg (by simp only[aY];omega)];rfl
 |cons u r E=>
  intro cs k i z;simp only[aA]at z;simp only[List.zipIdx_cons,bS];rw[E _ (k+1) i (by simp;omega)];simp only[aA,Array.getElem?_setIfInBounds]
  by_cases h:off+k=i
  ·subst h
   rw[if_neg (by omega),if_pos rfl,if_pos (by omega),if_pos (by omega)];simp
  ·by_cases y:off+(k+1)<=i/\i<off+(k+1)+r.length
   ·rw[if_pos y,if_pos (by omega),show i-(off+k)=(i-(off+(k+1)))+1 from by omega]
    simp
   ·rw[if_neg y,if_neg h,if_neg (by omega)]
theorem rG(cs:LAe)(off:Nat)(v:LAd)(h:off+v.length<=cs.size):
 (v.zipIdx.foldl (fun cs (c,j)=>cs.setIfInBounds (off+j) c) cs).toList=cs.toList.take off++v++cs.toList.drop (off+v.length):=by
 apply List.ext_getElem?;intro i;rw[fR _ _ _ _ (by simpa using h)];have:=DJ off v cs 0 i (by simpa using h);simpa using this
theorem cD.append{c1 c2:LAa}{v1 E:LAd}(y:cD x c1 v1)(z:cD x c2 E):cD x (c1++c2) (v1++E):=by
 refine⟨by simp[y.1,z.1],fun i hi=> ?_⟩;simp only[aa,List.getElem?_append]
 by_cases h:i<c1.length
 ·rw[if_pos h,if_pos (by rw[<-y.1];exact h)]
  simpa only[aa]using y.2 i h
 ·rw[if_neg h,if_neg (by rw[<-y.1];exact h),y.1]
  have:=z.get (i-v1.length);simpa only[aa]using this
theorem cD.take{c1:LAa}{v1:LAd}(y:cD x c1 v1)(n:Nat):cD x (c1.take n) (v1.take n):=by
 refine⟨by simp[y.1],fun i hi=> ?_⟩;have h:i<n/\i<c1.length:=by simp only[aw]at hi;omega
 simp only[aa,bJ,if_pos h.1];simpa only[aa]using y.2 i h.2
theorem cD.drop{c1:LAa}{v1:LAd}(h:cD x c1 v1)(n:Nat):cD x (c1.drop n) (v1.drop n):=by refine⟨by simp[h.1],fun i hi=> ?_⟩;simp only[aa,br];have:=h.get (n+i);simpa only[aa]using this
theorem oZ(hM:aL C x s a w)(E:Nat->Option (Nat×Nat)):∀(F:List (Nat×Operand))(z:List (Nat×Nat×Arg))(cs:LAa)(vs:LAe)(r:LAa),cD x cs vs.toList->
 z.length=F.length->(∀i (h:i<F.length) (U:i<z.length),E F[i].1=some (z[i].1,z[i].2.1)/\∃t,bm P t F[i].2=some z[i].2.2)->
 iF cs (z.map fun(o,n,y)=>(o,n,s.ev y))=some r->∃us,Instr.fill E vs (F.map fun(i,y)=>(i,a.eval y))=some us/\cD x r us.toList:=by
 intro F;induction F with
 |nil=>
  intro z cs vs r h O _ H;have:z=[]:=by simpa using O
  subst this;simp only[cT,iF,aq.injEq]at H;subst H;exact⟨vs,rfl,h⟩
 |cons q F ih=>
  intro z cs vs r h O I H;cases z with
  |nil=>simp at O
  |cons q' z=>
   obtain⟨qo,Z,qy⟩:=q';obtain⟨W,t,ht⟩:=I 0 (by simp) (by simp);simp only[List.getElem_cons_zero]at W ht;have J:=aK hM ht;simp only[aE,iF]at H;split at H<;>try (cases H;done)
   rename_i hc;obtain⟨T,Q,a1⟩:=hc;have hL:=J.cells T;have L:(a.eval q.2).cells.size=Z:=by rw[<-Q,<-aO];exact hL.1.symm
   have a0:vs.size=cs.length:=by rw[<-aO];exact h.1.symm
   simp only[aE,Instr.fill,W];rw[if_neg (by simp[L];omega)];refine ih z _ _ r ?_ (by simpa using O) (fun i h U=> ?_) H
   ·rw[<-Array.foldl_toList,Array.toList_zipIdx,rG _ _ _ (by rw[aO];omega)]
    have e1:(a.eval q.2).cells.toList.length=Z:=by simpa using L
    rw[e1];exact((h.take _).append hL).append (h.drop _)
   ·have:=I (i+1) (by simpa using h) (by simpa using U)
    simpa using this
theorem eF{α β:Type}{f:α->Option β}:∀{l:List α}{r:List β},js f l=some r->r.length=l.length/\∀i (h:i<l.length) (z:i<r.length),f l[i]=some r[i]:=by
 intro l;induction l with
 |nil=>intro r h;simp only[js]at h;cases h;exact⟨rfl,fun i h=>by simp at h⟩
 |cons q l H=>
  intro r h;simp only[js]at h;split at h<;>try (cases h;done)
  rename_i b J I y;cases h;obtain⟨F,E⟩:=H y;refine⟨by simp[F],fun i h z=> ?_⟩;cases i with
  |zero=>simpa using I
  |succ i=>simpa using E i (by simpa using h) (by simpa using z)
theorem nt(y:Array Field)(h:∀f∈y.toList,(P.info? f.type).isSome=true)(w:World):
 (y.mapM fun f=>do pure (f.offset,<-sizeOf f.type):Sem (Array (Nat×Nat))).run P w= .ok (y.toList.map fun f=>(f.offset,(fi P f.type).getD 0)).toArray w:=by
 rw[Array.mapM_eq_mapM_toList]
 have:∀l:List Field,(∀f∈l,(P.info? f.type).isSome=true)->(l.mapM fun f=>do pure (f.offset,<-sizeOf f.type):Sem (List (Nat×Nat))).run P w= .ok (l.map fun f=>(f.offset,(fi P f.type).getD 0)) w:=by
  intro l;induction l with
  |nil=>intro _;rfl
  |cons f l H=>
   intro h;have F:=h f (by simp);obtain⟨i,hi⟩:=Option.isSome_iff_exists.1 F;have z:fi P f.type=some i.size:=by simp[fi,hi]
   simp only[List.mapM_cons,ay,cO z,aj,aD,H (fun g E=>h g (am _ E)),aE,z,bp]
 rw[Sem.run_map,this _ h];rfl
theorem CR(hM:aL C x s a w){t:TypeId}{E:Array (Nat×Operand)}(ho:o.op= .build t E)(I:bn P o=some so)(hv:val s so=some (p,c)):cg P C o a w (s.put o.dst c):=by
 have a4:execOp a.eval o=(do pure (.value (<-Instr.build t (E.map fun(i,y)=>(i,a.eval y))))):=by simp only[execOp,ho]
 simp only[bn,ho]at I;split at I<;>try (cases I;done)
 ·rename_i fs z hd hz
  split at I<;>try (cases I;done)
  rename_i a3;obtain⟨qs,T,rfl⟩:=ah.1 I;obtain⟨vs,U,hL⟩:=ra hz;obtain⟨zv,a1,Z⟩:=cG U;obtain⟨a0,W⟩:=eF T;simp only[val]at hv;obtain⟨r,hf,L⟩:=ah.1 hv;simp only[bj.injEq]at L;obtain⟨_,rfl⟩:=L;have Q:∀f∈fs.toList,(P.info? f.type).isSome=true:=aT.1 a3
  obtain⟨us,O,H⟩:=oZ hM (fun i=>(fs.toList.map fun f=>(f.offset,(fi P f.type).getD 0)).toArray[i]?) E.toList qs z zv.cells r (by rw[a1];exact hL) a0 (by
   intro i h h';have:=W i h h';generalize E.toList[i]=pi at*;generalize qs[i]=qi at*;cases hfi:fs[pi.1]? with
   |none=>simp[hfi]at this
   |some f=>
    simp only[hfi]at this;cases hn:fi P f.type with
    |none=>simp[hn]at this
    |some n=>
     cases F:bm P f.type pi.2 with
     |none=>simp[hn,F]at this
     |some ar=>
      simp only[hn,F,aq.injEq]at this;rw[<-this];refine⟨?_,f.type,F⟩;have a2:fs.toList[pi.1]? =some f:=by simpa using hfi
      simp[a2,hn]) hf
  refine cg.val hM a4 (u:= .agg us) ?_ ?_
  ·have J:(E.map fun(i,y)=>(i,a.eval y)).toList=E.toList.map fun(i,y)=>(i,a.eval y):=by simp
   simp only[Instr.build,ay,Z,aj,run_underlying hd,nt fs Q,J];rw[O];rfl
  ·obtain⟨us⟩:=us
   exact .agg _ _ H.1 H.2
 ·rename_i k e z hd hz
  split at I<;>try (cases I;done)
  rename_i n hn;obtain⟨qs,T,rfl⟩:=ah.1 I;obtain⟨vs,U,hL⟩:=ra hz;obtain⟨zv,a1,Z⟩:=cG U;obtain⟨a0,W⟩:=eF T;simp only[val]at hv;obtain⟨r,hf,L⟩:=ah.1 hv;simp only[bj.injEq]at L;obtain⟨_,rfl⟩:=L
  obtain⟨us,O,H⟩:=oZ hM (fun i=>some (i*n,n)) E.toList qs z zv.cells r (by rw[a1];exact hL) a0 (fun i h h'=>by have:=W i h h';obtain⟨ar,F,L⟩:=ah.1 this;rw[<-L];exact⟨rfl,e,F⟩) hf
  refine cg.val hM a4 (u:= .agg us) ?_ ?_
  ·have J:(E.map fun(i,y)=>(i,a.eval y)).toList=E.toList.map fun(i,y)=>(i,a.eval y):=by simp
   simp only[Instr.build,ay,Z,aj,run_underlying hd,cO hn,J];rw[O];rfl
  ·obtain⟨us⟩:=us
   exact .agg _ _ H.1 H.2
end Go.Sy
namespace Go.Sy
variable [aX]
variable {P : Program} {C : Ctx} {x : Sit} {s : St} {a : Act} {w : World} {o : Oper} {so : SOp} {p : Prop} {c : SV}
theorem mT(n:Nat):∀(us:LAd)(k:Nat)(vs:LAe),(∀u∈us,u.cells.size=n)->(k+us.length)*n<=vs.size->
 ∃r,Instr.fill (fun i=>some (i*n,n)) vs ((us.zipIdx k).map fun q=>(q.2,q.1))=some r/\r.toList=vs.toList.take (k*n)++(us.flatMap fun u=>u.cells.toList)++vs.toList.drop ((k+us.length)*n):=by
 intro us;induction us with
 |nil=>intro k vs _ _;exact⟨vs,rfl,by simp⟩
 |cons u us Q=>
  intro k vs hu O;have y:=hu u (by simp);have F:(k+(u::us).length)*n=k*n+n+us.length*n:=by simp only[aA,bA,dJ];omega
  have E:(k+1)*n=k*n+n:=dJ k n;rw[F]at O;have h:=rG vs (k*n) u.cells.toList (by rw[aO,y];omega);rw[aO,y]at h
  obtain⟨r,I,L⟩:=Q (k+1) (u.cells.toList.zipIdx.foldl (fun cs (c,j)=>cs.setIfInBounds (k*n+j) c) vs) (fun q H=>hu q (am _ H)) (by rw[<-aO,h];simp only[ac,aw,aI,aO,y];rw[bA,E];omega)
  refine⟨r, ?_, ?_⟩
  ·simp only[List.zipIdx_cons,aE,Instr.fill]
   rw[if_neg (by simp[y];omega)];rw[<-Array.foldl_toList,Array.toList_zipIdx];exact I
  ·rw[L,h,E,F]
   have J:(k+1+us.length)*n=k*n+n+us.length*n:=by rw[bA,E]
   rw[J];have z:(vs.toList.take (k*n)++u.cells.toList).length=k*n+n:=by simp[y];omega
   rw[List.take_append_of_le_length (by rw[z];exact aN _),bB (by rw[z];exact aN _),List.drop_append,bo (by rw[z];omega),z,fq];simp only[List.flatMap_cons,aG,av]
   congr 3
   congr 1;omega
theorem uL{n:Nat}:∀{vs:LAa}{r:f8},rows n vs=some r->r.length=vs.length/\∀i,i<vs.length->(vs.getD i .undef).isDef=true/\(vs.getD i .undef).cells.length=n/\
 (∀z∈(vs.getD i .undef).cells,z.isData=true)/\r.getD i []=(vs.getD i .undef).cells.map SV.data:=by
 intro vs;induction vs with
 |nil=>intro r h;simp only[rows,aq.injEq]at h;subst h;exact⟨rfl,fun i hi=>by simp at hi⟩
 |cons v vs I=>
  intro r h;simp only[rows]at h;split at h<;>try (cases h;done)
  rename_i E;obtain⟨J,y,rfl⟩:=ah.1 h;obtain⟨H,F⟩:=I y;refine⟨by simp[H],fun i hi=> ?_⟩;cases i with
  |zero=>exact⟨E.1,E.2.1,aT.1 E.2.2,rfl⟩
  |succ i=>simpa using F i (by simpa using hi)
theorem ss:∀{vs:LAa}{r:t7},toB vs=some r->vs=r.map .u8:=by
 intro vs;induction vs with
 |nil=>intro r h;simp only[toB,aq.injEq]at h;subst h;rfl
 |cons v vs z=>intro r h;cases v<;>simp only[toB,reduceCtorEq]at h;obtain⟨E,y,rfl⟩:=ah.1 h;rw[z y];rfl
theorem j0{n:Nat}{us:LAd}(h:∀u∈us,u.cells.size=n){i j:Nat}(hi:i<us.length)(F:j<n):
 (us.flatMap fun u=>u.cells.toList)[i*n+j]? =(us.getD i undef).cells.toList[j]? :=by
 induction us generalizing i with
 |nil=>simp at hi
 |cons u us E=>
  have y:=h u (by simp);simp only[List.flatMap_cons];cases i with
  |zero=>rw[bc (by simp[y];omega)];simp
  |succ i=>rw[bq (by simp[y,dJ];omega)];have:=E (fun q z=>h q (am _ z)) (i:=i) (by simpa using hi);rw[show(i+1)*n+j-u.cells.toList.length=i*n+j from by simp[y,dJ];omega];simpa using this
theorem nX(hM:aL C x s a w){t:TypeId}{len:Nat}{h:Array (Nat×Operand)}(ho:o.op= .buildSlice t len h)(hr:bn P o=some so)(hv:val s so=some (p,c)):cg P C o a w (s.put o.dst c):=by
 have b3:execOp a.eval o=(do pure (.value (<-dG t len (h.map fun(i,y)=>(i,a.eval y))))):=by simp only[execOp,ho]
 simp only[bn,ho]at hr;split at hr<;>try (cases hr;done)
 rename_i e hd;split at hr<;>try (cases hr;done)
 rename_i n zv hn b8;split at hr<;>try (cases hr;done)
 rename_i U;simp only[az,decide_eq_true_eq]at U;obtain⟨⟨a0,d7⟩,d3⟩:=U;obtain⟨qs,b7,rfl⟩:=ah.1 hr;obtain⟨a9,c3⟩:=eF b7;obtain⟨z,d8,c4⟩:=cG b8;have T:h.toList.length=len:=by have:=congrArg List.length a0;simpa using this
 obtain⟨us,Z⟩:∃us:LAd,us=h.toList.map fun q=>a.eval q.2:=⟨_,rfl⟩
 have E:us.length=len:=by rw[Z];simpa using T
 have J:cD x (qs.map s.ev) us:=by
  refine⟨by rw[Z];simp[a9],fun i hi=> ?_⟩;have a7:i<qs.length:=by simpa using hi
  have:=aK hM (c3 i (by omega) a7);rw[Z];simp only[aa,aP,ab a7,ab (show i<h.toList.length from by omega),bl,bp];exact this
 have b4:(h.map fun(i,y)=>(i,a.eval y)).toList=(us.zipIdx 0).map fun q=>(q.2,q.1):=by
  rw[Z];apply List.ext_getElem
  ·simp
  ·intro i Q h2
   simp only[Array.toList_map,aS,aO]at Q;have:(h.toList.map (·.1))[i]? =(bU len)[i]? :=by rw[a0]
   have hi:i<len:=by rw[<-T];simpa using Q
   simp only[aP,cP hi]at this;rw[ab (by simpa using Q)]at this;simp at this;simp[this]
 have a1:(∀u∈us,u.cells.size=n)->∃r:LAe,(∀i j,i<len->j<n->r[i*n+j]? =(us.getD i undef).cells.toList[j]?)/\r.size=len*n/\
  (dG t len (h.map fun(i,y)=>(i,a.eval y))).run P w= .ok (.slice (some ⟨w.heap.size,0,none⟩) len len) (w.alloc (.cells r e (0,0))):=by
  intro a4
  have fin:∀zz:LAe,∃r:LAe,Instr.fill (fun i=>some (i*n,n)) ((Array.range (len*n)).map (fun i=>zz[i % zz.size]!)) (h.map fun(i,y)=>(i,a.eval y)).toList=some r/\
   (∀i j,i<len->j<n->r[i*n+j]? =(us.getD i undef).cells.toList[j]?)/\r.size=len*n:=by
   intro zz;obtain⟨r,d5,a3⟩:=mT n us 0 ((Array.range (len*n)).map (fun i=>zz[i % zz.size]!)) a4 (by simp[E])
   have I:r.toList=us.flatMap fun u=>u.cells.toList:=by rw[a3];simp[E]
   refine⟨r,by rw[b4];exact d5,fun i j hi hj=> ?_, ?_⟩
   ·rw[<-cZ,I,j0 a4 (by omega) hj]
   ·rw[<-aO,I,List.length_flatMap]
    have:us.map (fun u=>u.cells.toList.length)=ao us.length n:=by
     apply List.ext_getElem
     ·simp
     ·intro i Q h2
      simp;exact a4 _ (bx _)
    rw[this];simp[E]
  by_cases h0:len*n=0
  ·obtain⟨r,hf,Q,h2⟩:=fin #[]
   refine⟨r,Q,h2, ?_⟩;simp only[dG,ay,run_underlying hd,aj,cO hn];rw[if_neg (by omega),if_pos h0];simp only[ay,aD,aj];rw[hf];rfl
  ·obtain⟨r,hf,Q,h2⟩:=fin z.cells
   refine⟨r,Q,h2, ?_⟩;simp only[dG,ay,run_underlying hd,aj,cO hn];rw[if_neg (by omega),if_neg h0];simp only[ay,aD,aj,c4];rw[hf];rfl
 have F:∀i,i<len->i<(qs.map s.ev).length:=fun i hi=>by rw[J.1,E];exact hi
 cases h8:lF P e with
 |true=>
  simp only[h8,if_true,val]at hv;obtain⟨l,hl,he⟩:=ah.1 hv;simp only[bj.injEq]at he;obtain⟨_,rfl⟩:=he;have hq:=ss hl;have c7:l.length=len:=by have:=congrArg List.length hq;simp only[aS]at this;rw[<-this,a9,T]
  have a6:∀i,i<len->us.getD i undef= .int .u8 (l.getD i 0).toNat:=by
   intro i hi;have:=J.2 i (F i hi);rw[hq]at this
   have e1:(l.map SV.u8).getD i .undef= .u8 (l.getD i 0):=by simp only[aa,aP];rw[ab (by omega)];rfl
   rw[e1]at this;exact this.u8_inv
  have b5:∀u∈us,u.cells.size=1:=by intro u hu;obtain⟨i,hi,rfl⟩:=bY hu;have:=a6 i (by omega);rw[aa,ab hi]at this;simp only[bp]at this;rw[this];rfl
  have b2:n=1:=by simpa[h8]using d3
  subst b2;obtain⟨r,a2,c6,O⟩:=a1 b5;refine cg.grow (x':=x.newD w.heap.size r len) hM b3 O (hM.heap.newD_le r len) rfl rfl (hM.heap.allocD len) ?_;refine .dat _ _ (.byt l _ w.heap.size 0 len len c7.symm (aN _) fun i hi=> ?_) ⟨_,len,rfl⟩;simp only[Sit.newD];rw[if_pos ⟨trivial,by omega⟩,cj];have:=a2 i 0 hi (by omega);rw[db,dL]at this;rw[this,a6 i hi];rfl
 |false=>
  simp only[h8,aJ,if_false,val]at hv;obtain⟨a5,d6,he⟩:=ah.1 hv;simp only[bj.injEq]at he;obtain⟨_,rfl⟩:=he;obtain⟨a3,L⟩:=uL d6;have I:a5.length=len:=by rw[a3,J.1,E]
  have H:∀i,i<len->cD x (((qs.map s.ev).getD i .undef).cells) ((us.getD i undef).cells.toList):=fun i hi=>(J.2 i (F i hi)).cells (L i (F i hi)).1
  have b6:∀u∈us,u.cells.size=n:=by intro u hu;obtain⟨i,hi,rfl⟩:=bY hu;have Q:=H i (by omega);have h2:=(L i (F i (by omega))).2.1;rw[show us.getD i undef=us[i]from by rw[aa,ab hi];rfl]at Q;have:=Q.1;rw[h2]at this;simpa using this.symm
  obtain⟨r,a2,c6,O⟩:=a1 b6;refine cg.grow (x':=x.newD w.heap.size r (len*n)) hM b3 O (hM.heap.newD_le r _) rfl rfl (hM.heap.allocD _) ?_;have d4:=hM.heap.newD_le r (len*n)
  have W:∀i j,i<len->j<n->(x.newD w.heap.size r (len*n)).G w.heap.size (0+i*n+j)=some ((us.getD i undef).cells.toList.getD j undef):=by
   intro i j hi hj;simp only[Sit.newD]
   have hb:i*n+j<len*n:=by have:=bv n (Nat.succ_le_of_lt hi);rw[dJ]at this;omega
   rw[if_pos ⟨trivial,by omega⟩,cj,a2 i j hi hj]
   have:j<(us.getD i undef).cells.toList.length:=by rw[<-(H i hi).1,(L i (F i hi)).2.1];exact hj
   generalize (us.getD i undef).cells.toList=q at*;rw[aa,ab this];rfl
  refine .dat _ _ (.lst n a5 _ w.heap.size 0 len len (fun i j=>(us.getD i undef).cells.toList.getD j undef) I.symm (aN _) (fun i hi=> ?_) W (fun i j hi hj=> ?_)) ⟨_,len,rfl⟩
  ·rw[(L i (F i hi)).2.2.2,aS];exact(L i (F i hi)).2.1
  ·obtain⟨q1,q2,q3,q4⟩:=L i (F i hi)
   rw[q4,gi];have a8:j<((qs.map s.ev).getD i .undef).cells.length:=by rw[q2];exact hj
   have:=(H i hi).2 j a8;refine(cL.mono d4 (this.data (q3 _ ?_))).toData;generalize ((qs.map s.ev).getD i .undef).cells=q at*;rw[aa,ab a8];exact bx _
theorem wj(hM:aL C x s a w){t:TypeId}{len:Nat}{h:Array (Nat×Operand)}(ho:o.op= .buildSlice t len h){Z:Nat}{a3:List Arg}(hr:bn P o=some (.lit Z a3)){E:f8}(b6:rows Z (a3.map s.ev)=some E):
 ∃(r:LAe)(e:TypeId),(execOp a.eval o).run P w= .ok (.value (.slice (some ⟨w.heap.size,0,none⟩) E.length E.length)) (w.alloc (.cells r e (0,0)))/\r.size=E.length*Z/\(∀y∈E,y.length=Z)/\
  ∀k,k<E.length*Z->cL x.G ((E.getD (k/Z) []).getD (k % Z) .undef) (r.getD k undef):=by
 have c7:execOp a.eval o=(do pure (.value (<-dG t len (h.map fun(i,y)=>(i,a.eval y))))):=by simp only[execOp,ho]
 simp only[bn,ho]at hr;split at hr<;>try (cases hr;done)
 rename_i e hd;split at hr<;>try (cases hr;done)
 rename_i n zv hn b7;split at hr<;>try (cases hr;done)
 rename_i Q;simp only[az,decide_eq_true_eq]at Q;obtain⟨⟨a0,d4⟩,d5⟩:=Q;obtain⟨qs,b4,H⟩:=ah.1 hr;obtain⟨c6,c3⟩:=eF b4;obtain⟨z,d6,c4⟩:=cG b7;have a1:h.toList.length=len:=by have:=congrArg List.length a0;simpa using this
 obtain⟨us,W⟩:∃us:LAd,us=h.toList.map fun q=>a.eval q.2:=⟨_,rfl⟩
 have I:us.length=len:=by rw[W];simpa using a1
 have U:cD x (qs.map s.ev) us:=by
  refine⟨by rw[W];simp[c6],fun i hi=> ?_⟩;have a6:i<qs.length:=by simpa using hi
  have:=aK hM (c3 i (by omega) a6);rw[W];simp only[aa,aP,ab a6,ab (show i<h.toList.length from by omega),bl,bp];exact this
 have b2:(h.map fun(i,y)=>(i,a.eval y)).toList=(us.zipIdx 0).map fun q=>(q.2,q.1):=by
  rw[W];apply List.ext_getElem
  ·simp
  ·intro i T h2
   simp only[Array.toList_map,aS,aO]at T;have:(h.toList.map (·.1))[i]? =(bU len)[i]? :=by rw[a0]
   have hi:i<len:=by rw[<-a1];simpa using T
   simp only[aP,cP hi]at this;rw[ab (by simpa using T)]at this;simp at this;simp[this]
 have a9:(∀u∈us,u.cells.size=n)->∃r:LAe,(∀i j,i<len->j<n->r[i*n+j]? =(us.getD i undef).cells.toList[j]?)/\r.size=len*n/\
  (dG t len (h.map fun(i,y)=>(i,a.eval y))).run P w= .ok (.slice (some ⟨w.heap.size,0,none⟩) len len) (w.alloc (.cells r e (0,0))):=by
  intro a4
  have fin:∀zz:LAe,∃r:LAe,Instr.fill (fun i=>some (i*n,n)) ((Array.range (len*n)).map (fun i=>zz[i % zz.size]!)) (h.map fun(i,y)=>(i,a.eval y)).toList=some r/\
   (∀i j,i<len->j<n->r[i*n+j]? =(us.getD i undef).cells.toList[j]?)/\r.size=len*n:=by
   intro zz;obtain⟨r,b5,a5⟩:=mT n us 0 ((Array.range (len*n)).map (fun i=>zz[i % zz.size]!)) a4 (by simp[I])
   have F:r.toList=us.flatMap fun u=>u.cells.toList:=by rw[a5];simp[I]
   refine⟨r,by rw[b2];exact b5,fun i j hi hj=> ?_, ?_⟩
   ·rw[<-cZ,F,j0 a4 (by omega) hj]
   ·rw[<-aO,F,List.length_flatMap]
    have:us.map (fun u=>u.cells.toList.length)=ao us.length n:=by
     apply List.ext_getElem
     ·simp
     ·intro i T h2
      simp;exact a4 _ (bx _)
    rw[this];simp[I]
  by_cases h0:len*n=0
  ·obtain⟨r,hf,T,h2⟩:=fin #[]
   refine⟨r,T,h2, ?_⟩;simp only[dG,ay,run_underlying hd,aj,cO hn];rw[if_neg (by omega),if_pos h0];simp only[ay,aD,aj];rw[hf];rfl
  ·obtain⟨r,hf,T,h2⟩:=fin z.cells
   refine⟨r,T,h2, ?_⟩;simp only[dG,ay,run_underlying hd,aj,cO hn];rw[if_neg (by omega),if_neg h0];simp only[ay,aD,aj,c4];rw[hf];rfl
 have J:∀i,i<len->i<(qs.map s.ev).length:=fun i hi=>by rw[U.1,I];exact hi
 obtain⟨h8,rfl,rfl⟩:lF P e=false/\n=Z/\qs=a3:=by
  cases h8:lF P e with
  |true=>rw[h8]at H;simp at H
  |false=>rw[h8]at H;simp at H;exact⟨rfl,H.1,H.2⟩
 obtain⟨a5,L⟩:=uL b6;have F:E.length=len:=by rw[a5,U.1,I]
 have O:∀i,i<len->cD x (((qs.map s.ev).getD i .undef).cells) ((us.getD i undef).cells.toList):=fun i hi=>(U.2 i (J i hi)).cells (L i (J i hi)).1
 have b3:∀u∈us,u.cells.size=n:=by intro u hu;obtain⟨i,hi,rfl⟩:=bY hu;have T:=O i (by omega);have h2:=(L i (J i (by omega))).2.1;rw[show us.getD i undef=us[i]from by rw[aa,ab hi];rfl]at T;have:=T.1;rw[h2]at this;simpa using this.symm
 obtain⟨r,b8,H,a7⟩:=a9 b3
 have a2:(execOp a.eval o).run P w= .ok (.value (.slice (some ⟨w.heap.size,0,none⟩) E.length E.length)) (w.alloc (.cells r e (0,0))):=by rw[c7,F];simp[a7]
 refine⟨r,e,a2,by rw[F];exact H,fun y hy=> ?_,fun k hk=> ?_⟩
 ·obtain⟨i,hi,rfl⟩:=bY hy
  have:=(L i (J i (by omega))).2.2.2;rw[aa,ab hi]at this;simp only[bp]at this;rw[this,aS];exact(L i (J i (by omega))).2.1
 ·have d3:0<n:=by
   rcases gj n with h0|h0
   ·subst h0;omega
   ·exact h0
  have hi:k/n<len:=by rw[<-F];exact Nat.div_lt_of_lt_mul (by rw[cm];exact hk)
  have hj:k % n<n:=Nat.mod_lt _ d3;obtain⟨q1,q2,q3,q4⟩:=L (k/n) (J _ hi);rw[q4,gi];have e1:k/n*n+k % n=k:=by rw[cm];exact Nat.div_add_mod k n
  have e2:=b8 (k/n) (k % n) hi hj;rw[e1]at e2;have a8:k % n<((qs.map s.ev).getD (k/n) .undef).cells.length:=by rw[q2];exact hj
  have:=(O _ hi).2 _ a8;rw[bh,e2,<-aa];refine(this.data (q3 _ ?_)).toData;generalize ((qs.map s.ev).getD (k/n) .undef).cells=q at*;rw[aa,ab a8];exact bx _
theorem wk(hM:aL C x s a w){t:TypeId}{len:Nat}{h:Array (Nat×Operand)}(ho:o.op= .buildSlice t len h){a4:List Arg}(Q:bn P o=some (.litB a4)){l:t7}(c4:toB (a4.map s.ev)=some l):
 ∃(r:LAe)(e:TypeId),(execOp a.eval o).run P w= .ok (.value (.slice (some ⟨w.heap.size,0,none⟩) l.length l.length)) (w.alloc (.cells r e (0,0)))/\l.length<=r.size/\∀i,i<l.length->r.getD i undef= .int .u8 (l.getD i 0).toNat:=by
 have c7:execOp a.eval o=(do pure (.value (<-dG t len (h.map fun(i,y)=>(i,a.eval y))))):=by simp only[execOp,ho]
 simp only[bn,ho]at Q;split at Q<;>try (cases Q;done)
 rename_i e hd;split at Q<;>try (cases Q;done)
 rename_i n zv hn b5;split at Q<;>try (cases Q;done)
 rename_i H;simp only[az,decide_eq_true_eq]at H;obtain⟨⟨L,d3⟩,b2⟩:=H;obtain⟨qs,b3,F⟩:=ah.1 Q;obtain⟨a6,b7⟩:=eF b3;obtain⟨z,d4,b8⟩:=cG b5;have I:h.toList.length=len:=by have:=congrArg List.length L;simpa using this
 obtain⟨us,J⟩:∃us:LAd,us=h.toList.map fun q=>a.eval q.2:=⟨_,rfl⟩
 have E:us.length=len:=by rw[J];simpa using I
 have U:cD x (qs.map s.ev) us:=by
  refine⟨by rw[J];simp[a6],fun i hi=> ?_⟩;have a1:i<qs.length:=by simpa using hi
  have:=aK hM (b7 i (by omega) a1);rw[J];simp only[aa,aP,ab a1,ab (show i<h.toList.length from by omega),bl,bp];exact this
 have a7:(h.map fun(i,y)=>(i,a.eval y)).toList=(us.zipIdx 0).map fun q=>(q.2,q.1):=by
  rw[J];apply List.ext_getElem
  ·simp
  ·intro i T Z
   simp only[Array.toList_map,aS,aO]at T;have:(h.toList.map (·.1))[i]? =(bU len)[i]? :=by rw[L]
   have hi:i<len:=by rw[<-I];simpa using T
   simp only[aP,cP hi]at this;rw[ab (by simpa using T)]at this;simp at this;simp[this]
 have a5:(∀u∈us,u.cells.size=n)->∃r:LAe,(∀i j,i<len->j<n->r[i*n+j]? =(us.getD i undef).cells.toList[j]?)/\r.size=len*n/\
  (dG t len (h.map fun(i,y)=>(i,a.eval y))).run P w= .ok (.slice (some ⟨w.heap.size,0,none⟩) len len) (w.alloc (.cells r e (0,0))):=by
  intro W
  have fin:∀zz:LAe,∃r:LAe,Instr.fill (fun i=>some (i*n,n)) ((Array.range (len*n)).map (fun i=>zz[i % zz.size]!)) (h.map fun(i,y)=>(i,a.eval y)).toList=some r/\
   (∀i j,i<len->j<n->r[i*n+j]? =(us.getD i undef).cells.toList[j]?)/\r.size=len*n:=by
   intro zz;obtain⟨r,b4,c3⟩:=mT n us 0 ((Array.range (len*n)).map (fun i=>zz[i % zz.size]!)) W (by simp[E])
   have O:r.toList=us.flatMap fun u=>u.cells.toList:=by rw[c3];simp[E]
   refine⟨r,by rw[a7];exact b4,fun i j hi hj=> ?_, ?_⟩
   ·rw[<-cZ,O,j0 W (by omega) hj]
   ·rw[<-aO,O,List.length_flatMap]
    have:us.map (fun u=>u.cells.toList.length)=ao us.length n:=by
     apply List.ext_getElem
     ·simp
     ·intro i T Z
      simp;exact W _ (bx _)
    rw[this];simp[E]
  by_cases h0:len*n=0
  ·obtain⟨r,hf,T,Z⟩:=fin #[]
   refine⟨r,T,Z, ?_⟩;simp only[dG,ay,run_underlying hd,aj,cO hn];rw[if_neg (by omega),if_pos h0];simp only[ay,aD,aj];rw[hf];rfl
  ·obtain⟨r,hf,T,Z⟩:=fin z.cells
   refine⟨r,T,Z, ?_⟩;simp only[dG,ay,run_underlying hd,aj,cO hn];rw[if_neg (by omega),if_neg h0];simp only[ay,aD,aj,b8];rw[hf];rfl
 have c6:∀i,i<len->i<(qs.map s.ev).length:=fun i hi=>by rw[U.1,E];exact hi
 cases h8:lF P e with
 |true=>
  simp only[h8,if_true,SOp.litB.injEq]at F;subst F;have hl:=c4;have hq:=ss hl;have a8:l.length=len:=by have:=congrArg List.length hq;simp only[aS]at this;rw[<-this,a6,I]
  have a0:∀i,i<len->us.getD i undef= .int .u8 (l.getD i 0).toNat:=by
   intro i hi;have:=U.2 i (c6 i hi);rw[hq]at this
   have e1:(l.map SV.u8).getD i .undef= .u8 (l.getD i 0):=by simp only[aa,aP];rw[ab (by omega)];rfl
   rw[e1]at this;exact this.u8_inv
  have a9:∀u∈us,u.cells.size=1:=by intro u hu;obtain⟨i,hi,rfl⟩:=bY hu;have:=a0 i (by omega);rw[aa,ab hi]at this;simp only[bp]at this;rw[this];rfl
  have a3:n=1:=by simpa[h8]using b2
  subst a3;obtain⟨r,b6,F,a2⟩:=a5 a9;refine⟨r,e,by rw[c7,ay,a2];simp[a8],by rw[F];omega,fun i hi=> ?_⟩;have:=b6 i 0 (by omega) (by omega);rw[db,dL]at this;rw[bh,this,a0 i (by omega)];rfl
 |false=>simp only[h8,aJ,if_false]at F;cases F
theorem RX{E:List Arg}(z:bn P o=some (.litB E)):∃t len y,o.op= .buildSlice t len y:=by
 cases ho:o.op with
 |buildSlice t len y=>exact⟨t,len,y,rfl⟩
 |_=>exfalso;exact absurd z (by
  intro z;simp only[bn,ho]at z
  first
   |(cases z;done)
   |(obtain⟨_,_,h⟩:=ah.1 z;cases h;done)
   |(repeat' split at z)<;>first|(cases z;done)|contradiction|(obtain⟨_,_,h⟩:=ah.1 z;first|(cases h;done)|(split at h<;>cases h;done)))
end Go.Sy
namespace Go.Sy
variable [aX]
variable {P : Program} {C : Ctx} {x : Sit} {s : St} {a : Act} {w : World} {o : Oper} {so : SOp} {p : Prop} {c : SV}
theorem F5{t:TypeId}{n:Nat}(h:vR P t=some n):qB P t=some false:=by unfold vR at h;unfold qB;split at h<;>first|(cases h;done)|(rename_i y;rw[y];rfl)
theorem wW{t:TypeId}{n:Nat}(z:vR P t=some n){c1 d1:SV}{u v:Value}(hu:Rep x c1 u)(y:Rep x d1 v){b:Bool}(h:tV n c1 d1=some b)(d:Nat):(Op.equalIn (d+1) t u v).run P w= .ok b w:=by
 unfold vR at z;split at z<;>try (cases z;done)
 all_goals
  rename_i hd;cases z;cases c1<;>cases d1<;>simp only[tV,reduceCtorEq,aq.injEq,aF]at h
 ·rw[hu.bool_inv,y.bool_inv]
  subst h;rename_i m n;simp only[Op.equalIn,ay,run_underlying hd,aj,aD];cases m<;>cases n<;>rfl
 ·rw[hu.int_inv,y.int_inv]
  obtain⟨rfl,h⟩:=h;subst h;simp only[Op.equalIn,ay,run_underlying hd,aj,if_true,aD];rfl
 ·rw[hu.u8_inv,y.u8_inv]
  subst h;rename_i m n;simp only[Op.equalIn,ay,run_underlying hd,aj,if_true,aD]
  congr 1
  rw[eJ];simp only[beq_iff_eq,decide_eq_true_eq,Int.natCast_inj];exact UInt8.toNat_inj
 ·rw[hu.str_inv,y.str_inv]
  subst h;rename_i m n;simp only[Op.equalIn,ay,run_underlying hd,aj,aD]
  congr 1
  rw[beq_toListBytes,ByteArray.toList_eq,ByteArray.toList_eq,eJ];simp
theorem jU:∀(T:List Field)(U:LAb)(k:Nat)(cs F:LAa)(y H:LAd)(d:Nat),wS P k T=some U->
 cD x cs (y.drop k)->cD x F (H.drop k)->∀{b:Bool},gH U cs F=some b->(Op.eqFields (d+1) ⟨y⟩ ⟨H⟩ T).run P w= .ok b w
 |[],U,k,cs,F,y,H,d,z,J,hy,b,h=>by simp only[wS,aq.injEq]at z;subst z;cases cs<;>cases F<;>simp[gH]at h;subst h;simp[Op.eqFields]
 |f::T,U,k,cs,F,y,H,d,z,J,hy,b,h=>by
  simp only[wS,aF]at z;obtain⟨⟨I,O⟩,z⟩:=z;split at z<;>try (cases z;done)
  rename_i t a4 E W;cases z;cases cs with
  |nil=>simp[gH]at h
  |cons c1 cs=>
   cases F with
   |nil=>simp[gH]at h
   |cons d1 F=>
    simp only[gH]at h;split at h<;>try (cases h;done)
    rename_i r q hr hq;cases h;have L:=J.1;have a1:=hy.1;simp only[aA,aI]at L a1
    have a2:(⟨y⟩:LAe)[k]? =some (y.getD k undef):=by rw[xu,ab (by omega),aa,ab (by omega)];rfl
    have Z:(⟨H⟩:LAe)[k]? =some (H.getD k undef):=by rw[xu,ab (by omega),aa,ab (by omega)];rfl
    have a0:Rep x c1 (y.getD k undef):=by have:=J.2 0 (by simp);simpa[aa,br]using this
    have a3:Rep x d1 (H.getD k undef):=by have:=hy.2 0 (by simp);simpa[aa,br]using this
    have tl:∀{cs:LAa}{c1:SV}{y:LAd},cD x (c1::cs) (y.drop k)->cD x cs (y.drop (k+1)):=by intro cs c1 y J;have L:=J.1;simp only[aA,aI]at L;refine⟨by simp only[aI];omega,fun i hi=> ?_⟩;have:=J.2 (i+1) (by simpa using hi);simp only[aa,List.getElem?_cons_succ,br]at this ⊢;rw[show k+1+i=k+(i+1)by omega];exact this
    have ih:=jU T a4 (k+1) cs F y H d W (tl J) (tl hy) hq;have Q:=wW (w:=w) E a0 a3 hr d;simp only[Op.eqFields,if_pos I,part,ay,kt (F5 E),aj,aJ,if_false];rw[O,a2,Z];simp only[aD,aj,Q];cases r
    ·simp
    ·simp only[Bool.not_true,aJ,if_false]
     rw[ih,Bool.true_and]
theorem Qp(hM:aL C x s a w){op:BinOp}{t u:TypeId}{X Y:Operand}(ho:o.op= .binOp op t X Y u){J:Bool}{W:LAb}{x' L:Arg}(h:bn P o=some (.eqS J W x' L))(z:val s (.eqS J W x' L)=some (p,c)):cg P C o a w (s.put o.dst c):=by
 have U:execOp a.eval o=(do pure (.value (<-(do eqGuard op t X Y (a.eval X) (a.eval Y);binOp op t (a.eval X) (a.eval Y):Sem Value)))):=by simp only[execOp,ho]
 simp only[bn,ho]at h;split at h<;>try (cases h;done)
 ·split at h<;>cases h
 ·rename_i fs _ _ hd Q T
  split at h<;>try (cases h;done)
  rename_i I O;rw[aF]at h;obtain⟨y,h⟩:=h;simp only[az,dv]at y
  have E:op=(if J then .neq else .eql)/\I=W/\bm P t X=some x'/\bm P u Y=some L:=by split at h<;>first|(cases h;done)|(cases h;exact⟨rfl,rfl,Q,T⟩)
  obtain⟨E,rfl,Q,T⟩:=E;have h1:=aK hM Q;have Z:=aK hM T;simp only[val]at z;cases hu:s.ev x' with
  |agg cs=>
   cases hw:s.ev L with
   |agg ds=>
    rw[hu,hw]at z;rw[hu]at h1;rw[hw]at Z;simp only[ah,bj.injEq]at z;obtain⟨b,hb,_,rfl⟩:=z;obtain⟨vs,e1,g1⟩:=h1.agg_inv;obtain⟨us,e2,g2⟩:=Z.agg_inv;have F:P.fieldsOf t=fs:=by simp[Program.fieldsOf,hd]
    have H:(Op.equalIn 10000 t (.agg ⟨vs⟩) (.agg ⟨us⟩)).run P w= .ok b w:=by rw[show(10000:Nat)=9998+1+1 from rfl,run_equalIn_struct w (9998+1) t ⟨vs⟩ ⟨us⟩ (by rw[F];exact hd) y.1,F];exact jU fs.toList I 0 cs ds vs us 9998 O (by simpa using g1) (by simpa using g2) hb
    refine cg.val hM U (u:= .bool (if J then !b else b)) ?_ (dw _);rw[e1,e2];simp only[ay,run_eqGuard_agg w op t X Y ⟨vs⟩ ⟨us⟩ y.2,aj];subst E;cases J
    ·simp only[aJ,if_false];rw[run_eql_struct,H];rfl
    ·simp only[if_true];rw[run_neq_struct,H];rfl
   |_=>rw[hu,hw]at z;simp at z
  |_=>rw[hu]at z;simp at z
 ·split at h<;>cases h
 ·split at h<;>cases h
theorem wY(hM:aL C x s a w){H:Bool}{q:Arg}(z:bn P o=some (.isnil H q)){K:Bool->Prop}
 (h:match s.ev q with
  | .byt l _=>∀b:Bool,(b=true->l=[])->K (b !=H)
  | .lst _ U _=>∀b:Bool,(b=true->U=[])->K (b !=H)
  | .psl _ _ _ _ _=>K H
  |_=>False):∃b,K b/\cg P C o a w (s.put o.dst (.bool b)):=by
 have I:∃op t X Y u,o.op= .binOp op t X Y u/\(op=if H then .neq else .eql)/\(∃e,P.underlying t=some (.slice e))/\bm P t X=some q/\Y= .const (.slice none 0 0):=by
  cases L:o.op with
  |binOp op t X Y u=>
   simp only[bn,L]at z;split at z<;>try (cases z;done)
   ·split at z<;>cases z
   ·split at z<;>try (cases z;done)
    split at z<;>try (cases z;done)
    split at z<;>cases z
   ·rename_i e x' _ hd Z hy
    split at z<;>first|(cases z;done)|(cases z;exact⟨_,_,_,_,_,rfl,rfl,⟨_,hd⟩,Z,rfl⟩)
   ·split at z<;>first|(cases z;done)|contradiction
  |_=>exfalso;exact absurd z (by
   intro z;simp only[bn,L]at z
   first
    |(cases z;done)
    |(obtain⟨_,_,h⟩:=ah.1 z;cases h;done)
    |(repeat' split at z)<;>first|(cases z;done)|contradiction|(obtain⟨_,_,h⟩:=ah.1 z;first|(cases h;done)|(split at h<;>cases h;done)))
 obtain⟨op,t,X,Y,u,L,I,⟨e,hd⟩,hX,hY⟩:=I;have T:execOp a.eval o=(do pure (.value (<-(do eqGuard op t X Y (a.eval X) (a.eval Y);binOp op t (a.eval X) (a.eval Y):Sem Value)))):=by simp only[execOp,L]
 have E:=aK hM hX;have Q:a.eval Y= .slice none 0 0:=by rw[hY];rfl
 have run:∀F n cp,a.eval X= .slice F n cp->cg P C o a w (s.put o.dst (.bool (F.isNone !=H))):=by
  intro F n cp O
  have hg:∀v1 v2 v3 v4 v5,(eqGuard op t X Y (.slice v1 v2 v3) (.slice none v4 v5))=pure ():=by intros;subst I;cases H<;>rfl
  refine cg.val hM T (u:= .bool (F.isNone !=H)) ?_ (dw _);rw[O,Q,hg];simp only[ay,aD,aj]
  have J:(Op.equal t (.slice F n cp) (.slice none 0 0)).run P w= .ok F.isNone w:=by rw[show Op.equal t (.slice F n cp) (.slice none 0 0)=Op.equalIn (9999+1) t (.slice F n cp) (.slice none 0 0)from rfl,Op.equalIn];simp only[ay,run_underlying hd,aj];cases F<;>rfl
  subst I;cases H
  ·simp only[aJ,if_false,binOp,ay,J,aj,aD];cases F<;>rfl
  ·simp only[if_true,binOp,ay,J,aj,aD];cases F<;>rfl
 cases hu:s.ev q with
 |byt l tk=>
  rw[hu]at h E;have y:=E.data rfl;cases hv:a.eval X with
  |slice F n cp=>
   refine⟨_,h F.isNone (fun hn=> ?_),run F n cp hv⟩;rw[hv]at y;cases y with
   |bytN=>rfl
   |bytE=>simp at hn
   |byt _ _ b off _ _ _ _ _=>simp at hn
  |_=>rw[hv]at y;cases y
 |lst sz U tk=>
  rw[hu]at h E;have y:=E.data rfl;cases hv:a.eval X with
  |slice F n cp=>
   refine⟨_,h F.isNone (fun hn=> ?_),run F n cp hv⟩;rw[hv]at y;cases y with
   |lstN=>rfl
   |lstE=>simp at hn
   |lst _ _ _ b off _ _ _ _ _ _ _ _=>simp at hn
  |_=>rw[hv]at y;cases y
 |psl o' sz off n cp=>rw[hu]at h E;obtain⟨cp,_,_,W,he,_⟩:=E.psl_inv;refine⟨_,h, ?_⟩;have:=run _ _ _ he;simpa using this
 |_=>rw[hu]at h;exact h.elim
end Go.Sy
namespace Go.Sy
variable [aX]
variable {P : Program} {C : Ctx} {x : Sit} {s : St} {a : Act} {w : World} {o : Oper} {so : SOp} {e : Eff}
theorem aL.newObj(hM:aL C x s a w){d:Nat}(z:LAc)(y:100<=d){cv:LAe}{t:TypeId}(obj:aC){val:SV}{u:Value}(F:obj.size<=cv.size)(E:∀k,k<obj.size->co x obj k (cv.getD k undef))
 (H:Rep (x.newO d w.heap.size) val u):
 aL C (x.newO d w.heap.size) (((s.purge d (d+1)).addO d (obj.purge d (d+1))).put z val) (a.put z u) (w.alloc (.cells cv t (0,0))):=by
 refine aL.put ⟨?_,hM.defers, ?_⟩ z H
 ·exact cD.mono (x:=x) (x':=x.newO d w.heap.size) (lo:=d) (hi:=d+1) (fun _ _ _ h=>h) (Sit.newO_ne x d _) (fun _ _=>rfl) hM.tm
 ·exact hM.heap.allocO d y obj (fun i _ h=>by omega) F E (bH _) (fun _ h=>by omega)
theorem cg.newObj(hM:aL C x s a w){d:Nat}(h:100<=d){m:Sem Value}{cv:LAe}{t:TypeId}(obj:aC){val:SV}{u:Value}(H:execOp a.eval o=(do pure (.value (<-m))))
 (F:m.run P w= .ok u (w.alloc (.cells cv t (0,0)))) (z:obj.size<=cv.size) (y:∀k,k<obj.size->co x obj k (cv.getD k undef)) (E:Rep (x.newO d w.heap.size) val u):
 cg P C o a w (((s.purge d (d+1)).addO d (obj.purge d (d+1))).put o.dst val):=
 ⟨u,w.alloc (.cells cv t (0,0)),_,.value u,by rw[H];simp[F],.inl rfl,hM.newObj o.dst h obj z y E⟩
theorem mp(x:Sit)(d b:Nat){k:Nat}:(x.newO d b k).bk d=(b,k):=if_pos rfl
theorem i5(x:Sit)(d b:Nat){k:Nat}:((x.newO d b k).bk d).1=b:=by rw[mp]
theorem DR(hM:aL C x s a w){t:TypeId}(O:o.op= .alloc t)(y:bn P o=some so)(F:eff s o.dst so=some e):cg P C o a w (s.app o.dst e):=by
 simp only[bn,O]at y;split at y<;>try (cases y;done)
 rename_i obj z L hz;split at y<;>try (cases y;done)
 rename_i h;cases y;simp only[eff]at F;split at F<;>try (cases F;done)
 rename_i d hd;cases F;obtain⟨Q,E,I⟩:=cG hz;simp only[Z6,az,decide_eq_true_eq,aT,jF]at h;simp only[St.app];have J:o.dst.getD 0=d:=by rw[hd];rfl
 rw[J];refine cg.newObj hM (d:=d+100) (by omega) obj (m:=Instr.alloc t true (.tuple #[])) (cv:=Q.cells) (t:=t) (u:= .pointer (some ⟨w.heap.size,0,none⟩)) (by simp only[execOp,O]) ?_ (by rw[<-aO,E];exact h.1) (fun k U=> ?_) ?_
 ·simp only[Instr.alloc,ay,I,aj,newVar,newRow,run_newObj_alloc,aD]
 ·have H:=h.2 k U
  have T:Q.cells.getD k undef=z.getD k undef:=by rw[<-E];simp[bh]
  rw[T];cases obj with
  |rc cs=>exact px H
  |arr Z W=>exact lU H
  |bar l=>exact lU H
 ·have:=Rep.ptr (x:=x.newO (d+100) w.heap.size) (d+100) 0
  rw[i5]at this;exact this
theorem SC(hM:aL C x s a w){t:TypeId}{X:Operand}(F:o.op= .box t X)(H:bn P o=some so)(y:eff s o.dst so=some e):cg P C o a w (s.app o.dst e):=by
 simp only[bn,F]at H;obtain⟨r,E,rfl⟩:=ah.1 H;have h:=aK hM E;simp only[eff]at y;split at y<;>try (cases y;done)
 rename_i d hd;cases y;simp only[St.app];have J:(s.ev r).isDef=true->cD x (s.ev r).cells (a.eval X).cells.toList:=h.cells;have hu:(s.ev r).isDef=true\/(s.ev r).cells=[]:=by cases s.ev r<;>simp[SV.isDef,SV.cells]
 have z:o.dst.getD 0=d:=by rw[hd];rfl
 rw[z];refine cg.newObj hM (d:=d+100) (by omega) (.rc (s.ev r).cells) (m:=Instr.box t (a.eval X)) (cv:=(a.eval X).cells) (t:=t) (u:= .pointer (some ⟨w.heap.size,0,none⟩)) (by simp only[execOp,F]) ?_ ?_ (fun k I=> ?_) ?_
 ·simp only[Instr.box,ay,aj,newVar,newRow,run_newObj_alloc,aD]
 ·rcases hu with hu|hu
  ·have:=(J hu).1;simp only[aC.size];rw[<-aO];omega
  ·simp[aC.size,hu]
 ·rcases hu with hu|hu
  ·have:=(J hu).2 k I
   simp only[co];have L:(a.eval X).cells.getD k undef=(a.eval X).cells.toList.getD k undef:=by simp[bh]
   rw[L];exact this
  ·simp[aC.size,hu]at I
 ·have:=Rep.ptr (x:=x.newO (d+100) w.heap.size) (d+100) 0
  rw[i5]at this;exact this
theorem kZ{t y:TypeId}{H n:Nat}{L:LAd}{l c:Int}{k1 k2:IntKind}(hd:P.underlying t=some (.slice y))(hn:fi P y=some n)(O:s7 P y=some H)(hz:fQ P y=some L)
 (h0:0<=l) (h1:l<=c) (h2:(H:Int)*c<=140737488355328) (h3:c<=9223372036854775807):
 ∃cv:LAe,(Instr.makeSlice t (.int k1 l) (.int k2 c)).run P w= .ok (.slice (some ⟨w.heap.size,0,none⟩) l.toNat c.toNat) (w.alloc (.cells cv y (0,0)))/\cv.size=c.toNat*n/\
  ∀k,k<c.toNat*n->cv.getD k undef=L.getD (k % L.length) default:=by
 obtain⟨z,a0,U⟩:=cG hz;have wl:af.wrap l=l:=by rw[IntKind.wrap_i64];omega
 have wc:af.wrap c=c:=by rw[IntKind.wrap_i64];omega
 have hby:∃i,P.info? y=some i/\i.bytes=H:=by
  unfold s7 at O;cases hi:P.info? y with
  |none=>simp[hi]at O
  |some i=>simp[hi]at O;exact⟨i,rfl,O⟩
 obtain⟨i,hi,Z⟩:=hby
 have I:¬((decide (c<0)||decide ((i.bytes:Int)*c>2^48)||decide (l<0)||decide (l>c))=true):=by rw[Z];simp;omega
 have J:∀(Q:LAe),(c.toNat*n=0\/Q=z.cells)->∃cv:LAe,cv=(Array.range (c.toNat*n)).map (fun j=>Q[j % Q.size]!)/\cv.size=c.toNat*n/\∀k,k<c.toNat*n->cv.getD k undef=L.getD (k % L.length) default:=by
  intro Q W;refine⟨_,rfl,by simp,fun k hk=> ?_⟩;rcases W with h|rfl
  ·omega
  ·rw[<-a0]
   simp[bh,hk];rw[getElem!_def];cases z.cells[k % z.cells.size]? <;>rfl
 by_cases E:c.toNat*n=0
 ·obtain⟨cv,F,r1,T⟩:=J #[] (.inl E)
  refine⟨cv, ?_,r1,T⟩;simp only[Instr.makeSlice,ay,run_underlying hd,aj,asInt,asIntOf,aD,run_typeInfo w hi,wl,wc];rw[if_neg (by simpa using I)];simp only[ay,run_askRoom,aj,cO hn];rw[if_pos E];simp only[ay,aD,aj,newRow,run_newObj_alloc,F]
 ·obtain⟨cv,F,r1,T⟩:=J z.cells (.inr rfl)
  refine⟨cv, ?_,r1,T⟩;simp only[Instr.makeSlice,ay,run_underlying hd,aj,asInt,asIntOf,aD,run_typeInfo w hi,wl,wc];rw[if_neg (by simpa using I)];simp only[ay,run_askRoom,aj,cO hn];rw[if_neg E];simp only[ay,aD,aj,U,newRow,run_newObj_alloc,F]
end Go.Sy
namespace Go.Sy
variable [aX]
variable {P : Program} {C : Ctx} {x : Sit} {s : St} {a : Act} {w : World} {o : Oper} {so : SOp} {e : Eff}
theorem ft{α:Type}(n:Nat)(z d:α)(i:Nat)(h:i<n):(ao n z).getD i d=z:=by rw[aa,List.getElem?_replicate,if_pos h];rfl
theorem mW{t:TypeId}{cs:LAa}(h:xy P t=some cs):∃vs,fQ P t=some vs/\cs.length=vs.length/\∀(G:GM) i,i<cs.length->cL G (cs.getD i .undef) (vs.getD i undef):=by obtain⟨z,hz,rfl⟩:=ah.1 h;obtain⟨vs,E,y,F⟩:=jg hz;refine⟨vs,E,by simpa using y,fun G i hi=> ?_⟩;rw[aU _ (by rfl)];exact(F G i (by simpa using hi)).toData
theorem qH(hM:aL C x s a w){t:TypeId}{X Y:Operand}(ho:o.op= .makeSlice t X Y)(h:bn P o=some so)(I:eff s o.dst so=some e)(hp:e.pre):cg P C o a w (s.app o.dst e):=by
 have Z:execOp a.eval o=(do pure (.value (<-Instr.makeSlice t (a.eval X) (a.eval Y)))):=by simp only[execOp,ho]
 simp only[bn,ho]at h;split at h<;>try (cases h;done)
 rename_i el hd;split at h<;>try (cases h;done)
 rename_i n a1 z l c hn hb hz hl hc;obtain⟨zs,a0,F,T⟩:=mW hz;have h1:=aK hM hl;have h2:=aK hM hc;cases h8:lF P el with
 |true=>
  have a4:=ja h8;simp only[h8,if_true]at h
  by_cases Q:n=1/\a1=1/\z0 z=true
  ·rw[if_pos Q]at h
   obtain⟨rfl,rfl,y⟩:=Q;simp only[aq.injEq]at h;subst h;simp only[eff]at I;split at I<;>try (cases I;done)
   rename_i d k1 L k2 K O hL hK;cases I;obtain⟨q0,q1,q2⟩:=hp;rw[hL]at h1;rw[hK]at h2;obtain⟨cv,E,J,H⟩:=kZ (P:=P) (w:=w) (k1:=k1) (k2:=k2) hd hn hb a0 q0 q1 (by omega) (by omega);simp only[St.app];have U:o.dst.getD 0=d:=by rw[O];rfl
   rw[U]
   have a2:z=[.u8 0]:=by
    unfold z0 at y;split at y
    ·rename_i b;simp at y;rw[y]
    ·cases y
   refine cg.newObj hM (d:=d+100) (by omega) (.bar (ao K.toNat 0)) Z (by rw[h1.int_inv,h2.int_inv];exact E) (by simp[aC.size,J]) (fun k W=> ?_) ?_
   ·simp only[aC.size,bQ]at W
    simp only[co,aC.cell];rw[H k (by omega),ft _ _ _ _ W];rw[a2]at F T;have h0:=T x.G 0 (by simp);have:zs.length=1:=by simpa using F.symm
    rw[this,Nat.mod_one]
    match zs,this with
    |[v],_=>exact h0
   ·have:=Rep.psl (x:=x.newO (d+100) w.heap.size) (d+100) 1 0 L.toNat (some K.toNat) 0 K.toNat (.inr (by omega)) (by omega) (fun _ e=>by cases e;rfl) (fun e=>by cases e)
    rw[i5]at this;exact this
  ·rw[if_neg Q]at h;cases h
 |false=>
  simp only[h8,aJ,if_false]at h
  by_cases hzl:z.length=n/\n≠0
  ·rw[if_pos hzl]at h
   simp only[aq.injEq]at h;subst h;obtain⟨hzl,hn0⟩:=hzl;simp only[eff]at I;split at I<;>try (cases I;done)
   rename_i d k1 L k2 K O hL hK;cases I;obtain⟨q0,q1,q2,q3⟩:=hp;rw[hL]at h1;rw[hK]at h2;obtain⟨cv,E,J,H⟩:=kZ (P:=P) (w:=w) (k1:=k1) (k2:=k2) hd hn hb a0 q0 q1 q2 q3;simp only[St.app];have U:o.dst.getD 0=d:=by rw[O];rfl
   rw[U];refine cg.newObj hM (d:=d+100) (by omega) (.arr z.length (ao K.toNat z)) Z (by rw[h1.int_inv,h2.int_inv];exact E) (by simp[aC.size,J,hzl]) (fun k W=> ?_) ?_
   ·simp only[aC.size,bQ]at W
    simp only[co,aC.cell];rw[H k (by rw[<-hzl];exact W),ft _ _ _ _ (Nat.div_lt_of_lt_mul (by rw[cm];exact W)),<-F];have a3:k % z.length<z.length:=Nat.mod_lt _ (by omega);have:=T x.G _ a3
    have e1:zs.getD (k % z.length) default=zs.getD (k % z.length) undef:=by rw[aa,aa,ab (by omega)];rfl
    rw[e1];exact this
   ·have:=Rep.psl (x:=x.newO (d+100) w.heap.size) (d+100) z.length 0 L.toNat (some K.toNat) 0 K.toNat (.inr (by omega)) (by omega) (fun _ e=>by cases e;rfl) (fun e=>by cases e)
    rw[i5]at this;exact this
  ·rw[if_neg hzl]at h;cases h
theorem cL.oneCell{G:GM}{c:SV}{v:Value}(h:cL G c v):v.oneCell'=true:=by cases h<;>rfl
theorem Rep.oneCell{c:SV}{v:Value}(h:Rep x c v)(y:c.one=true):v.oneCell'=true:=by
 cases h with
 |undef=>simp[SV.one]at y
 |dat _ _ h _=>exact h.oneCell
 |ptr=>rfl
 |ap=>rfl
 |psl=>rfl
 |agg=>simp[SV.one]at y
 |tup=>simp[SV.one]at y
 |fn=>rfl
theorem se(cs:LAa)(off:Nat)(v:LAa)(h:off+v.length<=cs.length)(i:Nat):(gA cs off v).getD i .undef=if off<=i/\i<off+v.length then v.getD (i-off) .undef else cs.getD i .undef:=by
 have y:∀i:Nat,(cs.take off++v++cs.drop (off+v.length)).getD i .undef=if off<=i/\i<off+v.length then v.getD (i-off) .undef else cs.getD i .undef:=by intro i;simp only[aa];rw[fR _ _ _ _ h];split<;>rfl
 unfold gA;split
 ·rename_i u
  simp only[aH]at*;simp only[aa,gu]
  by_cases hi:off=i
  ·subst hi;rw[if_pos rfl,if_pos (by omega),if_pos (by omega)];simp
  ·rw[if_neg hi,if_neg (by omega)]
 ·exact y i
theorem np(cs:LAa)(off:Nat)(v:LAa)(h:off+v.length<=cs.length):(gA cs off v).length=cs.length:=by
 unfold gA;split
 ·simp
 ·simp;omega
theorem cg.store(hM:aL C x s a w){t:TypeId}{X Y:Operand}(ho:o.op= .store t X Y){n:Nat}(hn:fi P t=some n){d off:Nat}(hX:a.eval X= .pointer (some ⟨(x.bk d).1,off,none⟩)){obj obj':aC}(T:s.look d=some obj)
 {vs:LAd} (hY:(a.eval Y).cells.toList=vs) (z:vs.length=n) (y:∀v∈vs,v.oneCell'=true) (hb:off+n<=obj.size)
 (a0:obj'.size=obj.size) (F:∀c:LAe,(∀k,k<obj.size->co x obj k (c.getD k undef))->∀k,k<obj.size->co x obj' k (if off<=k/\k<off+n then vs.getD (k-off) undef else c.getD k undef)) (H:obj'.arrB=obj.arrB:=by rfl):
 cg P C o a w ((s.setO d obj').put o.dst .undef):=by
 obtain⟨c,e,fl,fh,Q,⟨hs,Z,L⟩,hr⟩:=ei hM T;obtain⟨W,g2,U,g4,g5⟩:=eW ((x.bk d).1) vs w off;obtain⟨c',J,I,O⟩:=ez vs w off c Q (by omega);refine⟨undef,cn w ((x.bk d).1) off vs,x,.skip, ?_,.inr ⟨rfl,rfl⟩,aL.put (s:=s.setO d obj') ⟨hM.tm,hM.defers, ?_⟩ o.dst (.undef _)⟩
 ·simp only[execOp,ho,Instr.storeAt,hX,Instr.sureAddr,ay,aD,aj,storeVar,cO hn]
  have E:(a.eval Y).cells.size=n:=by rw[<-aO,hY];exact z
  rw[if_neg (by simp[E]),hY,ey off vs w c 0 Q (by omega) y];rfl
 ·refine hM.heap.block (cR T) W g2 U g4 g5 ⟨c',e,fl,fh,J,⟨by omega,by omega,fun h=>by rw[I];exact L (H ▸ h)⟩,fun k hk=> ?_⟩
  rw[O k,z];exact F c hr k (by omega)
theorem mF{cs:LAa}{vs:LAd}(h:cD x cs vs)(E:cs.all SV.one=true):∀v∈vs,v.oneCell'=true:=by
 intro v H;obtain⟨i,hi,rfl⟩:=bY H;have y:i<cs.length:=by rw[h.1];exact hi
 have:=h.2 i y;have z:cs.getD i .undef=cs[i]:=by rw[aa,ab y];rfl
 have F:vs.getD i undef=vs[i]:=by rw[aa,ab hi];rfl
 rw[z,F]at this;exact this.oneCell (aT.1 E _ (bx _))
theorem oT{c:SV}(h:c.isData=true):c.one=true:=by cases c<;>simp[SV.isData,SV.one]at*
theorem Re{z:Nat}{E:f8}(h:∀y∈E,y.length=z){i j n:Nat}{v:LAa}(hi:i<E.length)(hj:j+n<=z)(hv:v.length=n):
 (iz z E i j n v).length=E.length/\∀k,k<E.length*z->((iz z E i j n v).getD (k/z) []).getD (k % z) .undef=if i*z+j<=k/\k<i*z+j+n then v.getD (k-(i*z+j)) .undef else(E.getD (k/z) []).getD (k % z) .undef:=by
 have W:(E.getD i []).length=z:=by rw[aa,ab hi];exact h _ (bx _)
 obtain⟨T,J,H⟩:∃T:LAa,(∀m,m<z->T.getD m .undef=if j<=m/\m<j+n then v.getD (m-j) .undef else(E.getD i []).getD m .undef)/\iz z E i j n v=E.set i T:=by
  unfold iz;split
  ·rename_i O
   obtain⟨rfl,rfl⟩:=O;exact⟨v,fun m Z=>by rw[if_pos ⟨by omega,by omega⟩,Nat.sub_zero],rfl⟩
  ·refine⟨_,fun m Z=> ?_,rfl⟩
   have:=fR (E.getD i []) v j m (by omega);rw[hv]at this;simp only[aa]at this ⊢;rw[this];split<;>rfl
 rw[H];refine⟨by simp,fun k hk=> ?_⟩
 have L:0<z:=by
  rcases gj z with Q|Q
  ·subst Q;omega
  ·exact Q
 have I:=Nat.div_add_mod k z;have U:=Nat.mod_lt k L;rw[cm]at I;simp only[aa,gu]at J ⊢
 by_cases F:i=k/z
 ·rw[if_pos F,if_pos hi]
  simp only[bp];rw[J _ U,<-F];rw[<-F]at I
  by_cases O:j<=k % z/\k % z<j+n
  ·rw[if_pos O,if_pos (by omega),show k-(i*z+j)=k % z-j from by omega]
  ·rw[if_neg O,if_neg (by omega)]
 ·rw[if_neg F,if_neg ?_]
  rintro⟨h1,h2⟩;apply F;have:i*z<=k/\k<(i+1)*z:=by rw[dJ];omega
  rw[eq_comm,Nat.div_eq_iff L];rw[dJ]at this;omega
theorem lI(h:Nat):∀(m:Nat)(v:LAa),(jw h m v).length=m
 |0,_=>rfl
 |m+1,v=>by simp[jw,lI h m]
theorem rU(y:Nat)(z:0<y):∀(m:Nat)(v:LAa)(k:Nat),k<m*y->((jw y m v).getD (k/y) []).getD (k % y) .undef=v.getD k .undef
 |0,_,k,hk=>by omega
 |m+1,v,k,hk=>by
  rw[dJ]at hk;simp only[jw]
  by_cases h:k<y
  ·rw[xx h,dp h,bZ]
   simp only[aa,bJ,if_pos h]
  ·obtain⟨j,rfl⟩:∃j,k=j+y:=⟨k-y,by omega⟩
   rw[Nat.add_div_right _ z,Nat.add_mod_right,cz,rU y z m (v.drop y) j (by omega)];simp only[aa,br,Nat.add_comm]
theorem DO(hM:aL C x s a w){t:TypeId}{X Y:Operand}(T:o.op= .store t X Y)(hr:bn P o=some so)(h:eff s o.dst so=some e)(hp:e.pre):cg P C o a w (s.app o.dst e):=by
 simp only[bn,T]at hr;split at hr<;>try (cases hr;done)
 rename_i n r q hn a1 a3;cases hr;have L:=aK hM a1;have h2:=aK hM a3;simp only[eff]at h;split at h<;>try (cases h;done)
 rename_i hn0;have hL:=h2.cells hn0;cases hu:s.ev r with
 |ptr d off=>
  rw[hu]at h L;simp only[qa]at h;split at h<;>try (cases h;done)
  ·rename_i cs F
   cases h;obtain⟨O,J,I⟩:=hp;refine cg.store hM T hn L.ptr_inv F rfl (by rw[<-hL.1];exact J) (mF hL I) O (by simp only[aC.size];exact np _ _ _ (by omega)) (fun c Q k E=> ?_);have:=Q k E;simp only[co]at this ⊢;rw[se _ _ _ (by omega),J];split
   ·exact hL.get _
   ·exact this
  ·rename_i H xs F
   cases h;obtain⟨rfl,O,J,I⟩:=hp
   refine cg.store hM T hn L.ptr_inv F rfl (by rw[<-hL.1];exact J) (mF hL (by rw[aT]at I ⊢;exact fun z hz=>oT (I z hz))) (by simp only[aC.size];omega) (by simp only[aC.size,lI]) (fun c Q k E=> ?_)
   simp only[aC.size]at E;have y:k<(s.ev q).cells.length:=by omega
   have a4:0<H:=by
    rcases gj H with h0|h0
    ·subst h0;omega
    ·exact h0
   simp only[co,aC.cell];rw[if_pos ⟨by omega,by omega⟩,Nat.sub_zero,rU H a4 _ _ _ E,gi];refine((hL.2 _ y).data (aT.1 I _ ?_)).toData;generalize (s.ev q).cells=qq at*;rw[aa,ab y];exact bx _
  ·rename_i l F
   split at h<;>try (cases h;done)
   rename_i l' hv;cases h;obtain⟨rfl,O,J⟩:=hp;have a2:=ss hv;rw[a2]at hL
   refine cg.store hM T hn L.ptr_inv F rfl (by rw[<-hL.1,aS];exact J) (mF hL (by rw[aT];intro z hz;obtain⟨b,_,rfl⟩:=aR.1 hz;rfl)) (by simp only[aC.size];omega) (by simp only[aC.size];omega) (fun c Q k E=> ?_)
   simp only[aC.size]at E;simp only[co,aC.cell];rw[if_pos ⟨by omega,by omega⟩,Nat.sub_zero];have y:k<(l'.map SV.u8).length:=by rw[aS];omega
   have W:k<l'.length:=by omega
   have U:(l'.map SV.u8).getD k .undef= .u8 (l'.getD k 0):=by simp[aa,aP,ab W]
   have:=hL.2 k y;rw[U]at this;exact this.data rfl
 |ap d H i j=>
  rw[hu]at h L;simp only[qa]at h;split at h<;>try (cases h;done)
  ·rename_i a6 xs F
   cases h;obtain⟨rfl,O,J,I,q3,q4⟩:=hp;have a0:((s.ev q).cells.map SV.data).length=n:=by rw[aS];exact I
   obtain⟨g1,g2⟩:=Re q3 O J a0
   have hb:i*H+j+n<=xs.length*H:=by have:=bv H (Nat.succ_le_of_lt O);rw[dJ]at this;omega
   refine cg.store hM T hn L.ap_inv F rfl (by rw[<-hL.1];exact I) (mF hL (by rw[aT]at q4 ⊢;exact fun z hz=>oT (q4 z hz))) (by simp only[aC.size];exact hb) (by simp only[aC.size];rw[g1]) (fun c Q k E=> ?_)
   have:=Q k E;simp only[co,aC.cell,aC.size]at this E ⊢;rw[g2 k E];split
   ·rename_i a5
    rw[gi];have y:k-(i*H+j)<(s.ev q).cells.length:=by omega
    refine((hL.2 _ y).data (aT.1 q4 _ ?_)).toData;generalize (s.ev q).cells=qq at*;rw[aa,ab y];exact bx _
   ·exact this
  ·rename_i l F
   split at h<;>try (cases h;done)
   rename_i b hb;cases h;obtain⟨rfl,rfl,rfl,O⟩:=hp;rw[hb]at hL;refine cg.store hM T hn L.ap_inv F rfl (by rw[<-hL.1];rfl) (mF hL rfl) (by simp only[aC.size];omega) (by simp[aC.size]) (fun c Q k E=> ?_);have:=Q k E;simp only[co,aC.cell,aC.size]at this E ⊢;simp only[db,dL]
   by_cases Z:k=i
   ·subst Z
    rw[if_pos (by omega),Nat.sub_self];have U:(l.set k b).getD k 0=b:=by rw[aa,gu,if_pos rfl,if_pos E];rfl
    rw[U];exact(hL.2 0 (by simp)).data rfl
   ·rw[if_neg (by omega)]
    have U:(l.set i b).getD k 0=l.getD k 0:=by rw[aa,gu,if_neg (fun e=>Z e.symm),<-aa]
    rw[U];exact this
 |_=>rw[hu]at h;simp[qa]at h
end Go.Sy
namespace Go.Sy
variable [aX]
variable {P : Program} {C : Ctx} {x : Sit} {s : St} {a : Act} {w : World} {o : Oper} {so : SOp} {e : Eff}
def xo1(G:GM)(b off:Nat)(fl:LAa):Prop:=∀k,k<fl.length->∃v,G b (off+k)=some v/\cL G (fl.getD k .undef) v
def CL(G:GM)(h:Nat)(fl:LAa)(v:Value)(n cap:Nat):Prop:=
 n*h=fl.length/\n<=cap/\((∃b off,v= .slice (some ⟨b,off,none⟩) n cap/\xo1 G b off fl)\/((∃a,v= .slice a 0 0)/\n=0/\cap=0))
theorem eB(l:t7)(k:Nat)(h:k<l.length):(l.map SV.u8).getD k .undef= .u8 (l.getD k 0):=by simp only[aa,aP];rw[ab h];rfl
theorem vk{G:GM}{l:t7}{t:Tok}{v:Value}(h:cL G (.byt l t) v):∃cap,CL G 1 (l.map .u8) v l.length cap/\∃bs,v= .slice bs l.length cap:=by
 cases h with
 |bytN=>exact⟨0,⟨by simp,by simp,.inr ⟨⟨none,rfl⟩,rfl,rfl⟩⟩,none,rfl⟩
 |bytE _ a=>exact⟨0,⟨by simp,by simp,.inr ⟨⟨some a,rfl⟩,rfl,rfl⟩⟩,some a,rfl⟩
 |byt _ _ b off cap n hn z h=>subst hn;refine⟨cap,⟨by simp,z,.inl ⟨b,off,rfl,fun k y=> ?_⟩⟩,_,rfl⟩;rw[aS]at y;exact⟨_,h k y,by rw[eB _ _ y];exact .u8 _⟩
theorem GA{G:GM}{l:t7}{t:Tok}{v:Value}{cap:Nat}(h:CL G 1 (l.map .u8) v l.length cap):cL G (.byt l t) v:=by
 obtain⟨_,F,⟨b,off,rfl,z⟩|⟨⟨a,rfl⟩,E,_⟩⟩:=h
 ·refine .byt l t b off cap l.length rfl F fun i hi=> ?_
  obtain⟨v,H,y⟩:=z i (by simpa using hi);rw[eB _ _ hi]at y;cases y;exact H
 ·have:l=[]:=cA.1 E
  subst this;cases a with
  |none=>exact .bytN t
  |some a=>exact .bytE t a
theorem bE{F:Nat}{E:f8}(h:∀y∈E,y.length=F):E.flatten.length=E.length*F:=by
 induction E with
 |nil=>simp
 |cons y r H=>simp only[cE,ac,aA,dJ];rw[H (fun z hz=>h z (am _ hz)),h y (by simp)];omega
theorem uo{E:Nat}{z:f8}(h:∀i,i<z.length->(z.getD i []).length=E):∀y∈z,y.length=E:=by intro y F;obtain⟨i,hi,rfl⟩:=bY F;have:=h i hi;rwa[aa,ab hi]at this
theorem pT{G:GM}{E:Nat}{F:f8}{t:Tok}{v:Value}(h:cL G (.lst E F t) v):∃cap,CL G E F.flatten v F.length cap/\(∃bs,v= .slice bs F.length cap)/\∀y∈F,y.length=E:=by
 cases h with
 |lstN=>exact⟨0,⟨by simp,by simp,.inr ⟨⟨none,rfl⟩,rfl,rfl⟩⟩,⟨none,rfl⟩,by simp⟩
 |lstE _ _ a=>exact⟨0,⟨by simp,by simp,.inr ⟨⟨some a,rfl⟩,rfl,rfl⟩⟩,⟨some a,rfl⟩,by simp⟩
 |lst _ _ _ b off cap n Q hn U T W h=>
  subst hn;have z:=uo T;refine⟨cap,⟨(bE z).symm,U,.inl ⟨b,off,rfl,fun k J=> ?_⟩⟩,⟨_,rfl⟩,z⟩;rw[bE z]at J
  have L:0<E:=by
   rcases gj E with I|I
   ·subst I;omega
   ·exact I
  have hd:k/E<F.length:=Nat.div_lt_of_lt_mul (by rw[cm];exact J);have O:=Nat.mod_lt k L;have H:=Nat.div_add_mod k E;rw[cm]at H;refine⟨Q (k/E) (k % E), ?_, ?_⟩
  ·have:=W _ _ hd O
   rwa[dH,H]at this
  ·rw[cI F z k J];exact h _ _ hd O
theorem FY{G:GM}{E:Nat}{F:f8}{t:Tok}{v:Value}{cap:Nat}(h:CL G E F.flatten v F.length cap)(z:∀y∈F,y.length=E):cL G (.lst E F t) v:=by
 obtain⟨_,T,⟨b,off,rfl,L⟩|⟨⟨a,rfl⟩,O,_⟩⟩:=h
 ·refine .lst E F t b off cap F.length (fun i j=>(G b (off+i*E+j)).getD undef) rfl T (fun i hi=> ?_) (fun i j hi Q=> ?_) (fun i j hi Q=> ?_)
  ·rw[aa,ab hi];exact z _ (bx _)
  all_goals
   have J:i*E+j<F.length*E:=by have:=bv E (Nat.succ_le_of_lt hi);rw[dJ]at this;omega
   obtain⟨v,I,H⟩:=L (i*E+j) (by rw[bE z];exact J);rw[<-dH]at I
  ·rw[I];rfl
  ·rw[I]
   rw[cI F z _ J,show(i*E+j)/E=i from by rw[cm,Nat.mul_add_div (by omega),xx (by omega)];rfl,
    show(i*E+j) % E=j from by rw[cm,Nat.mul_add_mod,dp (by omega)]]at H
   exact H
 ·have:F=[]:=cA.1 O
  subst this;cases a with
  |none=>exact .lstN E t
  |some a=>exact .lstE E t a
structure New(x:Sit)(ns:List Value)(fl:List SV):Prop where
 len:fl.length=ns.length
 rep:∀k,k<fl.length->cL x.G (fl.getD k .undef) (ns.getD k undef)
 one:∀v∈ns,v.oneCell'=true
theorem dS(z:LAe)(n:Nat):(Builtin.zeroCells z n).size=n*z.size:=by simp[Builtin.zeroCells]
theorem aL.retok(hM:aL C x s a w){t:Tok}(L:t.ready s=true)(d:Nat){y n cap:Nat}{bs:Option Addr}(F:dk x y t (.slice bs n cap)):
 ∃b lo hi,aL C (x.newT d b lo hi) (s.grew t d) a w/\dk (x.newT d b lo hi) y (.id d) (.slice bs n cap):=by
 have empty:cap=n->∃b lo hi,aL C (x.newT d b lo hi) (s.grew t d) a w/\dk (x.newT d b lo hi) y (.id d) (.slice bs n cap):=by
  intro z;refine⟨0,0,0,⟨?_,hM.defers, ?_⟩,bs,n,cap,rfl,.inl z⟩
  ·exact cD.mono (x:=x) (x':=x.newT d 0 0 0) (lo:=d) (hi:=d+1) (fun _ _ _ h=>h) (fun _ _=>rfl) (Sit.newT_ne x d 0 0 0) hM.tm
  ·refine(hM.heap.sub (tk':=t.eat s.tk) (ni.refl _) ?_).addT d 0 0 0 (.inl rfl) (.inl rfl) (.inl rfl)
   intro u hu;cases t with
   |id t=>exact fV hu
   |_=>exact hu
 cases t with
 |no=>simp[Tok.ready]at L
 |clip=>obtain⟨U,Q,H⟩:=F;simp only[Value.slice.injEq]at H;exact empty (by omega)
 |id t=>
  obtain⟨U,Q,J,H,O⟩:=F;simp only[Value.slice.injEq]at H;obtain⟨rfl,rfl,rfl⟩:=H;rcases O with z|⟨b,off,rfl,hτ⟩
  ·exact empty z
  ·have E:t∈s.tk:=by simpa[Tok.ready]using L
   refine⟨b,off+n*y,off+cap*y,⟨?_,hM.defers, ?_⟩,_,n,cap,rfl,.inr ⟨b,off,rfl,Sit.newT_eq x d _ _ _⟩⟩
   ·exact cD.mono (x:=x) (x':=x.newT d b (off+n*y) (off+cap*y)) (lo:=d) (hi:=d+1) (fun _ _ _ h=>h) (fun _ _=>rfl) (Sit.newT_ne x d _ _ _) hM.tm
   ·have I:=hM.heap.tks t E
    unfold gY at I;rw[hτ]at I;refine(hM.heap.sub (tk':=cy t (t+1) s.tk) (ni.refl _) (fun u hu=>fV hu)).addT d b (off+n*y) (off+cap*y) I ?_ ?_
    ·by_cases z:off+n*y=off+cap*y
     ·exact .inl z
     ·refine .inr fun p W _=> ?_
      have:=hM.heap.tko t E p W;rw[hτ]at this;exact this.resolve_right z
    ·by_cases z:off+n*y=off+cap*y
     ·exact .inl z
     ·refine .inr fun u hu _=> ?_
      obtain⟨hu,T⟩:=bC.1 hu;have:=hM.heap.tkd t E u hu (by omega);rw[hτ]at this;rcases this with h|h|h
      ·exact .inl h
      ·exact absurd h z
      ·exact .inr h
theorem fS{t u H:TypeId}{d2:TypeDesc}{n m len cap:Nat}(hd:P.underlying t=some (.slice H))(hu:P.underlying u=some d2)(E:(∃F,d2= .slice F)\/d2= .string)(hn:fi P H=some n){ty:TypeId}{bs:Option Addr}{Y:Value}{ns:LAd}{w1:World}
 (z:(Builtin.lenOf Y).run P w= .ok m w) (h:(Builtin.firstCells n m Y).run P w= .ok ns.toArray w) (L:len+m<=cap)
 (y:(match bs with|some I=>storeCells (I.add (len*n)) ns|none=>pure ():Sem Unit).run P w= .ok () w1):
 (Builtin.append_ #[t,u] ty #[.slice bs len cap,Y]).run P w= .ok (.slice bs (len+m) cap) w1:=by
 have e:(#[t,u]:Array TypeId)[0]? =some t:=rfl;have F:(#[t,u]:Array TypeId)[1]? =some u:=rfl;have J:(#[Value.slice bs len cap,Y]:LAe)[0]? =some (.slice bs len cap):=rfl;have O:(#[Value.slice bs len cap,Y]:LAe)[1]? =some Y:=rfl;rcases E with⟨Q,rfl⟩|rfl
 all_goals
  simp only[Builtin.append_,e,F,J,O,ay,run_underlying hd,aj,cO hn,run_underlying hu,aD,aJ,if_false,z,L,if_true,Bool.not_false,h];cases bs with
  |none=>simp only[aD]at y;cases y;rfl
  |some I=>simp only[ay];rw[y];rfl
theorem im{t u E:TypeId}{d2:TypeDesc}{n m len cap h:Nat}{i:TypeInfo}{z:Value}(hd:P.underlying t=some (.slice E))(hu:P.underlying u=some d2)(Q:(∃O,d2= .slice O)\/d2= .string)(hn:fi P E=some n){ty:TypeId}{bs:Option Addr}{Y:Value}{os ns:LAd}
 (hi:P.info? E=some i) (H:i.bytes=h) (hb0:h≠0) (U:∀w,(zeroValue E).run P w= .ok z w)
 (J:∀w',w'.heap=w.heap->(Builtin.lenOf Y).run P w'= .ok m w') (y:∀w',w'.heap=w.heap->(Builtin.firstCells n m Y).run P w'= .ok ns.toArray w') (I:∀w',w'.heap=w.heap->(Builtin.firstCells n len (.slice bs len cap)).run P w'= .ok os.toArray w')
 (hc:¬len+m<=cap) (F:(len+m)*h<=140737488355328):
 ∃T,len+m<=T/\(Builtin.append_ #[t,u] ty #[.slice bs len cap,Y]).run P w= .ok (.slice (some ⟨w.heap.size,0,none⟩) (len+m) T) (w.drew.alloc (.cells (os.toArray++ns.toArray++Builtin.zeroCells z.cells (T-(len+m))) E (0,0))):=by
 have e:(#[t,u]:Array TypeId)[0]? =some t:=rfl;have O:(#[t,u]:Array TypeId)[1]? =some u:=rfl;have W:(#[Value.slice bs len cap,Y]:LAe)[0]? =some (.slice bs len cap):=rfl;have Z:(#[Value.slice bs len cap,Y]:LAe)[1]? =some Y:=rfl;have hf:(Question.appendCap (len+m) cap E).forced=false:=rfl
 have L:¬Builtin.nextslicecap (len+m) cap*i.bytes>2^48:=by have:=growslice_fits (need:=len+m) (old:=cap) (bytes:=h) (by omega) F;rw[H];omega
 refine⟨(Question.appendCap (len+m) cap E).cut (w.tape w.drawn (Question.appendCap (len+m) cap E)),by simp only[Question.cut];omega, ?_⟩;rcases Q with⟨e4,rfl⟩|rfl
 all_goals
  simp only[Builtin.append_,e,O,W,Z,ay,run_underlying hd,aj,cO hn,run_underlying hu,aD,aJ,if_false,J w rfl,hc,run_typeInfo w hi,H,hb0,false_or,and_false];rw[if_neg (by rw[<-H];exact L)];simp only[ay,run_choose_drew,hf,aJ,if_false,aj,run_typeInfo w.drew hi,run_askRoom,I w.drew rfl,Bool.not_false,if_true,y w.drew rfl,U,newRow,run_newObj_alloc,aD];rfl
theorem iw(os ns:LAd)(r:LAe)(k:Nat)(h:k<os.length+ns.length):(os.toArray++ns.toArray++r)[k]? =(os++ns)[k]? :=by rw[Array.getElem?_append_left (by simp;omega)];rw[<-cZ];simp
theorem ou(hM:aL C x s a w){t u Z:TypeId}{d2:TypeDesc}{n a2:Nat}{zs:LAd}(hd:P.underlying t=some (.slice Z))(hu:P.underlying u=some d2)(a7:(∃e',d2= .slice e')\/d2= .string)(hn:fi P Z=some n)(hb:s7 P Z=some a2)
 (hz:fQ P Z=some zs) (hb0:a2≠0) (d5:n≠0) (hzl:zs.length=n) {ty:TypeId} {X Y:Value} {tok:Tok} {fl y:LAa} {ns:LAd} {len m cap:Nat} (hX:CL x.G n fl X len cap) (U:tok.ready s=true) (a4:dk x n tok X)
 (O:∀w',w'.heap=w.heap->(Builtin.lenOf Y).run P w'= .ok m w') (F:∀w',w'.heap=w.heap->(Builtin.firstCells n m Y).run P w'= .ok ns.toArray w') (J:ns.length=m*n) (E:New x ns y) (a5:(len+m)*a2<=140737488355328) (d:Nat):
 ∃v w' x' a3,(Builtin.append_ #[t,u] ty #[X,Y]).run P w= .ok v w'/\aL C x' (s.grew tok d) a w'/\CL x'.G n (fl++y) v (len+m) a3/\dk x' n (.id d) v:=by
 obtain⟨Q,g5,a0⟩:=hX;obtain⟨z,f9,e4⟩:=cG hz
 have hby:∃i,P.info? Z=some i/\i.bytes=a2:=by
  unfold s7 at hb;cases hi:P.info? Z with
  |none=>simp[hi]at hb
  |some i=>simp[hi]at hb;exact⟨i,rfl,hb⟩
 obtain⟨i,hi,f0⟩:=hby
 obtain⟨bs,d9⟩:∃bs,X= .slice bs len cap:=by
  rcases a0 with⟨b,off,rfl,_⟩|⟨⟨a,rfl⟩,rfl,rfl⟩
  ·exact⟨_,rfl⟩
  ·exact⟨_,rfl⟩
 subst d9;have c7:y.length=m*n:=by rw[E.len,J]
 have T:(len+m)*n=(fl++y).length:=by rw[ac,c7,<-Q,bA]
 by_cases hc:len+m<=cap
 ·by_cases hm:ns=[]
  ·
   subst hm;have b7:y=[]:=cA.1 (by rw[E.len];rfl);subst b7;obtain⟨b,lo,g3,e5,d4⟩:=hM.retok U d a4
   by_cases a1:m=0
   ·subst a1
    refine⟨_,w,_,cap,fS hd hu a7 hn (O w rfl) (F w rfl) hc (by cases bs<;>rfl),e5, ?_,d4⟩;refine⟨by simpa using Q,hc, ?_⟩;rcases a0 with⟨b,off,H,hr⟩|⟨H,h1,h2⟩
    ·exact .inl ⟨b,off,H,by rw[bw];exact hr⟩
    ·exact .inr ⟨H,h1,h2⟩
   ·
    have hn0:n=0:=by
     simp only[aY]at J;rcases Nat.mul_eq_zero.1 J.symm with h|h
     ·exact absurd h a1
     ·exact h
    exact absurd hn0 d5
  ·have b6:0<ns.length:=mi.2 hm
   have d3:0<m*n:=by omega
   cases tok with
   |no=>simp[Tok.ready]at U
   |clip=>
    obtain⟨b',n',H⟩:=a4;simp only[Value.slice.injEq]at H;have:m=0:=by omega
    subst this;omega
   |id tk=>
    have d7:tk∈s.tk:=by simpa[Tok.ready]using U
    obtain⟨b',n',a3,H,hh⟩:=a4;simp only[Value.slice.injEq]at H;obtain⟨rfl,rfl,rfl⟩:=H;rcases hh with g9|⟨b,off,rfl,hτ⟩
    ·have:m=0:=by omega
     subst this;omega
    ·have b5:off+len*n+ns.length<=off+cap*n:=by
      rw[J,dH,<-bA];exact Nat.add_le_add_left (bv _ hc) _
     obtain⟨f1,f2,f3,f4,f5,f6,f7,⟨c0,e0,g4,g7,hO,g8⟩⟩:=hM.heap.fill d7 hτ ns b5 b6
     have L:=fS (t:=t) (u:=u) (ty:=ty) (Y:=Y) (bs:=some ⟨b,off,none⟩) (w1:=cn w b (off+len*n) ns) hd hu a7 hn (O w rfl) (F w rfl) hc (by simp only[da];exact ey (off+len*n) ns w c0 0 hO (by omega) E.one)
     refine⟨_,_,(x.fill b (off+len*n) ns).newT d b (off+len*n+ns.length) (off+cap*n),cap,L,⟨?_,hM.defers, ?_⟩,⟨T,hc,.inl ⟨b,off,rfl, ?_⟩⟩, ?_⟩
     ·exact cD.mono (x:=x) (x':=(x.fill b (off+len*n) ns).newT d b (off+len*n+ns.length) (off+cap*n)) (lo:=d) (hi:=d+1) f1 (fun _ _=>rfl) (Sit.newT_ne (x.fill b (off+len*n) ns) d _ _ _) hM.tm
     ·exact f2.addT d b _ _ (.inr ⟨f3,f4,f5⟩) (.inr fun p hp _=>f6 p hp) (.inr fun u hu _=>f7 u hu)
     ·rcases a0 with⟨b2,g1,a9,hr⟩|⟨a9,_,_⟩
      ·simp only[Value.slice.injEq,aq.injEq,Addr.mk.injEq]at a9
       obtain⟨⟨rfl,rfl,_⟩,_⟩:=a9;intro k hk
       by_cases I:k<fl.length
       ·obtain⟨v,hv,b3⟩:=hr k I
        refine⟨v,f1 _ _ _ hv, ?_⟩;have:(fl++y).getD k .undef=fl.getD k .undef:=by simp only[aa,bc I]
        rw[this];exact b3.mono f1
       ·rw[ac]at hk
        refine⟨ns.getD (k-fl.length) undef, ?_, ?_⟩
        ·show(x.fill b (off+len*n) ns).G b (off+k)=_
         simp only[Sit.fill];rw[if_pos ⟨trivial,by omega,by omega⟩,show off+k-(off+len*n)=k-fl.length from by omega]
        ·have:(fl++y).getD k .undef=y.getD (k-fl.length) .undef:=by simp only[aa,bq (Nat.le_of_not_lt I)]
         rw[this];exact(E.rep _ (by omega)).mono f1
      ·have a1:m=0:=by omega
       rw[a1,gz]at d3;exact absurd d3 (Nat.lt_irrefl _)
     ·refine⟨_,_,cap,rfl,.inr ⟨b,off,rfl, ?_⟩⟩
      rw[Sit.newT_eq,J,dH,<-bA]
 ·
  obtain⟨os,e9,W,b4⟩:∃os:LAd,(∀w',w'.heap=w.heap->(Builtin.firstCells n len (.slice bs len cap)).run P w'= .ok os.toArray w')/\os.length=fl.length/\∀k,k<fl.length->cL x.G (fl.getD k .undef) (os.getD k undef):=by
   rcases a0 with⟨b,off,H,hr⟩|⟨H,h1,h2⟩
   ·simp only[Value.slice.injEq]at H
    obtain⟨rfl,_⟩:=H;refine⟨(bU (len*n)).map fun k=>(w.cell? ⟨b,off+k,none⟩).getD undef,fun w' d6=> ?_,by simp[Q],fun k hk=> ?_⟩
    ·simp only[Builtin.firstCells]
     refine run_loadCells w' _ _ _ fun j hj=> ?_
     rw[da,dh (w:=w) (by rw[d6])];obtain⟨v,hv,_⟩:=hr j (by omega);rw[hM.heap.per _ _ _ hv];rfl
    ·obtain⟨v,hv,b3⟩:=hr k hk
     have:((bU (len*n)).map fun k=>(w.cell? ⟨b,off+k,none⟩).getD undef).getD k undef=v:=by rw[aa];simp[show k<len*n from by omega,hM.heap.per _ _ _ hv]
     rw[this];exact b3
   ·obtain⟨a,H⟩:=H
    simp only[Value.slice.injEq]at H;obtain⟨rfl,rfl,_⟩:=H;have:fl=[]:=cA.1 (by rw[<-Q,h1,gz]);subst this;exact⟨[],fun w' _=>by cases bs<;>simp only[Builtin.firstCells,gz]<;>rfl,rfl,fun k hk=>by simp at hk⟩
  obtain⟨nc,e3,L⟩:=im (t:=t) (u:=u) (ty:=ty) (Y:=Y) hd hu a7 hn hi f0 hb0 e4 O F e9 hc a5
  let cv:LAe:=os.toArray++ns.toArray++Builtin.zeroCells z.cells (nc-(len+m))
  have g2:cv.size=nc*n:=by
   have e7:z.cells.size=n:=by rw[<-aO,f9];exact hzl
   simp only[cv,Array.size_append,List.size_toArray,dS,e7,W,J,<-Q];rw[<-bA,<-bA];congr 1;omega
  have a6:∀o,x.G w.heap.size o=none:=by
   intro o;cases hg:x.G w.heap.size o with
   |none=>rfl
   |some v=>exact absurd (hM.heap.ltG hg) (by omega)
  have c6:=hM.heap.newD_le cv ((len+m)*n);have hH:cY C (x.newD w.heap.size cv ((len+m)*n)) s.ob s.tk (w.drew.alloc (.cells cv Z (0,0))):=hM.heap.drew.allocD ((len+m)*n);have b8:eS (w.drew.alloc (.cells cv Z (0,0))) w.heap.size cv Z 0 0:=⟨dz (w:=w.drew),fun i _ h=>by omega⟩;refine⟨_,_,(x.newD w.heap.size cv ((len+m)*n)).newT d w.heap.size ((len+m)*n) (nc*n),nc,L,⟨?_,hM.defers, ?_⟩,⟨T,e3,.inl ⟨_,0,rfl, ?_⟩⟩, ?_⟩
  ·exact cD.mono (x:=x) (x':=(x.newD w.heap.size cv ((len+m)*n)).newT d w.heap.size ((len+m)*n) (nc*n)) (lo:=d) (hi:=d+1) c6 (fun _ _=>rfl) (Sit.newT_ne (x.newD w.heap.size cv ((len+m)*n)) d _ _ _) hM.tm
  ·refine(hH.sub (tk':=tok.eat s.tk) (ni.refl _) ?_).addT d w.heap.size _ _ (.inr ⟨⟨cv,Z,0,0,b8,by omega⟩,hM.heap.new _ hM.heap.size,fun o h1 h2=> ?_⟩) (.inr fun p hp _=> ?_) (.inr fun u hu _=> ?_)
   ·intro u hu
    cases tok with
    |id t=>exact fV hu
    |_=>exact hu
   ·simp only[Sit.newD];rw[if_neg (by omega)];exact a6 o
   ·obtain⟨⟨c2,e2,e6,e8,a8,_⟩,_⟩:=hM.heap.obs p hp
    have:=a8.lt;show w.heap.size≠(x.bk p.1).1;omega
   ·have d8:u∈s.tk:=by
     cases tok with
     |id t=>exact fV hu
     |_=>exact hu
    rcases hM.heap.tks u d8 with h|⟨⟨c2,e2,e6,e8,a8,_⟩,_⟩
    ·exact .inr h
    ·have:=a8.lt
     exact .inl (by show w.heap.size≠(x.τ u).1;omega)
  ·intro k hk
   have c3:k<os.length+ns.length:=by rw[W,<-E.len,<-ac];exact hk
   have c4:cv[k]? =(os++ns)[k]? :=iw os ns _ k c3;have g6:k<(len+m)*n:=by rw[T];exact hk
   refine⟨(os++ns).getD k undef, ?_, ?_⟩
   ·show(x.newD w.heap.size cv ((len+m)*n)).G w.heap.size (0+k)=_
    simp only[Sit.newD];rw[if_pos ⟨trivial,by omega⟩,cj,c4];have:k<(os++ns).length:=by rw[ac];exact c3
    rw[ab this,aa,ab this];rfl
   ·refine cL.mono (G:=x.G) c6 ?_
    by_cases I:k<fl.length
    ·have e1:(fl++y).getD k .undef=fl.getD k .undef:=by simp only[aa,bc I]
     have e2:(os++ns).getD k undef=os.getD k undef:=by simp only[aa,bc (show k<os.length by omega)]
     rw[e1,e2];exact b4 k I
    ·have e1:(fl++y).getD k .undef=y.getD (k-fl.length) .undef:=by simp only[aa,bq (Nat.le_of_not_lt I)]
     have e2:(os++ns).getD k undef=ns.getD (k-fl.length) undef:=by simp only[aa,bq (show os.length<=k by omega),W]
     rw[e1,e2];exact E.rep _ (by rw[ac]at hk;omega)
  ·exact⟨_,_,nc,rfl,.inr ⟨w.heap.size,0,rfl,by rw[Sit.newT_eq];simp⟩⟩
theorem eZ(hM:aL C x s a w){u:SV}{Y:Value}{p:Prop}{l:t7}(h:Rep x u Y)(F:bytesOf s u=some (p,l))(hp:p):
 (∀w',w'.heap=w.heap->(Builtin.lenOf Y).run P w'= .ok l.length w')/\(∀m,m<=l.length->∀w',w'.heap=w.heap->(Builtin.firstCells 1 m Y).run P w'= .ok ((l.take m).map fun b=>Value.int .u8 b.toNat).toArray w'):=by
 have load:∀(b off m:Nat),m<=l.length->(∀i,i<l.length->w.cell? ⟨b,off+i,none⟩=some (.int .u8 (l.getD i 0).toNat))->∀w':World,w'.heap=w.heap->
  (loadCells ⟨b,off,none⟩ (m*1)).run P w'= .ok ((l.take m).map fun b=>Value.int .u8 b.toNat).toArray w':=by
  intro b off m E U w' z;rw[run_loadCells w' _ _ (fun i=> .int .u8 (l.getD i 0).toNat) (fun j hj=>by rw[da,dh (w:=w) (by rw[z])];exact U j (by omega))]
  congr 2
  apply List.ext_getElem?;intro i
  by_cases hi:i<m
  ·simp[hi,aa,show i<l.length from by omega]
  ·simp[hi];omega
 cases u with
 |byt O t=>
  simp only[bytesOf,aq.injEq,bj.injEq]at F;obtain⟨rfl,rfl⟩:=F;have L:=h.data rfl;cases hY:Y with
  |slice ad n cp=>
   rw[hY]at L;cases L with
   |bytN=>exact⟨fun w' _=>rfl,fun m E w' _=>by simp at E;subst E;rfl⟩
   |bytE=>exact⟨fun w' _=>rfl,fun m E w' _=>by simp at E;subst E;rfl⟩
   |byt _ _ b off _ _ hn U hg=>subst hn;exact⟨fun w' _=>rfl,fun m E w' z=>by simp only[Builtin.firstCells];exact load b off m E (fun i hi=>hM.heap.per _ _ _ (hg i hi)) w' z⟩
  |_=>rw[hY]at L;cases L
 |str O=>simp only[bytesOf,aq.injEq,bj.injEq]at F;obtain⟨rfl,rfl⟩:=F;rw[h.str_inv];refine⟨fun w' _=>by simp[Builtin.lenOf,ByteArray.size],fun m E w' _=> ?_⟩;simp only[Builtin.firstCells,zE,aV,aD];simp
 |psl o' sz off n cp=>
  simp only[bytesOf]at F;split at F<;>try (cases F;done)
  rename_i O hl;simp only[aq.injEq,bj.injEq]at F;obtain⟨rfl,rfl⟩:=F;obtain⟨Q,a1⟩:=hp;obtain⟨cp,a0,_,y,T,I⟩:=h.psl_inv;have J:((O.drop off).take n).length=n:=by simp;omega
  rw[T];refine⟨fun w' _=>by simp only[Builtin.lenOf,J];rfl,fun m E w' z=> ?_⟩;simp only[Builtin.firstCells]
  by_cases hn:cp=0
  ·have:m=0:=by omega
   subst this;rfl
  ·have H:y=off:=by
    rcases I with h|h
    ·omega
    ·rw[Q,db]at h;exact h
   subst H;refine load ((x.bk o').1) y m E (fun i hi=> ?_) w' z;obtain⟨v,W,h3⟩:=(ei hM hl).cell (k:=y+i) (by simp only[aC.size];omega);rw[W];have Z:cL x.G (.u8 (O.getD (y+i) 0)) v:=h3;cases Z;simp only[aa,bJ,if_pos (show i<n by omega),br]
 |_=>simp[bytesOf]at F
theorem kH(l:t7):New x (l.map fun b=>Value.int .u8 b.toNat) (l.map .u8):=by
 refine⟨by simp,fun k h=> ?_,fun v y=> ?_⟩
 ·rw[aS]at h
  rw[eB _ _ h]
  have:(l.map fun b=>Value.int .u8 b.toNat).getD k undef= .int .u8 (l.getD k 0).toNat:=by simp only[aa,aP];rw[ab h];rfl
  rw[this];exact .u8 _
 ·obtain⟨b,_,rfl⟩:=aR.1 y;rfl
theorem gO(hM:aL C x s a w){E:Nat}{u:SV}{Y:Value}{p:Prop}{J:f8}(h:Rep x u Y)(U:jJ s E u=some (p,J))(hp:p):
 (∀y∈J,y.length=E)/\(∀w',w'.heap=w.heap->(Builtin.lenOf Y).run P w'= .ok J.length w')/\
 ∃ns:LAd,New x ns J.flatten/\∀m,m<=J.length->∀w',w'.heap=w.heap->(Builtin.firstCells E m Y).run P w'= .ok (ns.take (m*E)).toArray w':=by
 have a0:∀(b off:Nat),(∀y∈J,y.length=E)->(∀k,k<J.flatten.length->∃v,w.cell? ⟨b,off+k,none⟩=some v/\cL x.G (J.flatten.getD k .undef) v)->
  ∃ns:LAd,New x ns J.flatten/\∀m,m<=J.length->∀w',w'.heap=w.heap->(loadCells ⟨b,off,none⟩ (m*E)).run P w'= .ok (ns.take (m*E)).toArray w':=by
  intro b off z hc;refine⟨(bU J.flatten.length).map fun k=>(w.cell? ⟨b,off+k,none⟩).getD undef,⟨by simp,fun k H=> ?_,fun v I=> ?_⟩,fun m Q w' L=> ?_⟩
  ·obtain⟨v,I,hr⟩:=hc k H
   have:((bU J.flatten.length).map fun k=>(w.cell? ⟨b,off+k,none⟩).getD undef).getD k undef=v:=by rw[aa,aP,cP H];simp[I]
   rw[this];exact hr
  ·obtain⟨k,H,rfl⟩:=aR.1 I
   obtain⟨v,I,hr⟩:=hc k (jF.1 H);rw[I];exact hr.oneCell
  ·have a4:m*E<=J.flatten.length:=by rw[bE z];exact bv _ Q
   rw[run_loadCells w' _ _ (fun k=>(w.cell? ⟨b,off+k,none⟩).getD undef) (fun j hj=> ?_)]
   ·congr 2
    rw[<-List.map_take,List.take_range,gM a4]
   ·rw[da,dh (w:=w) (by rw[L])]
    obtain⟨v,I,_⟩:=hc j (by omega);rw[I];rfl
 cases u with
 |lst a6 F t=>
  simp only[jJ,aq.injEq,bj.injEq]at U;obtain⟨rfl,rfl⟩:=U;subst hp;obtain⟨cap,⟨h1,h2,h3⟩,_,z⟩:=pT (h.data rfl);refine⟨z, ?_⟩;rcases h3 with⟨b,off,rfl,hr⟩|⟨⟨ad,rfl⟩,h0,_⟩
  ·refine⟨fun w' _=>rfl, ?_⟩
   obtain⟨ns,g1,g2⟩:=a0 b off z (fun k H=>by obtain⟨v,I,a9⟩:=hr k H;exact⟨v,hM.heap.per _ _ _ I,a9⟩)
   exact⟨ns,g1,fun m Q w' L=>by simp only[Builtin.firstCells];exact g2 m Q w' L⟩
  ·have:F=[]:=cA.1 h0
   subst this
   exact⟨fun w' _=>rfl,[],⟨rfl,fun k H=>by simp at H,fun v I=>by simp at I⟩,fun m Q w' _=>by
    have a2:m=0:=by simpa using Q
    subst a2;cases ad<;>simp only[Builtin.firstCells,gz]<;>rfl⟩
 |psl o' a6 off n cp=>
  simp only[jJ]at U;split at U<;>try (cases U;done)
  rename_i b2 F hl;simp only[aq.injEq,bj.injEq]at U;obtain⟨rfl,rfl⟩:=U;obtain⟨rfl,rfl,a7,a8⟩:=hp;have z:∀y∈(F.drop off).take n,y.length=E:=fun y hy=>a8 y (D1 (bD hy))
  obtain⟨cp,b3,_,T,a5,Z⟩:=h.psl_inv;have O:((F.drop off).take n).length=n:=by simp;omega
  rw[a5];refine⟨z,fun w' _=>by simp only[Builtin.lenOf,O];rfl, ?_⟩
  by_cases hn:cp=0
  ·have hn0:n=0:=by omega
   subst hn0
   exact⟨[],⟨by simp,fun k H=>by simp at H,fun v I=>by simp at I⟩,fun m Q w' _=>by simp at Q;subst Q;simp[Builtin.firstCells,loadCells,loadCellsFrom]⟩
  ·have W:T=off*E:=Z.resolve_left hn
   obtain⟨ns,g1,g2⟩:=a0 ((x.bk o').1) T z (fun k H=>by
    rw[bE z,O]at H
    have a3:off*E+k<F.length*E:=by have:=bv E a7;rw[bA]at this;omega
    obtain⟨v,h2,h3⟩:=(ei hM hl).cell (k:=off*E+k) (by simp only[aC.size];exact a3);refine⟨v,by rw[W];exact h2, ?_⟩;have h4:cL x.G ((F.getD ((off*E+k)/E) []).getD ((off*E+k) % E) .undef) v:=h3
    have a1:0<E:=by
     rcases gj E with h0|h0
     ·subst h0;omega
     ·exact h0
    rw[cI _ z k (by rw[O];exact H)];rw[cm off E,Nat.mul_add_div a1,Nat.mul_add_mod]at h4;have hd:k/E<n:=Nat.div_lt_of_lt_mul (by rw[cm];exact H)
    have e1:((F.drop off).take n).getD (k/E) []=F.getD (off+k/E) []:=by simp only[aa,bJ,if_pos hd,br]
    rw[e1];exact h4)
   exact⟨ns,g1,fun m Q w' L=>by simp only[Builtin.firstCells];exact g2 m Q w' L⟩
 |_=>simp[jJ]at U
theorem wX(hM:aL C x s a w){cl:Call}(ho:o.op= .call cl)(hb:cl.callee= .builtin .append)(h:bn P o=some so)(F:eff s o.dst so=some e)(hp:e.pre):cg P C o a w (s.app o.dst e):=by
 simp only[bn,ho,hb]at h;split at h<;>try (cases h;done)
 rename_i X Y t u hX ht;split at h<;>try (cases h;done)
 rename_i el d2 r q hd hu b2 b3;split at h<;>try (cases h;done)
 rename_i n b4 z hn hby hz;rw[aF]at h;obtain⟨O,h⟩:=h;simp only[az,decide_eq_true_eq]at O;obtain⟨⟨hb0,hn0⟩,b6⟩:=O;obtain⟨zs,a9,b5,_⟩:=jg hz;have hzl:zs.length=n:=by omega
 have T:((∃e',d2= .slice e')\/d2= .string)/\so= .app z b4 r q:=by
  split at h<;>try (cases h;done)
  ·cases h;exact⟨.inl ⟨_,rfl⟩,rfl⟩
  ·rw[aF]at h
   obtain⟨_,h⟩:=h;cases h;exact⟨.inr rfl,rfl⟩
  ·cases h;cases F
 obtain⟨T,rfl⟩:=T;have h1:=aK hM b2;have h2:=aK hM b3;have ea:cl.args= #[X,Y]:=by apply dP;simpa using hX
 have et:cl.argTypes= #[t,u]:=by apply dP;simpa using ht
 have a7:=fA (a:=a) ho hb _ rfl;rw[ea,et]at a7;have em: #[X,Y].map a.eval= #[a.eval X,a.eval Y]:=by simp
 rw[em]at a7;simp only[eff]at F;split at F<;>try (cases F;done)
 rename_i d U
 have fin:∀{v w' x'}{c:SV},(Builtin.append_ #[t,u] o.type #[a.eval X,a.eval Y]).run P w= .ok v w'->∀{tk:Tok},aL C x' (s.grew tk (d+100)) a w'->Rep x' c v->cg P C o a w ((s.grew tk (d+100)).put o.dst c):=by intro v w' x' c E tk L hc;exact⟨v,w',x',.value v,by rw[a7];simp[E],.inl rfl,L.put o.dst hc⟩
 cases hu':s.ev r with
 |byt l tk=>
  rw[hu']at F h1
  try simp only at F
  split at F<;>try (cases F;done)
  rename_i p l' a5;cases F;obtain⟨a6,b7,rfl,a2,I⟩:=hp;obtain rfl:n=1:=by omega
  obtain⟨g1,g2⟩:=eZ (P:=P) hM h2 a5 a6;obtain⟨_,_,_,_,_,a0⟩:=h1.byt_inv;obtain⟨cap,hF,_⟩:=vk (h1.data rfl)
  obtain⟨v,w',x',J,E,L,a4,Q⟩:=ou (ty:=o.type) hM hd hu T hn hby a9 hb0 hn0 hzl hF a2 a0 g1 (fun w' a1=>by have:=g2 l'.length (aN _) w' a1;rwa[bi]at this) (by simp) (kH l') (by omega) (d+100)
  simp only[St.app];have a3:o.dst.getD 0=d:=by rw[U];rfl
  rw[a3];refine fin E L (.dat _ _ (GA (cap:=J) ?_) Q);rw[ac,cV];exact a4
 |lst b8 l tk=>
  rw[hu']at F h1
  try simp only at F
  split at F<;>try (cases F;done)
  rename_i p l' a5;cases F;obtain⟨a6,rfl,a2,I⟩:=hp;obtain rfl:n=z.length:=by omega
  obtain⟨H,g1,ns,W,g2⟩:=gO (P:=P) hM h2 a5 a6;obtain⟨_,_,_,_,_,a0⟩:=h1.lst_inv;obtain⟨cap,hF,_,Z⟩:=pT (h1.data rfl);have a8:ns.length=l'.length*z.length:=by rw[<-W.len,bE H]
  obtain⟨v,w',x',J,E,L,a4,Q⟩:=ou (ty:=o.type) hM hd hu T hn hby a9 hb0 hn0 hzl hF a2 a0 g1 (fun w' a1=>by have:=g2 l'.length (aN _) w' a1;rwa[<-a8,bi]at this) a8 W I (d+100)
  simp only[St.app];have a3:o.dst.getD 0=d:=by rw[U];rfl
  rw[a3];refine fin E L (.dat _ _ (FY (cap:=J) ?_ ?_) Q)
  ·rw[ac,b9];exact a4
  ·intro y hy
   rcases ak.1 hy with hy|hy
   ·exact Z y hy
   ·exact H y hy
 |_=>rw[hu']at F;simp at F
end Go.Sy
namespace Go.Sy
variable [aX]
variable {P : Program} {C : Ctx} {x : Sit} {s : St} {a : Act} {w : World} {o : Oper} {so : SOp} {e : Eff}
theorem aL.write(hM:aL C x s a w){d off:Nat}{obj obj':aC}(O:s.look d=some obj){vs:LAd}(hb:off+vs.length<=obj.size)(a0:obj'.size=obj.size)
 (z:∀c:LAe,(∀k,k<obj.size->co x obj k (c.getD k undef))->∀k,k<obj.size->co x obj' k (if off<=k/\k<off+vs.length then vs.getD (k-off) undef else c.getD k undef)) (E:obj'.arrB=obj.arrB:=by rfl):
 aL C x (s.setO d obj') a (cn w ((x.bk d).1) off vs)/\((∀v∈vs,v.oneCell'=true)->∀w':World,w'=w->(storeCells ⟨(x.bk d).1,off,none⟩ vs).run P w'= .ok () (cn w ((x.bk d).1) off vs)):=by
 obtain⟨c,e,fl,fh,L,⟨hs,Z,I⟩,Q⟩:=ei hM O;obtain⟨W,g2,U,g4,T⟩:=eW ((x.bk d).1) vs w off;obtain⟨c',H,F,J⟩:=ez vs w off c L (by omega);refine⟨⟨hM.tm,hM.defers,hM.heap.block (cR O) W g2 U g4 T ⟨c',e,fl,fh,H,⟨by omega,by omega,fun h=>by rw[F];exact I (E ▸ h)⟩,fun k hk=> ?_⟩⟩, ?_⟩
 ·rw[J k]
  exact z c Q k (by omega)
 ·rintro y w' rfl
  exact ey off vs w' c 0 L (by omega) y
theorem uD{t u F:TypeId}{n m k:Nat}{ty:TypeId}{bs:Addr}{cap:Nat}{Y:Value}{vs:LAd}{w1:World}(hd:P.underlying t=some (.slice F))(hn:fi P F=some n)
 (y:(Builtin.lenOf Y).run P w= .ok m w) (h:(Builtin.firstCells n (min m k) Y).run P w= .ok vs.toArray w) (z:(storeCells bs vs).run P w= .ok () w1):
 (Builtin.copy_ #[t,u] ty #[.slice (some bs) k cap,Y]).run P w= .ok (.int .i64 (min m k:Nat)) w1:=by
 have e:(#[t,u]:Array TypeId)[0]? =some t:=rfl;have H:(#[Value.slice (some bs) k cap,Y]:LAe)[0]? =some (.slice (some bs) k cap):=rfl;have I:(#[Value.slice (some bs) k cap,Y]:LAe)[1]? =some Y:=rfl;have E:(Builtin.firstCells n (Nat.min m k) Y).run P w= .ok vs.toArray w:=h;simp only[Builtin.copy_,e,H,I,ay,run_underlying hd,aj,cO hn,y,E,z,aD,goInt]
theorem Gk(hM:aL C x s a w){cl:Call}(ho:o.op= .call cl)(hb:cl.callee= .builtin .copy)(hr:bn P o=some so)(T:eff s o.dst so=some e)(hp:e.pre):cg P C o a w (s.app o.dst e):=by
 simp only[bn,ho,hb]at hr;split at hr<;>try (cases hr;done)
 rename_i X Y t u hX ht;split at hr<;>try (cases hr;done)
 rename_i el r q hd b3 b7;split at hr<;>try (cases hr;done)
 rename_i n hn;cases hr;have h1:=aK hM b3;have h2:=aK hM b7;have ea:cl.args= #[X,Y]:=by apply dP;simpa using hX
 have et:cl.argTypes= #[t,u]:=by apply dP;simpa using ht
 have a2:=fA (a:=a) ho hb _ rfl;rw[ea,et]at a2;have em: #[X,Y].map a.eval= #[a.eval X,a.eval Y]:=by simp
 rw[em]at a2;simp only[eff]at T;cases hu:s.ev r with
 |psl d d4 off k cap=>
  rw[hu]at T h1;obtain⟨cap,d5,_,J,a9,a4⟩:=h1.psl_inv
  try simp only at T
  split at T<;>try (cases T;done)
  ·rename_i l hl
   split at T<;>try (cases T;done)
   rename_i p z a6;cases T;obtain⟨a7,rfl,rfl,c4⟩:=hp;obtain⟨g1,g2⟩:=eZ (P:=P) hM h2 a6 a7;have a1:((z.take (min z.length k)).map fun b=>Value.int .u8 b.toNat).length=min z.length k:=by simp
   have c7:z.take (min z.length k)=z.take k:=by rw[Nat.min_comm,<-List.take_take];simp
   have H:min z.length k=0\/J=off:=by
    rcases a4 with h|h
    ·left;omega
    ·right;rw[db]at h;exact h
   have U:(z.take k).length=min z.length k:=by simp;omega
   simp only[St.app]
   obtain⟨
    hM',hst⟩:=hM.write (P:=P) (off:=off) (vs:=(z.take (min z.length k)).map fun b=>Value.int .u8 b.toNat) (obj':= .bar (l.take off++z.take k++l.drop (off+(z.take k).length))) hl (by simp only[aC.size,a1];omega)
    (by simp only[aC.size,ac,aw,aI];omega) (by
     intro c hc i hi;have:=hc i hi;simp only[co,aC.cell,aC.size]at this hi ⊢;have a5:=fR l (z.take k) off i (by rw[U];omega);rw[a1]
     have e1:(l.take off++z.take k++l.drop (off+(z.take k).length)).getD i 0=if off<=i/\i<off+min z.length k then(z.take k).getD (i-off) 0 else l.getD i 0:=by simp only[aa];rw[a5,U];split<;>rfl
     rw[e1];split
     ·rename_i b2
      rw[c7]
      have e2:((z.take k).map fun b=>Value.int .u8 b.toNat).getD (i-off) undef= .int .u8 ((z.take k).getD (i-off) 0).toNat:=by simp only[aa,aP];rw[ab (by rw[U];omega)];rfl
      rw[e2];exact .u8 _
     ·exact this)
   refine⟨.int .i64 (min z.length k:Nat),_,x,.value _, ?_,.inl rfl,aL.put hM' o.dst (cN _ _)⟩;rw[a2,a9]
   have a8:=uD (P:=P) (w:=w) (t:=t) (u:=u) (ty:=o.type) (bs:=⟨(x.bk d).1,J,none⟩) (cap:=cap) (w1:=cn w ((x.bk d).1) off ((z.take (min z.length k)).map fun b=>Value.int .u8 b.toNat)) hd hn (g1 w rfl) (g2 _ (Nat.min_le_left _ _) w rfl) (by
    rcases H with h|h
    ·rw[h];rfl
    ·rw[h];exact hst (fun v hv=>by obtain⟨_,_,rfl⟩:=aR.1 hv;rfl) w rfl)
   simp[a8]
  ·rename_i d3 F hl
   split at T<;>try (cases T;done)
   rename_i p z a6;cases T;obtain⟨a7,rfl,rfl,c4,E⟩:=hp;obtain⟨L,g1,ns,Q,g2⟩:=gO (P:=P) hM h2 a6 a7;have b6:ns.length=z.length*n:=by rw[<-Q.len,bE L]
   have b5:(min z.length k)*n<=ns.length:=by rw[b6];exact bv _ (Nat.min_le_left _ _)
   have a1:(ns.take (min z.length k*n)).length=min z.length k*n:=by rw[aw,gM b5]
   have U:(z.take k).length=min z.length k:=by simp;omega
   have O:∀y∈z.take k,y.length=n:=fun y I=>L y (bD I)
   have a0:(z.take k).flatten.length=min z.length k*n:=by rw[bE O,U]
   have H:min z.length k=0\/J=off*n:=by
    rcases a4 with h|h
    ·left;omega
    ·right;exact h
   have a3:off*n+min z.length k*n<=F.length*n:=by rw[<-bA];exact bv _ (by omega)
   have W:∀y∈F.take off++z.take k++F.drop (off+(z.take k).length),y.length=n:=by
    intro y I;rcases ak.1 I with I|I
    ·rcases ak.1 I with I|I
     ·exact E y (bD I)
     ·exact O y I
    ·exact E y (D1 I)
   have Z:(F.take off++z.take k++F.drop (off+(z.take k).length)).length=F.length:=by simp only[ac,aw,aI];omega
   simp only[St.app]
   obtain⟨
    hM',hst⟩:=hM.write (P:=P) (off:=off*n) (vs:=ns.take (min z.length k*n)) (obj':= .arr n (F.take off++z.take k++F.drop (off+(z.take k).length))) hl (by simp only[aC.size,a1];exact a3)
    (by simp only[aC.size];rw[Z]) (by
     intro c hc i hi;have:=hc i hi;simp only[co,aC.cell,aC.size]at this hi ⊢;rw[<-cI _ W i (by rw[Z];exact hi)];rw[<-cI _ E i hi]at this;rw[b9,b9,a1];have ef:F.flatten=(F.take off).flatten++(F.drop off).flatten:=by rw[<-b9,ke]
     have l1:(F.take off).flatten.length=off*n:=by rw[bE (fun y I=>E y (bD I)),aw,gM (by omega)]
     have e1:F.flatten.take (off*n)=(F.take off).flatten:=by rw[ef,List.take_append_of_le_length (by rw[l1];exact aN _),bB (by rw[l1];exact aN _)]
     have e2:F.flatten.drop (off*n+min z.length k*n)=(F.drop (off+(z.take k).length)).flatten:=by
      have b4:F.flatten=(F.take (off+(z.take k).length)).flatten++(F.drop (off+(z.take k).length)).flatten:=by rw[<-b9,ke]
      have l2:(F.take (off+(z.take k).length)).flatten.length=off*n+min z.length k*n:=by rw[bE (fun y I=>E y (bD I)),aw,U,gM (by omega),bA]
      rw[b4,List.drop_append,l2,Nat.sub_self,aV,bo (by rw[l2];exact aN _),aG]
     rw[<-e1,<-e2,<-a0];have a5:=fR F.flatten (z.take k).flatten (off*n) i (by rw[a0,bE E];exact a3);rw[aa,a5];split
     ·rename_i b2
      rw[<-aa];have c3:i-off*n<(z.take k).flatten.length:=by omega
      have b8:(z.take k).flatten.getD (i-off*n) .undef=z.flatten.getD (i-off*n) .undef:=by
       have c6:z.flatten=(z.take k).flatten++(z.drop k).flatten:=by rw[<-b9,ke]
       rw[c6];simp only[aa];rw[bc c3]
      rw[b8]
      have e3:(ns.take (min z.length k*n)).getD (i-off*n) undef=ns.getD (i-off*n) undef:=by simp only[aa,bJ];rw[if_pos (by omega)]
      rw[<-a0]at e3;rw[e3];exact Q.rep _ (by rw[Q.len];omega)
     ·rw[<-aa];exact this)
   refine⟨.int .i64 (min z.length k:Nat),_,x,.value _, ?_,.inl rfl,aL.put hM' o.dst (cN _ _)⟩;rw[a2,a9]
   have a8:=uD (P:=P) (w:=w) (t:=t) (u:=u) (ty:=o.type) (bs:=⟨(x.bk d).1,J,none⟩) (cap:=cap) (w1:=cn w ((x.bk d).1) (off*n) (ns.take (min z.length k*n))) hd hn (g1 w rfl) (g2 _ (Nat.min_le_left _ _) w rfl) (by
    rcases H with h|h
    ·rw[h];simp[storeCells,cn]
    ·rw[h];exact hst (fun v hv=>Q.one v (bD hv)) w rfl)
   simp[a8]
 |_=>rw[hu]at T;simp at T
theorem aL.writeRows(hM:aL C x s a w){d n off:Nat}{z E:f8}{ns:LAd}(hl:s.look d=some (.arr n z))(h:∀y∈z,y.length=n)(F:∀y∈E,y.length=n)
 (Z:off+E.length<=z.length) (L:New x ns E.flatten):
 aL C x (s.setO d (.arr n (z.take off++E++z.drop (off+E.length)))) a (cn w ((x.bk d).1) (off*n) ns)/\(storeCells ⟨(x.bk d).1,off*n,none⟩ ns).run P w= .ok () (cn w ((x.bk d).1) (off*n) ns):=by
 have T:ns.length=E.length*n:=by rw[<-L.len,bE F]
 have O:off*n+E.length*n<=z.length*n:=by rw[<-bA];exact bv _ Z
 have H:∀y∈z.take off++E++z.drop (off+E.length),y.length=n:=by
  intro y I;rcases ak.1 I with I|I
  ·rcases ak.1 I with I|I
   ·exact h y (bD I)
   ·exact F y I
  ·exact h y (D1 I)
 have J:(z.take off++E++z.drop (off+E.length)).length=z.length:=by simp only[ac,aw,aI];omega
 obtain⟨
  hM',hst⟩:=hM.write (P:=P) (off:=off*n) (vs:=ns) (obj':= .arr n (z.take off++E++z.drop (off+E.length))) hl (by simp only[aC.size,T];exact O)
  (by simp only[aC.size];rw[J]) (by
   intro c hc i hi;have:=hc i hi;simp only[co,aC.cell,aC.size]at this hi ⊢;rw[<-cI _ H i (by rw[J];exact hi)];rw[<-cI _ h i hi]at this;rw[b9,b9,T];have ef:z.flatten=(z.take off).flatten++(z.drop off).flatten:=by rw[<-b9,ke]
   have l1:(z.take off).flatten.length=off*n:=by rw[bE (fun y I=>h y (bD I)),aw,gM (by omega)]
   have e1:z.flatten.take (off*n)=(z.take off).flatten:=by rw[ef,List.take_append_of_le_length (by rw[l1];exact aN _),bB (by rw[l1];exact aN _)]
   have Q:E.flatten.length=E.length*n:=bE F
   have e2:z.flatten.drop (off*n+E.length*n)=(z.drop (off+E.length)).flatten:=by
    have U:z.flatten=(z.take (off+E.length)).flatten++(z.drop (off+E.length)).flatten:=by rw[<-b9,ke]
    have l2:(z.take (off+E.length)).flatten.length=off*n+E.length*n:=by rw[bE (fun y I=>h y (bD I)),aw,gM (by omega),bA]
    rw[U,List.drop_append,l2,Nat.sub_self,aV,bo (by rw[l2];exact aN _),aG]
   rw[<-e1,<-e2,<-Q];have W:=fR z.flatten E.flatten (off*n) i (by rw[Q,bE h];exact O);rw[aa,W];split
   ·rename_i a0
    rw[<-aa];exact L.rep _ (by omega)
   ·rw[<-aa];exact this)
 exact⟨hM',hst L.one w rfl⟩
theorem Dr{U:LAd}{z:LAa}{J:LAe}(T:J.toList=U)(Z:z.length=U.length)(hz:∀(G:GM) i,i<z.length->cL G (z.getD i .undef) (U.getD i undef))(n:Nat):
 New x (Builtin.zeroCells J n).toList (ao n z).flatten:=by
 have H:J.size=z.length:=by rw[<-aO,T,Z]
 have F:∀y∈ao n z,y.length=z.length:=fun y hy=>by rw[(List.mem_replicate.1 hy).2]
 have O:(ao n z).flatten.length=n*z.length:=by rw[bE F,bQ]
 have I:∀i,i<n*z.length->(Builtin.zeroCells J n).toList.getD i undef=U.getD (i % z.length) undef:=by
  intro i hi
  have E:0<z.length:=by
   rcases gj z.length with h|h
   ·rw[h]at hi;omega
   ·exact h
  have Q:i % J.size<J.size:=Nat.mod_lt _ (by omega);rw[aa,Builtin.zeroCells];simp only[Array.toList_map,Array.toList_range,aP];rw[cP (by rw[H];exact hi)];simp only[bl,bp];rw[getElem!_pos J _ Q,<-T,aa,<-H,ab (by simpa using Q)];simp
 refine⟨by rw[O];simp[dS,H],fun i hi=> ?_,fun v hv=> ?_⟩
 ·rw[O]at hi
  have E:0<z.length:=by
   rcases gj z.length with h|h
   ·rw[h]at hi;omega
   ·exact h
  rw[I i hi,cI _ F i (by simpa using hi),ft _ _ _ _ (Nat.div_lt_of_lt_mul (by rw[cm];exact hi))];exact hz _ _ (Nat.mod_lt _ E)
 ·obtain⟨i,hi,rfl⟩:=List.mem_iff_getElem.1 hv
  have L:i<n*z.length:=by simpa[dS,H]using hi
  have E:0<z.length:=by
   rcases gj z.length with h|h
   ·rw[h]at L;omega
   ·exact h
  have W:=I i L;rw[aa,ab hi,bp]at W;rw[W];exact(hz (fun _ _=>none) _ (Nat.mod_lt _ E)).oneCell
theorem DQ(hM:aL C x s a w){cl:Call}(ho:o.op= .call cl)(hb:cl.callee= .builtin .clear)(F:bn P o=some so)(E:eff s o.dst so=some e)(hp:e.pre):cg P C o a w (s.app o.dst e):=by
 simp only[bn,ho,hb]at F;split at F<;>try (cases F;done)
 rename_i X t hX ht;split at F<;>try (cases F;done)
 rename_i el r hd a1;split at F<;>try (cases F;done)
 rename_i z hz;cases F;have h1:=aK hM a1;have ea:cl.args= #[X]:=by apply dP;simpa using hX
 have et:cl.argTypes= #[t]:=by apply dP;simpa using ht
 have L:=fA (a:=a) ho hb _ rfl;rw[ea,et]at L;have em: #[X].map a.eval= #[a.eval X]:=by simp
 rw[em]at L;simp only[eff]at E;cases hu:s.ev r with
 |psl d b2 off k cap=>
  rw[hu]at E h1;obtain⟨cap,a9,_,T,a2,O⟩:=h1.psl_inv
  try simp only at E
  split at E<;>try (cases E;done)
  rename_i a7 xs hl;cases E;obtain⟨a8,rfl,rfl,a3,H⟩:=hp
  have J:T=off*z.length:=by
   rcases O with h|h
   ·omega
   ·exact h
  subst J;obtain⟨zs,U,hzl,a5⟩:=mW hz;obtain⟨zv,a6,I⟩:=cG U;have W:=Dr (x:=x) a6 hzl a5 k;have Z:∀y∈ao k z,y.length=z.length:=fun y hy=>by rw[(List.mem_replicate.1 hy).2]
  obtain⟨Q,a0⟩:=hM.writeRows (P:=P) (off:=off) hl H Z (by simpa using a3) W;rw[bQ]at Q;simp only[St.app];refine⟨.tuple #[],_,x,.value _, ?_,.inl rfl,aL.put Q o.dst (.tup [] [] rfl fun i hi=>by simp at hi)⟩;rw[L,a2]
  have a4:(Builtin.clear_ #[t] o.type #[.slice (some ⟨(x.bk d).1,off*z.length,none⟩) k cap]).run P w= .ok (.tuple #[]) (cn w ((x.bk d).1) (off*z.length) (Builtin.zeroCells zv.cells k).toList):=by have e1:(#[t]:Array TypeId)[0]? =some t:=rfl;have e2:(#[Value.slice (some ⟨(x.bk d).1,off*z.length,none⟩) k cap]:LAe)[0]? =some (.slice (some ⟨(x.bk d).1,off*z.length,none⟩) k cap):=rfl;obtain⟨k',rfl⟩:∃k',k=k'+1:=⟨k-1,by omega⟩;simp only[Builtin.clear_,e1,e2,ay,run_underlying hd,aj,I,a0,aD]
  simp[a4]
 |_=>rw[hu]at E;simp at E
theorem DP(hM:aL C x s a w)(h:bn P o=some so)(L:∀q r,so≠ .ovl q r)(F:eff s o.dst so=some e)(E:e.pre):cg P C o a w (s.app o.dst e):=by
 have y:(∀{p c},val s so=some (p,c)->p->cg P C o a w (s.put o.dst c))->(∀d,eff s d so=match val s so with|some (p,v)=>some {pre:=p,val:=v}|none=>none)->cg P C o a w (s.app o.dst e):=by
  intro Q O;rw[O]at F;cases z:val s so with
  |none=>simp[z]at F
  |some W=>obtain⟨p,c⟩:=W;simp only[z,aq.injEq]at F;subst F;exact Q z E
 cases ho:o.op with
 |move X=>exact y (fun z _=>uu hM (.inl ho) h z) (by simp only[bn,ho]at h;obtain⟨_,_,rfl⟩:=ah.1 h;intro d;rfl)
 |assign X=>exact y (fun z _=>uu hM (.inr ho) h z) (by simp only[bn,ho]at h;obtain⟨_,_,rfl⟩:=ah.1 h;intro d;rfl)
 |pick c X Y=>
  exfalso;simp only[bn,ho]at h;split at h<;>try (cases h;done)
  cases h;simp[eff]at F
 |alloc t=>exact DR hM ho h F
 |box t X=>exact SC hM ho h F
 |build t U=>exact y (fun z _=>CR hM ho h z) (by
  simp only[bn,ho]at h;split at h<;>try (cases h;done)
  ·split at h<;>try (cases h;done)
   obtain⟨_,_,rfl⟩:=ah.1 h;intro d;rfl
  ·split at h<;>try (cases h;done)
   obtain⟨_,_,rfl⟩:=ah.1 h;intro d;rfl)
 |buildSlice t n U=>exact y (fun z _=>nX hM ho h z) (by
  simp only[bn,ho]at h;split at h<;>try (cases h;done)
  split at h<;>try (cases h;done)
  split at h<;>try (cases h;done)
  obtain⟨_,_,rfl⟩:=ah.1 h;intro d;split<;>rfl)
 |load t X=>exact y (fun z E=>ES hM ho h z E) (by
  simp only[bn,ho]at h;split at h<;>try (cases h;done)
  split at h<;>try (cases h;done)
  cases h;intro d;rfl)
 |store t X Y=>exact DO hM ho h F E
 |nilCheck X=>exact y (fun z _=>r9 hM ho h z) (by simp only[bn,ho]at h;obtain⟨_,_,rfl⟩:=ah.1 h;intro d;rfl)
 |binOp op t X Y u=>
  by_cases H:∃I J q r,so= .eqS I J q r
  ·obtain⟨I,J,q,r,rfl⟩:=H
   exact y (fun z _=>Qp hM ho h z) (fun _=>rfl)
  ·exact y (fun z E=>CS hM ho h (fun I J q r e=>H ⟨I,J,q,r,e⟩) z E) (by
    simp only[bn,ho]at h;split at h<;>try (cases h;done)
    ·split at h<;>try (cases h;done)
     all_goals (cases h;intro d;rfl)
    ·cases h;intro d;rfl
    ·cases h;intro d;rfl
    ·split at h<;>try (cases h;done)
     split at h<;>try (cases h;done)
     split at h<;>first|(cases h;done)|(cases h;intro d;rfl)
    ·split at h<;>first|(cases h;done)|(cases h;simp[eff]at F)
    ·split at h<;>first|(cases h;done)|(cases h;intro d;rfl))
 |unOp op t X=>exact y (fun z _=>ER hM ho h z) (by simp only[bn,ho]at h;obtain⟨_,_,rfl⟩:=ah.1 h;intro d;rfl)
 |convert t u X=>exact y (fun z E=>uh hM ho h z E) (by
  simp only[bn,ho]at h;split at h<;>try (cases h;done)
  ·cases h;intro d;rfl
  ·cases h;intro d;rfl
  ·split at h<;>try (cases h;done)
   cases h;intro d;rfl
  ·split at h<;>try (cases h;done)
   cases h;intro d;rfl
  ·split at h<;>try (cases h;done)
   cases h;intro d;rfl)
 |makeFunc f X Y=>exact y (fun z _=>sa hM ho h z) (by
  cases f<;>simp only[bn,ho,reduceCtorEq]at h;split at h<;>try (cases h;done)
  cases h;intro d;rfl)
 |makeSlice t X Y=>exact qH hM ho h F E
 |slice t X lo hi Z=>exact y (fun z E=>CO hM ho h z E) (by
  simp only[bn,ho]at h;split at h<;>try (cases h;done)
  split at h
  ·cases h
  split at h<;>try (cases h;done)
  ·split at h<;>try (cases h;done)
   cases h;intro d;rfl
  ·split at h<;>try (cases h;done)
   cases h;intro d;rfl
  ·split at h<;>try (cases h;done)
   cases h;intro d;rfl)
 |fieldAddr t X i=>exact y (fun z _=>p9 hM ho h z) (by
  simp only[bn,ho]at h;split at h<;>try (cases h;done)
  split at h<;>try (cases h;done)
  split at h<;>try (cases h;done)
  split at h
  ·cases h
  cases h;intro d;rfl)
 |field t X i=>exact y (fun z E=>CQ hM ho h z E) (by
  simp only[bn,ho]at h;split at h<;>try (cases h;done)
  split at h<;>try (cases h;done)
  split at h<;>try (cases h;done)
  split at h<;>try (cases h;done)
  cases h;intro d;rfl)
 |indexAddr t X Y=>exact y (fun z E=>p7 hM ho h z E) (by
  simp only[bn,ho]at h;split at h<;>try (cases h;done)
  ·split at h<;>try (cases h;done)
   cases h;intro d;rfl
  ·split at h<;>try (cases h;done)
   cases h;intro d;rfl)
 |index t X Y=>exact y (fun z E=>CP hM ho h z E) (by
  simp only[bn,ho]at h;split at h<;>try (cases h;done)
  ·split at h<;>try (cases h;done)
   split at h<;>try (cases h;done)
   cases h;intro d;rfl
  ·cases h;intro d;rfl)
 |extract X i=>exact y (fun z E=>ug hM ho h z E) (by simp only[bn,ho]at h;obtain⟨_,_,rfl⟩:=ah.1 h;intro d;rfl)
 |call T=>
  cases hb:T.callee with
  |invoke r m=>simp[bn,ho,hb]at h
  |value f=>
   exfalso;simp only[bn,ho,hb]at h;split at h<;>try (cases h;done)
   split at h<;>try (cases h;done)
   split at h
   ·split at h
    ·cases h;exact L _ _ rfl
    ·cases h;simp[eff]at F
   ·cases h;simp[eff]at F
  |builtin b=>
   cases b with
   |append=>exact wX hM ho hb h F E
   |copy=>exact Gk hM ho hb h F E
   |clear=>exact DQ hM ho hb h F E
   |cap=>exact y (fun z _=>Qq hM ho hb h z) (by
    simp only[bn,ho,hb]at h;split at h<;>try (cases h;done)
    split at h<;>try (cases h;done)
    cases h;intro d;rfl)
   |len=>exact y (fun z _=>Qo hM ho hb h z) (by
    simp only[bn,ho,hb]at h;split at h<;>try (cases h;done)
    split at h<;>try (cases h;done)
    ·cases h;intro d;rfl
    ·cases h;intro d;rfl
    ·cases h;intro d;rfl
    ·split at h<;>try (cases h;done)
     cases h;intro d;rfl)
   |min=>exact y (fun z _=>nZ hM ho (.inl hb) h z) (by
    simp only[bn,ho,hb]at h;split at h<;>try (cases h;done)
    split at h<;>try (cases h;done)
    cases h;intro d;rfl)
   |max=>exact y (fun z _=>nZ hM ho (.inr hb) h z) (by
    simp only[bn,ho,hb]at h;split at h<;>try (cases h;done)
    split at h<;>try (cases h;done)
    cases h;intro d;rfl)
   |_=>simp[bn,ho,hb]at h
 |_=>simp[bn,ho]at h
end Go.Sy
namespace Go.Sy
variable [aX]
variable {P : Program} {C : Ctx} {x : Sit} {s : St} {a : Act} {w : World}
theorem li{cs:LAa}{i:Nat}(hi:i<cs.length):∀k∈(cs.getD i .undef).ids,k∈SV.idsL cs:=by
 induction cs generalizing i with
 |nil=>simp at hi
 |cons c r y=>
  intro k h;simp only[SV.idsL,ak];cases i with
  |zero=>exact .inl (by simpa using h)
  |succ i=>exact .inr (y (i:=i) (by simpa using hi) k (by simpa using h))
theorem kg{cs:LAa}{i:Nat}(hi:i<cs.length):∀k∈(cs.getD i .undef).toks,k∈SV.toksL cs:=by
 induction cs generalizing i with
 |nil=>simp at hi
 |cons c r y=>
  intro k h;simp only[SV.toksL,ak];cases i with
  |zero=>exact .inl (by simpa using h)
  |succ i=>exact .inr (y (i:=i) (by simpa using hi) k (by simpa using h))
theorem Rep.renF{x x2:Sit}{mo mt:Nat->Nat}(hG:∀b o v,x.G b o=some v->x2.G b o=some v){sv:SV}{v:Value}(h:Rep x sv v):(∀k∈sv.ids,x2.bk (mo k)=x.bk k)->(∀t∈sv.toks,x2.τ (mt t)=x.τ t)->Rep x2 (sv.ren mo mt) v:=by
 induction h with
 |undef v=>intro _ _;exact .undef v
 |dat s v h O=>
  intro E H;have I:=h.mono hG
  have sp:∀(F:Nat)(t:Tok),(∀u,t= .id u->x2.τ (mt u)=x.τ u)->dk x F t v->dk x2 F (t.ren mt) v:=by
   intro F t O hs;cases t with
   |no=>trivial
   |clip=>exact hs
   |id u=>obtain⟨ad,n,cap,hv,hc⟩:=hs;refine⟨ad,n,cap,hv,hc.imp id ?_⟩;rintro⟨b,off,he,hh⟩;exact⟨b,off,he,by rw[O u rfl];exact hh⟩
  cases s with
  |byt l t=>simp only[SV.ren];exact .dat _ _ (I.tok _ (.inl ⟨l,t,_,rfl,rfl⟩)) (sp 1 t (fun u hu=>H u (by subst hu;simp[SV.toks])) O)
  |lst F xs t=>simp only[SV.ren];exact .dat _ _ (I.tok _ (.inr ⟨F,xs,t,_,rfl,rfl⟩)) (sp F t (fun u hu=>H u (by subst hu;simp[SV.toks])) O)
  |undef=>exact .undef v
  |bool b=>simp only[SV.ren];exact .dat _ _ I trivial
  |int k n=>simp only[SV.ren];exact .dat _ _ I trivial
  |u8 b=>simp only[SV.ren];exact .dat _ _ I trivial
  |str l=>simp only[SV.ren];exact .dat _ _ I trivial
  |nilp=>simp only[SV.ren];exact .dat _ _ I trivial
  |nili=>simp only[SV.ren];exact .dat _ _ I trivial
  |pp cs=>simp only[SV.ren];exact .dat _ _ I trivial
  |ptr o off=>cases h
  |ap o F i j=>cases h
  |psl o F off n cap=>cases h
  |agg cs=>cases h
  |tup cs=>cases h
  |fn f a b=>cases h
 |ptr o off=>intro E _;simp only[SV.ren];rw[<-E o (by simp[SV.ids])];exact .ptr _ off
 |ap o F i j=>intro E _;simp only[SV.ren];rw[<-E o (by simp[SV.ids])];exact .ap _ F i j
 |psl o F off n cap J L h hn hc z=>intro E _;simp only[SV.ren];rw[<-E o (by simp[SV.ids])]at z ⊢;exact .psl _ F off n cap J L h hn hc z
 |agg cs vs T _ W=>
  intro E H;simp only[SV.ren,eV]
  exact .agg _ _ (by simpa using T) fun i hi=>by
   rw[aU _ (by simp)];have y:i<cs.length:=by simpa using hi
   exact W i y (fun k z=>E k (by simp only[SV.ids];exact li y k z)) (fun k z=>H k (by simp only[SV.toks];exact kg y k z))
 |tup cs vs T _ W=>
  intro E H;simp only[SV.ren,eV]
  exact .tup _ _ (by simpa using T) fun i hi=>by
   rw[aU _ (by simp)];have y:i<cs.length:=by simpa using hi
   exact W i y (fun k z=>E k (by simp only[SV.ids];exact li y k z)) (fun k z=>H k (by simp only[SV.toks];exact kg y k z))
 |fn f c1 c2 v1 v2 Q _ a0 _ U Z=>
  intro E H;simp only[SV.ren,eV]
  exact .fn _ _ _ _ _ (by simpa using Q) (fun i hi=>by
   rw[aU _ (by simp)];have y:i<c1.length:=by simpa using hi
   exact U i y (fun k z=>E k (by simp only[SV.ids,ak];exact .inl (li y k z))) (fun k z=>H k (by simp only[SV.toks,ak];exact .inl (kg y k z))))
   (by simpa using a0) fun i hi=>by
    rw[aU _ (by simp)];have y:i<c2.length:=by simpa using hi
    exact Z i y (fun k z=>E k (by simp only[SV.ids,ak];exact .inr (li y k z))) (fun k z=>H k (by simp only[SV.toks,ak];exact .inr (kg y k z)))
def Sit.back(x:Sit)(mo mt:Nat->Nat):Sit:=⟨x.G,fun k=>x.bk (mo k),fun t=>x.τ (mt t)⟩
theorem oj{x:Sit}{mo mt:Nat->Nat}{y:Nat}{t:Tok}{v:Value}(h:dk x y (t.ren mt) v):dk (x.back mo mt) y t v:=by
 cases t with
 |no=>trivial
 |clip=>exact h
 |id u=>exact h
theorem Rep.renB{x:Sit}{mo mt:Nat->Nat}(sv:SV):∀v,Rep x (sv.ren mo mt) v->Rep (x.back mo mt) sv v:=by
 refine SV.rec (motive_1:=fun sv=>∀v,Rep x (sv.ren mo mt) v->Rep (x.back mo mt) sv v) (motive_2:=fun _=>True) (motive_3:=fun l=>∀i,i<l.length->∀v,Rep x ((l.getD i .undef).ren mo mt) v->Rep (x.back mo mt) (l.getD i .undef) v)
  ?_ ?_ ?_ ?_ ?_ ?_ ?_ ?_ ?_ ?_ ?_ ?_ ?_ ?_ ?_ ?_ ?_ ?_ ?_ ?_ sv
 ·intro v _;exact .undef v
 ·intro b v h;rw[Rep.bool_inv h];exact dw b
 ·intro k n v h;rw[Rep.int_inv h];exact cN k n
 ·intro b v h;rw[Rep.u8_inv h];exact nL b
 ·intro l v h;rw[Rep.str_inv h];exact lc l
 ·intro l t v h
  simp only[SV.ren]at h;cases h with
  |dat _ _ h Q=>exact .dat _ _ (h.tok _ (.inl ⟨l,_,t,rfl,rfl⟩)) (oj Q)
 ·intro E Z t _ v h
  simp only[SV.ren]at h;cases h with
  |dat _ _ h Q=>exact .dat _ _ (h.tok _ (.inr ⟨E,Z,_,t,rfl,rfl⟩)) (oj Q)
 ·intro v h;rw[Rep.nilp_inv h];exact .dat _ _ .nilp trivial
 ·intro v h;rw[Rep.nili_inv h];exact .dat _ _ .nili trivial
 ·intro cs _ v h
  simp only[SV.ren]at h;exact .dat _ _ (Rep.data (x:=x) h rfl) trivial
 ·intro o off v h;simp only[SV.ren]at h;rw[h.ptr_inv];exact .ptr o off
 ·intro o E i j v h;simp only[SV.ren]at h;rw[h.ap_inv];exact .ap o E i j
 ·intro o E off n cap v h
  simp only[SV.ren]at h;obtain⟨F,hn,hc,z,rfl,ho,W⟩:=h.psl_invA;exact .psl (x:=x.back mo mt) o E off n cap z F ho hn hc W
 ·intro cs I v h
  simp only[SV.ren,eV]at h;obtain⟨vs,rfl,y⟩:=h.agg_inv;refine .agg _ _ (by simpa using y.1) fun i hi=>I i hi _ ?_
  have:=y.2 i (by simpa using hi);rwa[aU _ (by simp)]at this
 ·intro cs I v h
  simp only[SV.ren,eV]at h;obtain⟨vs,rfl,y⟩:=h.tup_inv;refine .tup _ _ (by simpa using y.1) fun i hi=>I i hi _ ?_
  have:=y.2 i (by simpa using hi);rwa[aU _ (by simp)]at this
 ·intro f c1 c2 H O v h
  simp only[SV.ren,eV]at h;obtain⟨v1,v2,rfl,U,T⟩:=h.fn_inv;refine .fn _ _ _ _ _ (by simpa using U.1) (fun i hi=>H i hi _ ?_) (by simpa using T.1) (fun i hi=>O i hi _ ?_)
  ·have:=U.2 i (by simpa using hi);rwa[aU _ (by simp)]at this
  ·have:=T.2 i (by simpa using hi);rwa[aU _ (by simp)]at this
 ·trivial
 ·intros;trivial
 ·intro i hi;simp at hi
 ·intro c r L J i hi v h
  cases i with
  |zero=>exact L v (by simpa using h)
  |succ i=>simpa using J i (by simpa using hi) v (by simpa using h)
theorem dO.renB{mo mt:Nat->Nat}{o:Nat}{obj:aC}(h:dO x w (mo o) (obj.ren mo mt)):dO (x.back mo mt) w o obj:=by
 obtain⟨c,e,fl,fh,H,⟨I,F,z⟩,y⟩:=h;refine⟨c,e,fl,fh,H,⟨?_,F,by cases obj<;>exact z⟩,fun k E=> ?_⟩
 ·cases obj<;>simpa[aC.ren,aC.size,eV]using I
 ·cases obj with
  |rc cs=>have:=y k (by simpa[aC.ren,aC.size,eV]using E);simp only[aC.ren,co,eV]at this ⊢;rw[aU _ (by simp)]at this;exact Rep.renB _ _ this
  |arr L J=>exact y k E
  |bar l=>exact y k E
theorem dO.renF{x2:Sit}{w':World}{mo mt:Nat->Nat}{o:Nat}{obj:aC}(h:dO x w' o obj)(J:∀b o v,x.G b o=some v->x2.G b o=some v)(L:x2.bk (mo o)=x.bk o)
 (Q:∀k∈obj.ids,x2.bk (mo k)=x.bk k) (U:∀t∈obj.toks,x2.τ (mt t)=x.τ t):dO x2 w' (mo o) (obj.ren mo mt):=by
 obtain⟨c,e,fl,fh,O,⟨T,E,F⟩,z⟩:=h;refine⟨c,e,fl,fh,by rw[L];exact O,⟨?_,by rw[L];exact E,by cases obj<;>exact F⟩,fun k H=> ?_⟩
 ·cases obj<;>simpa[aC.ren,aC.size,eV]using T
 ·cases obj with
  |rc cs=>
   have y:k<cs.length:=by simpa[aC.ren,aC.size,eV]using H
   have:=z k y;simp only[aC.ren,co,eV]at this ⊢;rw[aU _ (by simp)];exact Rep.renF J this (fun j I=>Q j (li y j I)) (fun j I=>U j (kg y j I))
  |arr Z W=>exact(z k H).mono J
  |bar l=>exact(z k H).mono J
theorem iL{os:List aC}{p:Nat×aC}:p∈idx os↔p.1<os.length/\p.2=os.getD p.1 (.rc []):=by
 unfold idx;rw[aR];constructor
 ·rintro⟨⟨ob,i⟩,h,rfl⟩
  have:=List.mem_zipIdx' h;exact⟨this.1,by rw[aa,ab this.1];exact this.2⟩
 ·rintro⟨z,y⟩
  refine⟨(p.2,p.1), ?_,rfl⟩;rw[List.mk_mem_zipIdx_iff_getElem?,y,aa,ab z];rfl
theorem mL(os:List aC):((idx os).map cM).Nodup:=by
 unfold idx;rw[List.map_map];have:(cM∘fun p:aC×Nat=>(p.2,p.1))=Prod.snd:=rfl;rw[this];have:os.zipIdx.map Prod.snd=List.range' 0 os.length:=by simp[List.zipIdx_map_snd]
 rw[this];exact List.nodup_range'
theorem ru{m:LAb}(h:m.Nodup){i j:Nat}(hi:i<m.length)(E:j<m.length)(e:m[i]=m[j]):i=j:=by
 have z:=nY.1 h;rcases Nat.lt_trichotomy i j with y|heq|hgt
 ·exact absurd e (z i j hi E y)
 ·exact heq
 ·exact absurd e.symm (z j i E hi hgt)
def Ctx.callee(x:Sit)(w:World)(m:LAb)(β0:Nat->Nat×Nat):Ctx:=⟨w,x.G,fun b=>w.heap.size<=b\/∃i,i<m.length/\(x.bk (m.getD i 0)).1=b,β0⟩
theorem uq(hM:aL C x s a w){m:LAb}{os:List aC}{mo mt:Nat->Nat}(F:∀i,i<m.length->mo i=m.getD i 0)(hl:m.length=os.length)(J:m.Nodup)
 (y:∀i,i<os.length->s.look (m.getD i 0)=some ((os.getD i (.rc [])).ren mo mt)):cY (Ctx.callee x w m (x.back mo mt).bk) (x.back mo mt) (idx os) [] w:=by
 have I:∀i,i<os.length->(x.back mo mt).bk i=x.bk (m.getD i 0):=fun i hi=>by show x.bk (mo i)=_;rw[F i (by omega)]
 refine⟨hM.heap.per,fun _ _ _ h=>h,fun _ _ _ h=> .inl h,fun b h=> .inl h, ?_,mL os, ?_,fun t h=>by simp at h,fun t h=>by simp at h,fun t h=>by simp at h,rfl,rfl,rfl,aN _,fun _ _=>rfl,fun _ _=>rfl,hM.heap.lay.mono hM.heap.g0⟩
 ·intro p L
  obtain⟨z,H⟩:=iL.1 L;obtain⟨U,Z,W⟩:=hM.heap.obs _ (cR (y p.1 z));refine⟨?_,.inr ⟨p.1,by omega,by rw[I p.1 z]⟩,fun off=>by rw[I p.1 z];exact W off⟩;rw[H];refine dO.renB ?_;rw[F p.1 (by omega)];exact U
 ·intro p L q Q E
  obtain⟨z,_⟩:=iL.1 L;obtain⟨H,_⟩:=iL.1 Q;rw[I _ z,I _ H]at E;have:=hM.heap.inj _ (cR (y p.1 z)) _ (cR (y q.1 H)) E;simp only at this;have O:m.getD p.1 0=m[p.1]'(by omega):=by rw[aa,ab (by omega)];rfl
  have T:m.getD q.1 0=m[q.1]'(by omega):=by rw[aa,ab (by omega)];rfl
  rw[O,T]at this;exact ru J _ _ this
end Go.Sy
namespace Go.Sy
variable [aX]
variable {P : Program} {C : Ctx} {x : Sit} {s : St} {a : Act} {w : World}
theorem jr{m:LAb}{l:List (Nat×aC)}{p:Nat×aC}:p∈eY m l↔p∈l/\p.1∉m:=by
 induction l with
 |nil=>simp[eY]
 |cons q r E=>
  simp only[eY];split<;>rename_i z
  ·rw[E,al];constructor
   ·rintro⟨y,h⟩;exact⟨.inr y,h⟩
   ·rintro⟨rfl|y,h⟩
    ·exact absurd z h
    ·exact⟨y,h⟩
  ·rw[al,E,al];constructor
   ·rintro(rfl|⟨y,h⟩)
    ·exact⟨.inl rfl,z⟩
    ·exact⟨.inr y,h⟩
   ·rintro⟨rfl|y,h⟩
    ·exact .inl rfl
    ·exact .inr ⟨y,h⟩
theorem gT(m:LAb)(l:List (Nat×aC)):(eY m l).Sublist l:=by
 induction l with
 |nil=>exact ni.refl _
 |cons q r h=>
  simp only[eY];split
  ·exact h.cons q
  ·exact h.cons_cons q
theorem wO(hM:aL C x s a w){m:LAb}{os:List aC}{mo mt:Nat->Nat}{lo hi:Nat}(hl:m.length=os.length)(d8:∀i,i<os.length->s.look (m.getD i 0)=some ((os.getD i (.rc [])).ren mo mt))
 {x':Sit} {w':World} {a0:List (Nat×aC)} {tks:LAb} {β0:Nat->Nat×Nat} (W:cY (Ctx.callee x w m β0) x' a0 tks w')
 (e2:∀i,i<m.length->mo i=m.getD i 0) {β2:Nat->Nat×Nat} {τ2:Nat->Nat×Nat×Nat} (a9:∀i,i<100->¬(lo<=i/\i<hi)) (a2:∀o,¬(lo<=o/\o<hi)->β2 o=x.bk o) (a4:∀o,¬(lo<=o/\o<hi)->τ2 o=x.τ o)
 (L:∀p∈a0,β2 (mo p.1)=x'.bk p.1) (c3:∀p∈a0,∀k∈p.2.ids,β2 (mo k)=x'.bk k) (b4:∀p∈a0,∀t∈p.2.toks,τ2 (mt t)=x'.τ t)
 (b3:∀p∈a0,p.1<m.length\/(lo<=mo p.1/\mo p.1<hi)) (a5:∀t∈tks,(lo<=mt t/\mt t<hi)/\τ2 (mt t)=x'.τ t):
 (∀b o v,x.G b o=some v->x'.G b o=some v)/\cY C ⟨x'.G,β2,τ2⟩ (a0.map (fun p=>(mo p.1,p.2.ren mo mt))++eY m (bz lo hi s.ob)) (tks.map mt++cy lo hi s.tk) w':=by
 have hG:∀b o v,x.G b o=some v->x'.G b o=some v:=W.g0;have y:=hM.heap;have Q:∀i,i<m.length->(∃ob,(m.getD i 0,ob)∈s.ob):=fun i hi=>⟨_,cR (d8 i (by omega))⟩
 have Z:∀b,(Ctx.callee x w m β0).mine b->C.mine b:=by
  rintro b (h|⟨i,hi,rfl⟩)
  ·exact y.new b (p6 y.size h)
  ·obtain⟨ob,c4⟩:=Q i hi
   exact(y.obs _ c4).2.1
 have e3:∀o∈m,∃i,i<m.length/\m.getD i 0=o:=by intro o ho;obtain⟨i,hi,rfl⟩:=bY ho;exact⟨i,hi,by rw[aa,ab hi];rfl⟩
 have a6:∀b,b<w.heap.size->(∀i,i<m.length->(x.bk (m.getD i 0)).1≠b)->w'.heap[b]? =w.heap[b]? /\((∀off,x.G b off=none)->∀off,x'.G b off=none):=by
  intro b hb b8
  have b2:¬(Ctx.callee x w m β0).mine b:=by
   rintro(h|⟨i,hi,h⟩)
   ·omega
   ·exact b8 i hi h
  refine⟨W.ext b b2,fun h off=> ?_⟩;cases hg:x'.G b off with
  |none=>rfl
  |some v=>
   rcases W.gm b off v hg with z|z
   ·change x.G b off=some v at z;rw[h off]at z;cases z
   ·exact absurd z b2
 have a3:∀p∈eY m (bz lo hi s.ob),∃ob,(p.1,ob)∈s.ob/\p.2=ob.purge lo hi/\¬(lo<=p.1/\p.1<hi)/\p.1∉m/\(∀i,i<m.length->(x.bk (m.getD i 0)).1≠(x.bk p.1).1)/\(x.bk p.1).1<w.heap.size:=by
  intro p H;obtain⟨z,U⟩:=jr.1 H;obtain⟨h3,ob,h4,h5⟩:=cw z;refine⟨ob,h4,h5,h3,U,fun i hi e=> ?_, ?_⟩
  ·obtain⟨c6,d3⟩:=Q i hi
   have:=y.inj _ d3 _ h4 e;simp only at this;apply U;rw[<-this,aa,ab hi];exact bx _
  ·obtain⟨⟨c,e,fl,fh,hO,_⟩,_⟩:=y.obs _ h4
   exact hO.lt
 have T:∀p∈a0.map (fun p=>(mo p.1,p.2.ren mo mt)),∃q∈a0,p=(mo q.1,q.2.ren mo mt)/\β2 p.1=x'.bk q.1:=by intro p H;obtain⟨q,F,rfl⟩:=aR.1 H;exact⟨q,F,rfl,L q F⟩
 have J:∀q∈a0,w.heap.size<=(x'.bk q.1).1\/∃i,i<m.length/\(x.bk (m.getD i 0)).1=(x'.bk q.1).1:=fun q F=>(W.obs q F).2.1
 have E:∀t∈cy lo hi s.tk,t∈s.tk/\¬(lo<=t/\t<hi):=fun t O=>bC.1 O
 have I:∀t∈s.tk,(x.τ t).2.1=(x.τ t).2.2\/((x.τ t).1<w.heap.size/\∀i,i<m.length->(x.bk (m.getD i 0)).1≠(x.τ t).1):=by
  intro t O;rcases y.tks t O with h|⟨⟨c,e,fl,fh,hO,_⟩,_⟩
  ·exact .inl h
  ·by_cases he:(x.τ t).2.1=(x.τ t).2.2
   ·exact .inl he
   ·refine .inr ⟨hO.lt,fun i hi e'=> ?_⟩
    obtain⟨ob,c4⟩:=Q i hi;rcases y.tko t O _ c4 with h|h
    ·exact h e'.symm
    ·exact he h
 refine⟨hG,⟨W.per,fun b o v h=>hG _ _ _ (y.g0 b o v h), ?_,y.new, ?_, ?_, ?_, ?_, ?_, ?_,W.os.trans y.os,W.tape.trans y.tape,W.output.trans y.output,p6 y.size W.size, ?_,fun i hi=>(a2 i (a9 i hi)).trans (y.pin i hi),y.lay⟩⟩
 ·intro b o v h
  rcases W.gm b o v h with z|z
  ·exact y.gm b o v z
  ·exact .inr (Z b z)
 ·intro p H
  rcases ak.1 H with H|H
  ·obtain⟨q,F,rfl,hb⟩:=T p H
   obtain⟨z,U,h3⟩:=W.obs q F;refine⟨z.renF (x2:=⟨x'.G,β2,τ2⟩) (fun _ _ _ h=>h) (L q F) (c3 q F) (b4 q F), ?_,fun off=> ?_⟩
   ·show C.mine (β2 (mo q.1)).1;rw[L q F];exact Z _ U
   ·show x'.G (β2 (mo q.1)).1 off=none;rw[L q F];exact h3 off
  ·obtain⟨ob,z,U,h3,h4,h5,h6⟩:=a3 p H
   obtain⟨g1,g2,g3⟩:=y.obs _ z;obtain⟨k1,k2⟩:=a6 _ h6 h5;have hb:β2 p.1=x.bk p.1:=a2 _ h3;refine⟨?_,by show C.mine (β2 p.1).1;rw[hb];exact g2,fun off=>by show x'.G (β2 p.1).1 off=none;rw[hb];exact k2 g3 off⟩;rw[U];exact dO.of_heap (x':=⟨x'.G,β2,τ2⟩) g1 k1 hG a2 a4 h3
 ·rw[cV,List.nodup_append]
  refine⟨?_, ?_, ?_⟩
  ·rw[List.map_map]
   have d4:=gr.1 W.nd;refine gr.2 (eg.imp_of_mem (fun{p q} H F b8=> ?_) d4);intro e;simp only[Function.comp]at e;have:(x'.bk p.1).1=(x'.bk q.1).1:=by rw[<-L p H,<-L q F,e]
   exact b8 (W.inj p H q F this)
  ·have z:(eY m (bz lo hi s.ob)).Sublist (bz lo hi s.ob):=gT _ _
   refine vJ.sublist (z.map cM) ?_;rw[eC];exact y.nd.filter _
  ·intro o1 z o2 U e
   subst e;obtain⟨p,H,rfl⟩:=aR.1 z;obtain⟨q,F,b5⟩:=aR.1 U;obtain⟨r,hr,rfl⟩:=aR.1 H;obtain⟨ob,k1,k2,k3,k4,k5,k6⟩:=a3 q F;simp only at b5;rcases b3 r hr with h|h
   ·apply k4;rw[b5,e2 _ h,aa,ab h];exact bx _
   ·apply k3;rw[b5];exact h
 ·intro p H q F a1
  change (β2 p.1).1=(β2 q.1).1 at a1;rcases ak.1 H with H|H<;>rcases ak.1 F with F|F
  ·obtain⟨p',b6,rfl,hb⟩:=T p H
   obtain⟨q',b7,rfl,d5⟩:=T q F;rw[hb,d5]at a1;have:=W.inj p' b6 q' b7 a1;simp only;rw[this]
  ·obtain⟨p',b6,rfl,hb⟩:=T p H
   obtain⟨ob,k1,k2,k3,k4,k5,k6⟩:=a3 q F;rw[hb,a2 _ k3]at a1;rcases J p' b6 with h|⟨i,hi,h⟩
   ·omega
   ·exact absurd (h.trans a1) (k5 i hi)
  ·obtain⟨q',b7,rfl,hb⟩:=T q F
   obtain⟨ob,k1,k2,k3,k4,k5,k6⟩:=a3 p H;rw[hb,a2 _ k3]at a1;rcases J q' b7 with h|⟨i,hi,h⟩
   ·omega
   ·exact absurd (h.trans a1.symm) (k5 i hi)
  ·obtain⟨ob,k1,k2,k3,k4,k5,k6⟩:=a3 p H
   obtain⟨c6,e0,e7,d7,e5,e4,e6⟩:=a3 q F;rw[a2 _ k3,a2 _ d7]at a1;exact y.inj (p.1,ob) k1 (q.1,c6) e0 a1
 ·intro t O
  rcases ak.1 O with O|O
  ·obtain⟨u,hu,rfl⟩:=aR.1 O
   obtain⟨_,e1⟩:=a5 u hu;have:=W.tks u hu;unfold gY at this ⊢;simp only[e1];exact this.imp id fun⟨z,U,h3⟩=>⟨z,Z _ U,h3⟩
  ·obtain⟨
    z,U⟩:=E t O
   have:=y.tks t z;unfold gY at this ⊢;simp only[a4 t U];rcases this with h|⟨⟨c,e,fl,fh,hO,hc⟩,h4,h5⟩
   ·exact .inl h
   ·rcases I t z with h|⟨k1,k2⟩
    ·exact .inl h
    ·obtain⟨g1,_⟩:=a6 _ k1 k2
     refine .inr ⟨⟨c,e,fl,fh,hO.of_heap g1,hc⟩,h4,fun o d9 d6=> ?_⟩;cases hg:x'.G (x.τ t).1 o with
     |none=>rfl
     |some v=>
      rcases W.gm _ _ _ hg with q1|q1
      ·change x.G _ _=some v at q1;rw[h5 o d9 d6]at q1;cases q1
      ·rcases q1 with q1|⟨i,hi,q1⟩
       ·change w.heap.size<=_ at q1;omega
       ·exact absurd q1 (k2 i hi)
 ·intro t O p H
  rcases ak.1 O with O|O<;>rcases ak.1 H with H|H
  ·obtain⟨u,hu,rfl⟩:=aR.1 O
   obtain⟨q,F,rfl,hb⟩:=T p H;show(τ2 (mt u)).1≠(β2 (mo q.1)).1\/(τ2 (mt u)).2.1=(τ2 (mt u)).2.2;rw[(a5 u hu).2,L q F];exact W.tko u hu q F
  ·obtain⟨u,hu,rfl⟩:=aR.1 O
   obtain⟨ob,k1,k2,k3,k4,k5,k6⟩:=a3 p H;show(τ2 (mt u)).1≠(β2 p.1).1\/(τ2 (mt u)).2.1=(τ2 (mt u)).2.2;rw[(a5 u hu).2,a2 _ k3];rcases W.tks u hu with h|⟨_,h,_⟩
   ·exact .inr h
   ·left;intro e
    rcases h with h|⟨i,hi,h⟩
    ·change w.heap.size<=_ at h;omega
    ·exact k5 i hi (h.trans e)
  ·obtain⟨z,U⟩:=E t O
   obtain⟨q,F,rfl,hb⟩:=T p H;show(τ2 t).1≠(β2 (mo q.1)).1\/(τ2 t).2.1=(τ2 t).2.2;rw[a4 t U,L q F];rcases I t z with h|⟨k1,k2⟩
   ·exact .inr h
   ·left;intro e
    rcases J q F with h|⟨i,hi,h⟩
    ·omega
    ·exact k2 i hi (h.trans e.symm)
  ·obtain⟨z,U⟩:=E t O
   obtain⟨ob,k1,k2,k3,k4,k5,k6⟩:=a3 p H;show(τ2 t).1≠(β2 p.1).1\/(τ2 t).2.1=(τ2 t).2.2;rw[a4 t U,a2 _ k3];exact y.tko t z (p.1,ob) k1
 ·intro t O u hu c7
  show ln (τ2 t) (τ2 u)\/(τ2 t).2.1=(τ2 t).2.2\/(τ2 u).2.1=(τ2 u).2.2;rcases ak.1 O with O|O<;>rcases ak.1 hu with hu|hu
  ·obtain⟨t',a8,rfl⟩:=aR.1 O
   obtain⟨u',a7,rfl⟩:=aR.1 hu;rw[(a5 t' a8).2,(a5 u' a7).2];exact W.tkd t' a8 u' a7 (fun e=>c7 (by rw[e]))
  ·obtain⟨t',a8,rfl⟩:=aR.1 O
   obtain⟨z,U⟩:=E u hu;rw[(a5 t' a8).2,a4 u U];rcases W.tks t' a8 with h|⟨_,h,_⟩
   ·exact .inr (.inl h)
   ·rcases I u z with k|⟨k1,k2⟩
    ·exact .inr (.inr k)
    ·refine .inl (fun e=> ?_)
     rcases h with h|⟨i,hi,h⟩
     ·change w.heap.size<=_ at h;omega
     ·exact k2 i hi (h.trans e)
  ·obtain⟨u',a7,rfl⟩:=aR.1 hu
   obtain⟨z,U⟩:=E t O;rw[(a5 u' a7).2,a4 t U];rcases W.tks u' a7 with h|⟨_,h,_⟩
   ·exact .inr (.inr h)
   ·rcases I t z with k|⟨k1,k2⟩
    ·exact .inr (.inl k)
    ·refine .inl (fun e=> ?_)
     rcases h with h|⟨i,hi,h⟩
     ·change w.heap.size<=_ at h;omega
     ·exact k2 i hi (h.trans e.symm)
  ·obtain⟨z,U⟩:=E t O
   obtain⟨h3,h4⟩:=E u hu;rw[a4 t U,a4 u h4];exact y.tkd t z u h3 c7
 ·intro b hb
  have b2:¬(Ctx.callee x w m β0).mine b:=fun h=>hb (Z b h)
  exact(W.ext b b2).trans (y.ext b hb)
theorem cY.only{ob y:List (Nat×aC)}{tk tk':LAb}(h:cY C x ob tk w)(E:∀p∈y,p∈ob)(hn:(y.map cM).Nodup)(F:∀t∈tk',t∈tk):cY C x y tk' w:=
 ⟨h.per,h.g0,h.gm,h.new,fun p z=>h.obs p (E p z),hn,fun p z q H=>h.inj p (E p z) q (E q H),fun t hu=>h.tks t (F t hu),fun t hu p z=>h.tko t (F t hu) p (E p z),
  fun t hu u I=>h.tkd t (F t hu) u (F u I),h.os,h.tape,h.output,h.size,h.ext,h.pin,h.lay⟩
theorem uO(d:Nat)(m:LAb)(os:List (Nat×aC)):ox d m os=os.map fun p=>(iH d m p.1,p.2.ren (iH d m) (kj d)):=by
 induction os with
 |nil=>rfl
 |cons p r h=>simp[ox,h]
end Go.Sy
namespace Go.Sy
variable [aX]
variable {P : Program} {C : Ctx} {x : Sit} {s : St} {a : Act} {w : World} {o : Oper} {so : SOp}
def EA(C:Ctx)(k:St->Prop):LBc:=fun a w=>∃x s,aL C x s a w/\k s
theorem cU{K:LBc}{Q:LBb}{k:St->Prop}{s':St}(h:cg P C o a w s')(z:k s')(hK:∀a w,EA C k a w->K a w):o.wp P a w K Q:=by
 obtain⟨u,w',x',n,y,hn,hM⟩:=h;unfold Oper.wp;rw[y];rcases hn with rfl|⟨rfl,rfl⟩
 ·exact hK _ _ ⟨x',s',hM,z⟩
 ·exact hK _ _ ⟨x',s',hM,z⟩
theorem sj{f:Nat}(h:ej P f=true)(args:LAe)(w:World):(callFunc f args).run P w= .ok (.enter f args) w:=by
 unfold ej at h;split at h
 ·rename_i fn F
  simp only[az,dv]at h;obtain⟨z,y⟩:=h;have E:fn.body.isNone=false:=by cases hb:fn.body<;>simp[hb]at z ⊢
  simp only[callFunc,ay,run_program,aj,F,y,aJ,if_false,E,aD]
 ·cases h
theorem DN(hM:aL C x s a w){h:Call}{F:Operand}(ho:o.op= .call h)(hb:h.callee= .value F){f:Arg}{a_:List Arg}(hf:bm P 0 F=some f)
 (has:js (fun p=>bm P p.2 p.1) (h.args.toList.zip h.argTypes.toList)=some a_) (L:h.args.size=h.argTypes.size) {g:Nat} {c1 c2:LAa} (hg:s.ev f= .fn g c1 c2) (hc:ej P g=true):
 ∃vs:LAd,(execOp a.eval o).run P w= .ok (.enter g ⟨vs⟩) w/\cD x (c1++a_.map s.ev++c2) vs:=by
 have hF:=aK hM hf;rw[hg]at hF;obtain⟨v1,O,I,U,T⟩:=hF.fn_inv;obtain⟨Z,E⟩:=eF has;have hzl:(h.args.toList.zip h.argTypes.toList).length=h.args.toList.length:=by simp[L]
 have y:cD x (a_.map s.ev) (h.args.toList.map a.eval):=by
  refine⟨by simp only[aS];rw[Z,hzl],fun i hi=> ?_⟩;have z:i<a_.length:=by simpa using hi
  have H:i<(h.args.toList.zip h.argTypes.toList).length:=by omega
  have:=aK hM (E i H z);have Q:(a_.map s.ev).getD i .undef=s.ev a_[i]:=by rw[aa,aP,ab z];rfl
  have W:(h.args.toList.map a.eval).getD i undef=a.eval (h.args.toList.zip h.argTypes.toList)[i].1:=by
   have J:i<h.args.toList.length:=by omega
   rw[aa,aP,ab J,List.getElem_zip];rfl
  rw[Q,W];exact this
 refine⟨v1++h.args.toList.map a.eval++O, ?_,(U.append y).append T⟩
 have:(execOp a.eval o).run P w=(callFunc g ((⟨v1⟩:LAe)++h.args.map a.eval++⟨O⟩)).run P w:=by simp only[execOp,ho,resolve,hb,I,Deferred.ofValue,ay,aD,aj,invoke]
 rw[this,sj hc]
 congr 2
 apply dP;simp
end Go.Sy
namespace Go.Sy
variable [aX]
variable {P : Program} {C : Ctx} {x : Sit} {s : St} {a : Act} {w : World} {o : Oper} {so : SOp} {p : Prop} {c : SV}
theorem Gn(hM:aL C x s a w){q r:Arg}(y:bn P o=some (.ovl q r)){e:Eff}(h:eff s o.dst (.ovl q r)=some e)(z:e.pre):cg P C o a w (s.app o.dst e):=by simp only[eff,val]at h;cases h
end Go.Sy
namespace Go.Sy
variable [aX]
variable {P : Program} {C : Ctx} {x : Sit} {s : St} {a : Act} {w : World} {o : Oper} {so : SOp} {p : Prop} {c : SV}
theorem New.append{a_ bs:LAd}{A B:LAa}(h:New x a_ A)(k:New x bs B):New x (a_++bs) (A++B):=by
 refine⟨by simp[h.len,k.len],fun i hi=> ?_,fun v z=>(ak.1 z).elim (h.one v) (k.one v)⟩;simp only[aa]
 by_cases y:i<A.length
 ·rw[bc y,bc (by rw[<-h.len];exact y)]
  have:=h.rep i y;simpa only[aa]using this
 ·rw[bq (by omega),bq (by rw[<-h.len];omega),h.len]
  have:=k.rep (i-A.length) (by simp only[ac]at hi;omega);rw[h.len]at this;simpa only[aa]using this
theorem DY{E:Nat}{rs:f8}(z:∀y∈rs,y.length=E){cs:LAd}(h:New x cs rs.flatten)(k:Nat)(F:k<rs.length*E):co x (.arr E rs) k ((⟨cs⟩:LAe).getD k undef):=by
 simp only[co,aC.cell];rw[<-cI rs z k F];have:=h.rep k (by rw[bE z];exact F);have e:(⟨cs⟩:LAe).getD k undef=cs.getD k undef:=by simp[bh,aa]
 rw[e];exact this
structure Src(P:Program)(n m:Nat)(w:World)(Y:Value)(ns:List Value):Prop where
 len:∀w':World,w'.heap=w.heap->(Builtin.lenOf Y).run P w'= .ok m w'
 cells:∀w':World,w'.heap=w.heap->(Builtin.firstCells n m Y).run P w'= .ok ns.toArray w'
theorem py(hM:aL C x s a w){n:Nat}{u:SV}{Y:Value}{p:Prop}{R:f8}(h:Rep x u Y)(L:jJ s n u=some (p,R))(O:p):∃ns,(∀y∈R,y.length=n)/\New x ns R.flatten/\Src P n R.length w Y ns:=by
 obtain⟨z,J,ns,E,I⟩:=gO (P:=P) hM h L O;refine⟨ns,z,E,J,fun w' F=> ?_⟩;have:=I R.length (aN _) w' F;have H:ns.length=R.length*n:=by rw[<-E.len,bE z]
 rwa[<-H,bi]at this
theorem Dq{so:SOp}(y:bn P o=some so)(H:(∃z b q r,so= .app z b q r)\/∃z b q r,so= .appM z b q r):∃E,o.op= .call E/\E.callee= .builtin .append:=by
 cases ho:o.op with
 |call E=>
  cases hb:E.callee with
  |invoke r m=>simp[bn,ho,hb]at y
  |value F=>
   exfalso;simp only[bn,ho,hb]at y
   (repeat' split at y)<;>first|(cases y;done)|(cases y;rcases H with⟨_,_,_,_,h⟩|⟨_,_,_,_,h⟩<;>cases h)
  |builtin b=>
   cases b<;>first|exact⟨E,rfl,hb⟩|(exfalso;simp only[bn,ho,hb,reduceCtorEq]at y<;>((repeat' split at y)<;>first|(cases y;done)|(cases y;rcases H with⟨_,_,_,_,h⟩|⟨_,_,_,_,h⟩<;>cases h)))
 |_=>
  exfalso
  have:¬((∃z b q r,so= .app z b q r)\/∃z b q r,so= .appM z b q r):=by
   simp only[bn,ho]at y
   first
    |(cases y;done)
    |(obtain⟨_,_,rfl⟩:=ah.1 y;rintro(⟨_,_,_,_,h⟩|⟨_,_,_,_,h⟩)<;>cases h;done)
    |(repeat' split at y)<;>first|(cases y;done)|contradiction|(cases y;rintro(⟨_,_,_,_,h⟩|⟨_,_,_,_,h⟩)<;>cases h;done)|(obtain⟨_,_,rfl⟩:=ah.1 y;rintro(⟨_,_,_,_,h⟩|⟨_,_,_,_,h⟩)<;>first|(cases h;done)|(split at h<;>cases h;done))
  exact this H
structure xo2(P:Program)(o:Oper)(z:List SV)(by_:Nat)(q r:Arg)(a:Act)(X Y:Operand)(t u el:TypeId)(d2:TypeDesc)(zs:List Value):Prop where
 ex:execOp a.eval o=(do pure (.value (<-Builtin.append_ #[t,u] o.type #[a.eval X,a.eval Y])))
 hd:P.underlying t=some (.slice el)
 hu:P.underlying u=some d2
 hX:bm P t X=some q
 hY:bm P u Y=some r
 hn:fi P el=some z.length
 hby:s7 P el=some by_
 hz:fQ P el=some zs
 hzl:z.length=zs.length
 hzd:∀(G:GM) i,i<z.length->cL G (z.getD i .undef) (zs.getD i undef)
 hb0:by_≠0
 hn0:z.length≠0
theorem Td{so:SOp}(y:bn P o=some so){z:LAa}{E:Nat}{q r:Arg}(L:so= .app z E q r\/so= .appM z E q r)(a:Act):∃X Y t u O d2 zs,xo2 P o z E q r a X Y t u O d2 zs/\
 (so= .app z E q r->(∃T,d2= .slice T)\/d2= .string)/\(so= .appM z E q r->∃k,d2= .int k):=by
 obtain⟨cl,ho,hb⟩:=Dq y (L.imp (fun h=>⟨_,_,_,_,h⟩) (fun h=>⟨_,_,_,_,h⟩));simp only[bn,ho,hb]at y;split at y<;>try (cases y;done)
 rename_i X Y t u hX ht;split at y<;>try (cases y;done)
 rename_i O d2 r' q' hd hu Q W;split at y<;>try (cases y;done)
 rename_i n b' z' hn hby hz;rw[aF]at y;obtain⟨F,y⟩:=y;simp only[az,decide_eq_true_eq]at F;obtain⟨⟨hb0,hn0⟩,I⟩:=F;obtain⟨zs,Z,J,hzd⟩:=jg hz;have ea:cl.args= #[X,Y]:=by apply dP;simpa using hX
 have et:cl.argTypes= #[t,u]:=by apply dP;simpa using ht
 have H:=fA (a:=a) ho hb _ rfl;rw[ea,et]at H;have em: #[X,Y].map a.eval= #[a.eval X,a.eval Y]:=by simp
 rw[em]at H
 have U:z'=z/\b'=E/\r'=q/\q'=r/\(so= .app z E q r->(∃T,d2= .slice T)\/d2= .string)/\(so= .appM z E q r->∃k,d2= .int k):=by
  split at y<;>try (cases y;done)
  ·cases y;rcases L with h|h<;>cases h;exact⟨rfl,rfl,rfl,rfl,fun _=> .inl ⟨_,rfl⟩,fun h=>by cases h⟩
  ·rw[aF]at y
   obtain⟨_,y⟩:=y;cases y;rcases L with h|h<;>cases h;exact⟨rfl,rfl,rfl,rfl,fun _=> .inr rfl,fun h=>by cases h⟩
  ·cases y;rcases L with h|h<;>cases h;exact⟨rfl,rfl,rfl,rfl,fun h=>(by cases h),fun _=>⟨_,rfl⟩⟩
 obtain⟨rfl,rfl,rfl,rfl,k1,k2⟩:=U;subst I;exact⟨X,Y,t,u,O,d2,zs,⟨H,hd,hu,Q,W,hn,hby,Z,J,hzd,hb0,hn0⟩,k1,k2⟩
theorem rW{t:TypeId}{b:Nat}(h:s7 P t=some b):∃i,P.info? t=some i/\i.bytes=b:=by
 unfold s7 at h;cases hi:P.info? t with
 |none=>simp[hi]at h
 |some i=>simp[hi]at h;exact⟨i,rfl,h⟩
end Go.Sy
namespace Go.Sy
variable [aX]
variable {P : Program} {C : Ctx} {x : Sit} {s : St} {a : Act} {w : World} {o : Oper} {so : SOp}
def xj6(C:Ctx)(P:Program)(g:Nat)(vs:LAd)(w:World)(d:LAc)(a:Act)(k:St->Prop):Prop:=
 Calls P g ⟨vs⟩ w fun en w'=>∃v,en= .returned v/\EA C k (a.put d v) w'
theorem ud{K:LBc}{Q:LBb}{k:St->Prop}{g:Nat}{vs:LAd}(y:(execOp a.eval o).run P w= .ok (.enter g ⟨vs⟩) w)(h:xj6 C P g vs w o.dst a k)
 (hK:∀a w,EA C k a w->K a w):o.wp P a w K Q:=by
 unfold Oper.wp;rw[y];refine Calls.mono h ?_;rintro en w' ⟨v,rfl,z⟩;exact hK _ _ z
theorem Gy{f:Arg}{a_:List Arg}(y:bn P o=some (.call f a_)):∃z F,o.op= .call z/\z.callee= .value F/\bm P 0 F=some f/\js (fun p=>bm P p.2 p.1) (z.args.toList.zip z.argTypes.toList)=some a_/\z.args.size=z.argTypes.size:=by
 cases ho:o.op with
 |call z=>
  cases hb:z.callee with
  |invoke r m=>simp[bn,ho,hb]at y
  |value F=>
   simp only[bn,ho,hb]at y;split at y<;>try (cases y;done)
   rename_i Q J H E;split at y<;>try (cases y;done)
   rename_i I;split at y
   ·split at y
    ·cases y
    ·cases y;exact⟨z,F,rfl,hb,H,E,I⟩
   ·cases y;exact⟨z,F,rfl,hb,H,E,I⟩
  |builtin b=>
   exfalso;cases b<;>simp only[bn,ho,hb,reduceCtorEq]at y
   all_goals
    (first|(cases y;done)|(split at y<;>(first|(cases y;done)|(split at y<;>(first|(cases y;done)|(split at y<;>(first|(cases y;done)|(split at y<;>(first|(cases y;done)|(split at y<;>(first|(cases y;done)|(split at y<;>((cases y;done))))))))))))))
 |pick c X Y=>exfalso;simp only[bn,ho]at y;split at y<;>cases y
 |move X=>exfalso;simp only[bn,ho]at y;obtain⟨_,_,h⟩:=ah.1 y;cases h
 |assign X=>exfalso;simp only[bn,ho]at y;obtain⟨_,_,h⟩:=ah.1 y;cases h
 |box t X=>exfalso;simp only[bn,ho]at y;obtain⟨_,_,h⟩:=ah.1 y;cases h
 |nilCheck X=>exfalso;simp only[bn,ho]at y;obtain⟨_,_,h⟩:=ah.1 y;cases h
 |unOp op t X=>exfalso;simp only[bn,ho]at y;obtain⟨_,_,h⟩:=ah.1 y;cases h
 |extract X i=>exfalso;simp only[bn,ho]at y;obtain⟨_,_,h⟩:=ah.1 y;cases h
 |build t L=>
  exfalso;simp only[bn,ho]at y;split at y<;>try (cases y;done)
  ·split at y<;>try (cases y;done)
   obtain⟨_,_,h⟩:=ah.1 y;cases h
  ·split at y<;>try (cases y;done)
   obtain⟨_,_,h⟩:=ah.1 y;cases h
 |buildSlice t n L=>
  exfalso;simp only[bn,ho]at y;split at y<;>try (cases y;done)
  split at y<;>try (cases y;done)
  split at y<;>try (cases y;done)
  obtain⟨_,_,h⟩:=ah.1 y;split at h<;>cases h
 |makeFunc f X Y=>exfalso;cases f<;>simp only[bn,ho,reduceCtorEq]at y;split at y<;>cases y
 |alloc t=>exfalso;simp only[bn,ho]at y;first|(cases y;done)|(split at y<;>(first|(cases y;done)|(split at y<;>(first|(cases y;done)|(split at y<;>(first|(cases y;done)|(split at y<;>(first|(cases y;done)|(split at y<;>(first|(cases y;done)|(split at y<;>((cases y;done)))))))))))))
 |load t X=>exfalso;simp only[bn,ho]at y;first|(cases y;done)|(split at y<;>(first|(cases y;done)|(split at y<;>(first|(cases y;done)|(split at y<;>(first|(cases y;done)|(split at y<;>(first|(cases y;done)|(split at y<;>(first|(cases y;done)|(split at y<;>((cases y;done)))))))))))))
 |store t X Y=>exfalso;simp only[bn,ho]at y;first|(cases y;done)|(split at y<;>(first|(cases y;done)|(split at y<;>(first|(cases y;done)|(split at y<;>(first|(cases y;done)|(split at y<;>(first|(cases y;done)|(split at y<;>(first|(cases y;done)|(split at y<;>((cases y;done)))))))))))))
 |binOp op t X Y u=>exfalso;simp only[bn,ho]at y;first|(cases y;done)|(split at y<;>(first|(cases y;done)|(split at y<;>(first|(cases y;done)|(split at y<;>(first|(cases y;done)|(split at y<;>(first|(cases y;done)|(split at y<;>(first|(cases y;done)|(split at y<;>((cases y;done)))))))))))))
 |convert t u X=>exfalso;simp only[bn,ho]at y;first|(cases y;done)|(split at y<;>(first|(cases y;done)|(split at y<;>(first|(cases y;done)|(split at y<;>(first|(cases y;done)|(split at y<;>(first|(cases y;done)|(split at y<;>(first|(cases y;done)|(split at y<;>((cases y;done)))))))))))))
 |makeSlice t X Y=>exfalso;simp only[bn,ho]at y;first|(cases y;done)|(split at y<;>(first|(cases y;done)|(split at y<;>(first|(cases y;done)|(split at y<;>(first|(cases y;done)|(split at y<;>(first|(cases y;done)|(split at y<;>(first|(cases y;done)|(split at y<;>((cases y;done)))))))))))))
 |slice t X lo hi O=>exfalso;simp only[bn,ho]at y;first|(cases y;done)|(split at y<;>(first|(cases y;done)|(split at y<;>(first|(cases y;done)|(split at y<;>(first|(cases y;done)|(split at y<;>(first|(cases y;done)|(split at y<;>(first|(cases y;done)|(split at y<;>((cases y;done)))))))))))))
 |fieldAddr t X i=>exfalso;simp only[bn,ho]at y;first|(cases y;done)|(split at y<;>(first|(cases y;done)|(split at y<;>(first|(cases y;done)|(split at y<;>(first|(cases y;done)|(split at y<;>(first|(cases y;done)|(split at y<;>(first|(cases y;done)|(split at y<;>((cases y;done)))))))))))))
 |field t X i=>exfalso;simp only[bn,ho]at y;first|(cases y;done)|(split at y<;>(first|(cases y;done)|(split at y<;>(first|(cases y;done)|(split at y<;>(first|(cases y;done)|(split at y<;>(first|(cases y;done)|(split at y<;>(first|(cases y;done)|(split at y<;>((cases y;done)))))))))))))
 |indexAddr t X i=>exfalso;simp only[bn,ho]at y;first|(cases y;done)|(split at y<;>(first|(cases y;done)|(split at y<;>(first|(cases y;done)|(split at y<;>(first|(cases y;done)|(split at y<;>(first|(cases y;done)|(split at y<;>(first|(cases y;done)|(split at y<;>((cases y;done)))))))))))))
 |index t X i=>exfalso;simp only[bn,ho]at y;first|(cases y;done)|(split at y<;>(first|(cases y;done)|(split at y<;>(first|(cases y;done)|(split at y<;>(first|(cases y;done)|(split at y<;>(first|(cases y;done)|(split at y<;>(first|(cases y;done)|(split at y<;>((cases y;done)))))))))))))
 |_=>simp[bn,ho]at y
theorem FM{c q r:Arg}(y:bn P o=some (.pick c q r)):∃X Y Z,o.op= .pick X Y Z/\bm P 0 X=some c/\bm P o.type Y=some q/\bm P o.type Z=some r:=by
 cases ho:o.op with
 |pick X Y Z=>
  simp only[bn,ho]at y;split at y<;>try (cases y;done)
  rename_i L T Q E z I;simp only[aq.injEq,SOp.pick.injEq]at y;obtain⟨rfl,rfl,rfl⟩:=y;exact⟨X,Y,Z,rfl,E,z,I⟩
 |call H=>
  exfalso;cases hb:H.callee with
  |invoke r m=>simp[bn,ho,hb]at y
  |value F=>simp only[bn,ho,hb]at y;first|(cases y;done)|(split at y<;>(first|(cases y;done)|(split at y<;>(first|(cases y;done)|(split at y<;>(first|(cases y;done)|(split at y<;>(first|(cases y;done)|(split at y<;>(first|(cases y;done)|(split at y<;>((cases y;done)))))))))))))
  |builtin b=>
   cases b<;>simp only[bn,ho,hb,reduceCtorEq]at y
   all_goals
    (first|(cases y;done)|(split at y<;>(first|(cases y;done)|(split at y<;>(first|(cases y;done)|(split at y<;>(first|(cases y;done)|(split at y<;>(first|(cases y;done)|(split at y<;>(first|(cases y;done)|(split at y<;>((cases y;done))))))))))))))
 |move X=>exfalso;simp only[bn,ho]at y;obtain⟨_,_,h⟩:=ah.1 y;cases h
 |assign X=>exfalso;simp only[bn,ho]at y;obtain⟨_,_,h⟩:=ah.1 y;cases h
 |box t X=>exfalso;simp only[bn,ho]at y;obtain⟨_,_,h⟩:=ah.1 y;cases h
 |nilCheck X=>exfalso;simp only[bn,ho]at y;obtain⟨_,_,h⟩:=ah.1 y;cases h
 |unOp op t X=>exfalso;simp only[bn,ho]at y;obtain⟨_,_,h⟩:=ah.1 y;cases h
 |extract X i=>exfalso;simp only[bn,ho]at y;obtain⟨_,_,h⟩:=ah.1 y;cases h
 |build t J=>
  exfalso;simp only[bn,ho]at y;split at y<;>try (cases y;done)
  ·split at y<;>try (cases y;done)
   obtain⟨_,_,h⟩:=ah.1 y;cases h
  ·split at y<;>try (cases y;done)
   obtain⟨_,_,h⟩:=ah.1 y;cases h
 |buildSlice t n J=>
  exfalso;simp only[bn,ho]at y;split at y<;>try (cases y;done)
  split at y<;>try (cases y;done)
  split at y<;>try (cases y;done)
  obtain⟨_,_,h⟩:=ah.1 y;split at h<;>cases h
 |makeFunc f X Y=>exfalso;cases f<;>simp only[bn,ho,reduceCtorEq]at y;split at y<;>cases y
 |alloc t=>exfalso;simp only[bn,ho]at y;first|(cases y;done)|(split at y<;>(first|(cases y;done)|(split at y<;>(first|(cases y;done)|(split at y<;>(first|(cases y;done)|(split at y<;>(first|(cases y;done)|(split at y<;>(first|(cases y;done)|(split at y<;>((cases y;done)))))))))))))
 |load t X=>exfalso;simp only[bn,ho]at y;first|(cases y;done)|(split at y<;>(first|(cases y;done)|(split at y<;>(first|(cases y;done)|(split at y<;>(first|(cases y;done)|(split at y<;>(first|(cases y;done)|(split at y<;>(first|(cases y;done)|(split at y<;>((cases y;done)))))))))))))
 |store t X Y=>exfalso;simp only[bn,ho]at y;first|(cases y;done)|(split at y<;>(first|(cases y;done)|(split at y<;>(first|(cases y;done)|(split at y<;>(first|(cases y;done)|(split at y<;>(first|(cases y;done)|(split at y<;>(first|(cases y;done)|(split at y<;>((cases y;done)))))))))))))
 |binOp op t X Y u=>exfalso;simp only[bn,ho]at y;first|(cases y;done)|(split at y<;>(first|(cases y;done)|(split at y<;>(first|(cases y;done)|(split at y<;>(first|(cases y;done)|(split at y<;>(first|(cases y;done)|(split at y<;>(first|(cases y;done)|(split at y<;>((cases y;done)))))))))))))
 |convert t u X=>exfalso;simp only[bn,ho]at y;first|(cases y;done)|(split at y<;>(first|(cases y;done)|(split at y<;>(first|(cases y;done)|(split at y<;>(first|(cases y;done)|(split at y<;>(first|(cases y;done)|(split at y<;>(first|(cases y;done)|(split at y<;>((cases y;done)))))))))))))
 |makeSlice t X Y=>exfalso;simp only[bn,ho]at y;first|(cases y;done)|(split at y<;>(first|(cases y;done)|(split at y<;>(first|(cases y;done)|(split at y<;>(first|(cases y;done)|(split at y<;>(first|(cases y;done)|(split at y<;>(first|(cases y;done)|(split at y<;>((cases y;done)))))))))))))
 |slice t X lo hi O=>exfalso;simp only[bn,ho]at y;first|(cases y;done)|(split at y<;>(first|(cases y;done)|(split at y<;>(first|(cases y;done)|(split at y<;>(first|(cases y;done)|(split at y<;>(first|(cases y;done)|(split at y<;>(first|(cases y;done)|(split at y<;>((cases y;done)))))))))))))
 |fieldAddr t X i=>exfalso;simp only[bn,ho]at y;first|(cases y;done)|(split at y<;>(first|(cases y;done)|(split at y<;>(first|(cases y;done)|(split at y<;>(first|(cases y;done)|(split at y<;>(first|(cases y;done)|(split at y<;>(first|(cases y;done)|(split at y<;>((cases y;done)))))))))))))
 |field t X i=>exfalso;simp only[bn,ho]at y;first|(cases y;done)|(split at y<;>(first|(cases y;done)|(split at y<;>(first|(cases y;done)|(split at y<;>(first|(cases y;done)|(split at y<;>(first|(cases y;done)|(split at y<;>(first|(cases y;done)|(split at y<;>((cases y;done)))))))))))))
 |indexAddr t X i=>exfalso;simp only[bn,ho]at y;first|(cases y;done)|(split at y<;>(first|(cases y;done)|(split at y<;>(first|(cases y;done)|(split at y<;>(first|(cases y;done)|(split at y<;>(first|(cases y;done)|(split at y<;>(first|(cases y;done)|(split at y<;>((cases y;done)))))))))))))
 |index t X i=>exfalso;simp only[bn,ho]at y;first|(cases y;done)|(split at y<;>(first|(cases y;done)|(split at y<;>(first|(cases y;done)|(split at y<;>(first|(cases y;done)|(split at y<;>(first|(cases y;done)|(split at y<;>(first|(cases y;done)|(split at y<;>((cases y;done)))))))))))))
 |_=>simp[bn,ho]at y
theorem DT(hM:aL C x s a w){c q r:Arg}(z:bn P o=some (.pick c q r)){t:Bool}(I:s.ev c= .bool t):cg P C o a w (s.put o.dst (if t then s.ev q else s.ev r)):=by
 obtain⟨X,Y,Z,y,F,E,H⟩:=FM z;have h:=aK hM F;rw[I]at h;refine cg.val hM (m:=do pure (if<-asBool (a.eval X)then a.eval Y else a.eval Z)) (u:=if t then a.eval Y else a.eval Z) (by simp only[execOp,y];simp) ?_ ?_
 ·rw[h.bool_inv];rfl
 ·cases t
  ·exact aK hM H
  ·exact aK hM E
theorem SD(hM:aL C x s a w)(z:bn P o=some so){e:Eff}(E:eff s o.dst so=some e)(F:e.pre):cg P C o a w (s.app o.dst e):=by
 by_cases y:∃q r,so= .ovl q r
 ·obtain⟨q,r,rfl⟩:=y
  exact Gn hM z E F
 ·exact DP hM z (fun q r h=>y ⟨q,r,h⟩) E F
end Go.Sy
namespace Go.Sy
variable [aX]
variable {P : Program} {C : Ctx} {x : Sit} {s : St} {a : Act} {w : World}
theorem Gd(hM:aL C x s a w){g:Nat}{t:Bool}(h:s.get g= .bool t):g<s.tm.length/\a.tmps[g]? =some (.bool t)/\s.tm[g]? =some (.bool t):=by
 have y:g<s.tm.length:=by
  rcases bO g s.tm.length with z|z
  ·exact z
  ·unfold St.get at h;rw[aa,kf z]at h;cases h
 have H:s.tm[g]? =some (.bool t):=by unfold St.get at h;rw[aa,ab y]at h;rw[ab y];exact congrArg some h
 have E:=hM.slot g;rw[h]at E;have I:=E.bool_inv;have F:g<a.tmps.size:=by rw[<-aO,<-hM.tm.1];exact y
 refine⟨y, ?_,H⟩;rw[gK F];have:a.tmps.getD g undef=a.tmps[g]:=by simp[jV,F]
 rw[<-this,I]
def qZ(P:Program)(o:Oper)(so:SOp):Prop:=bn P o=some so\/∃h,so= .newB h/\bn P o=some (.litB h)
theorem qZ.fresh{ops:Array Oper}{o:Oper}{so:SOp}(d:LAc)(h:bn P o=some so):qZ P o (nP ops d so):=by
 rcases DH ops d so with e|⟨xs,e1,e2⟩
 ·rw[e];exact .inl h
 ·rw[e2];exact .inr ⟨xs,rfl,e1 ▸ h⟩
theorem qZ.old{o:Oper}{so:SOp}(h:qZ P o so)(hn:∀y,so≠ .newB y):bn P o=some so:=by
 rcases h with h|⟨y,e,_⟩
 ·exact h
 ·exact absurd e (hn y)
theorem kG{ops:Array Oper}{o:Oper}{i:SI}(h:fT P ops o=some i):qZ P o i.op/\i.dst=o.dst/\(i.g=none/\o.guard=none\/∃j b g,i.g=some (g,b)/\o.guard=some (j,b)/\(ops[j]?).bind (·.dst)=some g):=by
 unfold fT at h;split at h<;>try (cases h;done)
 ·rename_i so z y;cases h;exact⟨.fresh _ z,rfl,.inl ⟨rfl,y⟩⟩
 ·rename_i so j b z y
  split at h<;>try (cases h;done)
  rename_i g E;cases h;exact⟨.fresh _ z,rfl,.inr ⟨j,b,g,rfl,y,E⟩⟩
theorem jW{ops:Array Oper}{o:Oper}(h:o.guard=none):Region.wanted o (yielded ops a.tmps)=true:=by simp[Region.wanted,h]
theorem ue{ops:Array Oper}{o:Oper}{j g:Nat}{b t:Bool}(h:o.guard=some (j,b))(z:(ops[j]?).bind (·.dst)=some g)(y:a.tmps[g]? =some (.bool t)):Region.wanted o (yielded ops a.tmps)=(t==b):=by simp only[Region.wanted,h,yielded,z,cS,y];cases t<;>cases b<;>rfl
end Go.Sy
namespace Go.Sy
variable [aX]
variable {P : Program} {C : Ctx} {x : Sit} {s : St} {a : Act} {w : World}
mutual
theorem wx{n:Nat}:∀v:SV,n∉v.ids->n∉v.toks->v.purge n (n+1)=v
 | .byt l t,_,h=>by
  cases t with
  |id t=>simp only[SV.toks,aZ]at h;simp only[SV.purge,Tok.purge];rw[if_neg (by omega)]
  |_=>rfl
 | .lst sz xs t,_,h=>by
  cases t with
  |id t=>simp only[SV.toks,aZ]at h;simp only[SV.purge,Tok.purge];rw[if_neg (by omega)]
  |_=>rfl
 | .ptr o off,h,_=>by simp only[SV.ids,aZ]at h;simp only[SV.purge];rw[if_neg (by omega)]
 | .ap o sz i j,h,_=>by simp only[SV.ids,aZ]at h;simp only[SV.purge];rw[if_neg (by omega)]
 | .psl o sz off k cap,h,_=>by simp only[SV.ids,aZ]at h;simp only[SV.purge];rw[if_neg (by omega)]
 | .agg cs,h,k=>by simp only[SV.ids,SV.toks]at h k;simp only[SV.purge];rw[gn cs h k]
 | .tup cs,h,k=>by simp only[SV.ids,SV.toks]at h k;simp only[SV.purge];rw[gn cs h k]
 | .fn f p q,h,k=>by simp only[SV.ids,SV.toks,ak,not_or]at h k;simp only[SV.purge];rw[gn p h.1 k.1,gn q h.2 k.2]
 | .undef,_,_=>rfl
 | .bool _,_,_=>rfl
 | .int _ _,_,_=>rfl
 | .u8 _,_,_=>rfl
 | .str _,_,_=>rfl
 | .nilp,_,_=>rfl
 | .nili,_,_=>rfl
 | .pp _,_,_=>rfl
theorem gn{n:Nat}:∀l:LAa,n∉SV.idsL l->n∉SV.toksL l->SV.purgeL n (n+1) l=l
 |[],_,_=>rfl
 |v::r,h,k=>by simp only[SV.idsL,SV.toksL,ak,not_or]at h k;simp only[SV.purgeL];rw[wx v h.1 k.1,gn r h.2 k.2]
end
end Go.Sy
namespace Go.Sy
variable [aX]
variable {P : Program} {C : Ctx} {x : Sit} {s s' : St} {a : Act} {w : World}
end Go.Sy
namespace Go.Sy
variable [aX]
variable {P : Program} {C : Ctx} {x : Sit} {s s' : St} {a : Act} {w : World}
structure Itm where
 n:Nat
 i:SI
 o:Option Eff
 f:xf1
end Go.Sy
namespace Go.Sy
variable [aX]
variable {P : Program} {C : Ctx} {x : Sit} {s : St} {a : Act} {w : World}
theorem aL.purge(hM:aL C x s a w)(lo hi:Nat):aL C x (s.purge lo hi) a w:=by
 have y:=hM.heap;refine⟨hM.tm.mono (fun _ _ _ h=>h) (fun _ _=>rfl) (fun _ _=>rfl),hM.defers,⟨y.per,y.g0,y.gm,y.new, ?_, ?_, ?_, ?_, ?_, ?_,y.os,y.tape,y.output,y.size,y.ext,y.pin,y.lay⟩⟩
 ·intro p F
  obtain⟨J,o,z,H⟩:=cw F;obtain⟨L,O⟩:=y.obs _ z;refine⟨?_,O⟩;rw[H];exact L.of_heap rfl (fun _ _ _ h=>h) (fun _ _=>rfl) (fun _ _=>rfl) J
 ·show((bz lo hi s.ob).map cM).Nodup
  rw[eC];exact y.nd.filter _
 ·intro p F q I
  obtain⟨_,o,z,_⟩:=cw F;obtain⟨_,Q,H,_⟩:=cw I;exact y.inj (p.1,o) z (q.1,Q) H
 ·intro t E;exact y.tks t (bC.1 E).1
 ·intro t E p F
  obtain⟨_,o,z,_⟩:=cw F;exact y.tko t (bC.1 E).1 (p.1,o) z
 ·intro t E u hu;exact y.tkd t (bC.1 E).1 u (bC.1 hu).1
theorem wH{ob:List (Nat×aC)}(h:(ob.map cM).Nodup){p:Nat×aC}(y:p∈ob):ob.lookup p.1=some p.2:=by
 induction ob with
 |nil=>cases y
 |cons q r z=>
  simp only[aE,dU]at h;rcases al.1 y with rfl|y
  ·simp[List.lookup]
  ·have:(p.1==q.1)=false:=by
    rw[beq_eq_false_iff_ne];intro e;apply h.1;rw[<-e];exact ii y
   simp only[List.lookup,this];exact z h.2 y
section
variable {ops : Array Oper} {l : List SI} {its : List Itm} {b : List Nat}
def left(its:List Itm)(listed:Array Bool):List Itm:=its.filter fun h=> !listed.getD h.n true
theorem qD{listed:Array Bool}{i:Nat}(hi:i<listed.size):(listed.setIfInBounds i true).getD i true=true:=by simp[jV,hi]
theorem gG{listed:Array Bool}{i j:Nat}(hi:i<listed.size):(listed.setIfInBounds i true).getD j true=if j=i then true else listed.getD j true:=by
 by_cases h:j=i
 ·subst h;rw[if_pos rfl];exact qD hi
 ·rw[if_neg h,getD_set_ne true (fun e=>h e.symm)]
end
end Go.Sy
namespace Go.Sy
variable [aX]
variable {P : Program} {C : Ctx} {x : Sit} {s : St} {a : Act} {w : World}
theorem xab(p:Nat->Prop)(h:∃n,p n):∃n,p n/\∀m,p m->n<=m:=by
 obtain⟨n,hn⟩:=h;induction n using Nat.strongRecOn with
 |_ n H=>
  by_cases z:∃m,m<n/\p m
  ·obtain⟨m,F,y⟩:=z;exact H m F y
  ·exact⟨n,hn,fun m y=>Nat.le_of_not_lt fun E=>z ⟨m,E,y⟩⟩
def wq(P:Program)(s:St):List ResultVar->Option (Prop×LAa)
 |[]=>some (True,[])
 | .tmp t::r=>match wq P s r with
  |some (p,vs)=>some (p,s.get t::vs)
  |none=>none
 | .cell t ty::r=>match fi P ty,qB P ty,wq P s r with
  |some n,some ag,some (p,vs)=>match (if ag||n==1 then iC s n ag (s.get t)else none)with
   |some (q,v)=>some (q/\p,v::vs)
   |none=>none
  |_,_,_=>none
def jo:LAa->SV
 |[v]=>v
 |vs=> .tup vs
theorem qA(hM:aL C x s a w){t:TypeId}{n:Nat}{E:Bool}{u c:SV}{v:Value}{p:Prop}(hn:fi P t=some n)(z:qB P t=some E)(hu:Rep x u v)(h:(if E||n==1 then iC s n E u else none)=some (p,c))(L:p):
 ∃F r,v= .pointer (some F)/\(loadVar t F).run P w= .ok r w/\Rep x c r:=by
 split at h<;>try (cases h;done)
 rename_i I;obtain⟨b,off,cs,rfl,rfl,J⟩:=lC hM hu h L;obtain⟨r,H,y⟩:=oP (P:=P) J hn z I;exact⟨_,r,rfl,H,y⟩
def Ts(tmps:LAe):ResultVar->Sem Value
 | .tmp t=>pure (tmps.getD t undef)
 | .cell a t=>do loadVar t (<-asAddr (tmps.getD a undef))
theorem wo(fn:Func)(tmps:LAe):results fn tmps=(do let vs<-fn.results.mapM (Ts tmps);pure (if h:vs.size=1 then vs[0]else .tuple vs)):=by
 unfold results
 congr 1
theorem qd(hM:aL C x s a w):∀{rs:List ResultVar}{p:Prop}{vs:LAa},wq P s rs=some (p,vs)->p->
 ∃us,(rs.mapM (Ts a.tmps)).run P w= .ok us w/\cD x vs us:=by
 intro rs;induction rs with
 |nil=>intro p vs h _;simp only[wq,aq.injEq,bj.injEq]at h;obtain⟨_,rfl⟩:=h;exact⟨[],rfl,rfl,fun i hi=>by simp at hi⟩
 |cons r rs T=>
  intro p vs h O
  have cons:∀{c:SV}{u:Value}{cs:LAa}{us:LAd},Rep x c u->cD x cs us->cD x (c::cs) (u::us):=by
   intro c u cs us U Q
   exact⟨by simp[Q.1],fun i hi=>by
    cases i with
    |zero=>exact U
    |succ i=>simpa using Q.2 i (by simpa using hi)⟩
  cases r with
  |tmp t=>
   simp only[wq]at h;split at h<;>try (cases h;done)
   rename_i q H F;simp only[aq.injEq,bj.injEq]at h;obtain⟨rfl,rfl⟩:=h;obtain⟨us,y,J⟩:=T F O;refine⟨_, ?_,cons (hM.slot t) J⟩;simp only[List.mapM_cons,Ts,ay,aD,aj,y]
  |cell t ty=>
   simp only[wq]at h;split at h<;>try (cases h;done)
   rename_i n ag q H hn L F;split at h<;>try (cases h;done)
   rename_i q' v' Z;simp only[aq.injEq,bj.injEq]at h;obtain⟨rfl,rfl⟩:=h;obtain⟨us,y,J⟩:=T F O.2;obtain⟨ad,r,z,I,E⟩:=qA hM hn L (hM.slot t) Z O.1;refine⟨_, ?_,cons E J⟩;have W:(asAddr (a.tmps.getD t undef)).run P w= .ok ad w:=by rw[z];rfl
   simp only[List.mapM_cons,Ts,ay,W,aD,aj,I,y]
end Go.Sy
namespace Go.Sy
variable [aX]
variable {P : Program}
end Go.Sy
namespace Go.Sy
variable [aX]
variable {P : Program} {C : Ctx} {x : Sit} {s : St} {a : Act} {w : World}
def leT(t:Nat)(a b:SV):Prop:=∀(x:Sit)(v:Value),Rep x a v->Rep (x.newT t 0 0 0) b v
theorem leT.lst(t y:Nat)(h:f8):leT t (.lst y h .clip) (.lst y h (.id t)):=fun x v I=>by obtain⟨b,cap,L,_,H,z⟩:=I.lst_inv;obtain⟨J,F,E⟩:=z;exact .dat _ _ (H.tok (.lst y h (.id t)) (.inr ⟨y,h,_,_,rfl,rfl⟩)) ⟨J,F,F,E,.inl rfl⟩
theorem leT.byt(t:Nat)(l:t7):leT t (.byt l .clip) (.byt l (.id t)):=fun x v F=>by obtain⟨b,cap,I,_,E,h⟩:=F.byt_inv;obtain⟨H,z,y⟩:=h;exact .dat _ _ (E.tok (.byt l (.id t)) (.inl ⟨l,_,_,rfl,rfl⟩)) ⟨H,z,z,y,.inl rfl⟩
def leP(o h:Nat)(y:f8)(a b:SV):Prop:=∀(x x':Sit)(v:Value),x'.bk=x.bk->x'.τ=x.τ->(∀b i u,x.G b i=some u->x'.G b i=some u)->
 (∀k,k<y.length*h->∃u,x'.G ((x.bk o).1) k=some u/\cL x'.G ((y.getD (k/h) []).getD (k % h) .undef) u)->Rep x a v->Rep x' b v
theorem leP.psl{o h off n:Nat}{cap:LAc}{z:f8}(hb:off+n<=z.length)(I:∀y∈z,y.length=h):leP o h z (.psl o h off n cap) (.lst h ((z.drop off).take n) .no):=by
 intro x x' v hβ hτ hG Z hv;obtain⟨cap,L,_,Q,he,U⟩:=hv.psl_inv;rw[he];have H:((z.drop off).take n).length=n:=by simp;omega
 refine .dat _ _ ?_ trivial
 by_cases hn:n=0
 ·subst hn
  refine .lst _ _ _ _ _ _ _ (fun _ _=>undef) H.symm L (fun i hi=>by omega) (fun i j hi=>by omega) (fun i j hi=>by omega)
 ·have J:Q=off*h:=by omega
  have F:∀i,i<n->(((z.drop off).take n).getD i [])=z.getD (off+i) []:=fun i hi=>by simp only[aa,bJ,if_pos hi,br]
  have hl:∀i,i<n->(z.getD (off+i) []).length=h:=fun i hi=>by rw[aa,ab (by omega)];exact I _ (bx _)
  have W:∀i j,i<n->j<h->off*h+i*h+j<z.length*h:=fun i j hi E=>by have:=bv h (show off+i+1<=z.length by omega);simp only[bA,Nat.one_mul]at this;omega
  have O:∀i j,j<h->(off*h+i*h+j)/h=off+i/\(off*h+i*h+j) % h=j:=fun i j E=>by rw[<-bA,cm,Nat.mul_add_div (by omega),xx E,dL];exact⟨rfl,by rw[Nat.mul_add_mod,dp E]⟩
  refine .lst _ _ _ _ _ _ _ (fun i j=>(x'.G ((x.bk o).1) (off*h+i*h+j)).getD undef) H.symm L (fun i hi=>by rw[F i hi];exact hl i hi) (fun i j hi E=> ?_) (fun i j hi E=> ?_)
  ·obtain⟨u,hu,_⟩:=Z _ (W i j hi E)
   rw[J,hu];rfl
  ·obtain⟨u,hu,T⟩:=Z _ (W i j hi E)
   rw[hu,F i hi];rw[(O i j E).1,(O i j E).2]at T;exact T
end Go.Sy
