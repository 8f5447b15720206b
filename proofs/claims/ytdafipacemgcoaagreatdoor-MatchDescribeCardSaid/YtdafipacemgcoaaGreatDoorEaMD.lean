/- A sound engine for Go code. No condition. -/
import Derived.WalkKit
import Derived.ChangeKeysEq
import Derived.Laws.StructEq
import Derived.Laws.Externs
import Derived.Orders
open Array renaming ext' -> dL, getD -> jQ, getD_eq_getD_getElem? -> aW, getElem?_append_left -> fV, getElem?_eq_getElem -> cy, getElem?_toList -> cY, length_toList -> aP, replicate -> dT, size_append -> m9
open Bool renaming and_eq_true -> aA, eq_iff_iff -> eR, false_eq_true -> aJ, not_eq_true' -> dv
open Go.Instr renaming buildSlice -> dF
open Int renaming toNat_natCast -> gP
open Go.IntKind renaming i64 -> aj, u8 -> fu
open List renaming Nodup -> vg, Pairwise -> iI, Sublist -> m6, all_eq_true -> aT, append_assoc -> aZ, append_nil -> bK, drop_drop -> fp, drop_eq_nil_of_le -> bO, drop_zero -> bi, filter_cons -> kE, flatMap_cons -> dZ, flatten_append -> bY, foldl_cons -> cx, getD_cons_succ -> bF, getD_cons_zero -> bp, getD_eq_getElem?_getD -> aa, getElem?_append_left -> aY, getElem?_append_right -> bj, getElem?_drop -> bf, getElem?_eq_getElem -> af, getElem?_eq_none -> jZ, getElem?_map -> aR, getElem?_range -> cM, getElem?_set -> eW, getElem?_take -> bv, getElem?_toArray -> gg, getElem_mem -> bo, getElem_of_mem -> bl, length_append -> ah, length_cons -> av, length_drop -> aE, length_eq_zero_iff -> bP, length_map -> aQ, length_nil -> bg, length_pos_iff -> ig, length_replicate -> bQ, length_set -> cw, length_singleton -> aL, length_take -> aD, map_append -> dh, map_cons -> aO, map_nil -> ic, mem_append -> ak, mem_cons -> an, mem_cons_of_mem -> aq, mem_cons_self -> ax, mem_map -> aS, mem_map_of_mem -> ie, mem_of_mem_drop -> dQ, mem_of_mem_take -> bL, mem_range -> nL, mem_singleton -> aN, nil_append -> bw, nodup_cons -> ed, pairwise_iff_getElem -> gZ, pairwise_map -> gu, range -> bS, replicate -> au, size_toArray -> gq, take_append_drop -> fZ, take_length -> bt, take_of_length_le -> cg
open Nat renaming add_assoc -> cH, add_mul -> bD, add_zero -> fm, eq_zero_or_pos -> gh, le_refl -> aI, le_trans -> pC, lt_or_ge -> bH, min_eq_left -> gK, mod_eq_of_lt -> iG, mul_comm -> dq, mul_le_mul_right -> bB, mul_one -> iF, succ_mul -> dH, zero_add -> bC, zero_le -> cu, zero_mul -> pB
open Go.Op renaming bytesLess -> bI, intCmp -> pA
open Option renaming bind_some -> cQ, getD_some -> ba, ite_none_right_eq_some -> aG, map_eq_some_iff -> ai, map_some -> bm, some -> aw
open Prod renaming fst -> cB, mk -> bn
open Go.Result renaming andThen_ok -> am
open Go.Sem renaming run_bind -> aB, run_pure -> aF
open UInt8 renaming lt_iff_toNat_lt -> rD, ofInt -> dO, ofNat -> ej
set_option linter.unusedVariables false
set_option linter.unusedSimpArgs false
set_option linter.unnecessarySimpa false
set_option linter.unusedSectionVars false
namespace Go.Sy
abbrev t6:=List UInt8
abbrev t8:=List Nat
abbrev LAa:=Option Nat
abbrev LAb:=List Value
abbrev LAc:=Array Value
abbrev LAf:=Exit->Act->World->Prop
abbrev LBa:=Act->World->Prop
inductive Tok where
 |no
 |clip
 |id (t:Nat)
 deriving DecidableEq
inductive SV where
 |undef
 |bool (b:Bool)
 |int (k:IntKind) (n:Int)
 |u8 (b:UInt8)
 |str (l:List UInt8)
 |byt (l:List UInt8) (t:Tok)
 |lst (sz:Nat) (xs:List (List SV)) (t:Tok)
 |nilp
 |nili
 |pp (cs:List SV)
 |ptr (o off:Nat)
 |ap (o sz i j:Nat)
 |psl (o sz off n:Nat) (cap:Option Nat)
 |agg (cs:List SV)
 |tup (vs:List SV)
 |fn (f:Nat) (first cap:List SV)
 deriving Inhabited
abbrev t7:=List SV
abbrev f8:=List (List SV)
inductive aC where
 |rc (cs:List SV)
 |arr (sz:Nat) (xs:List (List SV))
 |bar (l:List UInt8)
def aC.size:aC->Nat
 | .rc cs=>cs.length
 | .arr h z=>z.length*h
 | .bar l=>l.length
def aC.cell:aC->Nat->SV
 | .rc cs,k=>cs.getD k .undef
 | .arr sz xs,k=>(xs.getD (k/sz) []).getD (k % sz) .undef
 | .bar l,k=> .u8 (l.getD k 0)
def aC.arrB:aC->Bool
 | .arr _ _=>true
 |_=>false
abbrev GM:=Nat->Nat->Option Value
structure Sit where
 G:GM
 bk:Nat->Nat×Nat
 τ:Nat->Nat×Nat×Nat
inductive cD(G:GM):SV->Value->Prop
 |bool (b:Bool):cD G (.bool b) (.bool b)
 |int (k:IntKind) (n:Int):cD G (.int k n) (.int k n)
 |u8 (b:UInt8):cD G (.u8 b) (.int .u8 b.toNat)
 |str (l:List UInt8):cD G (.str l) (.string ⟨⟨l⟩⟩)
 |nilp:cD G .nilp (.pointer none)
 |nili:cD G .nili .nilIface
 |bytN (t:Tok):cD G (.byt [] t) (.slice none 0 0)
 |bytE (t:Tok) (a:Addr):cD G (.byt [] t) (.slice (some a) 0 0)
 |byt (l:List UInt8) (t:Tok) (b off cap n:Nat) (hn:n=l.length) (hc:n<=cap)
  (h:∀i,i<n->G b (off+i)=some (.int .u8 (l.getD i 0).toNat)):cD G (.byt l t) (.slice (some ⟨b,off,none⟩) n cap)
 |lstN (sz:Nat) (t:Tok):cD G (.lst sz [] t) (.slice none 0 0)
 |lstE (sz:Nat) (t:Tok) (a:Addr):cD G (.lst sz [] t) (.slice (some a) 0 0)
 |lst (sz:Nat) (xs:List (List SV)) (t:Tok) (b off cap n:Nat) (val:Nat->Nat->Value) (hn:n=xs.length) (hc:n<=cap)
  (hl:∀i,i<n->(xs.getD i []).length=sz)
  (hg:∀i j,i<n->j<sz->G b (off+i*sz+j)=some (val i j))
  (h:∀i j,i<n->j<sz->cD G ((xs.getD i []).getD j .undef) (val i j)):cD G (.lst sz xs t) (.slice (some ⟨b,off,none⟩) n cap)
 |pp (cs:List SV) (b off:Nat) (val:Nat->Value) (hg:∀j,j<cs.length->G b (off+j)=some (val j))
  (h:∀j,j<cs.length->cD G (cs.getD j .undef) (val j)):cD G (.pp cs) (.pointer (some ⟨b,off,none⟩))
class bc where
 cells:Nat->Option (List SV)
variable [bc]
def Lay(G:GM):Prop:=∀g cs,bc.cells g=some cs->∀j,j<cs.length->∃v,G g j=some v/\cD G (cs.getD j .undef) v
def df(x:Sit)(h:Nat)(t:Tok)(v:Value):Prop:=
 match t with
 | .no=>True
 | .clip=>∃a n,v= .slice a n n
 | .id t=>∃a n cap,v= .slice a n cap/\(cap=n\/∃b off,a=some ⟨b,off,none⟩/\x.τ t=(b,off+n*h,off+cap*h))
def M3(x:Sit):SV->Value->Prop
 | .byt _ t,v=>df x 1 t v
 | .lst sz _ t,v=>df x sz t v
 |_,_=>True
inductive Rep(x:Sit):SV->Value->Prop
 |undef (v:Value):Rep x .undef v
 |dat (s:SV) (v:Value) (h:cD x.G s v) (ht:M3 x s v):Rep x s v
 |ptr (o off:Nat):Rep x (.ptr o off) (.pointer (some ⟨(x.bk o).1,off,none⟩))
 |ap (o sz i j:Nat):Rep x (.ap o sz i j) (.pointer (some ⟨(x.bk o).1,i*sz+j,none⟩))
 |psl (o sz off n:Nat) (cap:Option Nat) (off' cap':Nat) (h:cap'=0\/off'=off*sz) (hn:n<=cap') (hc:∀c,cap=some c->c=cap') (hk:cap=none->cap'=0\/off'+cap'*sz<=(x.bk o).2):Rep x (.psl o sz off n cap) (.slice (some ⟨(x.bk o).1,off',none⟩) n cap')
 |agg (cs:List SV) (vs:List Value) (hl:cs.length=vs.length) (h:∀i,i<cs.length->Rep x (cs.getD i .undef) (vs.getD i undef)):Rep x (.agg cs) (.agg ⟨vs⟩)
 |tup (cs:List SV) (vs:List Value) (hl:cs.length=vs.length) (h:∀i,i<cs.length->Rep x (cs.getD i .undef) (vs.getD i undef)):Rep x (.tup cs) (.tuple ⟨vs⟩)
 |fn (f:Nat) (c1 c2:List SV) (v1 v2:List Value) (hl1:c1.length=v1.length) (h1:∀i,i<c1.length->Rep x (c1.getD i .undef) (v1.getD i undef))
  (hl2:c2.length=v2.length) (h2:∀i,i<c2.length->Rep x (c2.getD i .undef) (v2.getD i undef)):Rep x (.fn f c1 c2) (.func (.func f) ⟨v1⟩ ⟨v2⟩)
def cr(x:Sit)(cs:t7)(vs:LAb):Prop:=cs.length=vs.length/\∀i,i<cs.length->Rep x (cs.getD i .undef) (vs.getD i undef)
structure St where
 tm:List SV
 ob:List (Nat×aC)
 tk:List Nat
structure Ctx where
 w0:World
 G0:GM
 mine:Nat->Prop
 β0:Nat->Nat×Nat
def dS(w:World)(b:Nat)(c:LAc)(e:TypeId)(fl fh:Nat):Prop:=
 w.heap[b]? =some (.cells c e (fl,fh))/\∀i,i<c.size->¬(fl<=i/\i<fh)
def bW(x:Sit)(obj:aC)(k:Nat)(v:Value):Prop:=
 match obj with
 | .rc cs=>Rep x (cs.getD k .undef) v
 |obj=>cD x.G (obj.cell k) v
def dA(x:Sit)(w:World)(o:Nat)(obj:aC):Prop:=
 ∃c e fl fh,dS w ((x.bk o).1) c e fl fh/\(obj.size<=c.size/\(x.bk o).2<=c.size/\(obj.arrB=true->¬(fl<=c.size/\c.size<fh)))/\∀k,k<obj.size->bW x obj k (c.getD k undef)
def gY(x:Sit)(w:World)(mine:Nat->Prop)(t:Nat):Prop:=
 (x.τ t).2.1=(x.τ t).2.2\/
 ((∃c e fl fh,dS w (x.τ t).1 c e fl fh/\(x.τ t).2.2<=c.size)/\mine (x.τ t).1/\∀o,(x.τ t).2.1<=o->o<(x.τ t).2.2->x.G (x.τ t).1 o=none)
def kV(p q:Nat×Nat×Nat):Prop:=p.1≠q.1
structure cS(C:Ctx)(x:Sit)(ob:List (Nat×aC))(tk:List Nat)(w:World):Prop where
 per:∀b o v,x.G b o=some v->w.cell? ⟨b,o,none⟩=some v
 g0:∀b o v,C.G0 b o=some v->x.G b o=some v
 gm:∀b o v,x.G b o=some v->C.G0 b o=some v\/C.mine b
 new:∀b,C.w0.heap.size<=b->C.mine b
 obs:∀p∈ob,dA x w p.1 p.2/\C.mine ((x.bk p.1).1)/\∀off,x.G ((x.bk p.1).1) off=none
 nd:(ob.map cB).Nodup
 inj:∀p∈ob,∀q∈ob,(x.bk p.1).1=(x.bk q.1).1->p.1=q.1
 tks:∀t∈tk,gY x w C.mine t
 tko:∀t∈tk,∀p∈ob,(x.τ t).1≠(x.bk p.1).1\/(x.τ t).2.1=(x.τ t).2.2
 tkd:∀t∈tk,∀u∈tk,t≠u->kV (x.τ t) (x.τ u)\/(x.τ t).2.1=(x.τ t).2.2\/(x.τ u).2.1=(x.τ u).2.2
 os:w.os=C.w0.os
 tape:w.tape=C.w0.tape
 output:w.output=C.w0.output
 size:C.w0.heap.size<=w.heap.size
 ext:∀b,¬C.mine b->w.heap[b]? =C.w0.heap[b]?
 pin:∀i,i<100->x.bk i=C.β0 i
 lay:Lay C.G0
structure aM(C:Ctx)(x:Sit)(s:St)(a:Act)(w:World):Prop where
 tm:cr x s.tm a.tmps.toList
 defers:a.defers=[]
 heap:cS C x s.ob s.tk w
end Go.Sy
namespace Go.Sy
variable [bc]
inductive Arg where
 |t (n:Nat)
 |c (v:SV)
 |f (g:Nat)
inductive SOp where
 |mov (x:Arg)
 |pick (c a b:Arg)
 |new (o:aC)
 |box (x:Arg)
 |build (z:List SV) (ps:List (Nat×Nat×Arg))
 |lit (sz:Nat) (xs:List Arg)
 |litB (xs:List Arg)
 |load (n:Nat) (ag:Bool) (a:Arg)
 |store (n:Nat) (a x:Arg)
 |nchk (x:Arg)
 |bin (op:BinOp) (x y:Arg)
 |beq (ne:Bool) (x y:Arg)
 |un (op:UnOp) (x:Arg)
 |toInt (k:IntKind) (x:Arg)
 |toStr (x:Arg)
 |s2b (x:Arg)
 |b2s (x:Arg)
 |mkfn (f:Nat) (first cap:List Arg)
 |mk (z:List SV) (bytes:Nat) (len cap:Arg)
 |mkB (len cap:Arg)
 |slcS (x:Arg) (lo hi:Option Arg)
 |slcL (sz:Nat) (x:Arg) (lo hi mx:Option Arg)
 |slcA (len sz:Nat) (x:Arg) (lo hi mx:Option Arg)
 |faddr (off:Nat) (x:Arg)
 |fld (off n:Nat) (ag:Bool) (x:Arg)
 |iaddrL (sz:Nat) (x i:Arg)
 |iaddrA (len sz:Nat) (x i:Arg)
 |idxA (len sz:Nat) (ag:Bool) (x i:Arg)
 |idxS (x i:Arg)
 |ext (x:Arg) (i:Nat)
 |len (str:Bool) (x:Arg)
 |lenC (n:Nat)
 |cap (x:Arg)
 |app (z:List SV) (bytes:Nat) (x y:Arg)
 |appM (z:List SV) (bytes:Nat) (x k:Arg)
 |appO (z:List SV) (bytes:Nat) (x y:Arg)
 |eqS (ne:Bool) (ts:List Nat) (x y:Arg)
 |isnil (ne:Bool) (x:Arg)
 |isni (ne:Bool) (x:Arg)
 |slid (x:Arg)
 |newB (xs:List Arg)
 |ovl (x y:Arg)
 |cpy (sz:Nat) (x y:Arg)
 |clr (z:List SV) (x:Arg)
 |mini (x y:Arg)
 |maxi (x y:Arg)
 |call (f:Arg) (args:List Arg)
structure SI where
 dst:Option Nat
 g:Option (Nat×Bool)
 op:SOp
abbrev LAd:=List SI
inductive fG where
 |skip
 |ops (l:List SI)
 |drw (b ds:List Nat) (l:List SI)
 |seq (a b:fG)
 |cond (c:Arg) (a b:fG)
 |block (id:Nat) (b:fG)
 |loop (b:fG)
 |exit (id:Nat)
 |ret
 |bad
def St.get(s:St)(n:Nat):SV:=s.tm.getD n .undef
def St.ev(s:St):Arg->SV
 | .t n=>s.get n
 | .c v=>v
 | .f g=> .fn g [] []
def St.put(s:St)(d:LAa)(v:SV):St:=
 match d with
 |some d=> {s with tm:=s.tm.set d v}
 |none=>s
def St.look(s:St)(o:Nat):Option aC:=s.ob.lookup o
def Tok.purge(lo hi:Nat):Tok->Tok
 | .id t=>if lo<=t/\t<hi then .no else .id t
 |t=>t
mutual
def SV.purge(lo hi:Nat):SV->SV
 | .byt l t=> .byt l (t.purge lo hi)
 | .lst h z t=> .lst h z (t.purge lo hi)
 | .ptr o off=>if lo<=o/\o<hi then .undef else .ptr o off
 | .ap o h i j=>if lo<=o/\o<hi then .undef else .ap o h i j
 | .psl o h off n cap=>if lo<=o/\o<hi then .undef else .psl o h off n cap
 | .agg cs=> .agg (SV.purgeL lo hi cs)
 | .tup cs=> .tup (SV.purgeL lo hi cs)
 | .fn f a b=> .fn f (SV.purgeL lo hi a) (SV.purgeL lo hi b)
 |v=>v
def SV.purgeL(lo hi:Nat):t7->t7
 |[]=> []
 |v::r=>v.purge lo hi::SV.purgeL lo hi r
end
def aC.purge(lo hi:Nat):aC->aC
 | .rc cs=> .rc (SV.purgeL lo hi cs)
 | .arr h z=> .arr h z
 | .bar l=> .bar l
def bz(lo hi:Nat):List (Nat×aC)->List (Nat×aC)
 |[]=> []
 |p::r=>if lo<=p.1/\p.1<hi then bz lo hi r else(p.1,p.2.purge lo hi)::bz lo hi r
def co(lo hi:Nat):t8->t8
 |[]=> []
 |t::r=>if lo<=t/\t<hi then co lo hi r else t::co lo hi r
def St.purge(s:St)(lo hi:Nat):St:= {tm:=SV.purgeL lo hi s.tm,ob:=bz lo hi s.ob,tk:=co lo hi s.tk}
def St.addO(s:St)(d:Nat)(o:aC):St:= {s with ob:=(d,o)::s.ob}
def setO(d:Nat)(o:aC):List (Nat×aC)->List (Nat×aC)
 |[]=> []
 |p::r=>if p.1=d then(d,o)::r else p::setO d o r
def St.setO(s:St)(d:Nat)(o:aC):St:= {s with ob:=Sy.setO d o s.ob}
def SV.data:SV->SV
 | .byt l _=> .byt l .no
 | .lst h z _=> .lst h z .no
 |v=>v
def SV.isData:SV->Bool
 | .bool _| .int _ _| .u8 _| .str _| .byt _ _| .lst _ _ _| .nilp| .nili| .pp _=>true
 |_=>false
def SV.cells:SV->t7
 | .agg cs=>cs
 | .undef=> []
 |v=> [v]
def SV.isDef:SV->Bool
 | .undef=>false
 |_=>true
def NI(op:BinOp)(a b:Int):Option SV:=
 match op with
 | .eql=>some (.bool (decide (a=b)))
 | .neq=>some (.bool (decide (a≠b)))
 | .lss=>some (.bool (decide (a<b)))
 | .leq=>some (.bool (decide (a<=b)))
 | .gtr=>some (.bool (decide (b<a)))
 | .geq=>some (.bool (decide (b<=a)))
 |_=>none
def bx(op:BinOp)(k:IntKind)(x y:Int):Int:=
 let a:=BitVec.ofInt k.bits x
 let b:=BitVec.ofInt k.bits y
 k.wrap (match op with| .and=>a&&&b| .or=>a|||b| .xor=>a^^^b|_=>a&&& ~~~b:BitVec k.bits).toNat
def PL(op:BinOp)(k:IntKind)(a b:Int):Option (Prop×SV):=
 match op with
 | .add=>some (True,.int k (k.wrap (a+b)))
 | .sub=>some (True,.int k (k.wrap (a-b)))
 | .mul=>some (True,.int k (k.wrap (a*b)))
 | .quo=>some (b≠0,.int k (k.wrap (a.tdiv b)))
 | .rem=>some (b≠0,.int k (a.tmod b))
 | .and=>some (True,.int k (bx .and k a b))
 | .or=>some (True,.int k (bx .or k a b))
 | .xor=>some (True,.int k (bx .xor k a b))
 | .andNot=>some (True,.int k (bx .andNot k a b))
 | .shl| .shr=>none
 |op=>(NI op a b).map fun v=>(True,v)
def DR(op:BinOp)(a b:UInt8):Option (Prop×SV):=
 match op with
 | .add=>some (True,.u8 (a+b))
 | .sub=>some (True,.u8 (a-b))
 | .mul=>some (True,.u8 (a*b))
 | .quo=>some (b≠0,.u8 (a/b))
 | .rem=>some (b≠0,.u8 (a % b))
 | .and=>some (True,.u8 (a&&&b))
 | .or=>some (True,.u8 (a|||b))
 | .xor=>some (True,.u8 (a^^^b))
 | .andNot=>some (True,.u8 (a&&& ~~~b))
 | .eql=>some (True,.bool (decide (a=b)))
 | .neq=>some (True,.bool (decide (a≠b)))
 | .lss=>some (True,.bool (decide (a<b)))
 | .leq=>some (True,.bool (decide (a<=b)))
 | .gtr=>some (True,.bool (decide (b<a)))
 | .geq=>some (True,.bool (decide (b<=a)))
 |_=>none
def tp(op:BinOp)(k:IntKind)(a b:Int):Option (Prop×SV):=
 match op with
 | .shl=>some (0<=b,.int k (k.wrap (a*2^(min b.toNat k.bits))))
 | .shr=>some (0<=b,.int k (a.fdiv (2^(min b.toNat k.bits))))
 |_=>none
def Rl(op:BinOp)(a:UInt8)(b:Int):Option (Prop×SV):=
 match op with
 | .shl=>some (0<=b,.u8 (ej (a.toNat*2^(min b.toNat 8))))
 | .shr=>some (0<=b,.u8 (ej (a.toNat/2^(min b.toNat 8))))
 |_=>none
def Rq(op:BinOp)(a b:t6):Option (Prop×SV):=
 match op with
 | .add=>some (a.length+b.length<=9223372036854775807,.str (a++b))
 | .eql=>some (True,.bool (decide (a=b)))
 | .neq=>some (True,.bool (decide (a≠b)))
 | .lss=>some (True,.bool (bI a b))
 | .leq=>some (True,.bool (bI a b||decide (a=b)))
 | .gtr=>some (True,.bool (!(bI a b||decide (a=b))))
 | .geq=>some (True,.bool (!bI a b))
 |_=>none
def wI(op:BinOp):SV->SV->Option (Prop×SV)
 | .int k a,.int k' b=>
  match op with
  | .shl=>tp .shl k a b
  | .shr=>tp .shr k a b
  |op=>if k=k' then PL op k a b else none
 | .u8 a,.int _ b=>Rl op a b
 | .u8 a,.u8 b=>DR op a b
 | .str a,.str b=>Rq op a b
 |_,_=>none
def vh(op:UnOp):SV->Option SV
 | .bool b=>match op with| .not=>some (.bool (!b))|_=>none
 | .int k n=>match op with
  | .neg=>some (.int k (k.wrap (0-n)))
  | .xor=>some (.int k (bx .xor k (if k.signed then-1 else k.max) n))
  |_=>none
 |_=>none
def g8(k:IntKind):SV->Option SV
 | .int _ n=>match k with| .u8=>some (.u8 (dO n))|k=>some (.int k (k.wrap n))
 | .u8 b=>match k with| .u8=>some (.u8 b)| .i8=>none|k=>some (.int k b.toNat)
 |_=>none
def jF(b:Bool):SV->LAa
 | .str l=>if b then some l.length else none
 | .byt l _=>if b then none else some l.length
 | .lst _ h _=>if b then none else some h.length
 | .psl _ _ _ n _=>if b then none else some n
 |_=>none
def du(h:Bool)(n:Nat)(cs:t7):SV:=if h then .agg (cs.take n)else cs.getD 0 .undef
def iB(s:St)(n:Nat)(z:Bool):SV->Option (Prop×SV)
 | .pp cs=>some (n<=cs.length,du z n (cs.map SV.data))
 | .ptr o off=>match s.look o with
  |some (.rc cs)=>some (off+n<=cs.length,du z n (cs.drop off))
  |some (.arr h xs)=>if off=0 then some (n<=xs.flatten.length/\(∀x∈xs,x.length=h),du z n (xs.flatten.map SV.data))else none
  |some (.bar l)=>if off=0 then some (n<=l.length,du z n (l.map .u8))else none
  |none=>none
 | .ap o h i j=>match s.look o with
  |some (.arr sz' xs)=>some (h=sz'/\i<xs.length/\j+n<=h/\(xs.getD i []).length=h,du z n (((xs.getD i []).drop j).map SV.data))
  |some (.bar l)=>some (h=1/\j=0/\n=1/\i<l.length,du z n [.u8 (l.getD i 0)])
  |_=>none
 |_=>none
def SV.num:SV->Option Int
 | .int _ n=>some n
 | .u8 b=>some b.toNat
 |_=>none
def iA(s:St)(x:Option Arg)(h:Int):Option Int:=
 match x with
 |none=>some h
 |some a=>(s.ev a).num
def lA(t:Tok)(h clip:Bool):Tok:=if clip then .clip else if h then t else .no
def jl(s:St)(B:Nat)(x:SV)(lo hi z:Option Arg):Option (Prop×SV):=
 match x with
 | .byt l t=>
  match iA s lo 0,iA s hi l.length,iA s z l.length with
  |some a,some b,some c=>some (0<=a/\a<=b/\b<=c/\c<=l.length/\B=1/\(z.isSome=true->b=c),.byt ((l.take b.toNat).drop a.toNat) (lA t hi.isNone z.isSome))
  |_,_,_=>none
 | .lst h l t=>
  match iA s lo 0,iA s hi l.length,iA s z l.length with
  |some a,some b,some c=>some (0<=a/\a<=b/\b<=c/\c<=l.length/\B=h/\(z.isSome=true->b=c),.lst B ((l.take b.toNat).drop a.toNat) (lA t hi.isNone z.isSome))
  |_,_,_=>none
 | .psl o h off n none=>
  match iA s lo 0,iA s hi n,z with
  |some a,some b,none=>some (0<=a/\a<=b/\b<=n/\B=h,.psl o B (off+a.toNat) (b.toNat-a.toNat) none)
  |_,_,_=>none
 | .psl o h off n (some cap)=>
  match iA s lo 0,iA s hi n,iA s z cap with
  |some a,some b,some c=>some (0<=a/\a<=b/\b<=c/\c<=cap/\B=h,.psl o B (off+a.toNat) (b.toNat-a.toNat) (some (c.toNat-a.toNat)))
  |_,_,_=>none
 |_=>none
def iE(cs:t7):List (Nat×Nat×SV)->Option t7
 |[]=>some cs
 |(off,n,v)::r=>if v.isDef=true/\v.cells.length=n/\off+n<=cs.length then iE (cs.take off++v.cells++cs.drop (off+n)) r else none
def toB:t7->Option t6
 |[]=>some []
 | .u8 b::r=>(toB r).map (b:: ·)
 |_::_=>none
def rows(h:Nat):t7->Option f8
 |[]=>some []
 |v::r=>if v.isDef=true/\v.cells.length=h/\v.cells.all SV.isData=true then(rows h r).map (v.cells.map SV.data:: ·)else none
def wJ(s:St):SV->Option (Prop×SV)
 | .byt l _=>some (True,.str l)
 | .psl o h off n _=>match s.look o with
  |some (.bar l)=>some (h=1/\off+n<=l.length,.str ((l.drop off).take n))
  |_=>none
 |_=>none
def tt:Nat->SV->SV->Option Bool
 |0,.bool a,.bool b=>some (decide (a=b))
 |1,.int k a,.int k' b=>if k=k' then some (decide (a=b))else none
 |1,.u8 a,.u8 b=>some (decide (a=b))
 |2,.str a,.str b=>some (decide (a=b))
 |_,_,_=>none
def gF:t8->t7->t7->Option Bool
 |[],[],[]=>some true
 |t::ts,a::r,b::s=>match tt t a b,gF ts r s with
  |some p,some q=>some (p&&q)
  |_,_=>none
 |_,_,_=>none
def val(s:St):SOp->Option (Prop×SV)
 | .mov x=>some (True,s.ev x)
 | .build z J=>(iE z (J.map fun(o,n,x)=>(o,n,s.ev x))).map fun cs=>(True,.agg cs)
 | .lit h B=>(rows h (B.map s.ev)).map fun r=>(True,.lst h r .clip)
 | .litB B=>(toB (B.map s.ev)).map fun r=>(True,.byt r .clip)
 | .load n E a=>iB s n E (s.ev a)
 | .nchk x=>match s.ev x with
  | .ptr o off=>some (True,.ptr o off)
  | .ap o h i j=>some (True,.ap o h i j)
  | .pp cs=>some (True,.pp cs)
  | .fn f a b=>some (True,.fn f a b)
  |_=>none
 | .bin op x y=>wI op (s.ev x) (s.ev y)
 | .beq F x y=>match s.ev x,s.ev y with
  | .bool a,.bool b=>some (True,.bool (if F then decide (a≠b)else decide (a=b)))
  |_,_=>none
 | .eqS F I x y=>match s.ev x,s.ev y with
  | .agg cs,.agg ds=>(gF I cs ds).map fun b=>(True,.bool (if F then !b else b))
  |_,_=>none
 | .un op x=>(vh op (s.ev x)).map (True,·)
 | .toInt k x=>(g8 k (s.ev x)).map (True,·)
 | .toStr x=>match s.ev x with| .str l=>some (True,.str l)|_=>none
 | .slid _=>none
 | .newB _=>none
 | .isni F x=>match s.ev x with| .nili=>some (True,.bool (!F))|_=>none
 | .s2b x=>match s.ev x with| .str l=>some (True,.byt l .no)|_=>none
 | .b2s x=>wJ s (s.ev x)
 | .mkfn f a b=>some (True,.fn f (a.map s.ev) (b.map s.ev))
 | .slcS x lo hi=>match s.ev x with
  | .str l=>match iA s lo 0,iA s hi l.length with
   |some a,some b=>some (0<=a/\a<=b/\b<=l.length,.str ((l.take b.toNat).drop a.toNat))
   |_,_=>none
  |_=>none
 | .slcL h x lo hi H=>jl s h (s.ev x) lo hi H
 | .slcA len h x lo hi H=>match s.ev x with
  | .ptr o 0=>jl s h (.psl o h 0 len (some len)) lo hi H
  |_=>none
 | .faddr off x=>match s.ev x with
  | .ptr o k=>some (True,.ptr o (k+off))
  | .ap o h i j=>some (True,.ap o h i (j+off))
  | .pp cs=>some (True,.pp (cs.drop off))
  |_=>none
 | .fld off n E x=>match s.ev x with
  | .agg cs=>some (off+n<=cs.length,du E n (cs.drop off))
  |_=>none
 | .iaddrL h x i=>match s.ev x,(s.ev i).num with
  | .byt l _,some n=>some (0<=n/\n<l.length/\h=1,.pp [.u8 (l.getD n.toNat 0)])
  | .lst sz' B _,some n=>some (0<=n/\n<B.length/\h=sz',.pp (B.getD n.toNat []))
  | .psl o sz' off k _,some n=>some (0<=n/\n<k/\h=sz',.ap o h (off+n.toNat) 0)
  |_,_=>none
 | .iaddrA len h x i=>match s.ev x,(s.ev i).num with
  | .ptr o off,some n=>match s.look o with
   |some (.rc _)=>some (0<=n/\n<len,.ptr o (off+n.toNat*h))
   |some _=>if off=0 then some (0<=n/\n<len,.ap o h n.toNat 0)else none
   |none=>none
  | .pp cs,some n=>some (0<=n/\n<len/\cs.length=len*h,.pp (cs.drop (n.toNat*h)))
  |_,_=>none
 | .idxA len h E x i=>match s.ev x,(s.ev i).num with
  | .agg cs,some n=>some (0<=n/\n<len/\cs.length=len*h,du E h (cs.drop (n.toNat*h)))
  |_,_=>none
 | .idxS x i=>match s.ev x,(s.ev i).num with
  | .str l,some n=>some (0<=n/\n<l.length,.u8 (l.getD n.toNat 0))
  |_,_=>none
 | .ext x i=>match s.ev x with
  | .tup vs=>some (i<vs.length,vs.getD i .undef)
  |_=>none
 | .len b x=>match jF b (s.ev x)with
  |some n=>some (True,.int .i64 (n:Nat))
  |none=>none
 | .lenC n=>some (True,.int .i64 n)
 | .cap x=>match s.ev x with
  | .psl _ _ _ _ (some c)=>some (True,.int .i64 c)
  | .byt l .clip=>some (True,.int .i64 l.length)
  | .lst _ B .clip=>some (True,.int .i64 B.length)
  |_=>none
 | .mini x y=>match s.ev x,s.ev y with
  | .int k a,.int k' b=>if k=k' then some (True,.int k (if b<a then b else a))else none
  |_,_=>none
 | .maxi x y=>match s.ev x,s.ev y with
  | .int k a,.int k' b=>if k=k' then some (True,.int k (if a<b then b else a))else none
  |_,_=>none
 |_=>none
end Go.Sy
namespace Go.Sy
variable [bc]
def Tok.ren(m:Nat->Nat):Tok->Tok
 | .id t=> .id (m t)
 |t=>t
mutual
def SV.ren(m mt:Nat->Nat):SV->SV
 | .byt l t=> .byt l (t.ren mt)
 | .lst h z t=> .lst h z (t.ren mt)
 | .ptr o off=> .ptr (m o) off
 | .ap o h i j=> .ap (m o) h i j
 | .psl o h off n cap=> .psl (m o) h off n cap
 | .agg cs=> .agg (SV.renL m mt cs)
 | .tup cs=> .tup (SV.renL m mt cs)
 | .fn f a b=> .fn f (SV.renL m mt a) (SV.renL m mt b)
 |v=>v
def SV.renL(m mt:Nat->Nat):t7->t7
 |[]=> []
 |v::r=>v.ren m mt::SV.renL m mt r
end
def aC.ren(m mt:Nat->Nat):aC->aC
 | .rc cs=> .rc (SV.renL m mt cs)
 |o=>o
mutual
def SV.toks:SV->t8
 | .byt _ t=>match t with| .id t=> [t]|_=> []
 | .lst _ _ t=>match t with| .id t=> [t]|_=> []
 | .agg cs=>SV.toksL cs
 | .tup cs=>SV.toksL cs
 | .fn _ a b=>SV.toksL a++SV.toksL b
 |_=> []
def SV.toksL:t7->t8
 |[]=> []
 |v::r=>v.toks++SV.toksL r
end
mutual
def SV.ids:SV->t8
 | .ptr o _=> [o]
 | .ap o _ _ _=> [o]
 | .psl o _ _ _ _=> [o]
 | .agg cs=>SV.idsL cs
 | .tup cs=>SV.idsL cs
 | .fn _ a b=>SV.idsL a++SV.idsL b
 |_=> []
def SV.idsL:t7->t8
 |[]=> []
 |v::r=>v.ids++SV.idsL r
end
def aC.ids:aC->t8
 | .rc cs=>SV.idsL cs
 |_=> []
def aC.toks:aC->t8
 | .rc cs=>SV.toksL cs
 |_=> []
def idx(os:List aC):List (Nat×aC):=os.zipIdx.map fun p=>(p.2,p.1)
def ec(P:Program)(f:Nat):Bool:=
 match P.funcs[f]? with
 |some fn=>fn.body.isSome&& !(fn.name== "runtime.NumGoroutine")
 |none=>false
def xdu(P:Program)(f:Nat)(args:t7)(os:List aC)(R:SV->List (Nat×aC)->Prop):Prop:=
 ec P f=true/\∀(C:Ctx)(x:Sit)(w:World)(vs:LAb),C.w0=w->C.G0=x.G->
  (∀b,C.mine b->w.heap.size<=b\/∃i,i<os.length/\(x.bk i).1=b)->os.length<=100->
  cS C x (idx os) [] w->cr x args vs->
  Calls P f ⟨vs⟩ w fun e w'=>∃v x' r h,e= .returned v/\R r h/\Rep x' r v/\cS C x' h r.toks w'/\∀i,i<os.length->x'.bk i=x.bk i
def Fn(P:Program)(f:Nat)(args:t7)(r:SV):Prop:=xdu P f args [] fun z h=>z=r/\h=[]
def xlH(a b:SV):Prop:=∀(x:Sit)(v:Value),Rep x a v->Rep x b v
def ij(d:Nat)(m:t8)(o:Nat):Nat:=if o<m.length then m.getD o 0 else(d+1)*1000+o
def jy(d:Nat)(t:Nat):Nat:=(d+1)*1000+t
def inR(d:Nat)(o:Nat):Bool:=decide ((d+1)*1000<=o)&&decide (o<(d+2)*1000)
def leL(a_ bs:t7):Prop:=a_.length=bs.length/\∀i,i<a_.length->xlH (a_.getD i .undef) (bs.getD i .undef)
def fb(m:t8):List (Nat×aC)->List (Nat×aC)
 |[]=> []
 |p::r=>if p.1∈m then fb m r else p::fb m r
def nZ(d:Nat)(m:t8):List (Nat×aC)->List (Nat×aC)
 |[]=> []
 |p::r=>(ij d m p.1,p.2.ren (ij d m) (jy d))::nZ d m r
def St.after(s:St)(d:LAa)(m:t8)(r:SV)(os:List (Nat×aC)):St:=
 St.put {
  tm:=SV.purgeL ((d.getD 0+1)*1000) ((d.getD 0+2)*1000) s.tm
  ob:=nZ (d.getD 0) m os++fb m (bz ((d.getD 0+1)*1000) ((d.getD 0+2)*1000) s.ob)
  tk:=r.toks.map (jy (d.getD 0))++co ((d.getD 0+1)*1000) ((d.getD 0+2)*1000) s.tk}
  d (r.ren (ij (d.getD 0) m) (jy (d.getD 0)))
structure Eff where
 pre:Prop
 val:SV
 wr:List (Nat×aC):=[]
 new:Option aC:=none
 eat:Tok:= .no
 tok:Bool:=false
def gS(z:Nat)(h:f8)(i j n:Nat)(v:t7):f8:=
 if j=0/\n=z then h.set i v else h.set i (((h.getD i []).take j)++v++((h.getD i []).drop (j+n)))
def setCells(cs:t7)(off:Nat)(v:t7):t7:=
 match v with
 |[u]=>cs.set off u
 |v=>cs.take off++v++cs.drop (off+v.length)
def SV.one:SV->Bool
 | .undef| .agg _| .tup _=>false
 |_=>true
def jw(h:Nat):Nat->t7->f8
 |0,_=> []
 |m+1,v=>v.take h::jw h m (v.drop h)
def pF(s:St)(n:Nat)(v:t7):SV->Option Eff
 | .ptr o off=>match s.look o with
  |some (.rc cs)=>some {pre:=off+n<=cs.length/\v.length=n/\v.all SV.one=true,val:= .undef,wr:=[(o,.rc (setCells cs off v))]}
  |some (.arr h xs)=>some {pre:=off=0/\n=xs.length*h/\v.length=n/\v.all SV.isData=true,val:= .undef,wr:=[(o,.arr h (jw h xs.length (v.map SV.data)))]}
  |some (.bar l)=>match toB v with
   |some z=>some {pre:=off=0/\n=l.length/\z.length=n,val:= .undef,wr:=[(o,.bar z)]}
   |none=>none
  |_=>none
 | .ap o h i j=>match s.look o with
  |some (.arr sz' xs)=>some {pre:=h=sz'/\i<xs.length/\j+n<=h/\v.length=n/\(∀x∈xs,x.length=h)/\v.all SV.isData=true,val:= .undef,wr:=[(o,.arr sz' (gS h xs i j n (v.map SV.data)))]}
  |some (.bar l)=>match v with
   |[.u8 b]=>some {pre:=h=1/\j=0/\n=1/\i<l.length,val:= .undef,wr:=[(o,.bar (l.set i b))]}
   |_=>none
  |_=>none
 |_=>none
def Tok.ready(s:St):Tok->Bool
 | .no=>false
 | .clip=>true
 | .id t=>s.tk.contains t
def Tok.eat(t:Tok)(tk:t8):t8:=
 match t with
 | .id t=>co t (t+1) tk
 |_=>tk
def bytesOf(s:St):SV->Option (Prop×t6)
 | .byt l _=>some (True,l)
 | .str l=>some (True,l)
 | .psl o h off n _=>match s.look o with
  |some (.bar l)=>some (h=1/\off+n<=l.length,(l.drop off).take n)
  |_=>none
 |_=>none
def gU(s:St)(B:Nat):SV->Option (Prop×f8)
 | .lst h z _=>some (B=h,z)
 | .psl o h off n _=>match s.look o with
  |some (.arr sz'' z)=>some (B=h/\B=sz''/\off+n<=z.length/\(∀x∈z,x.length=B),((z.drop off).take n))
  |_=>none
 |_=>none
def eff(s:St)(d:LAa):SOp->Option Eff
 | .new o=>match d with
  |some d=>some {pre:=True,val:= .ptr (d+100) 0,new:=some o}
  |none=>none
 | .box x=>match d with
  |some d=>some {pre:=True,val:= .ptr (d+100) 0,new:=some (.rc (s.ev x).cells)}
  |none=>none
 | .mk z bytes n c=>match d,s.ev n,s.ev c with
  |some d,.int _ n,.int _ c=>some {pre:=0<=n/\n<=c/\bytes*c<=140737488355328/\c<=9223372036854775807,val:= .psl (d+100) z.length 0 n.toNat (some c.toNat),new:=some (.arr z.length (au c.toNat z))}
  |_,_,_=>none
 | .mkB n c=>match d,s.ev n,s.ev c with
  |some d,.int _ n,.int _ c=>some {pre:=0<=n/\n<=c/\c<=140737488355328,val:= .psl (d+100) 1 0 n.toNat (some c.toNat),new:=some (.bar (au c.toNat 0))}
  |_,_,_=>none
 | .store n a x=>match (s.ev x).isDef with
  |true=>pF s n (s.ev x).cells (s.ev a)
  |false=>none
 | .app z bytes x y=>match d with
  |some d=>match s.ev x with
   | .byt l t=>match bytesOf s (s.ev y)with
    |some (p,l')=>some {pre:=p/\z.length=1/\bytes=1/\t.ready s=true/\l.length+l'.length<=140737488355328,val:= .byt (l++l') (.id (d+100)),eat:=t,tok:=true}
    |none=>none
   | .lst h l t=>match gU s z.length (s.ev y)with
    |some (p,l')=>some {pre:=p/\z.length=h/\t.ready s=true/\(l.length+l'.length)*bytes<=140737488355328,val:= .lst z.length (l++l') (.id (d+100)),eat:=t,tok:=true}
    |none=>none
   |_=>none
  |none=>none
 | .cpy B x y=>match s.ev x with
  | .psl o h off n _=>match s.look o with
   |some (.bar l)=>match bytesOf s (s.ev y)with
    |some (p,l')=>some {pre:=p/\B=1/\h=1/\off+n<=l.length,val:= .int .i64 (min l'.length n:Nat),wr:=[(o,.bar (l.take off++l'.take n++l.drop (off+(l'.take n).length)))]}
    |none=>none
   |some (.arr sz'' xs)=>match gU s B (s.ev y)with
    |some (p,l')=>some {pre:=p/\B=h/\B=sz''/\off+n<=xs.length/\(∀x∈xs,x.length=B),val:= .int .i64 (min l'.length n:Nat),wr:=[(o,.arr B (xs.take off++l'.take n++xs.drop (off+(l'.take n).length)))]}
    |none=>none
   |_=>none
  |_=>none
 | .pick _ _ _=>none
 | .call _ _=>none
 | .appM _ _ _ _=>none
 | .appO _ _ _ _=>none
 | .clr z x=>match s.ev x with
  | .psl o h off n _=>match s.look o with
   |some (.arr sz'' xs)=>some {pre:=0<n/\z.length=h/\z.length=sz''/\off+n<=xs.length/\(∀x∈xs,x.length=z.length),val:= .tup [],wr:=[(o,.arr z.length (xs.take off++au n z++xs.drop (off+n)))]}
   |_=>none
  |_=>none
 | .isnil _ _=>none
 |so=>match val s so with
  |some (p,v)=>some {pre:=p,val:=v}
  |none=>none
def St.wr(s:St):List (Nat×aC)->St
 |[]=>s
 |p::r=>(s.setO p.1 p.2).wr r
def St.grew(s:St)(t:Tok)(d:Nat):St:=
 {tm:=SV.purgeL d (d+1) s.tm,ob:=bz d (d+1) s.ob,tk:=d::co d (d+1) (t.eat s.tk)}
def St.app(s:St)(d:LAa)(e:Eff):St:=
 match e.new,e.tok with
 |some o,_=>((s.purge (d.getD 0+100) (d.getD 0+100+1)).addO (d.getD 0+100) (o.purge (d.getD 0+100) (d.getD 0+100+1))).put d e.val
 |none,true=>(s.grew e.eat (d.getD 0+100)).put d e.val
 |none,false=>(s.wr e.wr).put d e.val
def M1(P:Program)(s:St)(g:Nat)(a_:t7)(e:Eff):Prop:=
 ∃(m:t8)(args:t7)(os:List aC)(r:SV)(h:List aC),xdu P g args os (fun B z=>B=r/\z=idx h)/\m.length=os.length/\h.length=os.length/\os.length<=100/\m.Nodup/\
  leL a_ (SV.renL (fun k=>m.getD k 0) id args)/\(∀i,i<os.length->s.look (m.getD i 0)=some ((os.getD i (.rc [])).ren (fun k=>m.getD k 0) id))/\
  r.toks=[]/\(∀k∈r.ids,k<os.length)/\(∀ob∈h,ob.toks=[]/\∀k∈ob.ids,k<os.length)/\
  e= {pre:=True,val:=r.ren (fun k=>m.getD k 0) id,wr:=m.zip (h.map (aC.ren (fun k=>m.getD k 0) id))}
def xf8(P:Program)(g:Nat)(a_:t7)(d:LAa)(k:St->Prop)(s:St):Prop:=
 (∃e,M1 P s g a_ e/\k (s.app d e))\/
 (∃(m:t8)(args:t7)(os:List aC)(R:SV->List (Nat×aC)->Prop),xdu P g args os R/\leL a_ (SV.renL (ij (d.getD 0) m) (jy (d.getD 0)) args)/\m.length=os.length/\os.length<=100/\m.Nodup/\
  (∀i,i<os.length->s.look (m.getD i 0)=some ((os.getD i (.rc [])).ren (ij (d.getD 0) m) (jy (d.getD 0))))/\(∀o∈m,inR (d.getD 0) o=false)/\
  ∀r h,R r h->(∀p∈h,p.1<1000/\(∀k∈p.2.ids,k<1000)/\(∀t∈p.2.toks,t<1000))/\(∀k∈r.ids,k<1000)/\(∀t∈r.toks,t<1000)/\k (s.after d m r h))
def YA:SV->LAa
 | .psl _ _ _ _ c=>c
 | .lst _ xs .clip=>some xs.length
 |_=>none
def Ym(d:Nat)(z:t7)(B h:f8)(E:Nat):Eff:=
 {pre:=True,val:= .psl (d+100) z.length 0 (B.length+h.length) (some E),new:=some (.arr z.length (B++h++au (E-(B.length+h.length)) z))}
def xjL(s:St)(d:LAa)(h:f8)(k:St->Prop):SV->Prop
 | .psl o z off n cap=>match s.look o with
  |
   some (.arr sz' xs)=>sz'=z/\(∀r∈xs,r.length=z)/\off+n+h.length<=xs.length/\
   k (s.app d {pre:=True,val:= .psl o z off (n+h.length) cap,wr:=[(o,.arr z (xs.take (off+n)++h++xs.drop (off+n+h.length)))]})
  |_=>False
 |v=>k (s.put d v)
def xkv(s:St)(d:LAa)(z:t7)(bytes:Nat)(x:SV)(new:Option (Prop×f8))(k:St->Prop):Prop:=
 match d,YA x,gU s z.length x,new with
 |some d0,some cap,some (p0,R0),some (p1,R1)=>p0/\p1/\(R0.length+R1.length)*bytes<=140737488355328/\
  (R0.length+R1.length<=cap->xjL s d R1 k x)/\
  (cap<R0.length+R1.length->∀h,R0.length+R1.length<=h->k (s.app d (Ym d0 z R0 R1 h)))
 |_,_,_,_=>False
def xku(s:St)(d:LAa)(z:t7)(bytes:Nat)(x B:SV)(k:St->Prop):Prop:=
 match d,YA x,gU s z.length x,B with
 |some d0,some cap,some (p0,R0),.int _ n=>p0/\0<=n/\n<=140737488355328/\(R0.length+n.toNat)*bytes<=140737488355328/\cap<R0.length+n.toNat/\
  ∀h,R0.length+n.toNat<=h->k (s.app d (Ym d0 z R0 (au n.toNat z) h))
 |_,_,_,_=>False
def sym(P:Program)(so:SOp)(d:LAa)(k:St->Prop)(s:St):Prop:=
 match so with
 | .pick c a b=>match s.ev c with
  | .bool t=>(t=true->k (s.put d (s.ev a)))/\(t=false->k (s.put d (s.ev b)))
  |_=>False
 | .call f a_=>match s.ev f with
  | .fn g a b=>xf8 P g (a++a_.map s.ev++b) d k s
  |_=>False
 | .isnil h x=>match s.ev x with
  | .byt l _=>∀b:Bool,(b=true->l=[])->k (s.put d (.bool (b !=h)))
  | .lst _ B _=>∀b:Bool,(b=true->B=[])->k (s.put d (.bool (b !=h)))
  | .psl _ _ _ _ _=>k (s.put d (.bool h))
  |_=>False
 | .appM z bytes x c=>xku s d z bytes (s.ev x) (s.ev c) k
 |
  .app z bytes x y=>if s.tk.contains 99 then xkv s d z bytes (s.ev x) (gU s z.length (s.ev y)) k else
  match eff s d (.app z bytes x y)with
  |some e=>e.pre/\k (s.app d e)
  |none=>False
 |so=>match eff s d so with
  |some e=>e.pre/\k (s.app d e)
  |none=>False
def xaq(P:Program)(i:SI)(k:St->Prop)(s:St):Prop:=
 match i.g with
 |none=>sym P i.op i.dst k s
 |some (g,b)=>match s.get g with
  | .bool t=>(t=b->sym P i.op i.dst k (s.put (some g) (.bool b)))/\(t= !b->k ((s.put (some g) (.bool !b)).put i.dst .undef))
  |_=>False
def Rg(P:Program):LAd->(St->Prop)->St->Prop
 |[],k,s=>k s
 |i::r,k,s=>xaq P i (Rg P r k) s
def Tok.ids:Tok->t8
 | .id t=> [t]
 |_=> []
def SOp.args:SOp->List Arg
 | .mov x| .box x| .load _ _ x| .nchk x| .un _ x| .toInt _ x| .toStr x| .s2b x| .b2s x| .faddr _ x| .fld _ _ _ x| .ext x _| .len _ x| .cap x| .isnil _ x| .isni _ x| .slid x| .clr _ x=> [x]
 | .pick c a b=> [c,a,b]
 | .new _| .lenC _=> []
 | .build _ B=>B.map fun p=>p.2.2
 | .lit _ h| .litB h| .newB h=>h
 | .store _ a b| .bin _ a b| .beq _ a b| .mk _ _ a b| .mkB a b| .iaddrL _ a b| .iaddrA _ _ a b| .idxA _ _ _ a b| .idxS a b| .app _ _ a b| .appM _ _ a b| .appO _ _ a b| .eqS _ _ a b| .ovl a b| .cpy _ a b| .mini a b| .maxi a b=> [a,b]
 | .mkfn _ a b=>a++b
 | .slcS x lo hi=>x::(lo.toList++hi.toList)
 | .slcL _ x lo hi z| .slcA _ _ x lo hi z=>x::(lo.toList++hi.toList++z.toList)
 | .call f a_=>f::a_
structure oS where
 r:List Nat
 w:List Nat
 t:List Nat
 n:List Nat
 m:List Nat
 l:List Nat
def SOp.blind(o:SOp):Bool:=match o with
 | .mov _=>true
 | .nchk _=>true
 | .faddr _ _=>true
 |_=>false
def SV.names(v:SV):t8:=v.ids++v.toks
def aC.names(o:aC):t8:=o.ids++o.toks
def MK:List (Nat×aC)->t8
 |[]=> []
 |p::r=>p.2.names++MK r
def Eff.names(e:Eff):t8:=e.val.names++MK e.wr++(match e.new with|some o=>o.names|none=> [])
def xcM(s:St)(so:SOp)(d:LAa)(e:Eff):oS:=
 ⟨SV.idsL (so.args.map s.ev),e.wr.map cB,e.eat.ids,(match e.new,e.tok with|none,false=> []|_,_=> [d.getD 0+100]),e.names,if so.blind=true then []else SV.idsL (so.args.map s.ev)⟩
def qe(a b:t8):Bool:=a.any b.contains
def oS.clash(a b:oS):Bool:=qe a.w b.w||qe a.w b.l||qe b.w a.l||qe a.t b.t||qe a.n (b.r++b.w++b.t++b.m++b.n)||qe b.n (a.r++a.w++a.t++a.m)
def pN:oS:=⟨[],[],[],[],[],[]⟩
def oS.before(a b:oS):Bool:= !qe b.n (a.r++a.w++a.t++a.m++a.n)
def xdd(b:t8)(h:List oS):Bool:=
 (bS h.length).all fun j=>(bS j).all fun i=>(h.getD i pN).before (h.getD j pN)&&((b.getD j 0).testBit i|| !(h.getD i pN).clash (h.getD j pN))
def oS.quiet(f:oS):Bool:=f.w.isEmpty&&f.t.isEmpty&&f.n.isEmpty
def Rn(P:Program)(i:SI)(s:St)(k:Eff->Prop):Prop:=
 match i.op with
 | .pick c a b=>match s.ev c with
  | .bool t=>(t=true->k {pre:=True,val:=s.ev a})/\(t=false->k {pre:=True,val:=s.ev b})
  |_=>False
 | .call f a_=>match s.ev f with
  | .fn g a b=>∃e,M1 P s g (a++a_.map s.ev++b) e/\k e
  |_=>False
 |so=>match eff s i.dst so with
  |some e=>e.pre/\k e
  |none=>False
def Yd(V:List oS->(St->Prop)->St->Prop)(h:List oS)(k:St->Prop)(op:SOp)(d:LAa)(s:St)(e:Eff):Prop:=V (xcM s op d e::h) k (s.app d e)
def vcD(P:Program)(b:t8):LAd->List oS->(St->Prop)->St->Prop
 |[],fs,k,s=>(fs.all oS.quiet||xdd b fs.reverse)=true/\k s
 |i::r,fs,k,s=>match i.g with
  |none=>Rn P i s (Yd (vcD P b r) fs k i.op i.dst s)
  |some (g,want)=>match s.get g with
   | .bool t=>(t=want->Rn P i s (Yd (vcD P b r) fs k i.op i.dst s))/\(t= !want->vcD P b r (pN::fs) k (s.put i.dst .undef))
   |_=>False
def St.forget(s:St):t8->St
 |[]=>s
 |d::r=>(s.purge d (d+1)).forget r
def xiy(s s':St):Prop:=∀(C:Ctx)(x:Sit)(a:Act)(w:World),aM C x s a w->∃x',aM C x' s' a w
def Rm(k:St->Prop)(Q:Exit->St->Prop):Exit->St->Prop
 | .normal,s=>k s
 |e,s=>Q e s
def xdj(id:Nat)(Q:Exit->St->Prop):Exit->St->Prop
 | .exit id',s=>if id'=id then Q .normal s else Q (.exit id') s
 |e,s=>Q e s
def St.know(s:St)(c:Arg)(b:Bool):St:=
 match c with
 | .t n=>s.put (some n) (.bool b)
 |_=>s
def vc(P:Program):fG->(Exit->St->Prop)->St->Prop
 | .skip,Q,s=>Q .normal s
 | .ops l,Q,s=>Rg P l (Q .normal) s
 | .drw b ds l,Q,s=>vcD P b l [] (Q .normal) (s.forget ds)
 | .seq a b,Q,s=>vc P a (Rm (vc P b Q) Q) s
 | .cond c a b,Q,s=>match s.ev c with
  | .bool t=>(t=true->vc P a Q (s.know c true))/\(t=false->vc P b Q (s.know c false))
  |_=>False
 | .block id b,Q,s=>vc P b (xdj id Q) s
 | .loop b,Q,s=>∃(X:Type)(S:X->St)(I:X->Prop)(μ:X->Nat),(∃x,I x/\xiy s (S x))/\
  ∀x,I x->vc P b (Rm (fun s'=>∃x',I x'/\xiy s' (S x')/\μ x'<μ x) Q) (S x)
 | .exit id,Q,s=>Q (.exit id) s
 | .ret,Q,s=>Q .ret s
 | .bad,_,_=>False
end Go.Sy
namespace Go.Sy
variable [bc]
theorem cD.mono{G J:GM}(F:∀b o v,G b o=some v->J b o=some v){s:SV}{v:Value}(h:cD G s v):cD J s v:=by
 induction h with
 |bool b=>exact .bool b
 |int k n=>exact .int k n
 |u8 b=>exact .u8 b
 |str l=>exact .str l
 |nilp=>exact .nilp
 |nili=>exact .nili
 |bytN t=>exact .bytN t
 |bytE t a=>exact .bytE t a
 |byt l t b off cap n hn E h=>exact .byt l t b off cap n hn E fun i hi=>F _ _ _ (h i hi)
 |lstN B t=>exact .lstN B t
 |lstE B t a=>exact .lstE B t a
 |lst B O t b off cap n val hn E L I _ H=>exact .lst B O t b off cap n val hn E L (fun i j hi z=>F _ _ _ (I i j hi z)) fun i j hi z=>H i j hi z
 |pp cs b off val I _ H=>exact .pp cs b off val (fun j z=>F _ _ _ (I j z)) fun j z=>H j z
theorem Lay.mono{G z:GM}(h:Lay G)(B:∀b o v,G b o=some v->z b o=some v):Lay z:=fun g cs F j I=>by obtain⟨v,H,E⟩:=h g cs F j I;exact⟨v,B _ _ _ H,E.mono B⟩
theorem dm(lo hi:Nat)(cs:t7):SV.purgeL lo hi cs=cs.map (SV.purge lo hi):=by
 induction cs with
 |nil=>simp[SV.purgeL]
 |cons c r h=>simp[SV.purgeL,h]
theorem fa(m mt:Nat->Nat)(cs:t7):SV.renL m mt cs=cs.map (SV.ren m mt):=by
 induction cs with
 |nil=>simp[SV.renL]
 |cons c r h=>simp[SV.renL,h]
theorem aV(f:SV->SV)(h:f .undef= .undef)(cs:t7)(i:Nat):(cs.map f).getD i .undef=f (cs.getD i .undef):=by simp only[aa,aR];cases cs[i]? <;>simp[h]
@[simp] theorem purge_undef (lo hi:Nat):SV.purge lo hi .undef= .undef:=by simp[SV.purge]
@[simp] theorem ren_undef (m mt:Nat->Nat):SV.ren m mt .undef= .undef:=by simp[SV.ren]
theorem cD.tok{G:GM}{s:SV}{v:Value}(h:cD G s v)(s':SV)
 (H:(∃l t z,s= .byt l t/\s'= .byt l z)\/(∃E F t z,s= .lst E F t/\s'= .lst E F z)):cD G s' v:=by
 rcases H with⟨l,t,z,rfl,rfl⟩|⟨E,F,t,z,rfl,rfl⟩
 ·cases h with
  |bytN=>exact .bytN _
  |bytE _ a=>exact .bytE _ a
  |byt _ _ b off cap n hn B h=>exact .byt _ _ b off cap n hn B h
 ·cases h with
  |lstN=>exact .lstN _ _
  |lstE _ _ a=>exact .lstE _ _ a
  |lst _ _ _ b off cap n val hn B I J h=>exact .lst _ _ _ b off cap n val hn B I J h
theorem df.mono{x x':Sit}{lo hi z:Nat}{t:Tok}{v:Value}(E:∀o,¬(lo<=o/\o<hi)->x'.τ o=x.τ o)(h:df x z t v):df x' z (t.purge lo hi) v:=by
 cases t with
 |no=>trivial
 |clip=>exact h
 |id t=>
  simp only[Tok.purge];split
  ·trivial
  ·rename_i hn
   obtain⟨a,n,cap,H,F⟩:=h;refine⟨a,n,cap,H,F.imp id ?_⟩;rintro⟨b,off,B,I⟩;exact⟨b,off,B,by rw[E _ hn];exact I⟩
theorem Rep.mono{x x':Sit}{lo hi:Nat}(hG:∀b o v,x.G b o=some v->x'.G b o=some v)(Q:∀o,¬(lo<=o/\o<hi)->x'.bk o=x.bk o)
 (Z:∀o,¬(lo<=o/\o<hi)->x'.τ o=x.τ o) {s:SV} {v:Value} (h:Rep x s v):Rep x' (s.purge lo hi) v:=by
 induction h with
 |undef v=>simp only[purge_undef];exact .undef v
 |dat s v h ht=>
  have z:=h.mono hG;cases s with
  |byt l t=>simp only[SV.purge];exact .dat _ _ (z.tok _ (.inl ⟨l,t,_,rfl,rfl⟩)) (df.mono Z ht)
  |lst B xs t=>simp only[SV.purge];exact .dat _ _ (z.tok _ (.inr ⟨B,xs,t,_,rfl,rfl⟩)) (df.mono Z ht)
  |undef=>simp only[SV.purge];exact .undef v
  |bool b=>simp only[SV.purge];exact .dat _ _ z trivial
  |int k n=>simp only[SV.purge];exact .dat _ _ z trivial
  |u8 b=>simp only[SV.purge];exact .dat _ _ z trivial
  |str l=>simp only[SV.purge];exact .dat _ _ z trivial
  |nilp=>simp only[SV.purge];exact .dat _ _ z trivial
  |nili=>simp only[SV.purge];exact .dat _ _ z trivial
  |pp cs=>simp only[SV.purge];exact .dat _ _ z trivial
  |ptr o off=>cases h
  |ap o B i j=>cases h
  |psl o B off n cap=>cases h
  |agg cs=>cases h
  |tup cs=>cases h
  |fn f a b=>cases h
 |ptr o off=>
  simp only[SV.purge];split
  ·exact .undef _
  ·rename_i hn;rw[<-Q o hn];exact .ptr o off
 |ap o B i j=>
  simp only[SV.purge];split
  ·exact .undef _
  ·rename_i hn;rw[<-Q o hn];exact .ap o B i j
 |psl o B off n cap F E h J L H=>
  simp only[SV.purge];split
  ·exact .undef _
  ·rename_i hn;rw[<-Q o hn]at H ⊢;exact .psl o B off n cap F E h J L H
 |agg cs vs S _ O=>simp only[SV.purge,dm];exact .agg _ _ (by simpa using S) fun i hi=>by rw[aV _ (by simp)];exact O i (by simpa using hi)
 |tup cs vs S _ O=>simp only[SV.purge,dm];exact .tup _ _ (by simpa using S) fun i hi=>by rw[aV _ (by simp)];exact O i (by simpa using hi)
 |fn f c1 c2 v1 v2 I _ W _ U T=>
  simp only[SV.purge,dm]
  exact .fn _ _ _ _ _ (by simpa using I) (fun i hi=>by rw[aV _ (by simp)];exact U i (by simpa using hi))
   (by simpa using W) fun i hi=>by rw[aV _ (by simp)];exact T i (by simpa using hi)
theorem BI(s:SV):s.purge 0 0=s:=by
 have h:∀t:Tok,t.purge 0 0=t:=fun t=>by cases t<;>simp[Tok.purge]
 refine SV.rec (motive_1:=fun s=>s.purge 0 0=s) (motive_2:=fun _=>True) (motive_3:=fun l=>SV.purgeL 0 0 l=l) ?_ ?_ ?_ ?_ ?_ ?_ ?_ ?_ ?_ ?_ ?_ ?_ ?_ ?_ ?_ ?_ ?_ ?_ ?_ ?_ s<;>
  intros<;>simp_all [SV.purge,SV.purgeL]
theorem Fu(l:t7):SV.purgeL 0 0 l=l:=by
 rw[dm];induction l with
 |nil=>rfl
 |cons c r h=>simp[BI,h]
theorem Ft(l:List (Nat×aC)):bz 0 0 l=l:=by
 induction l with
 |nil=>rfl
 |cons q r h=>simp only[bz];rw[if_neg (by omega),h];obtain⟨n,o⟩:=q;cases o<;>simp[aC.purge,Fu]
theorem Rep.grow{x x':Sit}(B:∀b o v,x.G b o=some v->x'.G b o=some v)(F:x'.bk=x.bk)(z:x'.τ=x.τ){s:SV}{v:Value}(h:Rep x s v):Rep x' s v:=by have E:=h.mono (x':=x') (lo:=0) (hi:=0) B (fun o _=>by rw[F]) (fun o _=>by rw[z]);rwa[BI]at E
theorem cr.mono{x x':Sit}{lo hi:Nat}(B:∀b o v,x.G b o=some v->x'.G b o=some v)(E:∀o,¬(lo<=o/\o<hi)->x'.bk o=x.bk o)
 (z:∀o,¬(lo<=o/\o<hi)->x'.τ o=x.τ o) {cs:t7} {vs:LAb} (h:cr x cs vs):cr x' (SV.purgeL lo hi cs) vs:=by
 refine⟨by rw[dm];simpa using h.1,fun i hi=> ?_⟩;rw[dm,aV _ (by simp)];exact(h.2 i (by rw[dm]at hi;simpa using hi)).mono B E z
theorem cr.grow{x x':Sit}(B:∀b o v,x.G b o=some v->x'.G b o=some v)(E:x'.bk=x.bk)(z:x'.τ=x.τ){cs:t7}{vs:LAb}(h:cr x cs vs):cr x' cs vs:=
 ⟨h.1,fun i hi=>(h.2 i hi).grow B E z⟩
theorem Rep.data{x:Sit}{s:SV}{v:Value}(h:Rep x s v)(z:s.isData=true):cD x.G s v:=by
 cases h with
 |dat _ _ h _=>exact h
 |_=>simp[SV.isData]at z
theorem cD.rep{x:Sit}{s:SV}{v:Value}(h:cD x.G s v):Rep x s.data v:=by
 cases h with
 |byt l t b off cap n hn z h=>exact .dat _ _ (.byt l _ b off cap n hn z h) trivial
 |bytN t=>exact .dat _ _ (.bytN _) trivial
 |bytE t a=>exact .dat _ _ (.bytE _ a) trivial
 |lstN E t=>exact .dat _ _ (.lstN _ _) trivial
 |lstE E t a=>exact .dat _ _ (.lstE _ _ a) trivial
 |lst E H t b off cap n val hn z F B h=>exact .dat _ _ (.lst _ _ _ b off cap n val hn z F B h) trivial
 |bool b=>exact .dat _ _ (.bool b) trivial
 |int k n=>exact .dat _ _ (.int k n) trivial
 |u8 b=>exact .dat _ _ (.u8 b) trivial
 |str l=>exact .dat _ _ (.str l) trivial
 |nilp=>exact .dat _ _ .nilp trivial
 |nili=>exact .dat _ _ .nili trivial
 |pp cs b off val B h=>exact .dat _ _ (.pp cs b off val B h) trivial
theorem cD.toData{G:GM}{s:SV}{v:Value}(h:cD G s v):cD G s.data v:=by
 cases h with
 |byt l t b off cap n hn z h=>exact .byt l _ b off cap n hn z h
 |bytN t=>exact .bytN _
 |bytE t a=>exact .bytE _ a
 |lstN E t=>exact .lstN _ _
 |lstE E t a=>exact .lstE _ _ a
 |lst E H t b off cap n val hn z F B h=>exact .lst _ _ _ b off cap n val hn z F B h
 |bool b=>exact .bool b
 |int k n=>exact .int k n
 |u8 b=>exact .u8 b
 |str l=>exact .str l
 |nilp=>exact .nilp
 |nili=>exact .nili
 |pp cs b off val B h=>exact .pp cs b off val B h
theorem cm{lo hi:Nat}{ob:List (Nat×aC)}{p:Nat×aC}(h:p∈bz lo hi ob):
 ¬(lo<=p.1/\p.1<hi)/\∃o,(p.1,o)∈ob/\p.2=o.purge lo hi:=by
 induction ob with
 |nil=>simp[bz]at h
 |cons q r F=>
  simp only[bz]at h;split at h
  ·obtain⟨z,o,E,B⟩:=F h;exact⟨z,o,aq _ E,B⟩
  ·rename_i H
   rcases an.1 h with rfl|h
   ·exact⟨H,q.2,ax ..,rfl⟩
   ·obtain⟨z,o,E,B⟩:=F h;exact⟨z,o,aq _ E,B⟩
theorem eI{lo hi:Nat}(ob:List (Nat×aC)):(bz lo hi ob).map cB=(ob.map cB).filter fun o=>decide (¬(lo<=o/\o<hi)):=by
 induction ob with
 |nil=>simp[bz]
 |cons q r z=>
  simp only[bz,aO,kE];split<;>rename_i h
  ·rw[z,if_neg (by simp;omega)]
  ·rw[if_pos (by simp;omega),aO,z]
theorem bE{lo hi t:Nat}{tk:t8}:t∈co lo hi tk↔t∈tk/\¬(lo<=t/\t<hi):=by
 induction tk with
 |nil=>simp[co]
 |cons u r h=>
  simp only[co];split<;>rename_i hu
  ·rw[h,an];constructor
   ·rintro⟨a,b⟩;exact⟨.inr a,b⟩
   ·rintro⟨a|a,b⟩
    ·subst a;exact absurd hu b
    ·exact⟨a,b⟩
  ·rw[an,h,an];constructor
   ·rintro(rfl|⟨a,b⟩)
    ·exact⟨.inl rfl,hu⟩
    ·exact⟨.inr a,b⟩
   ·rintro⟨a|a,b⟩
    ·exact .inl a
    ·exact .inr ⟨a,b⟩
end Go.Sy
namespace Go.Sy
variable [bc]
theorem wj{w:World}{b:Nat}{o:Obj}(h:w.heap[b]? =some o):b<w.heap.size:=by
 rcases bH b w.heap.size with z|z
 ·exact z
 ·simp[Array.getElem?_eq_none z]at h
theorem db{w:World}{o:Obj}{b:Nat}(h:b<w.heap.size):(w.alloc o).heap[b]? =w.heap[b]? :=by show(w.heap.push o)[b]? =_;rw[Array.getElem?_push,if_neg (by omega)]
theorem cL{w:World}{o:Obj}:(w.alloc o).heap[w.heap.size]? =some o:=by show(w.heap.push o)[w.heap.size]? =_;rw[Array.getElem?_push,if_pos rfl]
theorem dS.lt{w:World}{b:Nat}{c:LAc}{e:TypeId}{fl fh:Nat}(h:dS w b c e fl fh):b<w.heap.size:=wj h.1
theorem dS.of_heap{w w':World}{b:Nat}{c:LAc}{e:TypeId}{fl fh:Nat}(h:dS w b c e fl fh)(z:w'.heap[b]? =w.heap[b]?):dS w' b c e fl fh:=⟨z.trans h.1,h.2⟩
theorem de{w w':World}{b o:Nat}(h:w'.heap[b]? =w.heap[b]?):w'.cell? ⟨b,o,none⟩=w.cell? ⟨b,o,none⟩:=by simp only[World.cell?,h]
theorem dS.cell{w:World}{b:Nat}{c:LAc}{e:TypeId}{fl fh:Nat}(h:dS w b c e fl fh)(o:Nat):w.cell? ⟨b,o,none⟩=c[o]? :=by simp[World.cell?,h.1]
theorem dS.free{w:World}{b:Nat}{c:LAc}{e:TypeId}{fl fh:Nat}(h:dS w b c e fl fh){o:Nat}(z:o<c.size):w.frozen? ⟨b,o,none⟩=false:=by simp only[World.frozen?,h.1];have:=h.2 o z;simpa using this
theorem cS.ltG{C:Ctx}{x:Sit}{ob:List (Nat×aC)}{tk:t8}{w:World}(h:cS C x ob tk w){b o:Nat}{v:Value}(z:x.G b o=some v):b<w.heap.size:=by have:=h.per b o v z;exact World.block_lt_of_cell? (w:=w) (a:=⟨b,o,none⟩) this
theorem dA.of_heap{x x':Sit}{w w':World}{o:Nat}{obj:aC}{lo hi:Nat}(h:dA x w o obj)(S:w'.heap[(x.bk o).1]? =w.heap[(x.bk o).1]?)
 (F:∀b o v,x.G b o=some v->x'.G b o=some v) (I:∀o,¬(lo<=o/\o<hi)->x'.bk o=x.bk o) (O:∀o,¬(lo<=o/\o<hi)->x'.τ o=x.τ o)
 (J:¬(lo<=o/\o<hi)):dA x' w' o (obj.purge lo hi):=by
 obtain⟨c,e,fl,fh,Q,⟨L,E,H⟩,z⟩:=h;refine⟨c,e,fl,fh,by rw[I o J];exact Q.of_heap S,⟨?_,by rw[I o J];exact E,by cases obj<;>exact H⟩, ?_⟩
 ·cases obj<;>simpa[aC.purge,aC.size,dm]using L
 ·intro k B
  cases obj with
  |rc cs=>simp only[aC.purge,bW,dm];rw[aV _ (by simp)];exact(z k (by simpa[aC.purge,aC.size,dm]using B)).mono F I O
  |arr T U=>exact(z k B).mono F
  |bar l=>exact(z k B).mono F
theorem cS.congr{C:Ctx}{x:Sit}{ob:List (Nat×aC)}{tk:t8}{w w':World}(h:cS C x ob tk w)(B:w'.heap=w.heap)(I:w'.os=w.os)(E:w'.tape=w.tape)
 (z:w'.output=w.output):cS C x ob tk w':=by
 have H:∀a,w'.cell? a=w.cell? a:=fun a=>by simp only[World.cell?,B]
 refine⟨fun b o v L=>by rw[H];exact h.per b o v L,h.g0,h.gm,h.new, ?_,h.nd,h.inj, ?_,h.tko,h.tkd,I.trans h.os,E.trans h.tape,z.trans h.output,by rw[B];exact h.size,fun b O=>by rw[B];exact h.ext b O,h.pin,h.lay⟩
 ·intro p J
  obtain⟨⟨c,e,fl,fh,F,r⟩,q⟩:=h.obs p J;exact⟨⟨c,e,fl,fh,F.of_heap (by rw[B]),r⟩,q⟩
 ·intro t E
  exact(h.tks t E).imp id fun⟨⟨c,e,fl,fh,F,r⟩,q⟩=>⟨⟨c,e,fl,fh,F.of_heap (by rw[B]),r⟩,q⟩
theorem cS.drew{C:Ctx}{x:Sit}{ob:List (Nat×aC)}{tk:t8}{w:World}(h:cS C x ob tk w):cS C x ob tk w.drew:=h.congr rfl rfl rfl rfl
theorem cS.drawn{C:Ctx}{x:Sit}{ob:List (Nat×aC)}{tk:t8}{w:World}(h:cS C x ob tk w)(n:Nat):cS C x ob tk {w with drawn:=n}:=h.congr rfl rfl rfl rfl
def Sit.newO(x:Sit)(d b:Nat)(k:Nat:=0):Sit:= {x with bk:=fun o=>if o=d then(b,k)else x.bk o}
theorem Sit.newO_ne(x:Sit)(d b:Nat){k:Nat}(o:Nat)(h:¬(d<=o/\o<d+1)):(x.newO d b k).bk o=x.bk o:=if_neg (by omega)
theorem cS.allocO{C:Ctx}{x:Sit}{ob:List (Nat×aC)}{tk:t8}{w:World}(h:cS C x ob tk w)(d:Nat)(a0:100<=d){c:LAc}{e:TypeId}{fl fh:Nat}(obj:aC)
 (hf:∀i,i<c.size->¬(fl<=i/\i<fh)) (hs:obj.size<=c.size) (hr:∀k,k<obj.size->bW x obj k (c.getD k undef)) {K:Nat} (hK:K<=c.size) (a2:obj.arrB=true->¬(fl<=c.size/\c.size<fh)):
 cS C (x.newO d w.heap.size K) ((d,obj.purge d (d+1))::bz d (d+1) ob) (co d (d+1) tk) (w.alloc (.cells c e (fl,fh))):=by
 have hβ:=Sit.newO_ne x d w.heap.size (k:=K)
 have S:∀off,x.G w.heap.size off=none:=by
  intro off;cases hg:x.G w.heap.size off with
  |none=>rfl
  |some v=>exact absurd (h.ltG hg) (by omega)
 have E:∀p∈bz d (d+1) ob,p.1≠d/\(x.newO d w.heap.size K).bk p.1=x.bk p.1/\(x.bk p.1).1<w.heap.size:=by intro p B;obtain⟨h1,o,J,_⟩:=cm B;obtain⟨⟨c,e,fl,fh,L,_⟩,_⟩:=h.obs _ J;exact⟨by omega,hβ _ h1,L.lt⟩
 have U:(x.newO d w.heap.size K).bk d=(w.heap.size,K):=if_pos rfl;have hd:((x.newO d w.heap.size K).bk d).1=w.heap.size:=by rw[U]
 refine⟨?_,h.g0,h.gm,h.new, ?_, ?_, ?_, ?_, ?_, ?_,h.os,h.tape,h.output, ?_, ?_,fun i hi=>by rw[hβ i (by omega)];exact h.pin i hi,h.lay⟩
 ·intro b o v O
  rw[de (db (h.ltG O))];exact h.per b o v O
 ·intro p B
  rcases an.1 B with rfl|B
  ·refine⟨⟨c,e,fl,fh,⟨by rw[hd];exact cL,hf⟩,⟨?_,by rw[U];exact hK,by cases obj<;>exact a2⟩, ?_⟩, ?_, ?_⟩
   ·cases obj<;>simpa[aC.purge,aC.size,dm]using hs
   ·intro k hk
    cases obj with
    |rc cs=>simp only[aC.purge,bW,dm];rw[aV _ (by simp)];exact Rep.mono (x:=x) (x':=x.newO d w.heap.size K) (lo:=d) (hi:=d+1) (fun _ _ _ O=>O) hβ (fun _ _=>rfl) (hr k (by simpa[aC.purge,aC.size,dm]using hk))
    |arr sz xs=>exact hr k hk
    |bar l=>exact hr k hk
   ·rw[hd];exact h.new _ h.size
   ·intro off;rw[hd];exact S off
  ·obtain⟨h1,o,J,h3⟩:=cm B
   obtain⟨T,hm,hg⟩:=h.obs _ J;obtain⟨a3,z,I⟩:=E p B;refine⟨?_,by rw[z];exact hm,fun off=>by rw[z];exact hg off⟩;rw[h3];exact T.of_heap (db I) (fun _ _ _ O=>O) hβ (fun _ _=>rfl) h1
 ·rw[aO,ed,eI]
  refine⟨?_,h.nd.filter _⟩;simp
 ·intro p B q Q H
  rcases an.1 B with rfl|B<;>rcases an.1 Q with rfl|Q
  ·rfl
  ·obtain⟨_,z,I⟩:=E q Q
   rw[hd,z]at H;omega
  ·obtain⟨_,z,I⟩:=E p B
   rw[hd,z]at H;omega
  ·obtain⟨_,z,_⟩:=E q Q
   obtain⟨_,Z,_⟩:=E p B;obtain⟨_,o,J,_⟩:=cm B;obtain⟨_,o',a1,_⟩:=cm Q;rw[z,Z]at H;exact h.inj (_,o) J (_,o') a1 H
 ·intro t F
  obtain⟨F,_⟩:=bE.1 F;exact(h.tks t F).imp id fun⟨⟨c,e,fl,fh,L,r⟩,q⟩=>⟨⟨c,e,fl,fh,L.of_heap (db L.lt),r⟩,q⟩
 ·intro t F p B
  obtain⟨F,_⟩:=bE.1 F;rcases an.1 B with rfl|B
  ·rcases h.tks t F with W|⟨⟨c,e,fl,fh,L,r⟩,q⟩
   ·exact .inr W
   ·refine .inl ?_
    rw[hd];have:=L.lt;show(x.τ t).1≠_;omega
  ·obtain⟨_,o,J,_⟩:=cm B
   rw[(E p B).2.1];exact h.tko t F (_,o) J
 ·intro t F u hu
  exact h.tkd t (bE.1 F).1 u (bE.1 hu).1
 ·have:=h.size;rw[World.size_alloc];omega
 ·intro b hb
  rw[db,h.ext b hb];rcases bH b w.heap.size with W|W
  ·exact W
  ·exact absurd (h.new b (pC h.size W)) hb
def Sit.newD(x:Sit)(b:Nat)(c:LAc)(n:Nat):Sit:= {x with G:=fun h o=>if h=b/\o<n then c[o]? else x.G h o}
theorem cS.newD_le{C:Ctx}{x:Sit}{ob:List (Nat×aC)}{tk:t8}{w:World}(h:cS C x ob tk w)(c:LAc)(n:Nat):
 ∀b o v,x.G b o=some v->(x.newD w.heap.size c n).G b o=some v:=by
 intro b o v z;have:=h.ltG z;simp only[Sit.newD];rw[if_neg (by omega)];exact z
theorem cS.allocD{C:Ctx}{x:Sit}{ob:List (Nat×aC)}{tk:t8}{w:World}(h:cS C x ob tk w){c:LAc}{e:TypeId}{fl fh:Nat}(n:Nat):
 cS C (x.newD w.heap.size c n) ob tk (w.alloc (.cells c e (fl,fh))):=by
 have F:=h.newD_le c n
 have z:∀b,b≠w.heap.size->∀o,(x.newD w.heap.size c n).G b o=x.G b o:=by intro b E o;simp only[Sit.newD];rw[if_neg (by rintro⟨L,_⟩;exact E L)]
 refine⟨?_,fun b o v B=>F b o v (h.g0 b o v B), ?_,h.new, ?_,h.nd,h.inj, ?_,h.tko,h.tkd,h.os,h.tape,h.output, ?_, ?_,h.pin,h.lay⟩
 ·intro b o v B
  by_cases E:b=w.heap.size
  ·subst E
   simp only[Sit.newD]at B;split at B
   ·simp only[World.cell?,cL];simpa using B
   ·exact absurd (h.ltG B) (by omega)
  ·rw[z b E]at B
   rw[de (db (h.ltG B))];exact h.per b o v B
 ·intro b o v B
  by_cases E:b=w.heap.size
  ·right;rw[E];exact h.new _ h.size
  ·rw[z b E]at B;exact h.gm b o v B
 ·intro p Z
  obtain⟨L,hm,hg⟩:=h.obs p Z;have S:(x.bk p.1).1<w.heap.size:=by obtain⟨c,e,fl,fh,I,_⟩:=L;exact I.lt
  refine⟨?_,hm,fun off=>by rw[show(x.newD w.heap.size c n).bk p.1=x.bk p.1 from rfl,z _ (by omega)];exact hg off⟩;obtain⟨T,O,J,H,I,U,hr⟩:=L;refine⟨T,O,J,H,I.of_heap (db S),U,fun k W=> ?_⟩;have:=hr k W;generalize p.2=obj at*;cases obj with
  |rc cs=>exact Rep.grow F rfl rfl this
  |arr sz xs=>exact cD.mono F this
  |bar l=>exact cD.mono F this
 ·intro t ht
  refine(h.tks t ht).imp id ?_;rintro⟨⟨T,O,J,H,I,r⟩,q,g⟩;refine⟨⟨T,O,J,H,I.of_heap (db I.lt),r⟩,q,fun o L h2=> ?_⟩;rw[show((x.newD w.heap.size c n).τ t).1=(x.τ t).1 from rfl,z _ (by have:=I.lt;omega)];exact g o L h2
 ·have:=h.size;rw[World.size_alloc];omega
 ·intro b E
  rw[db,h.ext b E];rcases bH b w.heap.size with Q|Q
  ·exact Q
  ·exact absurd (h.new b (pC h.size Q)) E
def Sit.newT(x:Sit)(d b lo hi:Nat):Sit:= {x with τ:=fun t=>if t=d then(b,lo,hi)else x.τ t}
theorem Sit.newT_ne(x:Sit)(d b lo hi:Nat)(o:Nat)(h:¬(d<=o/\o<d+1)):(x.newT d b lo hi).τ o=x.τ o:=if_neg (by omega)
theorem Sit.newT_eq(x:Sit)(d b lo hi:Nat):(x.newT d b lo hi).τ d=(b,lo,hi):=if_pos rfl
theorem cS.addT{C:Ctx}{x:Sit}{ob:List (Nat×aC)}{tk:t8}{w:World}(h:cS C x ob tk w)(d b lo hi:Nat)
 (W:lo=hi\/((∃c e fl fh,dS w b c e fl fh/\hi<=c.size)/\C.mine b/\∀o,lo<=o->o<hi->x.G b o=none))
 (F:lo=hi\/∀p∈ob,p.1≠d->b≠(x.bk p.1).1) (z:lo=hi\/∀t∈tk,t≠d->kV (b,lo,hi) (x.τ t)\/(x.τ t).2.1=(x.τ t).2.2):
 cS C (x.newT d b lo hi) (bz d (d+1) ob) (d::co d (d+1) tk) w:=by
 have I:=Sit.newT_ne x d b lo hi;have hd:=Sit.newT_eq x d b lo hi;refine⟨h.per,h.g0,h.gm,h.new, ?_, ?_, ?_, ?_, ?_, ?_,h.os,h.tape,h.output,h.size,h.ext,h.pin,h.lay⟩
 ·intro p Q
  obtain⟨Z,o,J,h3⟩:=cm Q;obtain⟨O,hm,hg⟩:=h.obs _ J;exact⟨by rw[h3];exact O.of_heap rfl (fun _ _ _ W=>W) (fun _ _=>rfl) I Z,hm,hg⟩
 ·rw[eI];exact h.nd.filter _
 ·intro p Q q hq T
  obtain⟨_,o,J,_⟩:=cm Q;obtain⟨_,o',U,_⟩:=cm hq;exact h.inj (_,o) J (_,o') U T
 ·intro t B
  rcases an.1 B with rfl|B
  ·unfold gY;rw[hd];exact W
  ·obtain⟨B,E⟩:=bE.1 B
   unfold gY;rw[I _ E];exact h.tks t B
 ·intro t B p Q
  obtain⟨Z,o,J,_⟩:=cm Q;rcases an.1 B with rfl|B
  ·rw[hd]
   rcases F with F|F
   ·exact .inr F
   ·exact .inl (F (_,o) J (by show p.1≠t;omega))
  ·obtain⟨B,E⟩:=bE.1 B
   rw[I _ E];exact h.tko t B (_,o) J
 ·intro t B u hu L
  rcases an.1 B with rfl|B<;>rcases an.1 hu with rfl|hu
  ·exact absurd rfl L
  ·obtain⟨hu,E⟩:=bE.1 hu
   rw[hd,I _ E];rcases z with z|z
   ·exact .inr (.inl z)
   ·rcases z u hu (by omega)with H|H
    ·exact .inl H
    ·exact .inr (.inr H)
  ·obtain⟨B,E⟩:=bE.1 B
   rw[hd,I _ E];rcases z with z|z
   ·exact .inr (.inr z)
   ·rcases z t B (by omega)with H|H
    ·refine .inl ?_
     unfold kV at*;exact fun e=>H e.symm
    ·exact .inr (.inl H)
  ·obtain⟨B,E⟩:=bE.1 B
   obtain⟨hu,S⟩:=bE.1 hu;rw[I _ E,I _ S];exact h.tkd t B u hu L
end Go.Sy
namespace Go.Sy
variable [bc]
def bM(w:World)(b off:Nat):LAb->World
 |[]=>w
 |v::r=>bM (w.setCell ⟨b,off,none⟩ v) b (off+1) r
theorem rz(w:World)(a:Addr)(v:Value):(w.setCell a v).os=w.os/\(w.setCell a v).tape=w.tape/\(w.setCell a v).output=w.output/\(w.setCell a v).heap.size=w.heap.size:=
 ⟨rfl,rfl,rfl,by simp⟩
theorem cT(b:Nat)(vs:LAb):∀(w:World)(off:Nat),(bM w b off vs).os=w.os/\(bM w b off vs).tape=w.tape/\(bM w b off vs).output=w.output/\
 (bM w b off vs).heap.size=w.heap.size/\(∀h,h≠b->(bM w b off vs).heap[h]? =w.heap[h]?):=by
 induction vs with
 |nil=>intro w off;exact⟨rfl,rfl,rfl,rfl,fun _ _=>rfl⟩
 |cons v r J=>intro w off;obtain⟨I,Q,S,O,B⟩:=J (w.setCell ⟨b,off,none⟩ v) (off+1);obtain⟨E,F,H,L⟩:=rz w ⟨b,off,none⟩ v;refine⟨I.trans E,Q.trans F,S.trans H,O.trans L,fun h z=> ?_⟩;rw[bM,B h z];exact Go.RowKit.Below.heap_setCell _ _ _ _ z
theorem oE(c:LAc)(i k:Nat)(v:Value)(h:i<c.size):(c.setIfInBounds i v).getD k undef=if k=i then v else c.getD k undef:=by
 simp only[aW,Array.getElem?_setIfInBounds]
 by_cases z:i=k
 ·subst z;simp[h]
 ·rw[if_neg z,if_neg (fun e=>z e.symm)]
theorem cK{b:Nat}{e:TypeId}{fl fh:Nat}(vs:LAb):∀(w:World)(off:Nat)(c:LAc),dS w b c e fl fh->off+vs.length<=c.size->
 ∃z,dS (bM w b off vs) b z e fl fh/\z.size=c.size/\∀k,z.getD k undef=if off<=k/\k<off+vs.length then vs.getD (k-off) undef else c.getD k undef:=by
 induction vs with
 |nil=>intro w off c h _;exact⟨c,h,rfl,fun k=>by rw[if_neg (by simp only[bg];omega)]⟩
 |cons v r J=>
  intro w off c h H;simp only[av]at H
  have B:dS (w.setCell ⟨b,off,none⟩ v) b (c.setIfInBounds off v) e fl fh:=by refine⟨?_,by simpa using h.2⟩;simp only[World.setCell,Array.getElem?_modify];rw[if_pos trivial,h.1];simp
  obtain⟨z,L,E,I⟩:=J _ (off+1) _ B (by simp;omega);refine⟨z,L,by simpa using E,fun k=> ?_⟩;rw[I k];simp only[av]
  by_cases B:k=off
  ·subst B
   rw[if_neg (by omega),if_pos (by omega),oE _ _ _ _ (by omega),if_pos rfl];simp
  ·by_cases F:off+1<=k/\k<off+1+r.length
   ·rw[if_pos F,if_pos (by omega)]
    rw[show k-off=(k-(off+1))+1 from by omega];simp
   ·rw[if_neg F,if_neg (by omega),oE _ _ _ _ (by omega),if_neg B]
theorem cU(b off n:Nat):(⟨b,off,none⟩:Addr).add n=⟨b,off+n,none⟩:=by
 unfold Addr.add;split
 ·rename_i h;subst h;rfl
 ·rfl
theorem eF{P:Program}{b:Nat}{e:TypeId}{fl fh:Nat}(off:Nat)(vs:LAb):∀(w:World)(c:LAc)(i:Nat),dS w b c e fl fh->off+i+vs.length<=c.size->
 (∀v∈vs,v.oneCell'=true)->(storeCells ⟨b,off,none⟩ vs i).run P w= .ok () (bM w b (off+i) vs):=by
 induction vs with
 |nil=>intro w c i _ _ _;rfl
 |cons v r H=>
  intro w c i h E B;simp only[av]at E
  have F:dS (w.setCell ⟨b,off+i,none⟩ v) b (c.setIfInBounds (off+i) v) e fl fh:=by refine⟨?_,by simpa using h.2⟩;simp only[World.setCell,Array.getElem?_modify];rw[if_pos trivial,h.1];simp
  have z:w.cell? ⟨b,off+i,none⟩=some (c[off+i]'(by omega)):=by rw[h.cell];exact cy _
  simp only[storeCells,aB,cU,run_store P w _ v _ (B v (by simp)),z,h.free (o:=off+i) (by omega),aJ,if_false,am];rw[H _ _ (i+1) F (by simp;omega) (fun u hu=>B u (aq _ hu))];rfl
theorem lR{d:Nat}{o:aC}{ob:List (Nat×aC)}(z:(ob.map cB).Nodup){p:Nat×aC}(h:p∈setO d o ob):(p=(d,o)/\d∈ob.map cB)\/(p∈ob/\p.1≠d):=by
 induction ob with
 |nil=>simp[setO]at h
 |cons q r H=>
  simp only[aO,ed]at z;simp only[setO]at h;split at h<;>rename_i B
  ·rcases an.1 h with rfl|h
   ·exact .inl ⟨rfl,by simp[B]⟩
   ·refine .inr ⟨aq _ h,fun e=>z.1 ?_⟩
    rw[B,<-e];exact ie h
  ·rcases an.1 h with rfl|h
   ·exact .inr ⟨ax ..,B⟩
   ·rcases H z.2 h with⟨E,F⟩|⟨E,F⟩
    ·exact .inl ⟨E,by simp[F]⟩
    ·exact .inr ⟨aq _ E,F⟩
theorem Gc{d:Nat}{o:aC}(ob:List (Nat×aC)):(setO d o ob).map cB=ob.map cB:=by
 induction ob with
 |nil=>rfl
 |cons q r h=>
  simp only[setO];split<;>rename_i z
  ·simp[z]
  ·simp[h]
theorem cP{s:St}{o:Nat}{obj:aC}(h:s.look o=some obj):(o,obj)∈s.ob:=by
 unfold St.look at h;generalize s.ob=l at h;induction l with
 |nil=>simp at h
 |cons p r z=>
  rw[show p=(p.1,p.2)from rfl,List.lookup_cons]at h;split at h
  ·rename_i B
   have:o=p.1:=by simpa using B
   subst this;simp at h;subst h;simp
  ·exact aq _ (z h)
theorem cS.block{C:Ctx}{x:Sit}{ob:List (Nat×aC)}{tk:t8}{w w':World}(h:cS C x ob tk w){d:Nat}{obj obj':aC}(hd:(d,obj)∈ob)
 (ho:w'.os=w.os) (I:w'.tape=w.tape) (L:w'.output=w.output) (U:w'.heap.size=w.heap.size) (T:∀b,b≠(x.bk d).1->w'.heap[b]? =w.heap[b]?)
 (hr:dA x w' d obj'):cS C x (setO d obj' ob) tk w':=by
 obtain⟨_,Q,O⟩:=h.obs _ hd;have F:∀p∈ob,p.1≠d->(x.bk p.1).1≠(x.bk d).1:=fun p z B e=>B (h.inj p z _ hd e)
 refine⟨?_,h.g0,h.gm,h.new, ?_,by rw[Gc];exact h.nd, ?_, ?_, ?_,h.tkd,ho.trans h.os,I.trans h.tape,L.trans h.output,by rw[U];exact h.size, ?_,h.pin,h.lay⟩
 ·intro b o v Z
  have:b≠(x.bk d).1:=by rintro rfl;simp[O]at Z
  rw[de (T b this)];exact h.per b o v Z
 ·intro p z
  rcases lR h.nd z with⟨rfl,_⟩|⟨z,B⟩
  ·exact⟨hr,Q,O⟩
  ·obtain⟨⟨c,e,fl,fh,W,r⟩,q⟩:=h.obs p z
   exact⟨⟨c,e,fl,fh,W.of_heap (T _ (F p z B)),r⟩,q⟩
 ·intro p z q S H
  rcases lR h.nd z with⟨rfl,_⟩|⟨z,B⟩<;>rcases lR h.nd S with⟨rfl,_⟩|⟨S,hqd⟩
  ·rfl
  ·exact absurd H.symm (F q S hqd)
  ·exact absurd H (F p z B)
  ·exact h.inj p z q S H
 ·intro t I
  rcases h.tks t I with h'|⟨⟨c,e,fl,fh,W,r⟩,q⟩
  ·exact .inl h'
  ·rcases h.tko t I _ hd with E|E
   ·exact .inr ⟨⟨c,e,fl,fh,W.of_heap (T _ E),r⟩,q⟩
   ·exact .inl E
 ·intro t I p z
  rcases lR h.nd z with⟨rfl,_⟩|⟨z,_⟩
  ·exact h.tko t I (d,obj) hd
  ·exact h.tko t I p z
 ·intro b J
  rw[T b (fun e=>J (e ▸ Q))];exact h.ext b J
def Sit.fill(x:Sit)(b lo:Nat)(vs:LAb):Sit:= {x with G:=fun h o=>if h=b/\lo<=o/\o<lo+vs.length then some (vs.getD (o-lo) undef)else x.G h o}
theorem cS.fill{C:Ctx}{x:Sit}{ob:List (Nat×aC)}{tk:t8}{w:World}(h:cS C x ob tk w){t:Nat}(ht:t∈tk){b lo hi:Nat}(hτ:x.τ t=(b,lo,hi))
 (vs:LAb) (b4:lo+vs.length<=hi) (h0:0<vs.length):
 (∀E o v,x.G E o=some v->(x.fill b lo vs).G E o=some v)/\cS C (x.fill b lo vs) ob (co t (t+1) tk) (bM w b lo vs)/\
 (∃c e fl fh,dS (bM w b lo vs) b c e fl fh/\hi<=c.size)/\C.mine b/\(∀o,lo+vs.length<=o->o<hi->(x.fill b lo vs).G b o=none)/\
 (∀p∈ob,b≠(x.bk p.1).1)/\(∀u∈co t (t+1) tk,kV (b,lo+vs.length,hi) (x.τ u)\/(x.τ u).2.1=(x.τ u).2.2)/\(∃c e fl fh,dS w b c e fl fh/\hi<=c.size):=by
 have J:=h.tks t ht;unfold gY at J;rw[hτ]at J;rcases J with J|⟨⟨c,e,fl,fh,hO,hc⟩,hm,hg⟩
 ·simp only at J;omega
 simp only at hc hm hg hO;obtain⟨g1,g2,g3,g4,g5⟩:=cT b vs w lo;obtain⟨T,a1,a6,b2⟩:=cK vs w lo c hO (by omega)
 have a3:∀p∈ob,b≠(x.bk p.1).1:=by
  intro p hp;have:=h.tko t ht p hp;rw[hτ]at this;rcases this with W|W
  ·exact W
  ·simp only at W;omega
 have H:∀E o v,x.G E o=some v->(x.fill b lo vs).G E o=some v:=by
  intro E o v B;simp only[Sit.fill];rw[if_neg ?_]
  ·exact B
  ·rintro⟨rfl,F,h2⟩
   rw[hg o F (by omega)]at B;cases B
 refine⟨H,⟨?_,fun b o v B=>H b o v (h.g0 b o v B), ?_,h.new, ?_,h.nd,h.inj, ?_, ?_, ?_,g1.trans h.os,g2.trans h.tape,g3.trans h.output,by rw[g4];exact h.size, ?_,h.pin,h.lay⟩,
  ⟨T,e,fl,fh,a1,by omega⟩,hm, ?_,a3, ?_,⟨c,e,fl,fh,hO,hc⟩⟩
 ·intro E o v B
  by_cases Z:E=b
  ·subst Z
   rw[a1.cell];simp only[Sit.fill]at B;have hk:=b2 o;split at B
   ·rename_i I
    rw[if_pos I.2]at hk;have ho:o<T.size:=by omega
    rw[cy ho];have:T.getD o undef=T[o]:=by simp[jQ,ho]
    rw[<-this,hk];exact B
   ·rename_i I
    have S:=h.per _ _ _ B;rw[hO.cell]at S
    have ho:o<c.size:=by
     rcases bH o c.size with W|W
     ·exact W
     ·simp[Array.getElem?_eq_none W]at S
    rw[if_neg (by rintro⟨F,h2⟩;exact I ⟨trivial,F,h2⟩)]at hk;rw[cy (by omega)];have e1:T.getD o undef=T[o]'(by omega):=by simp[jQ,show o<T.size from by omega]
    have e2:c.getD o undef=c[o]:=by simp[jQ,ho]
    rw[cy ho]at S;rw[<-e1,hk,e2];exact S
  ·rw[de (g5 E Z)]
   refine h.per E o v ?_;simp only[Sit.fill]at B;rwa[if_neg (by rintro⟨F,_⟩;exact Z F)]at B
 ·intro E o v B
  simp only[Sit.fill]at B;split at B
  ·rename_i I;right;rw[I.1];exact hm
  ·exact h.gm E o v B
 ·intro p hp
  obtain⟨F,a9,a8⟩:=h.obs p hp;have O:=a3 p hp;refine⟨?_,a9,fun off=> ?_⟩
  ·obtain⟨c2,e2,a0,U,L,Q,b3⟩:=F
   refine⟨c2,e2,a0,U,L.of_heap (g5 _ (fun e=>O e.symm)),Q,fun k hk=> ?_⟩;have:=b3 k hk;generalize p.2=obj at*;cases obj with
   |rc cs=>exact Rep.grow H rfl rfl this
   |arr sz xs=>exact cD.mono H this
   |bar l=>exact cD.mono H this
  ·simp only[Sit.fill]
   rw[if_neg (by rintro⟨F,_⟩;exact O F.symm)];exact a8 off
 ·intro u hu
  obtain⟨hu,O⟩:=bE.1 hu;have z:=h.tkd t ht u hu (by omega);rw[hτ]at z;refine(h.tks u hu).imp id ?_;rintro⟨⟨c2,e2,a0,U,L,Q⟩,a5,a4⟩;refine⟨?_,a5,fun o F h2=> ?_⟩
  ·by_cases Z:(x.τ u).1=b
   ·rw[Z]at L
    have e1:=L.1.symm.trans hO.1;simp at e1;exact⟨T,e,fl,fh,by rw[show((x.fill b lo vs).τ u).1=b from Z];exact a1,by rw[a6,<-e1.1];exact Q⟩
   ·exact⟨c2,e2,a0,U,L.of_heap (g5 _ Z),Q⟩
  ·show(x.fill b lo vs).G (x.τ u).1 o=none
   simp only[Sit.fill];rw[if_neg ?_]
   ·exact a4 o F h2
   ·rintro⟨e1,e2,e3⟩
    change (x.τ u).2.1<=o at F;change o<(x.τ u).2.2 at h2;rcases z with z|z|z
    ·exact z e1.symm
    ·simp only at z;omega
    ·omega
 ·intro u hu p hp
  exact h.tko u (bE.1 hu).1 p hp
 ·intro u hu v B a7
  exact h.tkd u (bE.1 hu).1 v (bE.1 B).1 a7
 ·intro E a2
  rw[g5 E (fun e=>a2 (e ▸ hm))];exact h.ext E a2
 ·intro o F h2
  simp only[Sit.fill];rw[if_neg (by rintro⟨_,_,h3⟩;omega)];exact hg o (by omega) h2
 ·intro u hu
  obtain⟨hu,O⟩:=bE.1 hu;have z:=h.tkd t ht u hu (by omega);rw[hτ]at z;unfold kV at*;simp only at*;rcases z with z|z|z
  ·left;exact z
  ·omega
  ·exact .inr z
theorem fS{lo hi:Nat}{tk:t8}{t:Nat}(h:t∈co lo hi tk):t∈tk:=(bE.1 h).1
theorem cS.sub{C:Ctx}{x:Sit}{ob ob':List (Nat×aC)}{tk tk':t8}{w:World}(h:cS C x ob tk w)(z:ob'.Sublist ob)(E:∀t∈tk',t∈tk):cS C x ob' tk' w:=
 ⟨h.per,h.g0,h.gm,h.new,fun p B=>h.obs p (z.subset B),h.nd.sublist (z.map _),fun p B q F=>h.inj p (z.subset B) q (z.subset F),fun t hu=>h.tks t (E t hu),
  fun t hu p B=>h.tko t (E t hu) p (z.subset B),fun t hu u H=>h.tkd t (E t hu) u (E u H),h.os,h.tape,h.output,h.size,h.ext,h.pin,h.lay⟩
end Go.Sy
namespace Go.Sy
variable [bc]
def za:SV->Value->Bool
 | .bool b,.bool c=>b==c
 | .int k n,.int k' m=>decide (k=k')&&decide (n=m)
 | .u8 b,.int .u8 n=>decide (n=b.toNat)
 | .str l,.string s=>decide (s.data.toList=l)
 | .byt [] _,.slice none 0 0=>true
 | .lst _ [] _,.slice none 0 0=>true
 | .nilp,.pointer none=>true
 | .nili,.nilIface=>true
 |_,_=>false
def lv(P:Program)(e:TypeId):Bool:=match P.underlying e with|some (.int .u8)=>true|_=>false
def pR(P:Program)(t:TypeId):Option Bool:=(P.underlying t).map fun| .struct _| .array _ _=>true|_=>false
def fj(P:Program)(t:TypeId):LAa:=(P.info? t).map (·.size)
def sm(P:Program)(t:TypeId):LAa:=(P.info? t).map (·.bytes)
def cvT(P:Program)(t:TypeId):Value->Option SV
 | .bool b=>some (.bool b)
 | .int .u8 n=>some (.u8 (ej n.toNat))
 | .int k n=>some (.int k n)
 | .string s=>some (.str s.data.toList)
 | .pointer none=>some .nilp
 | .nilIface=>some .nili
 | .slice none 0 0=>match P.underlying t with
  |some (.slice e)=>some (if lv P e then .byt [] .clip else .lst (P.cellsOf e) [] .clip)
  |_=>none
 |_=>none
def bq(P:Program)(t:TypeId):Operand->Option Arg
 | .tmp n=>some (.t n)
 | .const v=>(cvT P t v).bind fun sv=>if za sv v then some (.c sv)else none
 | .func f=>some (.f f)
 | .global g=>(bc.cells g).map fun cs=> .c (.pp cs)
def ml(P:Program):Nat->TypeId->List TypeId
 |0,_=> []
 |d+1,t=>match P.underlying t with
  |some (.struct fs)=>fs.toList.flatMap fun f=>ml P d f.type
  |some (.array n e)=>(au n (ml P d e)).flatten
  |_=> [t]
def DQ(P:Program):List TypeId->LAb->Option t7
 |[],[]=>some []
 |t::ts,v::vs=>match cvT P t v,DQ P ts vs with
  |some s,some r=>some (s::r)
  |_,_=>none
 |_,_=>none
def fN(P:Program)(t:TypeId):Option LAb:=(P.info? t).bind fun i=>i.zero.map fun z=>z.cells.toList
def Ec(cs:t7)(vs:LAb):Bool:=decide (cs.length=vs.length)&&(bS cs.length).all fun i=>za (cs.getD i .undef) (vs.getD i undef)
def lH(P:Program)(t:TypeId):Option t7:=(fN P t).bind fun vs=>(DQ P (ml P 30 t) vs).bind fun cs=>if Ec cs vs then some cs else none
def wU(P:Program)(t:TypeId):Option t7:=(lH P t).map (List.map SV.data)
def Gy(P:Program)(t:TypeId):Option aC:=
 match P.underlying t with
 |some (.array n e)=>if lv P e then some (.bar (au n 0))else match P.underlying e with
  |some (.slice _)=>(lH P e).map fun z=> .rc (au n z).flatten
  |_=>(lH P e).map fun z=> .arr z.length (au n z)
 |_=>(lH P t).map .rc
def Yb(o:aC)(vs:LAb):Bool:=decide (o.size<=vs.length)&&(bS o.size).all fun k=>za (o.cell k) (vs.getD k undef)
def jr{α β:Type}(f:α->Option β):List α->Option (List β)
 |[]=>some []
 |a::r=>match f a,jr f r with
  |some b,some s=>some (b::s)
  |_,_=>none
def ut{α β:Type}(f:α->Option β):Option α->Option (Option β)
 |none=>some none
 |some a=>(f a).map some
def vp(P:Program)(t:TypeId):LAa:=
 match P.underlying t with
 |some .bool=>some 0
 |some (.int _)=>some 1
 |some .string=>some 2
 |_=>none
def ww(P:Program):Nat->List Field->Option t8
 |_,[]=>some []
 |k,f::r=>if f.name≠ "_" /\f.offset=k then(match vp P f.type,ww P (k+1) r with
  |some t,some ts=>some (t::ts)
  |_,_=>none)else none
def xfV(P:Program)(f:FuncId):Bool:=
 match P.funcs[f]? with
 |some fn=>fn.body.isNone&& !(fn.name== "runtime.NumGoroutine")&&(Extern.findNext fn).isNone&&decide (fn.origin= "slices.overlaps")&&
  (Extern.allGenericRows.lookup fn.name).isNone&&(Extern.allTypedRows.lookup fn.name).isNone&&(Extern.allRows.lookup fn.name).isNone&&
  (match fn.params[0]? with|some t=>(match P.underlying t with|some (.slice e)=>(fj P e).isSome|_=>false)|none=>false)
 |none=>false
def z0:t7->Bool
 |[.u8 b]=>b==0
 |_=>false
def br(P:Program)(o:Oper):Option SOp:=
 match o.op with
 | .move x=>(bq P o.type x).map .mov
 | .assign x=>(bq P o.type x).map .mov
 | .pick c a b=>match bq P 0 c,bq P o.type a,bq P o.type b with
  |some c,some a,some b=>some (.pick c a b)
  |_,_,_=>none
 | .alloc e=>match Gy P e,fN P e with
  |some o,some z=>if Yb o z then some (.new o)else none
  |_,_=>none
 | .box e x=>(bq P e x).map .box
 | .build t h=>match P.underlying t,lH P t with
  |some (.struct fs),some z=>
   if fs.toList.all fun f=>(P.info? f.type).isSome then
    (jr (fun p=>match fs[p.1]? with
     |some f=>match fj P f.type,bq P f.type p.2 with
      |some n,some a=>some (f.offset,n,a)
      |_,_=>none
     |none=>none) h.toList).map (.build z)
   else none
  |some (.array _ e),some z=>match fj P e with
   |some n=>(jr (fun p=>(bq P e p.2).map fun a=>(p.1*n,n,a)) h.toList).map (.build z)
   |none=>none
  |_,_=>none
 | .buildSlice t len h=>match P.underlying t with
  |some (.slice e)=>match fj P e,fN P e with
   |some n,some _=>
    if decide (h.toList.map (·.1)=bS len)&&decide (len*n<=16777216)&&(!lv P e||decide (n=1))then
     (jr (fun p=>bq P e p.2) h.toList).map fun I=>if lv P e then .litB I else .lit n I
    else none
   |_,_=>none
  |_=>none
 | .load t a=>match fj P t,pR P t,bq P 0 a with
  |some n,some ag,some a=>if ag||n==1 then some (.load n ag a)else none
  |_,_,_=>none
 | .store t a x=>match fj P t,bq P 0 a,bq P t x with
  |some n,some a,some x=>some (.store n a x)
  |_,_,_=>none
 | .nilCheck x=>(bq P o.type x).map .nchk
 | .binOp op F x y J=>match P.underlying F,bq P F x,bq P J y with
  |some .bool,some x,some y=>match op with
   | .eql=>some (.beq false x y)
   | .neq=>some (.beq true x y)
   |_=>none
  |some (.int _),some x,some y=>some (.bin op x y)
  |some .string,some x,some y=>some (.bin op x y)
  |some (.struct fs),some x,some y=>
   match ww P 0 fs.toList with
   |
    some H=>if !P.stoodInHeld F&& !P.eqGuardType P.depth F then
    (match op with
    | .eql=>some (.eqS false H x y)
    | .neq=>some (.eqS true H x y)
    |_=>none)
    else none
   |none=>none
  |some (.slice _),some x,some _=>match op,y with
   | .eql,.const (.slice none 0 0)=>some (.isnil false x)
   | .neq,.const (.slice none 0 0)=>some (.isnil true x)
   |_,_=>none
  |some (.interface _),some x,some _=>match op,y with
   | .eql,.const .nilIface=>some (.isni false x)
   | .neq,.const .nilIface=>some (.isni true x)
   |_,_=>none
  |_,_,_=>none
 | .unOp op t x=>(bq P t x).map (.un op)
 | .convert B dst x=>match P.underlying B,P.underlying dst,bq P B x with
  |some (.int _),some (.int k),some x=>some (.toInt k x)
  |some .string,some .string,some x=>some (.toStr x)
  |some (.slice e),some .string,some x=>if lv P e then some (.b2s x)else none
  |some .string,some (.slice e),some x=>if lv P e then some (.s2b x)else none
  |some (.slice _),some (.slice e),some x=>if decide (B=dst)&&lv P e then some (.slid x)else none
  |_,_,_=>none
 | .makeFunc (.func f) first cap=>match jr (bq P 0) first.toList,jr (bq P 0) cap.toList with
  |some a,some b=>some (.mkfn f a b)
  |_,_=>none
 | .makeSlice t l c=>match P.underlying t with
  |some (.slice e)=>match fj P e,sm P e,wU P e,bq P 0 l,bq P 0 c with
   |some n,some by_,some z,some l,some c=>if lv P e then(if n=1/\by_=1/\z0 z=true then some (.mkB l c)else none)else(if z.length=n/\n≠0 then some (.mk z by_ l c)else none)
   |_,_,_,_,_=>none
  |_=>none
 | .slice t x lo hi E=>match ut (bq P 0) lo,ut (bq P 0) hi,ut (bq P 0) E,bq P t x with
  |some lo,some hi,some E,some x=>if E.isSome&&hi.isNone then none else match P.underlying t with
   |some .string=>if E.isNone then some (.slcS x lo hi)else none
   |some (.slice e)=>match fj P e with
    |some n=>some (.slcL n x lo hi E)
    |none=>none
   |some (.array k e)=>match fj P e with
    |some n=>some (.slcA k n x lo hi E)
    |none=>none
   |_=>none
  |_,_,_,_=>none
 | .fieldAddr t x i=>match P.underlying t,bq P 0 x with
  |some (.struct fs),some x=>match fs[i]? with
   |some f=>match fj P f.type with
    |some n=>if n=0 then none else some (.faddr f.offset x)
    |none=>none
   |none=>none
  |_,_=>none
 | .field t x i=>match P.underlying t,bq P t x with
  |some (.struct fs),some x=>match fs[i]? with
   |some f=>match fj P f.type,pR P f.type with
    |some n,some ag=>if ag||n==1 then some (.fld f.offset n ag x)else none
    |_,_=>none
   |none=>none
  |_,_=>none
 | .indexAddr t x i=>match P.underlying t,bq P t x,bq P 0 i with
  |some (.slice e),some x,some i=>match fj P e with
   |some n=>some (.iaddrL n x i)
   |none=>none
  |some (.array k e),some x,some i=>match fj P e with
   |some n=>some (.iaddrA k n x i)
   |none=>none
  |_,_,_=>none
 | .index t x i=>match P.underlying t,bq P t x,bq P 0 i with
  |some (.array k e),some x,some i=>match fj P e,pR P e with
   |some n,some ag=>if ag||n==1 then some (.idxA k n ag x i)else none
   |_,_=>none
  |some .string,some x,some i=>some (.idxS x i)
  |_,_,_=>none
 | .extract x i=>(bq P 0 x).map (.ext · i)
 | .call c=>match c.callee with
  | .value f=>match bq P 0 f,jr (fun p=>bq P p.2 p.1) (c.args.toList.zip c.argTypes.toList)with
   |some f,some a_=>if c.args.size=c.argTypes.size then(match f,a_ with
    | .f g,[x,y]=>if xfV P g then some (.ovl x y)else some (.call (.f g) [x,y])
    |f,a_=>some (.call f a_))else none
   |_,_=>none
  | .builtin .len=>match c.args.toList,c.argTypes.toList with
   |[x],[t]=>match P.underlying t,bq P t x with
    |some .string,some x=>some (.len true x)
    |some (.slice _),some x=>some (.len false x)
    |some (.array n _),some _=>some (.lenC n)
    |some (.pointer arr),some _=>match P.underlying arr with
     |some (.array n _)=>some (.lenC n)
     |_=>none
    |_,_=>none
   |_,_=>none
  | .builtin .cap=>match c.args.toList,c.argTypes.toList with
   |[x],[t]=>match P.underlying t,bq P t x with
    |some (.slice _),some x=>some (.cap x)
    |_,_=>none
   |_,_=>none
  | .builtin .append=>match c.args.toList,c.argTypes.toList with
   |[x,y],[t,u]=>match P.underlying t,P.underlying u,bq P t x,bq P u y with
    |some (.slice e),some d,some x,some y=>match fj P e,sm P e,lH P e with
     |some n,some b,some z=>if decide (b≠0)&&decide (n≠0)&&decide (z.length=n)then(match d with
      | .slice _=>some (.app z b x y)
      | .string=>if lv P e then some (.app z b x y)else none
      | .int _=>some (.appM z b x y)
      |_=>none)else none
     |_,_,_=>none
    |_,_,_,_=>none
   |_,_=>none
  | .builtin .clear=>match c.args.toList,c.argTypes.toList with
   |[x],[t]=>match P.underlying t,bq P t x with
    |some (.slice e),some x=>match wU P e with
     |some z=>some (.clr z x)
     |none=>none
    |_,_=>none
   |_,_=>none
  | .builtin .copy=>match c.args.toList,c.argTypes.toList with
   |[x,y],[t,u]=>match P.underlying t,bq P t x,bq P u y with
    |some (.slice e),some x,some y=>match fj P e with
     |some n=>some (.cpy n x y)
     |none=>none
    |_,_,_=>none
   |_,_=>none
  | .builtin .min=>match c.args.toList,c.argTypes.toList with
   |[x,y],[t,u]=>match bq P t x,bq P u y with
    |some x,some y=>some (.mini x y)
    |_,_=>none
   |_,_=>none
  | .builtin .max=>match c.args.toList,c.argTypes.toList with
   |[x,y],[t,u]=>match bq P t x,bq P u y with
    |some x,some y=>some (.maxi x y)
    |_,_=>none
   |_,_=>none
  |_=>none
 |_=>none
def xav(ops:Array Oper)(d:Nat):Bool:=ops.any fun o=>match o.op with
 | .convert src dst (.tmp k)=>decide (src=dst)&&k==d
 |_=>false
def nD(ops:Array Oper)(d:LAa)(so:SOp):SOp:=
 match so,d with
 | .litB xs,some d=>if xav ops d then .newB xs else .litB xs
 |so,_=>so
theorem Dv(ops:Array Oper)(d:LAa)(so:SOp):nD ops d so=so\/∃h,so= .litB h/\nD ops d so= .newB h:=by
 unfold nD;split
 ·split
  ·exact .inr ⟨_,rfl,rfl⟩
  ·exact .inl rfl
 ·exact .inl rfl
def fR(P:Program)(ops:Array Oper)(o:Oper):Option SI:=
 match br P o,o.guard with
 |some so,none=>some ⟨o.dst,none,nD ops o.dst so⟩
 |some so,some (j,b)=>match (ops[j]?).bind (·.dst)with
  |some g=>some ⟨o.dst,some (g,b),nD ops o.dst so⟩
  |none=>none
 |none,_=>none
def xfF:SOp->Bool
 | .new _| .box _| .mk _ _ _ _| .mkB _ _| .app _ _ _ _| .newB _=>true
 |_=>false
def xit(l:LAd):t8:=l.filterMap fun i=>if xfF i.op then some (i.dst.getD 0+100)else none
def Arg.tmps:Arg->t8
 | .t n=> [n]
 |_=> []
def SI.reads(i:SI):t8:=(i.op.args.flatMap Arg.tmps)++(match i.g with|some (g,_)=> [g]|none=> [])
def Om(b:t8)(l:LAd):Bool:=
 (bS l.length).all fun j=>(bS l.length).all fun i=>i==j||
  (match (l.getD i ⟨none,none,.lenC 0⟩).dst with
   |some d=> !((l.getD j ⟨none,none,.lenC 0⟩).reads.contains d)||(b.getD (max i j) 0).testBit (min i j)
   |none=>true)
def pz(ops:Array Oper)(b:t8):Bool:=
 ops.toList.zipIdx.all fun(o,i)=>(o.after.all fun e=> !Region.binds .any e||decide (e.on<i))&&
  (bS ops.size).all fun k=> !(b.getD i 0).testBit k||(decide (k<i)&&o.after.any fun e=>Region.binds .any e&&(e.on==k||(b.getD e.on 0).testBit k))
def drawn(ops:Array Oper)(l:LAd):Bool:=
 let b:=(Region.before ops).toList
 pz ops b&&Om b l&&decide (l.filterMap (·.dst)).Nodup
def aX(P:Program):Code->Option fG
 | .skip=>some .skip
 | .region _ ops h=>match jr (fR P ops) ops.toList with
  |some l=>
   if h then(if drawn ops l&&P.follows .mixedOrders then some (.drw (Region.before ops).toList (xit l) l)else none)
   else some (.ops l)
  |none=>none
 | .seq a b=>match aX P a,aX P b with
  |some a,some b=>some (.seq a b)
  |_,_=>none
 | .cond c a b=>match bq P 0 c,aX P a,aX P b with
  |some c,some a,some b=>some (.cond c a b)
  |_,_,_=>none
 | .block id b=>(aX P b).map (.block id)
 | .loop b=>(aX P b).map .loop
 | .exit id=>some (.exit id)
 | .ret=>some .ret
 |_=>none
def ct(P:Program):Code->fG
 | .skip=> .skip
 | .exit id=> .exit id
 | .ret=> .ret
 | .seq a b=> .seq (ct P a) (ct P b)
 | .cond c a b=>match bq P 0 c with
  |some k=> .cond k (ct P a) (ct P b)
  |none=> .bad
 | .block id b=> .block id (ct P b)
 | .loop b=> .loop (ct P b)
 | .region id ops h=>match aX P (.region id ops h)with
  |some s=>s
  |none=> .bad
 |_=> .bad
end Go.Sy
namespace Go.Sy
variable [bc]
variable {P : Program} {C : Ctx} {x : Sit} {s : St} {a : Act} {w : World}
theorem lJ{G:GM}{c:SV}{v:Value}(h:za c v=true):cD G c v:=by
 unfold za at h;split at h
 ·simp at h;subst h;exact .bool _
 ·simp at h;obtain⟨rfl,rfl⟩:=h;exact .int _ _
 ·simp at h;subst h;exact .u8 _
 ·rename_i l s
  simp at h;obtain⟨⟨d⟩⟩:=s;simp at h;subst h;exact .str _
 ·exact .bytN _
 ·exact .lstN _ _
 ·exact .nilp
 ·exact .nili
 ·cases h
theorem EJ{x:Sit}{c:SV}{v:Value}(h:za c v=true):M3 x c v:=by
 unfold za at h;split at h
 all_goals first
  |trivial
  |(
   rename_i t;cases t with
   |no=>trivial
   |clip=>exact⟨none,0,rfl⟩
   |id t=>exact⟨none,0,0,rfl,.inl rfl⟩)
  |(cases h;done)
theorem oV{x:Sit}{c:SV}{v:Value}(h:za c v=true):Rep x c v:= .dat _ _ (lJ h) (EJ h)
theorem cr.get{cs:t7}{vs:LAb}(h:cr x cs vs)(i:Nat):Rep x (cs.getD i .undef) (vs.getD i undef):=by
 rcases bH i cs.length with hi|hi
 ·exact h.2 i hi
 ·rw[aa,jZ hi];exact .undef _
theorem cr.set{cs:t7}{vs:LAb}(h:cr x cs vs)(d:Nat){c:SV}{v:Value}(z:Rep x c v):cr x (cs.set d c) (vs.set d v):=by
 refine⟨by simpa using h.1,fun i hi=> ?_⟩;simp only[cw]at hi;simp only[aa,eW]
 by_cases hd:d=i
 ·subst hd
  rw[if_pos rfl,if_pos hi,if_pos rfl,if_pos (by rw[<-h.1];exact hi)];exact z
 ·rw[if_neg hd,if_neg hd]
  have:=h.get i;simpa only[aa]using this
theorem aM.slot(h:aM C x s a w)(n:Nat):Rep x (s.get n) (a.tmps.getD n undef):=by have:=h.tm.get n;simpa[St.get,aW]using this
theorem aM.put(h:aM C x s a w)(d:LAa){c:SV}{v:Value}(z:Rep x c v):aM C x (s.put d c) (a.put d v) w:=by
 cases d with
 |none=>exact h
 |some d=>refine⟨?_,h.defers,h.heap⟩;have:=h.tm.set d z;simpa[St.put,Act.put]using this
theorem aK{t:TypeId}{o:Operand}{r:Arg}(h:aM C x s a w)(z:bq P t o=some r):Rep x (s.ev r) (a.eval o):=by
 cases o with
 |tmp n=>simp only[bq]at z;cases z;exact h.slot n
 |const v=>
  simp only[bq]at z;cases hc:cvT P t v with
  |none=>simp[hc]at z
  |some sv=>
   simp only[hc,cQ]at z;split at z
   ·cases z;rename_i I;exact oV I
   ·cases z
 |func f=>simp only[bq]at z;cases z;exact .fn f [] [] [] [] rfl (fun i hi=>by simp at hi) rfl (fun i hi=>by simp at hi)
 |global g=>
  simp only[bq]at z;obtain⟨cs,E,rfl⟩:=ai.1 z;have H:=(h.heap.lay.mono h.heap.g0) g cs E;refine .dat _ _ (.pp cs g 0 (fun j=>(x.G g j).getD undef) (fun j F=> ?_) (fun j F=> ?_)) trivial
  ·obtain⟨v,B,_⟩:=H j F
   rw[bC,B];rfl
  ·obtain⟨v,B,z⟩:=H j F
   rw[B];exact z
def ce(P:Program)(C:Ctx)(o:Oper)(a:Act)(w:World)(s':St):Prop:=
 ∃u w' x' n,(execOp a.eval o).run P w= .ok n w'/\(n= .value u\/(n= .skip/\u=undef))/\aM C x' s' (a.put o.dst u) w'
theorem ce.val{o:Oper}{m:Sem Value}{u:Value}{c:SV}(h:aM C x s a w)(z:execOp a.eval o=(do pure (.value (<-m))))(B:m.run P w= .ok u w)(E:Rep x c u):
 ce P C o a w (s.put o.dst c):=
 ⟨u,w,x,.value u,by rw[z];simp[B],.inl rfl,h.put o.dst E⟩
theorem ce.grow{o:Oper}{m:Sem Value}{u:Value}{c:SV}{x':Sit}{w':World}(h:aM C x s a w)(H:execOp a.eval o=(do pure (.value (<-m))))(I:m.run P w= .ok u w')
 (E:∀b o v,x.G b o=some v->x'.G b o=some v) (J:x'.bk=x.bk) (B:x'.τ=x.τ) (F:cS C x' s.ob s.tk w') (z:Rep x' c u):
 ce P C o a w (s.put o.dst c):=
 ⟨u,w',x',.value u,by rw[H];simp[I],.inl rfl,aM.put ⟨h.tm.grow E J B,h.defers,F⟩ o.dst z⟩
theorem Rep.int_inv{k:IntKind}{n:Int}{v:Value}(h:Rep x (.int k n) v):v= .int k n:=by
 cases h with|dat _ _ h _=>cases h;rfl
theorem Rep.bool_inv{b:Bool}{v:Value}(h:Rep x (.bool b) v):v= .bool b:=by
 cases h with|dat _ _ h _=>cases h;rfl
theorem Rep.u8_inv{b:UInt8}{v:Value}(h:Rep x (.u8 b) v):v= .int .u8 b.toNat:=by
 cases h with|dat _ _ h _=>cases h;rfl
theorem Rep.str_inv{l:t6}{v:Value}(h:Rep x (.str l) v):v= .string ⟨⟨l⟩⟩:=by
 cases h with|dat _ _ h _=>cases h;rfl
theorem Rep.ptr_inv{o off:Nat}{v:Value}(h:Rep x (.ptr o off) v):v= .pointer (some ⟨(x.bk o).1,off,none⟩):=by
 cases h with
 |dat _ _ h _=>cases h
 |ptr=>rfl
theorem Rep.ap_inv{o z i j:Nat}{v:Value}(h:Rep x (.ap o z i j) v):v= .pointer (some ⟨(x.bk o).1,i*z+j,none⟩):=by
 cases h with
 |dat _ _ h _=>cases h
 |ap=>rfl
theorem Rep.psl_inv{o E off n:Nat}{cap:LAa}{v:Value}(h:Rep x (.psl o E off n cap) v):∃z,n<=z/\(∀c,cap=some c->c=z)/\∃B,v= .slice (some ⟨(x.bk o).1,B,none⟩) n z/\(z=0\/B=off*E):=by
 cases h with
 |dat _ _ h _=>cases h
 |psl _ _ _ _ _ B z h hn F _=>exact⟨z,hn,F,B,rfl,h⟩
theorem Rep.psl_invA{o E off n:Nat}{cap:LAa}{v:Value}(h:Rep x (.psl o E off n cap) v):∃z,n<=z/\(∀c,cap=some c->c=z)/\∃B,v= .slice (some ⟨(x.bk o).1,B,none⟩) n z/\(z=0\/B=off*E)/\(cap=none->z=0\/B+z*E<=(x.bk o).2):=by
 cases h with
 |dat _ _ h _=>cases h
 |psl _ _ _ _ _ B z h hn F H=>exact⟨z,hn,F,B,rfl,h,H⟩
theorem Rep.psl_invK{o E off n:Nat}{v:Value}(h:Rep x (.psl o E off n none) v):∃z,n<=z/\∃B,v= .slice (some ⟨(x.bk o).1,B,none⟩) n z/\(z=0\/B=off*E)/\(z=0\/B+z*E<=(x.bk o).2):=by
 cases h with
 |dat _ _ h _=>cases h
 |psl _ _ _ _ _ B z h hn H F=>exact⟨z,hn,B,rfl,h,F rfl⟩
theorem Rep.agg_inv{cs:t7}{v:Value}(h:Rep x (.agg cs) v):∃vs,v= .agg ⟨vs⟩/\cr x cs vs:=by
 cases h with
 |dat _ _ h _=>cases h
 |agg _ vs z h=>exact⟨vs,rfl,z,h⟩
theorem Rep.tup_inv{cs:t7}{v:Value}(h:Rep x (.tup cs) v):∃vs,v= .tuple ⟨vs⟩/\cr x cs vs:=by
 cases h with
 |dat _ _ h _=>cases h
 |tup _ vs z h=>exact⟨vs,rfl,z,h⟩
theorem Rep.fn_inv{f:Nat}{c1 c2:t7}{v:Value}(h:Rep x (.fn f c1 c2) v):∃v1 z,v= .func (.func f) ⟨v1⟩ ⟨z⟩/\cr x c1 v1/\cr x c2 z:=by
 cases h with
 |dat _ _ h _=>cases h
 |fn _ _ _ v1 z B F H E=>exact⟨v1,z,rfl,⟨B,F⟩,⟨H,E⟩⟩
theorem Rep.pp_inv{cs:t7}{v:Value}(h:Rep x (.pp cs) v):∃(b off:Nat)(val:Nat->Value),v= .pointer (some ⟨b,off,none⟩)/\(∀j,j<cs.length->x.G b (off+j)=some (val j))/\∀j,j<cs.length->cD x.G (cs.getD j .undef) (val j):=by
 cases h with
 |dat _ _ h _=>cases h with|pp _ b off val z h=>exact⟨b,off,val,rfl,z,h⟩
theorem Rep.nilp_inv{v:Value}(h:Rep x .nilp v):v= .pointer none:=by
 cases h with|dat _ _ h _=>cases h;rfl
theorem Rep.nili_inv{v:Value}(h:Rep x .nili v):v= .nilIface:=by
 cases h with|dat _ _ h _=>cases h;rfl
theorem Rep.byt_inv{l:t6}{t:Tok}{v:Value}(h:Rep x (.byt l t) v):∃b cap,v= .slice b l.length cap/\l.length<=cap/\cD x.G (.byt l t) v/\df x 1 t v:=by
 cases h with
 |dat _ _ h z=>
  cases h with
  |bytN=>exact⟨none,0,rfl,by simp,.bytN _,z⟩
  |bytE _ a=>exact⟨some a,0,rfl,by simp,.bytE _ a,z⟩
  |byt _ _ b off cap n hn B h=>subst hn;exact⟨_,cap,rfl,B,.byt _ _ b off cap _ rfl B h,z⟩
theorem Rep.lst_inv{B:Nat}{z:f8}{t:Tok}{v:Value}(h:Rep x (.lst B z t) v):∃b cap,v= .slice b z.length cap/\z.length<=cap/\cD x.G (.lst B z t) v/\df x B t v:=by
 cases h with
 |dat _ _ h E=>
  cases h with
  |lstN=>exact⟨none,0,rfl,by simp,.lstN _ _,E⟩
  |lstE _ _ a=>exact⟨some a,0,rfl,by simp,.lstE _ _ a,E⟩
  |lst _ _ _ b off cap n val hn F H I h=>subst hn;exact⟨_,cap,rfl,F,.lst _ _ _ b off cap _ val rfl F H I h,E⟩
theorem cI(k:IntKind)(n:Int):Rep x (.int k n) (.int k n):= .dat _ _ (.int k n) trivial
theorem dw(b:Bool):Rep x (.bool b) (.bool b):= .dat _ _ (.bool b) trivial
theorem nB(b:UInt8):Rep x (.u8 b) (.int .u8 b.toNat):= .dat _ _ (.u8 b) trivial
theorem kL(l:t6):Rep x (.str l) (.string ⟨⟨l⟩⟩):= .dat _ _ (.str l) trivial
theorem Fc{op:BinOp}{t:TypeId}{k:IntKind}{m n:Int}{p:Prop}{c:SV}(h:PL op k m n=some (p,c))(z:p):
 ∃r,(binOp op t (.int k m) (.int k n)).run P w= .ok r w/\Rep x c r:=by
 cases op<;>simp only[PL,NI,bm,aw.injEq,bn.injEq,reduceCtorEq]at h<;>obtain⟨rfl,rfl⟩:=h
 ·exact⟨.int k (k.wrap (m+n)),by simp[binOp,Op.intArith],cI _ _⟩
 ·exact⟨.int k (k.wrap (m-n)),by simp[binOp,Op.intArith],cI _ _⟩
 ·exact⟨.int k (k.wrap (m*n)),by simp[binOp,Op.intArith],cI _ _⟩
 ·exact⟨.int k (k.wrap (m.tdiv n)),by simp[binOp,Op.intDiv,z],cI _ _⟩
 ·exact⟨.int k (m.tmod n),by simp[binOp,Op.intDiv,z],cI _ _⟩
 ·exact⟨.int k (bx .and k m n),by simp[binOp,Op.intBits,bx],cI _ _⟩
 ·exact⟨.int k (bx .or k m n),by simp[binOp,Op.intBits,bx],cI _ _⟩
 ·exact⟨.int k (bx .xor k m n),by simp[binOp,Op.intBits,bx],cI _ _⟩
 ·exact⟨.int k (bx .andNot k m n),by simp[binOp,Op.intBits,bx],cI _ _⟩
 ·exact⟨.bool (decide (m=n)),by simp[binOp,pA];rw[eR];simp,dw _⟩
 ·exact⟨.bool (decide (m≠n)),by simp[binOp,pA];rw[eR];simp,dw _⟩
 ·exact⟨.bool (decide (m<n)),by simp[binOp,pA],dw _⟩
 ·exact⟨.bool (decide (m<=n)),by simp[binOp,pA],dw _⟩
 ·exact⟨.bool (decide (m>n)),by simp[binOp,pA],dw _⟩
 ·exact⟨.bool (decide (m≥n)),by simp[binOp,pA],dw _⟩
theorem fH(n:Int):fu.wrap n=n % 256:=by simp[IntKind.wrap,IntKind.bits,IntKind.signed]
theorem tT(n:Int):((dO n).toNat:Int)=n % 256:=by rw[dO,<-UInt8.toNat_toBitVec];simp;omega
theorem kW(b:UInt8):b.toNat<256:=b.toNat_lt
theorem C2{op:BinOp}{t:TypeId}{a b:UInt8}{p:Prop}{c:SV}(h:DR op a b=some (p,c))(F:p):
 ∃r,(binOp op t (.int .u8 a.toNat) (.int .u8 b.toNat)).run P w= .ok r w/\Rep x c r:=by
 have I:=kW a;have H:=kW b;have R:∀(r:UInt8)(v:Value),v= .int .u8 r.toNat->Rep x (.u8 r) v:=fun r v e=>e ▸ nB r
 have B:∀(r:Bool)(v:Value),v= .bool r->Rep x (.bool r) v:=fun r v e=>e ▸ dw r
 cases op<;>simp only[DR,aw.injEq,bn.injEq,reduceCtorEq]at h<;>obtain⟨rfl,rfl⟩:=h
 ·exact⟨.int .u8 (fu.wrap (a.toNat+b.toNat)),by simp[binOp,Op.intArith],R _ _ (by rw[fH,UInt8.toNat_add];simp)⟩
 ·refine⟨.int .u8 (fu.wrap (a.toNat-b.toNat)),by simp[binOp,Op.intArith],R _ _ (by rw[fH,UInt8.toNat_sub];congr 1;omega)⟩
 ·exact⟨.int .u8 (fu.wrap (a.toNat*b.toNat)),by simp[binOp,Op.intArith],R _ _ (by rw[fH,UInt8.toNat_mul];simp)⟩
 ·have hb0:¬((b.toNat:Int)=0):=by intro e;exact F (UInt8.toNat_inj.1 (by simpa using e))
  refine⟨.int .u8 (fu.wrap ((a.toNat:Int).tdiv b.toNat)), ?_,R _ _ ?_⟩
  ·simp only[binOp,Op.intDiv];rw[if_neg (fun e=>e rfl),if_neg hb0];rfl
  rw[fH,UInt8.toNat_div,Int.tdiv_eq_ediv_of_nonneg (by omega)];have:=Nat.div_le_self a.toNat b.toNat;rw[<-Int.natCast_ediv];simp only[Value.int.injEq,true_and];generalize a.toNat/b.toNat=q at*;omega
 ·have hb0:¬((b.toNat:Int)=0):=by intro e;exact F (UInt8.toNat_inj.1 (by simpa using e))
  refine⟨.int .u8 ((a.toNat:Int).tmod b.toNat), ?_,R _ _ ?_⟩
  ·simp only[binOp,Op.intDiv];rw[if_neg (fun e=>e rfl),if_neg hb0];rfl
  rw[UInt8.toNat_mod,Int.tmod_eq_emod_of_nonneg (by omega)];simp
 all_goals have E:BitVec.ofInt fu.bits (a.toNat:Int)=a.toBitVec:=by rw[BitVec.ofInt_natCast];exact BitVec.ofNat_toNat _ _
 all_goals have z:BitVec.ofInt fu.bits (b.toNat:Int)=b.toBitVec:=by rw[BitVec.ofInt_natCast];exact BitVec.ofNat_toNat _ _
 ·refine⟨.int .u8 (bx .and .u8 a.toNat b.toNat),by simp[binOp,Op.intBits,bx],R _ _ ?_⟩
  have:=kW (a&&&b);simp only[bx];rw[E,z,fH];change Value.int .u8 ((((a&&&b).toNat:Nat):Int) % 256)=_
  congr 1;omega
 ·refine⟨.int .u8 (bx .or .u8 a.toNat b.toNat),by simp[binOp,Op.intBits,bx],R _ _ ?_⟩
  have:=kW (a|||b);simp only[bx];rw[E,z,fH];change Value.int .u8 ((((a|||b).toNat:Nat):Int) % 256)=_
  congr 1;omega
 ·refine⟨.int .u8 (bx .xor .u8 a.toNat b.toNat),by simp[binOp,Op.intBits,bx],R _ _ ?_⟩
  have:=kW (a^^^b);simp only[bx];rw[E,z,fH];change Value.int .u8 ((((a^^^b).toNat:Nat):Int) % 256)=_
  congr 1;omega
 ·refine⟨.int .u8 (bx .andNot .u8 a.toNat b.toNat),by simp[binOp,Op.intBits,bx],R _ _ ?_⟩
  have:=kW (a&&& ~~~b);simp only[bx];rw[E,z,fH];change Value.int .u8 ((((a&&& ~~~b).toNat:Nat):Int) % 256)=_
  congr 1;omega
 all_goals clear E z
 ·exact⟨.bool ((a.toNat:Int)==b.toNat),by simp[binOp,pA],B _ _ (by congr 1;rw[eR];simp[<-UInt8.toNat_inj];try omega)⟩
 ·exact⟨.bool ((a.toNat:Int) !=b.toNat),by simp[binOp,pA],B _ _ (by congr 1;rw[eR];simp[<-UInt8.toNat_inj];try omega)⟩
 ·exact⟨.bool (decide ((a.toNat:Int)<b.toNat)),by simp[binOp,pA],B _ _ (by congr 1;rw[eR];simp[rD])⟩
 ·exact⟨.bool (decide ((a.toNat:Int)<=b.toNat)),by simp[binOp,pA],B _ _ (by congr 1;rw[eR];simp[UInt8.le_iff_toNat_le])⟩
 ·exact⟨.bool (decide ((a.toNat:Int)>b.toNat)),by simp[binOp,pA],B _ _ (by congr 1;rw[eR];simp[rD])⟩
 ·exact⟨.bool (decide ((a.toNat:Int)≥b.toNat)),by simp[binOp,pA],B _ _ (by congr 1;rw[eR];simp[UInt8.le_iff_toNat_le])⟩
theorem E9{op:BinOp}{t:TypeId}{l m:t6}{p:Prop}{c:SV}(h:Rq op l m=some (p,c))(F:p):
 ∃r,(binOp op t (.string ⟨⟨l⟩⟩) (.string ⟨⟨m⟩⟩)).run P w= .ok r w/\Rep x c r:=by
 have E:∀l:t6,(ByteArray.mk ⟨l⟩).toList=l:=fun l=>by rw[ByteArray.toList_eq]
 have B:(l==m)=decide (l=m):=by rw[eR];simp
 cases op<;>simp only[Rq,aw.injEq,bn.injEq,reduceCtorEq]at h<;>obtain⟨rfl,rfl⟩:=h
 ·refine⟨.string ⟨⟨l++m⟩⟩, ?_,kL _⟩
  simp only[binOp,Op.stringOp]
  have z:((((ByteArray.mk ⟨l⟩).size+(ByteArray.mk ⟨m⟩).size:Nat):Int)>aj.max)=False:=by rw[IntKind.max_i64];simp only[ByteArray.size,eq_iff_iff,iff_false];simp;omega
  simp only[z,if_false];rw[show(ByteArray.mk ⟨l⟩++ByteArray.mk ⟨m⟩)=ByteArray.mk ⟨l++m⟩from by apply ByteArray.ext;simp];rfl
 all_goals refine⟨_,by simp only[binOp,Op.stringOp,E,B];rfl, ?_⟩
 ·exact dw _
 ·rw[show decide (l≠m)= !decide (l=m)from by simp];exact dw _
 all_goals exact dw _
theorem E7{op:BinOp}{t:TypeId}{k:IntKind}{a:UInt8}{b:Int}{p:Prop}{c:SV}(h:Rl op a b=some (p,c))(E:p):
 ∃r,(binOp op t (.int .u8 a.toNat) (.int k b)).run P w= .ok r w/\Rep x c r:=by
 have z:=kW a;have R:∀(r:UInt8)(v:Value),v= .int .u8 r.toNat->Rep x (.u8 r) v:=fun r v e=>e ▸ nB r
 cases op<;>simp only[Rl,aw.injEq,bn.injEq,reduceCtorEq]at h<;>obtain⟨rfl,rfl⟩:=h
 ·refine⟨.int .u8 (fu.wrap ((a.toNat:Int)*2^(min b.toNat fu.bits))),by simp only[binOp,Op.shift];rw[if_neg (by omega)];rfl,R _ _ ?_⟩
  rw[fH,UInt8.toNat_ofNat'];have e:((a.toNat:Int)*2^(min b.toNat fu.bits))=((a.toNat*2^(min b.toNat 8):Nat):Int):=by rw[Int.natCast_mul,Int.natCast_pow];rfl
  rw[e];rfl
 ·refine⟨.int .u8 ((a.toNat:Int).fdiv (2^(min b.toNat fu.bits))),by simp only[binOp,Op.shift];rw[if_neg (by omega)];rfl,R _ _ ?_⟩
  have e:(a.toNat:Int).fdiv (2^(min b.toNat fu.bits))=((a.toNat/2^(min b.toNat 8):Nat):Int):=by rw[show((2:Int)^(min b.toNat fu.bits))=((2^(min b.toNat 8):Nat):Int)from by rw[Int.natCast_pow];rfl];rw[Int.fdiv_eq_ediv_of_nonneg _ (Int.natCast_nonneg _),Int.natCast_ediv]
  have B:a.toNat/2^(min b.toNat 8)<256:=Nat.lt_of_le_of_lt (Nat.div_le_self _ _) z;rw[e,UInt8.toNat_ofNat',iG B]
theorem ON{op:BinOp}{t:TypeId}{X Y:Operand}{u v:SV}{a b:Value}{p:Prop}{c:SV}(hu:Rep x u a)(H:Rep x v b)(h:wI op u v=some (p,c))(F:p):
 ∃r,(do eqGuard op t X Y a b;binOp op t a b:Sem Value).run P w= .ok r w/\Rep x c r:=by
 cases u<;>cases v<;>simp only[wI]at h<;>try (cases h;done)
 ·rename_i k m L n
  have z:=hu.int_inv;have B:=H.int_inv;subst z;subst B;rw[show eqGuard op t X Y (.int k m) (.int L n)=pure ()from by cases op<;>rfl];simp only[aB,aF,am]
  by_cases J:op= .shl\/op= .shr
  ·rcases J with rfl|rfl
   ·simp only[tp,aw.injEq,bn.injEq]at h
    obtain⟨rfl,rfl⟩:=h;exact⟨_,by simp only[binOp,Op.shift];rw[if_neg (by omega)];rfl,cI _ _⟩
   ·simp only[tp,aw.injEq,bn.injEq]at h
    obtain⟨rfl,rfl⟩:=h;exact⟨_,by simp only[binOp,Op.shift];rw[if_neg (by omega)];rfl,cI _ _⟩
  ·have I:(if k=L then PL op k m n else none)=some (p,c):=by
    cases op<;>simp at J<;>exact h
   split at I
   ·rename_i O;subst O;exact Fc I F
   ·cases I
 ·rename_i b1 k2 E
  have z:=hu.u8_inv;have B:=H.int_inv;subst z;subst B;rw[show eqGuard op t X Y (.int .u8 b1.toNat) (.int k2 E)=pure ()from by cases op<;>rfl];simp only[aB,aF,am];exact E7 h F
 ·rename_i b1 E
  have z:=hu.u8_inv;have B:=H.u8_inv;subst z;subst B;rw[show eqGuard op t X Y (.int .u8 b1.toNat) (.int .u8 E.toNat)=pure ()from by cases op<;>rfl];simp only[aB,aF,am];exact C2 h F
 ·rename_i b1 E
  have z:=hu.str_inv;have B:=H.str_inv;subst z;subst B;rw[show eqGuard op t X Y (.string ⟨⟨b1⟩⟩) (.string ⟨⟨E⟩⟩)=pure ()from by cases op<;>rfl];simp only[aB,aF,am];exact E9 h F
end Go.Sy
namespace Go.Sy
variable [bc]
variable {P : Program} {C : Ctx} {x : Sit} {s : St} {a : Act} {w : World}
theorem cf{t:TypeId}{n:Nat}(h:fj P t=some n)(w:World):(sizeOf t).run P w= .ok n w:=by
 unfold fj at h;cases hi:P.info? t with
 |none=>simp[hi]at h
 |some i=>simp[hi]at h;subst h;simp[sizeOf,run_typeInfo w hi]
theorem fi{t:TypeId}{b:Bool}(h:pR P t=some b)(w:World):(isAgg t).run P w= .ok b w:=by
 unfold pR at h;cases hd:P.underlying t with
 |none=>simp[hd]at h
 |some d=>simp[hd]at h;subst h;unfold isAgg;simp only[aB,run_underlying hd,am];split<;>first|rfl|(cases d<;>simp_all)
theorem cE{B:Nat}(E:f8)(h:∀y∈E,y.length=B)(k:Nat)(I:k<E.length*B):
 E.flatten.getD k .undef=(E.getD (k/B) []).getD (k % B) .undef:=by
 induction E generalizing k with
 |nil=>simp at I
 |cons y r Q=>
  have L:=h y (by simp)
  have J:0<B:=by
   rcases gh B with H|H;· subst H;simp at I
   ·exact H
  simp only[List.flatten_cons,aa]
  by_cases F:k<B
  ·rw[aY (by omega),Nat.div_eq_of_lt F,iG F]
   simp
  ·rw[bj (by omega),L]
   have:=Q (fun z hz=>h z (aq _ hz)) (k-B) (by simp only[av,dH]at I;omega);simp only[aa]at this;rw[this];have S:k/B=(k-B)/B+1:=by rw[<-Nat.add_div_right _ J];congr 1;omega
   have O:k % B=(k-B) % B:=(Nat.mod_eq_sub_mod (by omega));rw[S,O];simp
def Cu(x:Sit)(w:World)(b off n:Nat)(cs:t7):Prop:=
 n<=cs.length/\∀j,j<n->∃v,w.cell? ⟨b,off+j,none⟩=some v/\Rep x (cs.getD j .undef) v
theorem ox{b off n:Nat}{cs:t7}{t:TypeId}{E:Bool}(h:Cu x w b off n cs)(hn:fj P t=some n)(B:pR P t=some E)(I:(E||n==1)=true):
 ∃v,(loadVar t ⟨b,off,none⟩).run P w= .ok v w/\Rep x (du E n cs) v:=by
 obtain⟨O,H⟩:=h
 have J:∀j,j<n->w.cell? ((⟨b,off,none⟩:Addr).add j)=some ((w.cell? ⟨b,off+j,none⟩).getD undef):=by intro j L;obtain⟨v,z,_⟩:=H j L;rw[cU,z];rfl
 cases E with
 |true=>
  refine⟨.agg ((bS n).map fun j=>(w.cell? ⟨b,off+j,none⟩).getD undef).toArray, ?_, ?_⟩
  ·simp only[loadVar,aB,fi B,am,if_true,cf hn,run_loadCells w _ n _ J,aF]
  ·simp only[du,if_true]
   refine .agg _ _ (by simp;omega) fun i hi=> ?_
   have hi:i<n/\i<cs.length:=by simp only[aD]at hi;omega
   obtain⟨v,z,F⟩:=H i hi.1;rw[aa,bv,if_pos hi.1,<-aa]
   have:((bS n).map fun j=>(w.cell? ⟨b,off+j,none⟩).getD undef).getD i undef=v:=by rw[aa];simp[hi.1,z]
   rw[this];exact F
 |false=>simp at I;subst I;obtain⟨v,z,F⟩:=H 0 (by omega);refine⟨v, ?_,by simpa[du]using F⟩;rw[fm]at z;simp only[loadVar,aB,fi B,am,aJ,if_false,run_load,z]
theorem eC(z:aM C x s a w){o:Nat}{obj:aC}(h:s.look o=some obj):dA x w o obj:=(z.heap.obs _ (cP h)).1
theorem dA.cell{o:Nat}{obj:aC}(h:dA x w o obj){k:Nat}(E:k<obj.size):∃v,w.cell? ⟨(x.bk o).1,k,none⟩=some v/\bW x obj k v:=by obtain⟨c,e,fl,fh,z,F,B⟩:=h;refine⟨c.getD k undef, ?_,B k E⟩;rw[z.cell,aW,cy (by omega)];rfl
theorem bW.data{obj:aC}(z:∀cs,obj≠ .rc cs){k:Nat}{v:Value}(h:bW x obj k v):Rep x (obj.cell k).data v:=by
 cases obj with
 |rc cs=>exact absurd rfl (z cs)
 |arr B E=>exact cD.rep h
 |bar l=>exact cD.rep h
theorem fY(cs:t7)(j:Nat):(cs.map SV.data).getD j .undef=(cs.getD j .undef).data:=aV _ rfl _ _
theorem ku{α:Type}(cs:List α)(j k:Nat)(d:α):(cs.drop j).getD k d=cs.getD (j+k) d:=by simp[aa,bf]
theorem lq(W:aM C x s a w){u c:SV}{v:Value}{n:Nat}{Z:Bool}{p:Prop}(hu:Rep x u v)(h:iB s n Z u=some (p,c))(J:p):
 ∃b off cs,v= .pointer (some ⟨b,off,none⟩)/\c=du Z n cs/\Cu x w b off n cs:=by
 cases u with
 |pp cs=>simp only[iB,aw.injEq,bn.injEq]at h;obtain⟨rfl,rfl⟩:=h;obtain⟨b,off,val,rfl,hg,hr⟩:=hu.pp_inv;refine⟨b,off,_,rfl,rfl,by simpa using J,fun j S=>⟨val j,W.heap.per _ _ _ (hg j (by omega)), ?_⟩⟩;rw[fY];exact(hr j (by omega)).rep
 |ptr o off=>
  have O:=hu.ptr_inv;simp only[iB]at h;cases hl:s.look o with
  |none=>simp[hl]at h
  |some obj=>
   have B:=eC W hl;cases obj with
   |rc cs=>simp only[hl,aw.injEq,bn.injEq]at h;obtain⟨rfl,rfl⟩:=h;refine⟨_,off,_,O,rfl,by simp;omega,fun j S=> ?_⟩;obtain⟨v,H,E⟩:=B.cell (k:=off+j) (by simp only[aC.size];omega);exact⟨v,H,by rw[ku];exact E⟩
   |arr F L=>
    simp only[hl]at h;split at h
    ·rename_i T;subst T
     simp only[aw.injEq,bn.injEq]at h;obtain⟨rfl,rfl⟩:=h
     have I:L.flatten.length=L.length*F:=by
      have E:=J.2;clear J hl B;induction L with
      |nil=>simp
      |cons y r ih=>simp only[List.flatten_cons,ah,av,dH];rw[ih (fun z hz=>E z (aq _ hz)),E y (by simp)];omega
     refine⟨_,0,_,O,rfl,by rw[aQ];exact J.1,fun j S=> ?_⟩;have Q:j<L.length*F:=by rw[<-I];omega
     obtain⟨v,H,E⟩:=B.cell (k:=j) (by simpa only[aC.size]using Q);refine⟨v,by rw[bC];exact H, ?_⟩;rw[fY,cE L J.2 j Q];exact E.data (by intro cs;simp)
    ·cases h
   |bar l=>
    simp only[hl]at h;split at h
    ·rename_i T;subst T
     simp only[aw.injEq,bn.injEq]at h;obtain⟨rfl,rfl⟩:=h;refine⟨_,0,_,O,rfl,by simpa using J,fun j S=> ?_⟩;obtain⟨v,H,E⟩:=B.cell (k:=j) (by simp only[aC.size];omega);refine⟨v,by rw[bC];exact H, ?_⟩
     have:(l.map SV.u8).getD j .undef= .u8 (l.getD j 0):=by simp only[aa,aR];rw[af (by omega)];rfl
     rw[this];exact E.data (by intro cs;simp)
    ·cases h
 |ap o F i j=>
  have O:=hu.ap_inv;simp only[iB]at h;cases hl:s.look o with
  |none=>simp[hl]at h
  |some obj=>
   have B:=eC W hl;cases obj with
   |rc cs=>simp[hl]at h
   |arr a0 L=>
    simp only[hl,aw.injEq,bn.injEq]at h;obtain⟨rfl,rfl⟩:=h;obtain⟨rfl,hi,S,I⟩:=J;refine⟨_,_,_,O,rfl,by rw[aQ,aE];omega,fun k hk=> ?_⟩
    have U:i*F+(j+k)<L.length*F:=by have:=bB F (Nat.succ_le_of_lt hi);rw[dH]at this;omega
    obtain⟨v,H,E⟩:=B.cell (k:=i*F+(j+k)) (by simpa only[aC.size]using U);refine⟨v,by rw[cH];exact H, ?_⟩;rw[fY,ku];have h3:=E.data (by intro cs;simp);simp only[aC.cell]at h3
    rwa[show(i*F+(j+k))/F=i from by rw[dq,Nat.mul_add_div (by omega),Nat.div_eq_of_lt (by omega)];rfl,
     show(i*F+(j+k)) % F=j+k from by rw[dq,Nat.mul_add_mod,iG (by omega)]]at h3
   |bar l=>
    simp only[hl,aw.injEq,bn.injEq]at h;obtain⟨rfl,rfl⟩:=h;obtain⟨rfl,rfl,rfl,hi⟩:=J;refine⟨_,_,_,O,rfl,by simp,fun k hk=> ?_⟩;obtain rfl:k=0:=by omega
    obtain⟨v,H,E⟩:=B.cell (k:=i) (by simpa only[aC.size]using hi);exact⟨v,by simpa using H,E.data (by intro cs;simp)⟩
 |_=>simp[iB]at h
end Go.Sy
namespace Go.Sy
variable [bc]
variable {P : Program} {C : Ctx} {x : Sit} {s : St} {a : Act} {w : World} {o : Oper} {so : SOp} {p : Prop} {c : SV}
theorem tX(F:aM C x s a w){X:Operand}(h:o.op= .move X\/o.op= .assign X)(H:br P o=some so)(E:val s so=some (p,c)):ce P C o a w (s.put o.dst c):=by
 have z:(bq P o.type X).map SOp.mov=some so:=by rcases h with h|h<;>simpa only[br,h]using H
 obtain⟨r,B,rfl⟩:=ai.1 z;simp only[val,aw.injEq,bn.injEq]at E;obtain⟨_,rfl⟩:=E;exact⟨a.eval X,w,x,.value (a.eval X),by rcases h with h|h<;>simp only[execOp,h]<;>rfl,.inl rfl,F.put o.dst (aK F B)⟩
theorem ED(H:aM C x s a w){t:TypeId}{X:Operand}(I:o.op= .load t X)(h:br P o=some so)(J:val s so=some (p,c))(O:p):ce P C o a w (s.put o.dst c):=by
 simp only[br,I]at h;split at h<;>try (cases h;done)
 rename_i n S r hn E F;split at h<;>try (cases h;done)
 rename_i Q;cases h;simp only[val]at J;obtain⟨b,off,cs,hX,rfl,L⟩:=lq H (aK H F) J O;obtain⟨v,z,B⟩:=ox (P:=P) L hn E Q;refine ce.val H (m:=Instr.loadAt t (a.eval X)) (by simp only[execOp,I]) ?_ B;rw[hX];simp only[Instr.loadAt,Instr.sureAddr,aB,aF,am];exact z
theorem ru(E:aM C x s a w){X:Operand}(B:o.op= .nilCheck X)(I:br P o=some so)(z:val s so=some (p,c)):ce P C o a w (s.put o.dst c):=by
 simp only[br,B]at I;obtain⟨r,F,rfl⟩:=ai.1 I;have h:=aK E F;simp only[val]at z;cases hu:s.ev r with
 |ptr J off=>rw[hu]at z h;simp only[aw.injEq,bn.injEq]at z;obtain⟨_,rfl⟩:=z;exact⟨a.eval X,w,x,.value (a.eval X),by simp only[execOp,B];rw[h.ptr_inv];rfl,.inl rfl,E.put o.dst h⟩
 |ap J O i j=>rw[hu]at z h;simp only[aw.injEq,bn.injEq]at z;obtain⟨_,rfl⟩:=z;exact⟨a.eval X,w,x,.value (a.eval X),by simp only[execOp,B];rw[h.ap_inv];rfl,.inl rfl,E.put o.dst h⟩
 |pp cs=>rw[hu]at z h;simp only[aw.injEq,bn.injEq]at z;obtain⟨_,rfl⟩:=z;obtain⟨b,off,val,H,_⟩:=h.pp_inv;exact⟨a.eval X,w,x,.value (a.eval X),by simp only[execOp,B];rw[H];rfl,.inl rfl,E.put o.dst h⟩
 |fn f c1 c2=>rw[hu]at z h;simp only[aw.injEq,bn.injEq]at z;obtain⟨_,rfl⟩:=z;obtain⟨v1,L,H,_⟩:=h.fn_inv;exact⟨a.eval X,w,x,.value (a.eval X),by simp only[execOp,B];rw[H];rfl,.inl rfl,E.put o.dst h⟩
 |_=>rw[hu]at z;simp at z
theorem CB(H:aM C x s a w){op:BinOp}{t u:TypeId}{X Y:Operand}(ho:o.op= .binOp op t X Y u)(z:br P o=some so)(W:∀B n x y,so≠ .eqS B n x y)(h:val s so=some (p,c))(hp:p):ce P C o a w (s.put o.dst c):=by
 have I:execOp a.eval o=(do pure (.value (<-(do eqGuard op t X Y (a.eval X) (a.eval Y);binOp op t (a.eval X) (a.eval Y):Sem Value)))):=by simp only[execOp,ho]
 simp only[br,ho]at z;split at z<;>try (cases z;done)
 ·rename_i x' y' hb L T
  have Q:=aK H L;have h2:=aK H T
  have E:∀B:Bool,op=(if B then .neq else .eql)->val s (.beq B x' y')=some (p,c)->ce P C o a w (s.put o.dst c):=by
   intro B F h;simp only[val]at h;cases hu:s.ev x' with
   |bool b1=>
    cases hw:s.ev y' with
    |bool J=>
     rw[hu,hw]at h;rw[hu]at Q;rw[hw]at h2;simp only[aw.injEq,bn.injEq]at h;obtain⟨_,rfl⟩:=h;refine ce.val H I (u:= .bool (if B then decide (b1≠J)else decide (b1=J))) ?_ (dw _);rw[Q.bool_inv,h2.bool_inv,show eqGuard op t X Y (.bool b1) (.bool J)=pure ()from by cases op<;>rfl];simp only[aB,aF,am];cases B<;>simp only[aJ,if_false,if_true]at F<;>subst F
     ·rw[run_eql_bool w t b1 J hb];cases b1<;>cases J<;>rfl
     ·rw[run_neq_bool w t b1 J hb];cases b1<;>cases J<;>rfl
    |_=>rw[hu,hw]at h;simp at h
   |_=>rw[hu]at h;simp at h
  split at z<;>try (cases z;done)
  ·cases z;exact E false rfl h
  ·cases z;exact E true rfl h
 case h_4=>
  exfalso;split at z<;>try (cases z;done)
  split at z<;>try (cases z;done)
  split at z<;>first|(cases z;done)|(cases z;exact W _ _ _ _ rfl)
 case h_5=>exfalso;split at z<;>first|(cases z;done)|(cases z;simp[val]at h)
 case h_6=>
  rename_i ms x' _ hd L T;have Q:=aK H L
  have E:∀B:Bool,op=(if B then .neq else .eql)->Y= .const .nilIface->val s (.isni B x')=some (p,c)->ce P C o a w (s.put o.dst c):=by
   intro B F hY h;simp only[val]at h;cases hu:s.ev x' with
   |nili=>
    rw[hu]at h Q;simp only[aw.injEq,bn.injEq]at h;obtain⟨_,rfl⟩:=h;refine ce.val H I (u:= .bool (!B)) ?_ (dw _);have U:a.eval Y= .nilIface:=by rw[hY];rfl
    have Z:P.underlying t=some (.interface (P.methodsAt t)):=by rw[hd];simp[Program.methodsAt,hd]
    rw[Q.nili_inv,U]
    have hg:eqGuard op t X Y .nilIface .nilIface=pure ():=by subst hY;subst F;cases B<;>simp[eqGuard]
    rw[hg];simp only[aB,aF,am];subst F;cases B
    ·simp only[aJ,if_false];rw[run_eql_nil_nil w t Z];rfl
    ·simp only[if_true];rw[run_neq_nil_nil w t Z];rfl
   |_=>rw[hu]at h;simp at h
  split at z<;>first|(cases z;done)|(cases z;exact E false rfl rfl h)|(cases z;exact E true rfl rfl h)
 all_goals
  rename_i L T;cases z;simp only[val]at h;obtain⟨r,O,S⟩:=ON (P:=P) (w:=w) (t:=t) (X:=X) (Y:=Y) (aK H L) (aK H T) h hp;exact ce.val H I O S
theorem EC(E:aM C x s a w){op:UnOp}{t:TypeId}{X:Operand}(B:o.op= .unOp op t X)(J:br P o=some so)(H:val s so=some (p,c)):ce P C o a w (s.put o.dst c):=by
 simp only[br,B]at J;obtain⟨r,F,rfl⟩:=ai.1 J;have z:=aK E F;simp only[val]at H;obtain⟨L,h,I⟩:=ai.1 H;simp only[bn.injEq]at I;obtain⟨_,rfl⟩:=I;cases hu:s.ev r with
 |bool b=>rw[hu]at h z;cases op<;>simp only[vh,aw.injEq,reduceCtorEq]at h;subst h;exact ce.val E (m:=Op.unary .not (a.eval X)) (by simp only[execOp,B]) (by rw[z.bool_inv];rfl) (dw _)
 |int k n=>
  rw[hu]at h z;cases op<;>simp only[vh,aw.injEq,reduceCtorEq]at h<;>subst h
  ·exact ce.val E (m:=Op.unary .neg (a.eval X)) (by simp only[execOp,B]) (by rw[z.int_inv];rfl) (cI _ _)
  ·exact ce.val E (m:=Op.unary .xor (a.eval X)) (by simp only[execOp,B]) (by rw[z.int_inv];simp only[Op.unary,Op.intBits];rfl) (cI _ _)
 |_=>rw[hu]at h;simp[vh]at h
theorem rx(L:aM C x s a w){f:Go.Fn}{X Y:Array Operand}(H:o.op= .makeFunc f X Y)(B:br P o=some so)(J:val s so=some (p,c)):ce P C o a w (s.put o.dst c):=by
 cases f<;>simp only[br,H,reduceCtorEq]at B;rename_i g;split at B<;>try (cases B;done)
 rename_i Z W S Q;cases B;simp only[val,aw.injEq,bn.injEq]at J;obtain⟨_,rfl⟩:=J
 have z:∀(l:List Operand)(r:List Arg),jr (bq P 0) l=some r->cr x (r.map s.ev) (l.map a.eval):=by
  intro l;induction l with
  |nil=>intro r h;simp only[jr]at h;cases h;exact⟨rfl,fun i hi=>by simp at hi⟩
  |cons q l T=>
   intro r h;simp only[jr]at h;split at h<;>try (cases h;done)
   rename_i b r' U E;cases h;have O:=T _ E;refine⟨by simpa using O.1,fun i hi=> ?_⟩;cases i with
   |zero=>simpa using aK L U
   |succ i=>simpa using O.2 i (by simpa using hi)
 have F:=z _ _ S;have I:=z _ _ Q;refine ce.val L (m:=Instr.makeFunc (.func g) (X.map a.eval) (Y.map a.eval)) (u:= .func (.func g) ⟨X.toList.map a.eval⟩ ⟨Y.toList.map a.eval⟩) (by simp only[execOp,H]) ?_ ?_
 ·simp only[Instr.makeFunc,aF]
  congr 2<;>(apply dL;simp)
 ·exact .fn g _ _ _ _ F.1 F.2 I.1 I.2
theorem tJ(J:aM C x s a w){X:Operand}{i:Nat}(E:o.op= .extract X i)(I:br P o=some so)(z:val s so=some (p,c))(H:p):ce P C o a w (s.put o.dst c):=by
 simp only[br,E]at I;obtain⟨r,B,rfl⟩:=ai.1 I;have h:=aK J B;simp only[val]at z;cases hu:s.ev r with
 |tup vs=>
  rw[hu]at z h;simp only[aw.injEq,bn.injEq]at z;obtain⟨rfl,rfl⟩:=z;obtain⟨us,L,F⟩:=h.tup_inv;have hi:i<us.length:=by rw[<-F.1];exact H
  refine ce.val J (m:=Instr.extract (a.eval X) i) (u:=us.getD i undef) (by simp only[execOp,E]) ?_ (F.2 i H);rw[L];simp[Instr.extract,hi,aa]
 |_=>rw[hu]at z;simp at z
theorem pE(F:aM C x s a w){t:TypeId}{X:Operand}{i:Nat}(E:o.op= .fieldAddr t X i)(B:br P o=some so)(z:val s so=some (p,c)):ce P C o a w (s.put o.dst c):=by
 simp only[br,E]at B;split at B<;>try (cases B;done)
 rename_i Z r H I;split at B<;>try (cases B;done)
 rename_i f Q;split at B<;>try (cases B;done)
 rename_i n hn;split at B
 ·cases B
 rename_i hn0;cases B;have h:=aK F I
 have run:∀b off,a.eval X= .pointer (some ⟨b,off,none⟩)->(Instr.fieldAt t (a.eval X) i).run P w= .ok (.pointer (some ⟨b,off+f.offset,none⟩)) w:=by intro b off J;rw[J];simp only[Instr.fieldAt,aB,run_underlying H,am,Q,Instr.sureAddr,aF,fieldPlace,cf hn,if_neg hn0,cU]
 simp only[val]at z;cases hu:s.ev r with
 |ptr L off=>rw[hu]at z h;simp only[aw.injEq,bn.injEq]at z;obtain⟨_,rfl⟩:=z;exact ce.val F (by simp only[execOp,E]) (run _ _ h.ptr_inv) (.ptr L (off+f.offset))
 |ap L S i j=>rw[hu]at z h;simp only[aw.injEq,bn.injEq]at z;obtain⟨_,rfl⟩:=z;refine ce.val F (by simp only[execOp,E]) (run _ _ h.ap_inv) ?_;rw[cH];exact .ap L S i (j+f.offset)
 |pp cs=>
  rw[hu]at z h;simp only[aw.injEq,bn.injEq]at z;obtain⟨_,rfl⟩:=z;obtain⟨b,off,W,J,U,T⟩:=h.pp_inv;refine ce.val F (by simp only[execOp,E]) (run _ _ J) (.dat _ _ (.pp _ b (off+f.offset) (fun j=>W (f.offset+j)) ?_ ?_) trivial)
  ·intro j O;rw[cH];exact U _ (by simp only[aE]at O;omega)
  ·intro j O;rw[ku];exact T _ (by simp only[aE]at O;omega)
 |_=>rw[hu]at z;simp at z
theorem up{cs:t7}{vs:LAb}(h:cr x cs vs){t:TypeId}{n:Nat}{B:Bool}{off:Nat}(hn:fj P t=some n)(z:pR P t=some B)(E:(B||n==1)=true)(H:off+n<=cs.length):
 ∃v,(part t ⟨vs⟩ off).run P w= .ok v w/\Rep x (du B n (cs.drop off)) v:=by
 have F:=h.1;cases B with
 |true=>
  refine⟨.agg ⟨(vs.drop off).take n⟩, ?_, ?_⟩
  ·simp only[part,aB,fi z,am,if_true,cf hn,aF]
   congr 2
   apply dL;simp
  ·simp only[du,if_true]
   refine .agg _ _ (by simp;omega) fun i hi=> ?_
   have hi:i<n:=by simp only[aD]at hi;omega
   have:=h.get (off+i);simp only[aa,bv,if_pos hi,bf]at this ⊢;exact this
 |false=>
  simp at E;subst E;refine⟨vs.getD off undef, ?_, ?_⟩
  ·simp only[part,aB,fi z,am,aJ,if_false]
   have:off<vs.length:=by omega
   simp[af this,aa]
  ·simp only[du,aJ,if_false,ku,fm]
   exact h.get off
theorem Cz(L:aM C x s a w){t:TypeId}{X:Operand}{i:Nat}(J:o.op= .field t X i)(h:br P o=some so)(B:val s so=some (p,c))(T:p):ce P C o a w (s.put o.dst c):=by
 simp only[br,J]at h;split at h<;>try (cases h;done)
 rename_i fs r H I;split at h<;>try (cases h;done)
 rename_i f S;split at h<;>try (cases h;done)
 rename_i n Z hn F;split at h<;>try (cases h;done)
 rename_i U;cases h;have z:=aK L I;simp only[val]at B;cases hu:s.ev r with
 |agg cs=>rw[hu]at B z;simp only[aw.injEq,bn.injEq]at B;obtain⟨rfl,rfl⟩:=B;obtain⟨vs,W,O⟩:=z.agg_inv;obtain⟨v,E,Q⟩:=up (P:=P) (w:=w) O hn F U T;refine ce.val L (m:=Instr.field t (a.eval X) i) (by simp only[execOp,J]) ?_ Q;rw[W];simp only[Instr.field,aB,run_underlying H,am,S,asAgg,aF];exact E
 |_=>rw[hu]at B;simp at B
theorem Gv{l:t6}{t:Tok}{v:Value}(h:cD x.G (.byt l t) v)(i:Nat)(hi:i<l.length):∃b off cap,v= .slice (some ⟨b,off,none⟩) l.length cap/\x.G b (off+i)=some (.int .u8 (l.getD i 0).toNat):=by
 cases h with
 |bytN=>simp at hi
 |bytE=>simp at hi
 |byt _ _ b off cap n hn z h=>subst hn;exact⟨b,off,cap,rfl,h i hi⟩
theorem iL{u:SV}{v:Value}{n:Int}(h:Rep x u v)(hn:u.num=some n):∃k,v= .int k n:=by
 cases u<;>simp only[SV.num,aw.injEq,reduceCtorEq]at hn
 ·subst hn;exact⟨_,h.int_inv⟩
 ·subst hn;exact⟨_,h.u8_inv⟩
theorem pD(J:aM C x s a w){t:TypeId}{X Y:Operand}(ho:o.op= .indexAddr t X Y)(O:br P o=some so)(h:val s so=some (p,c))(S:p):ce P C o a w (s.put o.dst c):=by
 have B:execOp a.eval o=(do pure (.value (<-Instr.indexAt t (a.eval X) (a.eval Y)))):=by simp only[execOp,ho]
 simp only[br,ho]at O;split at O<;>try (cases O;done)
 ·rename_i e r q hd W T
  split at O<;>try (cases O;done)
  rename_i n hn;cases O;have F:=aK J W;have h2:=aK J T
  have run:∀(b:Nat)(off len cap:Nat)(k:IntKind)(i:Int),a.eval X= .slice (some ⟨b,off,none⟩) len cap->a.eval Y= .int k i->0<=i->i<len->(Instr.indexAt t (a.eval X) (a.eval Y)).run P w= .ok (.pointer (some ⟨b,off+i.toNat*n,none⟩)) w:=by intro b off len cap k i Z hf E H;rw[Z,hf];simp only[Instr.indexAt,asIntOf,aB,aF,am,run_underlying hd,if_pos (And.intro E H),cf hn,cU]
  simp only[val]at h;split at h<;>try (cases h;done)
  ·rename_i l tk i hu L
   rw[hu]at F;obtain⟨k,I⟩:=iL h2 L;simp only[aw.injEq,bn.injEq]at h;obtain⟨rfl,rfl⟩:=h;obtain⟨E,H,rfl⟩:=S;obtain⟨b,off,cap,Z,hg⟩:=Gv (F.data rfl) i.toNat (by omega);refine ce.val J B (run b off l.length cap k i Z I E H) (.dat _ _ (.pp _ b (off+i.toNat*1) (fun _=> .int .u8 (l.getD i.toNat 0).toNat) ?_ ?_) trivial)
   ·intro j Q
    obtain rfl:j=0:=by simpa using Q
    simpa using hg
   ·intro j Q
    obtain rfl:j=0:=by simpa using Q
    exact .u8 _
  ·rename_i a2 xs tk i hu L
   rw[hu]at F;obtain⟨k,I⟩:=iL h2 L;simp only[aw.injEq,bn.injEq]at h;obtain⟨rfl,rfl⟩:=h;obtain⟨E,H,rfl⟩:=S;have z:=F.data rfl;cases hXv:a.eval X with
   |slice ad len cap=>
    rw[hXv]at z;cases z with
    |lstN=>simp at H;omega
    |lstE=>simp at H;omega
    |lst _ _ _ b off a4 n' vl a5 hc hl hg hh=>
     have U:i.toNat<len:=by omega
     have a3:=hl _ U;refine ce.val J B (run b off len cap k i hXv I E (by omega)) (.dat _ _ (.pp _ b (off+i.toNat*n) (fun j=>vl i.toNat j) ?_ ?_) trivial)
     ·intro j Q;exact hg _ _ U (by omega)
     ·intro j Q;exact hh _ _ U (by omega)
   |_=>rw[hXv]at z;cases z
  ·rename_i o' a2 off kk cp i hu L
   rw[hu]at F;obtain⟨k,I⟩:=iL h2 L;simp only[aw.injEq,bn.injEq]at h;obtain⟨rfl,rfl⟩:=h;obtain⟨E,H,rfl⟩:=S;obtain⟨cp,a6,_,a1,Z,a0⟩:=F.psl_inv;refine ce.val J B (run _ a1 kk _ k i Z I E H) ?_;rcases a0 with h'|rfl
   ·omega
   ·rw[<-bD]
    exact .ap o' n (off+i.toNat) 0
 ·rename_i kk e r q hd W T
  split at O<;>try (cases O;done)
  rename_i n hn;cases O;have F:=aK J W;have h2:=aK J T
  have run:∀(b:Nat)(off:Nat)(k:IntKind)(i:Int),a.eval X= .pointer (some ⟨b,off,none⟩)->a.eval Y= .int k i->0<=i->i<kk->(Instr.indexAt t (a.eval X) (a.eval Y)).run P w= .ok (.pointer (some ⟨b,off+i.toNat*n,none⟩)) w:=by intro b off k i Z hf E H;rw[Z,hf];simp only[Instr.indexAt,asIntOf,Instr.sureAddr,aB,aF,am,run_underlying hd,if_pos (And.intro E H),cf hn,cU]
  simp only[val]at h;split at h<;>try (cases h;done)
  ·rename_i o' off i hu L
   rw[hu]at F;obtain⟨k,I⟩:=iL h2 L;split at h<;>try (cases h;done)
   ·simp only[aw.injEq,bn.injEq]at h;obtain⟨rfl,rfl⟩:=h
    exact ce.val J B (run _ off k i F.ptr_inv I S.1 S.2) (.ptr o' _)
   ·split at h<;>try (cases h;done)
    rename_i E;subst E;simp only[aw.injEq,bn.injEq]at h;obtain⟨rfl,rfl⟩:=h;refine ce.val J B (run _ 0 k i F.ptr_inv I S.1 S.2) ?_;rw[bC];exact .ap o' n i.toNat 0
  ·rename_i cs i hu L
   rw[hu]at F;obtain⟨k,I⟩:=iL h2 L;simp only[aw.injEq,bn.injEq]at h;obtain⟨rfl,rfl⟩:=h;obtain⟨E,H,h4⟩:=S;have z:=F.data rfl;cases hXv:a.eval X with
   |pointer ad=>
    rw[hXv]at z;cases z with
    |pp _ b off vl hg hh=>
     refine ce.val J B (run b off k i hXv I E H) (.dat _ _ (.pp _ b (off+i.toNat*n) (fun j=>vl (i.toNat*n+j)) ?_ ?_) trivial)
     ·intro j Q
      rw[aE]at Q;rw[cH];exact hg _ (by omega)
     ·intro j Q
      rw[aE]at Q;have:=hh (i.toNat*n+j) (by omega);simp only[aa,bf]at this ⊢;exact this
   |_=>rw[hXv]at z;cases z
theorem Cy(H:aM C x s a w){t:TypeId}{X Y:Operand}(ho:o.op= .index t X Y)(B:br P o=some so)(h:val s so=some (p,c))(Z:p):ce P C o a w (s.put o.dst c):=by
 have I:execOp a.eval o=(do pure (.value (<-Instr.index t (a.eval X) (a.eval Y)))):=by simp only[execOp,ho]
 simp only[br,ho]at B;split at B<;>try (cases B;done)
 ·rename_i kk e r q hd F E
  split at B<;>try (cases B;done)
  rename_i n ag hn U;split at B<;>try (cases B;done)
  rename_i T;cases B;have L:=aK H F;have W:=aK H E;simp only[val]at h;split at h<;>try (cases h;done)
  rename_i cs i hu S;rw[hu]at L;obtain⟨k,Q⟩:=iL W S;simp only[aw.injEq,bn.injEq]at h;obtain⟨rfl,rfl⟩:=h;obtain⟨h0,h3,h4⟩:=Z;obtain⟨vs,he,hl⟩:=L.agg_inv;have z:i.toNat<kk:=by omega
  have hb:i.toNat*n+n<=cs.length:=by rw[h4];have:=bB n (Nat.succ_le_of_lt z);rw[dH]at this;exact this
  obtain⟨v,O,hc⟩:=up (P:=P) (w:=w) hl hn U T hb;refine ce.val H I ?_ hc;rw[he,Q];simp only[Instr.index,asIntOf,aB,aF,am,run_underlying hd,if_pos (And.intro h0 h3),cf hn];exact O
 ·rename_i r q hd F E
  cases B;have L:=aK H F;have W:=aK H E;simp only[val]at h;split at h<;>try (cases h;done)
  rename_i l i hu S;rw[hu]at L;obtain⟨k,Q⟩:=iL W S;simp only[aw.injEq,bn.injEq]at h;obtain⟨rfl,rfl⟩:=h;refine ce.val H I (u:= .int .u8 (l.getD i.toNat 0).toNat) ?_ (nB _);rw[L.str_inv,Q];have z:i.toNat<l.length:=by omega
  have J:(ByteArray.mk ⟨l⟩)[i.toNat]? =some (l.getD i.toNat 0):=by rw[ByteArray.getElem?_lt' _ _ (by simpa[ByteArray.size]using z),aa,af z];rfl
  simp only[Instr.index,asIntOf,aB,aF,am,run_underlying hd,if_pos Z.1,J]
end Go.Sy
namespace Go.Sy
variable [bc]
variable {P : Program} {C : Ctx} {x : Sit} {s : St} {a : Act} {w : World} {o : Oper} {so : SOp} {p : Prop} {c : SV}
theorem jD{k:IntKind}{i:Int}{y:Nat}{code:BoundsCode}(z:0<=i)(h:i<=y):(Instr.sliceBound (.int k i) y code).run P w= .ok i.toNat w:=by simp only[Instr.sliceBound,asIntOf,aB,aF,am,if_pos (And.intro z h)]
theorem rJ{b:Bool}{len cp:Nat}{lo hi E:Option Value}{i j m:Int}(z:0<=i)(H:i<=j)(J:j<=m)(I:m<=cp)
 (F:lo=none/\i=0\/∃k,lo=some (.int k i)) (h:hi=none/\j=len\/∃k,hi=some (.int k j)) (B:E=none/\m=cp\/(∃k,E=some (.int k m))/\hi≠none):
 (Instr.sliceBounds b len cp lo hi E).run P w= .ok (i.toNat,j.toNat,m.toNat) w:=by
 rcases B with⟨rfl,rfl⟩|⟨⟨k,rfl⟩,hne⟩<;>rcases h with⟨rfl,rfl⟩|⟨k',rfl⟩<;>rcases F with⟨rfl,rfl⟩|⟨k'',rfl⟩
 all_goals try exact absurd rfl hne
 all_goals simp only[Instr.sliceBounds,aB,aF,am]
 ·simp
 ·rw[jD z (by omega)];simp
 ·rw[jD (by omega) (by omega)];simp
 ·rw[jD (by omega) (by omega)];simp only[am];rw[jD z (by omega)];simp
 ·rw[jD (by omega) (by omega)];simp only[am];rw[jD (by omega) (by omega)];simp
 ·rw[jD (by omega) (by omega)];simp only[am];rw[jD (by omega) (by omega)];simp only[am];rw[jD z (by omega)];simp
theorem fC(F:aM C x s a w){q:Option Operand}{r:Option Arg}{d i:Int}(z:ut (bq P 0) q=some r)(h:iA s r d=some i):
 q.map a.eval=none/\i=d/\r=none\/(∃k,q.map a.eval=some (.int k i))/\r≠none:=by
 cases q with
 |none=>simp only[ut]at z;cases z;simp only[iA,aw.injEq]at h;exact .inl ⟨rfl,h.symm,rfl⟩
 |some q=>simp only[ut]at z;obtain⟨H,B,rfl⟩:=ai.1 z;simp only[iA]at h;obtain⟨k,E⟩:=iL (aK F B) h;exact .inr ⟨⟨k,by simp[E]⟩,by simp⟩
theorem ud{I:Nat}{h:Option Addr}{n cp:Nat}{i j m:Int}(h1:0<=i)(W:i<=j)(h3:j<=m)(Z:m<=cp)(U:j<=n){t:Tok}{hn B:Bool}
 (H:df x I t (.slice h n cp)) (z:hn=true->B=false->j=n/\m=cp) (E:B=true->j=m):
 df x I (lA t hn B) (.slice (if m.toNat=i.toNat then h else h.map (·.add (i.toNat*I))) (j.toNat-i.toNat) (m.toNat-i.toNat)):=by
 unfold lA;split
 ·rename_i L
  exact⟨_,j.toNat-i.toNat,by rw[E L]⟩
 ·rename_i L
  split
  ·rename_i O
   obtain⟨rfl,rfl⟩:=z O (by simpa using L);cases t with
   |no=>trivial
   |clip=>obtain⟨Q,S,F⟩:=H;simp only[Value.slice.injEq]at F;exact⟨_,_,by rw[F.2.1,F.2.2]⟩
   |id t=>
    obtain⟨Q,S,T,F,O⟩:=H;simp only[Value.slice.injEq]at F;obtain⟨rfl,rfl,rfl⟩:=F;refine⟨_,_,_,rfl, ?_⟩;rcases O with rfl|⟨bb,off,rfl,ht⟩
    ·exact .inl rfl
    ·by_cases J:cp=i.toNat
     ·left;omega
     ·right
      refine⟨bb,off+i.toNat*I,by simp[J,cU], ?_⟩;rw[ht];simp only[gP,bn.injEq,true_and];constructor
      ·rw[cH,<-bD];congr 2;omega
      ·rw[cH,<-bD];congr 2;omega
  ·trivial
theorem gQ{α:Type}(l:List α)(i j k:Nat)(d:α)(h:k+i<j):((l.take j).drop i).getD k d=l.getD (i+k) d:=by simp only[aa,bf,bv];rw[if_pos (by omega)]
theorem tM(hM:aM C x s a w){t e:TypeId}{n:Nat}(hd:P.underlying t=some (.slice e))(hn:fj P e=some n){X:Operand}{lo hi mx:Option Operand}{a5 W z:Option Arg}{r:Arg}
 (h1:Rep x (s.ev r) (a.eval X)) (c3:ut (bq P 0) lo=some a5) (b2:ut (bq P 0) hi=some W) (a6:ut (bq P 0) mx=some z) (a8:¬(z.isSome&&W.isNone)=true)
 (H:jl s n (s.ev r) a5 W z=some (p,c)) (hp:p):∃v,(Instr.sliceAt t (a.eval X) (lo.map a.eval) (hi.map a.eval) (mx.map a.eval)).run P w= .ok v w/\Rep x c v:=by
 have run:∀(F:Option Addr)(len cp:Nat)(i j m:Int),a.eval X= .slice F len cp->0<=i->i<=j->j<=m->m<=cp->iA s a5 0=some i->iA s W len=some j->
  (z=none->m=cp)->(z≠none->iA s z cp=some m)->
  (Instr.sliceAt t (a.eval X) (lo.map a.eval) (hi.map a.eval) (mx.map a.eval)).run P w= .ok (.slice (if m.toNat=i.toNat then F else F.map (·.add (i.toNat*n))) (j.toNat-i.toNat) (m.toNat-i.toNat)) w:=by
  intro F len cp i j m he h0 h2 h3 h4 L E a7 b5;rw[he];have e1:=fC hM c3 L;have e2:=fC hM b2 E
  have hb:(Instr.sliceBounds true len cp (lo.map a.eval) (hi.map a.eval) (mx.map a.eval)).run P w= .ok (i.toNat,j.toNat,m.toNat) w:=by
   refine rJ h0 h2 h3 h4 ?_ ?_ ?_
   ·rcases e1 with⟨I,q2,_⟩|⟨I,_⟩
    ·exact .inl ⟨I,q2⟩
    ·exact .inr I
   ·rcases e2 with⟨I,q2,_⟩|⟨I,_⟩
    ·exact .inl ⟨I,q2⟩
    ·exact .inr I
   ·by_cases B:z=none
    ·subst B
     have:iA s none (cp:Int)=some (cp:Int):=rfl;rcases fC hM a6 this with⟨I,q2,_⟩|⟨_,q2⟩
     ·exact .inl ⟨I,a7 rfl⟩
     ·exact absurd rfl q2
    ·rcases fC hM a6 (b5 B)with⟨_,_,q⟩|⟨I,_⟩
     ·exact absurd q B
     ·refine .inr ⟨I, ?_⟩
      rcases e2 with⟨I,_,q3⟩|⟨⟨k,I⟩,_⟩
      ·exfalso;apply a8;subst q3;cases z with
       |none=>exact absurd rfl B
       |some _=>rfl
      ·rw[I];simp
  simp only[Instr.sliceAt,Instr.slice,aB,run_underlying hd,am,hb,cf hn,aF]
 cases hu:s.ev r with
 |byt l tk=>
  rw[hu]at H h1;simp only[jl]at H;split at H<;>try (cases H;done)
  rename_i i j m L E a0;simp only[aw.injEq,bn.injEq]at H;obtain⟨rfl,rfl⟩:=H;obtain⟨q0,I,q2,q3,rfl,q4⟩:=hp;obtain⟨F,cp,he,hc,hD,a3⟩:=h1.byt_inv;rw[he]at hD a3
  obtain⟨O,T,S,Z,U⟩:∃O:Int,O<=cp/\j<=O/\(z=none->O=cp)/\(z≠none->O=m):=by
   by_cases B:z=none
   ·exact⟨cp,by omega,by omega,fun _=>rfl,fun h=>absurd B h⟩
   ·exact⟨m,by omega,q2,fun h=>absurd h B,fun _=>rfl⟩
  refine⟨_,run F l.length cp i j O he q0 I S T L E Z (fun h=> ?_), ?_⟩
  ·rw[U h];cases z with
   |none=>exact absurd rfl h
   |some q=>simpa only[iA]using a0
  ·refine .dat _ _ ?_ ?_
   ·have Q:((l.take j.toNat).drop i.toNat).length=j.toNat-i.toNat:=by rw[aE,aD,gK (by omega)]
    cases hD with
    |bytN=>
     have:i.toNat=0/\j.toNat=0/\O.toNat=0:=by simp at q3;omega
     obtain⟨z1,z2,z3⟩:=this;simp only[z1,z2,z3,List.take_nil,List.drop_nil,Option.map_none,ite_self];exact .bytN _
    |bytE _ ad=>
     have:i.toNat=0/\j.toNat=0/\O.toNat=0:=by simp at q3;omega
     obtain⟨z1,z2,z3⟩:=this;simp only[z1,z2,z3,List.take_nil,List.drop_nil,if_true];exact .bytE _ _
    |byt _ _ b off _ _ a9 b3 hg=>
     by_cases J:O.toNat=i.toNat
     ·rw[if_pos J]
      exact .byt _ _ b off _ _ Q.symm (by omega) (fun k hk=>by omega)
     ·rw[if_neg J,bm,cU]
      refine .byt _ _ b (off+i.toNat*1) _ _ Q.symm (by omega) (fun k hk=> ?_);rw[gQ _ _ _ _ _ (by omega),iF,cH];exact hg _ (by omega)
   ·refine ud q0 I S T (by omega) a3 ?_ ?_
    ·intro hh hx
     have B:z=none:=by cases z with|none=>rfl|some _=>simp at hx
     have a4:W=none:=by cases W with|none=>rfl|some _=>simp at hh
     subst a4;simp only[iA,aw.injEq]at E;exact⟨E.symm,Z B⟩
    ·intro hx
     have B:z≠none:=by rintro rfl;simp at hx
     rw[U B];exact q4 hx
 |lst b4 l tk=>
  rw[hu]at H h1;simp only[jl]at H;split at H<;>try (cases H;done)
  rename_i i j m L E a0;simp only[aw.injEq,bn.injEq]at H;obtain⟨rfl,rfl⟩:=H;obtain⟨q0,I,q2,q3,rfl,q4⟩:=hp;obtain⟨F,cp,he,hc,hD,a3⟩:=h1.lst_inv;rw[he]at hD a3
  obtain⟨O,T,S,Z,U⟩:∃O:Int,O<=cp/\j<=O/\(z=none->O=cp)/\(z≠none->O=m):=by
   by_cases B:z=none
   ·exact⟨cp,by omega,by omega,fun _=>rfl,fun h=>absurd B h⟩
   ·exact⟨m,by omega,q2,fun h=>absurd h B,fun _=>rfl⟩
  refine⟨_,run F l.length cp i j O he q0 I S T L E Z (fun h=> ?_), ?_⟩
  ·rw[U h];cases z with
   |none=>exact absurd rfl h
   |some q=>simpa only[iA]using a0
  ·refine .dat _ _ ?_ ?_
   ·have Q:((l.take j.toNat).drop i.toNat).length=j.toNat-i.toNat:=by rw[aE,aD,gK (by omega)]
    cases hD with
    |lstN=>
     have:i.toNat=0/\j.toNat=0/\O.toNat=0:=by simp at q3;omega
     obtain⟨z1,z2,z3⟩:=this;simp only[z1,z2,z3,List.take_nil,List.drop_nil,Option.map_none,ite_self];exact .lstN _ _
    |lstE _ _ ad=>
     have:i.toNat=0/\j.toNat=0/\O.toNat=0:=by simp at q3;omega
     obtain⟨z1,z2,z3⟩:=this;simp only[z1,z2,z3,List.take_nil,List.drop_nil,if_true];exact .lstE _ _ _
    |lst _ _ _ b off _ _ vl a9 b3 hl hg hh=>
     by_cases J:O.toNat=i.toNat
     ·rw[if_pos J]
      exact .lst _ _ _ b off _ _ vl Q.symm (by omega) (fun k hk=>by omega) (fun k j' hk hj=>by omega) (fun k j' hk hj=>by omega)
     ·rw[if_neg J,bm,cU]
      refine .lst _ _ _ b (off+i.toNat*n) _ _ (fun k j'=>vl (i.toNat+k) j') Q.symm (by omega) (fun k hk=> ?_) (fun k j' hk hj=> ?_) (fun k j' hk hj=> ?_)
      ·rw[gQ _ _ _ _ _ (by omega)];exact hl _ (by omega)
      ·rw[show off+i.toNat*n+k*n+j'=off+(i.toNat+k)*n+j' from by rw[bD];omega]
       exact hg _ _ (by omega) hj
      ·rw[gQ _ _ _ _ _ (by omega)];exact hh _ _ (by omega) hj
   ·refine ud q0 I S T (by omega) a3 ?_ ?_
    ·intro hh hx
     have B:z=none:=by cases z with|none=>rfl|some _=>simp at hx
     have a4:W=none:=by cases W with|none=>rfl|some _=>simp at hh
     subst a4;simp only[iA,aw.injEq]at E;exact⟨E.symm,Z B⟩
    ·intro hx
     have B:z≠none:=by rintro rfl;simp at hx
     rw[U B];exact q4 hx
 |psl o' b4 off k b8=>
  cases b8 with
  |none=>
   rw[hu]at H h1;simp only[jl]at H;split at H<;>try (cases H;done)
   rename_i i j L E;simp only[aw.injEq,bn.injEq]at H;obtain⟨rfl,rfl⟩:=H;obtain⟨q0,I,q2,rfl⟩:=hp;obtain⟨cp,b6,a2,he,a1,b7⟩:=h1.psl_invK;refine⟨_,run _ k cp i j cp he q0 I (by omega) (by omega) L E (fun _=>rfl) (fun h=>absurd rfl h), ?_⟩
   by_cases J:(cp:Int).toNat=i.toNat
   ·rw[if_pos J]
    exact .psl o' n _ _ _ a2 _ (.inl (by omega)) (by omega) (fun _ e=>by cases e) (fun _=> .inl (by omega))
   ·rw[if_neg J,bm,cU]
    refine .psl o' n _ _ _ _ _ (.inr ?_) (by omega) (fun _ e=>by cases e) (fun _=>b7.imp (fun h=>by omega) fun k1=> ?_)
    rotate_left
    ·have e2:i.toNat*n+((cp:Int).toNat-i.toNat)*n=cp*n:=by rw[<-bD];congr 1;omega
     omega
    rcases a1 with h'|rfl
    ·omega
    ·rw[bD]
  |some c4=>
   rw[hu]at H h1;simp only[jl]at H;split at H<;>try (cases H;done)
   rename_i i j m L E a0;simp only[aw.injEq,bn.injEq]at H;obtain⟨rfl,rfl⟩:=H;obtain⟨q0,I,q2,q3,rfl⟩:=hp;obtain⟨cp,b6,c6,a2,he,a1⟩:=h1.psl_inv;obtain rfl:=c6 _ rfl;refine⟨_,run _ k c4 i j m he q0 I q2 q3 L E (fun h=> ?_) (fun _=>a0), ?_⟩
   ·subst h;simp only[iA,aw.injEq]at a0;exact a0.symm
   ·by_cases J:m.toNat=i.toNat
    ·rw[if_pos J]
     exact .psl o' n _ _ _ a2 _ (.inl (by omega)) (by omega) (fun _ e=>by cases e;rfl) (fun e=>by cases e)
    ·rw[if_neg J,bm,cU]
     refine .psl o' n _ _ _ _ _ (.inr ?_) (by omega) (fun _ e=>by cases e;rfl) (fun e=>by cases e);rcases a1 with h'|rfl
     ·omega
     ·rw[bD]
 |_=>rw[hu]at H;simp[jl]at H
end Go.Sy
namespace Go.Sy
variable [bc]
variable {P : Program} {C : Ctx} {x : Sit} {s : St} {a : Act} {w : World} {o : Oper} {so : SOp} {p : Prop} {c : SV}
theorem zb(l:t6)(i j:Nat):(ByteArray.mk ⟨l⟩).extract i j=ByteArray.mk ⟨(l.take j).drop i⟩:=by apply ByteArray.ext;simp[ByteArray.data_extract,List.extract_eq_take_drop,List.drop_take]
theorem Cx(E:aM C x s a w){t:TypeId}{X:Operand}{lo hi T:Option Operand}(ho:o.op= .slice t X lo hi T)(B:br P o=some so)(z:val s so=some (p,c))(hp:p):ce P C o a w (s.put o.dst c):=by
 have H:execOp a.eval o=(do pure (.value (<-Instr.sliceAt t (a.eval X) (lo.map a.eval) (hi.map a.eval) (T.map a.eval)))):=by simp only[execOp,ho]
 simp only[br,ho]at B;split at B<;>try (cases B;done)
 rename_i a5 a4 a3 r J L F hX;split at B
 ·cases B
 rename_i Q;split at B<;>try (cases B;done)
 ·rename_i hd
  split at B<;>try (cases B;done)
  rename_i a0;cases B;have S:=aK E hX;simp only[val]at z;cases hu:s.ev r with
  |str l=>
   rw[hu]at z S;simp only[]at z;split at z<;>try (cases z;done)
   rename_i i j I O;simp only[aw.injEq,bn.injEq]at z;obtain⟨rfl,rfl⟩:=z;obtain⟨q0,q1,q2⟩:=hp;refine ce.val E H (u:= .string ⟨⟨(l.take j.toNat).drop i.toNat⟩⟩) ?_ (kL _);have e1:=fC E J I;have e2:=fC E L O
   have Z:T.map a.eval=none:=by
    cases T with
    |none=>rfl
    |some q=>simp only[ut]at F;obtain⟨_,_,rfl⟩:=ai.1 F;simp at a0
   have hb:(Instr.sliceBounds false l.length l.length (lo.map a.eval) (hi.map a.eval) none).run P w= .ok (i.toNat,j.toNat,(l.length:Int).toNat) w:=
    rJ q0 q1 q2 (by omega) (e1.imp (fun h=>⟨h.1,h.2.1⟩) (fun h=>h.1)) (e2.imp (fun h=>⟨h.1,h.2.1⟩) (fun h=>h.1)) (.inl ⟨rfl,rfl⟩)
   rw[S.str_inv,Z];have a1:(ByteArray.mk ⟨l⟩).size=l.length:=by simp[ByteArray.size]
   simp only[Instr.sliceAt,Instr.slice,aB,run_underlying hd,am,a1,hb,zb,Option.isSome_none,aJ,if_false,aF]
  |_=>rw[hu]at z;simp at z
 ·rename_i e hd
  split at B<;>try (cases B;done)
  rename_i n hn;cases B;simp only[val]at z;obtain⟨v,U,hc⟩:=tM E hd hn (aK E hX) J L F Q z hp;exact ce.val E H U hc
 ·rename_i k e hd
  split at B<;>try (cases B;done)
  rename_i n hn;cases B;have S:=aK E hX;simp only[val]at z;split at z<;>try (cases z;done)
  rename_i o' hu;rw[hu]at S;simp only[jl]at z;split at z<;>try (cases z;done)
  rename_i i j m I O a2;simp only[aw.injEq,bn.injEq]at z;obtain⟨rfl,rfl⟩:=z;obtain⟨q0,q1,q2,q3,_⟩:=hp;have e1:=fC E J I;have e2:=fC E L O;have e3:=fC E F a2
  have hb:(Instr.sliceBounds false k k (lo.map a.eval) (hi.map a.eval) (T.map a.eval)).run P w= .ok (i.toNat,j.toNat,m.toNat) w:=by
   refine rJ q0 q1 q2 q3 (e1.imp (fun h=>⟨h.1,h.2.1⟩) (fun h=>h.1)) (e2.imp (fun h=>⟨h.1,h.2.1⟩) (fun h=>h.1)) ?_;rcases e3 with h|⟨h,h'⟩
   ·exact .inl ⟨h.1,h.2.1⟩
   ·refine .inr ⟨h, ?_⟩
    rcases e2 with⟨_,_,q⟩|⟨⟨_,q⟩,_⟩
    ·exfalso;apply Q;subst q;cases a3 with
     |none=>exact absurd rfl h'
     |some _=>rfl
    ·rw[q];simp
  refine ce.val E H (u:= .slice (some (if m.toNat=i.toNat then⟨(x.bk o').1,0,none⟩else(⟨(x.bk o').1,0,none⟩:Addr).add (i.toNat*n))) (j.toNat-i.toNat) (m.toNat-i.toNat)) ?_ ?_
  ·rw[S.ptr_inv]
   simp only[Instr.sliceAt,Instr.sureAddr,aB,run_underlying hd,am,hb,cf hn,aF]
  ·by_cases W:m.toNat=i.toNat
   ·rw[if_pos W]
    exact .psl o' n _ _ _ 0 _ (.inl (by omega)) (by omega) (fun _ e=>by cases e;rfl) (fun e=>by cases e)
   ·rw[if_neg W,cU]
    exact .psl o' n _ _ _ _ _ (.inr (by rw[bC,bC])) (by omega) (fun _ e=>by cases e;rfl) (fun e=>by cases e)
theorem fz{h:Call}{b:Builtin}(z:o.op= .call h)(E:h.callee= .builtin b)(m:Sem Value)
 (B:builtin b h.argTypes o.type (h.args.map fun| .const _=>true|_=>false) (h.args.map a.eval)=(do pure (.value (<-m)))):execOp a.eval o=(do pure (.value (<-m))):=by
 rw[<-B];simp only[execOp,z,resolve,E];rfl
theorem N7(L:aM C x s a w){E:Call}(J:o.op= .call E)(I:E.callee= .builtin .cap)(H:br P o=some so)(B:val s so=some (p,c)):ce P C o a w (s.put o.dst c):=by
 simp only[br,J,I]at H;split at H<;>try (cases H;done)
 rename_i X t hX ht;split at H<;>try (cases H;done)
 rename_i e r hd S;cases H;have F:=aK L S;have ea:E.args= #[X]:=by apply dL;simpa using hX
 have et:E.argTypes= #[t]:=by apply dL;simpa using ht
 have run:∀(bs:Option Addr)(n cp:Nat),a.eval X= .slice bs n cp->(Builtin.cap_ E.argTypes o.type (E.args.map a.eval)).run P w= .ok (.int .i64 cp) w:=by intro bs n cp z;rw[ea,et];simp[Builtin.cap_,run_underlying hd,z,goInt]
 simp only[val]at B;split at B<;>try (cases B;done)
 ·rename_i o' Z off n cp hu
  rw[hu]at F;simp only[aw.injEq,bn.injEq]at B;obtain⟨rfl,rfl⟩:=B;obtain⟨cp,_,T,U,z,_⟩:=F.psl_inv;obtain rfl:=T _ rfl;exact ce.val L (fz J I _ rfl) (run _ _ _ z) (cI _ _)
 ·rename_i l hu
  rw[hu]at F;simp only[aw.injEq,bn.injEq]at B;obtain⟨rfl,rfl⟩:=B;obtain⟨W,cp,z,_,_,O,Q,h⟩:=F.byt_inv;rw[z]at h;simp only[Value.slice.injEq]at h;rw[show cp=l.length from by omega]at z;exact ce.val L (fz J I _ rfl) (run _ _ _ z) (cI _ _)
 ·rename_i Z l hu
  rw[hu]at F;simp only[aw.injEq,bn.injEq]at B;obtain⟨rfl,rfl⟩:=B;obtain⟨W,cp,z,_,_,O,Q,h⟩:=F.lst_inv;rw[z]at h;simp only[Value.slice.injEq]at h;rw[show cp=l.length from by omega]at z;exact ce.val L (fz J I _ rfl) (run _ _ _ z) (cI _ _)
theorem N5(F:aM C x s a w){L:Call}(H:o.op= .call L)(J:L.callee= .builtin .len)(z:br P o=some so)(h:val s so=some (p,c)):ce P C o a w (s.put o.dst c):=by
 simp only[br,H,J]at z;split at z<;>try (cases z;done)
 rename_i X t hX ht;have O:L.args= #[X]:=by apply dL;simpa using hX
 have Q:L.argTypes= #[t]:=by apply dL;simpa using ht
 split at z<;>try (cases z;done)
 ·rename_i r hd B
  cases z;have E:=aK F B;simp only[val]at h;cases hu:s.ev r with
  |str l=>
   rw[hu]at h E;simp only[jF,if_true,aw.injEq,bn.injEq]at h;obtain⟨_,rfl⟩:=h;refine ce.val F (fz H J _ rfl) (u:= .int .i64 l.length) ?_ (cI _ _);rw[O,Q];have T:(ByteArray.mk ⟨l⟩).size=l.length:=by simp[ByteArray.size]
   simp only[Builtin.len_,List.map_toArray,aO,ic,gg,List.getElem?_cons_zero,aB,run_underlying hd,am,E.str_inv,T,goInt];rfl
  |_=>rw[hu]at h;simp[jF]at h
 ·rename_i e r hd B
  cases z;have E:=aK F B;simp only[val]at h
  have run:∀(bs:Option Addr)(n cp:Nat),a.eval X= .slice bs n cp->(Builtin.len_ L.argTypes o.type (L.args.map a.eval)).run P w= .ok (.int .i64 n) w:=by intro bs n cp I;rw[O,Q];simp only[Builtin.len_,List.map_toArray,aO,ic,gg,List.getElem?_cons_zero,aB,run_underlying hd,am,I,goInt];rfl
  cases hu:s.ev r with
  |byt l tk=>rw[hu]at h E;simp only[jF,aJ,if_false,aw.injEq,bn.injEq]at h;obtain⟨_,rfl⟩:=h;obtain⟨W,cp,I,_⟩:=E.byt_inv;exact ce.val F (fz H J _ rfl) (run _ _ _ I) (cI _ _)
  |lst sz l tk=>rw[hu]at h E;simp only[jF,aJ,if_false,aw.injEq,bn.injEq]at h;obtain⟨_,rfl⟩:=h;obtain⟨W,cp,I,_⟩:=E.lst_inv;exact ce.val F (fz H J _ rfl) (run _ _ _ I) (cI _ _)
  |psl o' sz off n cp=>rw[hu]at h E;simp only[jF,aJ,if_false,aw.injEq,bn.injEq]at h;obtain⟨_,rfl⟩:=h;obtain⟨cp,_,Z,U,I,_⟩:=E.psl_inv;exact ce.val F (fz H J _ rfl) (run _ _ _ I) (cI _ _)
  |_=>rw[hu]at h;simp[jF]at h
 ·rename_i n e r hd B
  cases z;simp only[val,aw.injEq,bn.injEq]at h;obtain⟨_,rfl⟩:=h;refine ce.val F (fz H J _ rfl) (u:= .int .i64 n) ?_ (cI _ _);rw[O,Q];simp only[Builtin.len_,List.map_toArray,aO,ic,gg,List.getElem?_cons_zero,aB,run_underlying hd,am,goInt];rfl
 ·rename_i arr r hd B
  split at z<;>try (cases z;done)
  rename_i n e S;cases z;simp only[val,aw.injEq,bn.injEq]at h;obtain⟨_,rfl⟩:=h;refine ce.val F (fz H J _ rfl) (u:= .int .i64 n) ?_ (cI _ _);rw[O,Q];simp only[Builtin.len_,List.map_toArray,aO,ic,gg,List.getElem?_cons_zero,aB,run_underlying hd,run_underlying S,am,goInt];rfl
theorem nN(I:aM C x s a w){E:Call}(L:o.op= .call E)(B:E.callee= .builtin .min\/E.callee= .builtin .max)(z:br P o=some so)(h:val s so=some (p,c)):ce P C o a w (s.put o.dst c):=by
 rcases B with B|B
 all_goals
  simp only[br,L,B]at z;split at z<;>try (cases z;done)
  rename_i X Y t u hX U;split at z<;>try (cases z;done)
  rename_i r q H F;cases z;have O:=aK I H;have J:=aK I F;have Q:E.args= #[X,Y]:=by apply dL;simpa using hX
  simp only[val]at h;split at h<;>try (cases h;done)
  rename_i k m W n hu T;rw[hu]at O;rw[T]at J;split at h<;>try (cases h;done)
  rename_i S;subst S;simp only[aw.injEq,bn.injEq]at h;obtain⟨_,rfl⟩:=h;refine ce.val I (fz L B _ rfl) ?_ (cI _ _);rw[Q,show(#[X,Y].map a.eval)= #[.int k m,.int k n]from by simp[O.int_inv,J.int_inv]]
  first
   |exact run_min_int2 w _ _ _ _ _ _
   |rw[run_max_int2 w _ _ _ _ _ _]
end Go.Sy
namespace Go.Sy
variable [bc]
variable {P : Program} {C : Ctx} {x : Sit} {s : St} {a : Act} {w : World} {o : Oper} {so : SOp} {p : Prop} {c : SV}
theorem ja{e:TypeId}(h:lv P e=true):P.underlying e=some (.int .u8):=by
 unfold lv at h;split at h
 ·assumption
 ·cases h
theorem Oe(k:IntKind)(b:UInt8)(h:k≠ .i8)(z:k≠ .u8):k.wrap (b.toNat:Int)=b.toNat:=by have:=kW b;cases k<;>simp[IntKind.wrap,IntKind.bits,IntKind.signed]at* <;>omega
theorem wu(ns:t6):∀(s:ByteArray),(ns.map fun b=>(b.toNat:Int)).foldl (fun r n=>r.push (ej n.toNat)) s=⟨⟨s.data.toList++ns⟩⟩:=by
 induction ns with
 |nil=>intro s;simp
 |cons b r h=>intro s;simp only[aO,cx];rw[h];simp[ByteArray.push]
theorem zm{bs:Value}{l:t6}{z dst e:TypeId}(B:P.underlying z=some (.slice e))(E:P.underlying e=some (.int .u8))(hd:P.underlying dst=some .string)
 (h:((∃a,bs= .slice a 0 0)/\l=[])\/∃b off cap,bs= .slice (some ⟨b,off,none⟩) l.length cap/\∀i,i<l.length->w.cell? ⟨b,off+i,none⟩=some (.int .u8 (l.getD i 0).toNat)):
 (convert z dst bs).run P w= .ok (.string ⟨⟨l⟩⟩) w:=by
 rcases h with⟨⟨a,rfl⟩,rfl⟩|⟨b,off,cap,rfl,hc⟩
 ·rw[run_convert_bytes_string w z dst e _ _ _ B E hd];cases a<;>rfl
 ·rw[run_convert_bytes_string w z dst e _ _ _ B E hd]
  have F:(loadCells ⟨b,off,none⟩ l.length).run P w= .ok ((l.map fun b=>(b.toNat:Int)).map (Value.int .u8)).toArray w:=by
   rw[run_loadCells w _ _ (fun i=> .int .u8 (l.getD i 0).toNat) (fun j H=>by rw[cU];exact hc j H)]
   congr 2
   apply List.ext_getElem?;intro i
   by_cases hi:i<l.length
   ·simp[hi,aa]
   ·simp[hi]
  rw[run_bytesToString w _ _ _ _ F,wu];rfl
theorem gw(w:World)(cs:LAc)(e:TypeId):((w.alloc (.cells cs e (0,0))).freeze ⟨w.heap.size,cs.size,none⟩ 1).heap=(w.alloc (.cells cs e (cs.size,cs.size+1))).heap:=by
 apply Array.ext_getElem?;intro i;simp only[World.freeze,Nat.one_ne_zero,if_false,World.alloc,Array.getElem?_modify,Array.getElem?_push]
 by_cases h:w.heap.size=i
 ·subst h;simp
 ·rw[if_neg h]
  have:¬i=w.heap.size:=fun e=>h e.symm
  simp[this]
theorem ep{b n:Nat}{e:TypeId}{off:Nat}(h:w.shape? b=some (e,n)):(markStringish ⟨b,off,none⟩).run P w= .ok () (w.freeze ⟨b,n,none⟩ 1):=by simp only[markStringish,aB,run_shape,am,h,run_freeze]
theorem tK(J:aM C x s a w){T dst:TypeId}{X:Operand}(ho:o.op= .convert T dst X)(I:br P o=some so)(z:val s so=some (p,c))(hp:p):ce P C o a w (s.put o.dst c):=by
 have L:execOp a.eval o=(do pure (.value (<-convert T dst (a.eval X)))):=by simp only[execOp,ho]
 simp only[br,ho]at I;split at I<;>try (cases I;done)
 ·rename_i k0 k r Q hd F
  cases I;have E:=aK J F;simp only[val]at z;obtain⟨c',B,O⟩:=ai.1 z;simp only[bn.injEq]at O;obtain⟨_,rfl⟩:=O
  have run:∀k1 n,a.eval X= .int k1 n->(convert T dst (a.eval X)).run P w= .ok (.int k (k.wrap n)) w:=by intro k1 n O;rw[O];simp[convert,run_underlying Q,run_underlying hd,Conv.intToInt]
  cases hu:s.ev r with
  |int k1 n=>
   rw[hu]at B E;refine ce.val J L (run k1 n E.int_inv) ?_
   cases k<;>simp only[g8,aw.injEq]at B<;>subst B<;>first
    |exact cI _ _
    |(rw[fH,<-tT];exact nB _)
  |u8 b=>
   rw[hu]at B E;refine ce.val J L (run .u8 b.toNat E.u8_inv) ?_
   cases k<;>simp only[g8,aw.injEq,reduceCtorEq]at B<;>subst B<;>first
    |(rw[Oe _ _ (by decide) (by decide)];exact cI _ _)
    |(rw[fH,Int.emod_eq_of_lt (by omega) (by have:=kW b;omega)];exact nB _)
  |_=>rw[hu]at B;simp[g8]at B
 ·rename_i r Q hd F
  cases I;have E:=aK J F;simp only[val]at z;cases hu:s.ev r with
  |str l=>rw[hu]at z E;simp only[aw.injEq,bn.injEq]at z;obtain⟨_,rfl⟩:=z;refine ce.val J L (u:= .string ⟨⟨l⟩⟩) ?_ (kL _);rw[E.str_inv];simp[convert,run_underlying Q,run_underlying hd]
  |_=>rw[hu]at z;simp at z
 ·rename_i e r Q hd F
  split at I<;>try (cases I;done)
  rename_i h8;have O:=ja h8;cases I;have E:=aK J F;simp only[val]at z;cases hu:s.ev r with
  |byt l tk=>
   rw[hu]at z E;simp only[wJ,aw.injEq,bn.injEq]at z;obtain⟨_,rfl⟩:=z;refine ce.val J L (zm Q O hd ?_) (kL _);have hD:=E.data rfl;cases hXv:a.eval X with
   |slice ad n cp=>
    rw[hXv]at hD;cases hD with
    |bytN=>exact .inl ⟨⟨_,rfl⟩,rfl⟩
    |bytE=>exact .inl ⟨⟨_,rfl⟩,rfl⟩
    |byt _ _ b off _ _ hn hc hg=>subst hn;exact .inr ⟨b,off,cp,rfl,fun i hi=>J.heap.per _ _ _ (hg i hi)⟩
   |_=>rw[hXv]at hD;cases hD
  |psl o' sz off n cp=>
   rw[hu]at z E;simp only[wJ]at z;cases hl:s.look o' with
   |none=>simp[hl]at z
   |some obj=>
    cases obj with
    |bar l=>
     simp only[hl,aw.injEq,bn.injEq]at z;obtain⟨rfl,rfl⟩:=z;obtain⟨a4,a7⟩:=hp;obtain⟨cp,a5,_,H,a1,a0⟩:=E.psl_inv;have S:((l.drop off).take n).length=n:=by simp;omega
     refine ce.val J L (zm Q O hd (.inr ⟨(x.bk o').1,H,cp,by rw[S];exact a1,fun i hi=> ?_⟩)) (kL _);rw[S]at hi
     have U:H=off:=by
      rcases a0 with h|h
      ·omega
      ·rw[a4,iF]at h;exact h
     subst U;obtain⟨v,h2,h3⟩:=(eC J hl).cell (k:=H+i) (by simp only[aC.size];omega);rw[h2];have h4:cD x.G (.u8 (l.getD (H+i) 0)) v:=h3;cases h4;simp only[aa,bv,if_pos hi,bf]
    |_=>simp[hl]at z
  |_=>rw[hu]at z;simp[wJ]at z
 ·rename_i e r Q hd F
  split at I<;>try (cases I;done)
  rename_i h8;have O:=ja h8;cases I;have E:=aK J F;simp only[val]at z;cases hu:s.ev r with
  |str l=>
   rw[hu]at z E;simp only[aw.injEq,bn.injEq]at z;obtain⟨_,rfl⟩:=z;have hf:(Question.appendCap (ByteArray.mk ⟨l⟩).size 0 e).forced=false:=rfl
   obtain⟨cp,a3,a2⟩:∃cp,(Question.appendCap (ByteArray.mk ⟨l⟩).size 0 e).cut (w.tape w.drawn (Question.appendCap (ByteArray.mk ⟨l⟩).size 0 e))=cp/\l.length<=cp:=by
    refine⟨_,rfl, ?_⟩;simp only[Question.cut];have:(ByteArray.mk ⟨l⟩).size=l.length:=by simp[ByteArray.size]
    omega
   let cs:LAc:=(ByteArray.mk ⟨l⟩).data.map (fun b=> .int .u8 b.toNat)++dT (cp-(ByteArray.mk ⟨l⟩).size) (.int .u8 0)
   have W:(ByteArray.mk ⟨l⟩).size=l.length:=by simp[ByteArray.size]
   have a6:cs.size=cp:=by simp[cs,W];omega
   have Z:∀i,i<l.length->cs[i]? =some (.int .u8 (l.getD i 0).toNat):=by intro i hi;simp only[cs];rw[fV (by simpa using hi)];simp[hi,aa]
   have hw:∀w0:World,((w0.alloc (.cells cs e (0,0))).freeze ⟨w0.heap.size,cs.size,none⟩ 1).heap=(w0.alloc (.cells cs e (cs.size,cs.size+1))).heap:=fun w0=>gw w0 cs e
   refine ce.grow (x':=x.newD w.heap.size cs l.length) (w':=((w.drew.alloc (.cells cs e (0,0))).freeze ⟨w.heap.size,cs.size,none⟩ 1)) J L (u:= .slice (some ⟨w.heap.size,0,none⟩) l.length cp) ?_ (J.heap.newD_le cs l.length) rfl rfl ?_ ?_
   ·rw[E.str_inv]
    simp only[convert,aB,run_underlying Q,run_underlying hd,am,run_underlying O,Conv.stringToBytes,run_choose_drew,hf,aJ,if_false,a3,newRow,run_newObj_alloc,aF];rw[ep (e:=e) (n:=cs.size) (by simp only[World.shape?];rw[cL])];simp only[am,W];rfl
   ·refine cS.congr (w:=(w.drew.alloc (.cells cs e (cs.size,cs.size+1)))) ?_ (hw w.drew) rfl rfl rfl
    exact J.heap.drew.allocD l.length
   ·refine .dat _ _ (.byt l .no w.heap.size 0 cp l.length rfl a2 fun i hi=> ?_) trivial
    simp only[Sit.newD];rw[if_pos ⟨trivial,by omega⟩,bC];exact Z i hi
  |_=>rw[hu]at z;simp at z
 ·split at I<;>try (cases I;done)
  cases I;simp only[val]at z;cases z
end Go.Sy
namespace Go.Sy
variable [bc]
variable {P : Program} {C : Ctx} {x : Sit} {s : St} {a : Act} {w : World} {o : Oper} {so : SOp} {p : Prop} {c : SV}
theorem cC{t:TypeId}{vs:LAb}(h:fN P t=some vs):∃z:Value,z.cells.toList=vs/\∀w:World,(zeroValue t).run P w= .ok z w:=by
 unfold fN at h;cases hi:P.info? t with
 |none=>simp[hi]at h
 |some i=>simp only[hi,cQ]at h;obtain⟨z,hz,rfl⟩:=ai.1 h;exact⟨z,rfl,fun w=>by simp[zeroValue,run_typeInfo w hi,hz]⟩
theorem Dp{cs:t7}{vs:LAb}(h:Ec cs vs=true):cr x cs vs:=by unfold Ec at h;simp only[aA,decide_eq_true_eq,aT,nL]at h;exact⟨h.1,fun i hi=>oV (h.2 i hi)⟩
theorem qk{t:TypeId}{cs:t7}(h:lH P t=some cs):∃vs,fN P t=some vs/\cr x cs vs:=by
 unfold lH at h;cases hz:fN P t with
 |none=>simp[hz]at h
 |some vs=>
  simp only[hz,cQ]at h;cases hc:DQ P (ml P 30 t) vs with
  |none=>simp[hc]at h
  |some r=>
   simp only[hc,cQ]at h;split at h
   ·rename_i z;simp at h;subst h;exact⟨vs,rfl,Dp z⟩
   ·cases h
theorem jg{t:TypeId}{cs:t7}(h:lH P t=some cs):∃vs,fN P t=some vs/\cs.length=vs.length/\∀(G:GM) i,i<cs.length->cD G (cs.getD i .undef) (vs.getD i undef):=by
 unfold lH at h;cases hz:fN P t with
 |none=>simp[hz]at h
 |some vs=>
  simp only[hz,cQ]at h;cases hc:DQ P (ml P 30 t) vs with
  |none=>simp[hc]at h
  |some r=>
   simp only[hc,cQ]at h;split at h
   ·rename_i z;simp at h;subst h
    unfold Ec at z;simp only[aA,decide_eq_true_eq,aT,nL]at z;exact⟨vs,rfl,z.1,fun G i hi=>lJ (z.2 i hi)⟩
   ·cases h
theorem Rep.cells{v:SV}{u:Value}(h:Rep x v u)(hd:v.isDef=true):cr x v.cells u.cells.toList:=by
 have one:∀{v:SV}{u:Value},Rep x v u->v.cells=[v]->u.cells= #[u]->cr x v.cells u.cells.toList:=by
  intro v u h I F;rw[I,F]
  exact⟨rfl,fun i hi=>by
   obtain rfl:i=0:=by simpa using hi
   exact h⟩
 cases h with
 |undef=>simp[SV.isDef]at hd
 |agg cs vs E J=>exact⟨E,J⟩
 |dat s v h S=>exact one (.dat _ _ h S) (by cases h<;>rfl) (by cases h<;>rfl)
 |ptr o off=>exact one (.ptr o off) rfl rfl
 |ap o H i j=>exact one (.ap o H i j) rfl rfl
 |psl o H off n cap z B h hn Q L=>exact one (.psl o H off n cap z B h hn Q L) rfl rfl
 |tup cs vs E J=>exact one (.tup cs vs E J) rfl rfl
 |fn f a b u v I F T O=>exact one (.fn f a b u v I F T O) rfl rfl
theorem fP{α:Type}(cs v:List α)(q i:Nat)(h:q+v.length<=cs.length):(cs.take q++v++cs.drop (q+v.length))[i]? =if q<=i/\i<q+v.length then v[i-q]? else cs[i]? :=by
 simp only[List.getElem?_append,ah,aD,bv,bf];have E:min q cs.length=q:=gK (by omega);rw[E]
 by_cases z:i<q
 ·rw[if_pos (by omega),if_pos z,if_pos z,if_neg (by omega)]
 ·by_cases B:i<q+v.length
  ·rw[if_pos B,if_neg z,if_pos ⟨by omega,B⟩]
  ·rw[if_neg B,if_neg (by omega)];congr 1;omega
theorem Dx(off:Nat)(v:LAb):∀(cs:LAc)(k i:Nat),off+k+v.length<=cs.size->
 ((v.zipIdx k).foldl (fun cs (c,j)=>cs.setIfInBounds (off+j) c) cs)[i]? =if off+k<=i/\i<off+k+v.length then v[i-(off+k)]? else cs[i]? :=by
 induction v with
 |nil=>intro cs k i z;rw[if_neg (by simp only[bg];omega)];rfl
 |cons u r E=>
  intro cs k i z;simp only[av]at z;simp only[List.zipIdx_cons,cx];rw[E _ (k+1) i (by simp;omega)];simp only[av,Array.getElem?_setIfInBounds]
  by_cases h:off+k=i
  ·subst h
   rw[if_neg (by omega),if_pos rfl,if_pos (by omega),if_pos (by omega)];simp
  ·by_cases B:off+(k+1)<=i/\i<off+(k+1)+r.length
   ·rw[if_pos B,if_pos (by omega),show i-(off+k)=(i-(off+(k+1)))+1 from by omega]
    simp
   ·rw[if_neg B,if_neg h,if_neg (by omega)]
theorem qQ(cs:LAc)(off:Nat)(v:LAb)(h:off+v.length<=cs.size):
 (v.zipIdx.foldl (fun cs (c,j)=>cs.setIfInBounds (off+j) c) cs).toList=cs.toList.take off++v++cs.toList.drop (off+v.length):=by
 apply List.ext_getElem?;intro i;rw[fP _ _ _ _ (by simpa using h)];have:=Dx off v cs 0 i (by simpa using h);simpa using this
theorem cr.append{c1 c2:t7}{v1 B:LAb}(z:cr x c1 v1)(E:cr x c2 B):cr x (c1++c2) (v1++B):=by
 refine⟨by simp[z.1,E.1],fun i hi=> ?_⟩;simp only[aa,List.getElem?_append]
 by_cases h:i<c1.length
 ·rw[if_pos h,if_pos (by rw[<-z.1];exact h)]
  simpa only[aa]using z.2 i h
 ·rw[if_neg h,if_neg (by rw[<-z.1];exact h),z.1]
  have:=E.get (i-v1.length);simpa only[aa]using this
theorem cr.take{c1:t7}{v1:LAb}(z:cr x c1 v1)(n:Nat):cr x (c1.take n) (v1.take n):=by
 refine⟨by simp[z.1],fun i hi=> ?_⟩;have h:i<n/\i<c1.length:=by simp only[aD]at hi;omega
 simp only[aa,bv,if_pos h.1];simpa only[aa]using z.2 i h.2
theorem cr.drop{c1:t7}{v1:LAb}(h:cr x c1 v1)(n:Nat):cr x (c1.drop n) (v1.drop n):=by refine⟨by simp[h.1],fun i hi=> ?_⟩;simp only[aa,bf];have:=h.get (n+i);simpa only[aa]using this
theorem oF(hM:aM C x s a w)(B:Nat->Option (Nat×Nat)):∀(E:List (Nat×Operand))(z:List (Nat×Nat×Arg))(cs:t7)(vs:LAc)(r:t7),cr x cs vs.toList->
 z.length=E.length->(∀i (h:i<E.length) (Z:i<z.length),B E[i].1=some (z[i].1,z[i].2.1)/\∃t,bq P t E[i].2=some z[i].2.2)->
 iE cs (z.map fun(o,n,y)=>(o,n,s.ev y))=some r->∃us,Instr.fill B vs (E.map fun(i,y)=>(i,a.eval y))=some us/\cr x r us.toList:=by
 intro E;induction E with
 |nil=>
  intro z cs vs r h L _ F;have:z=[]:=by simpa using L
  subst this;simp only[ic,iE,aw.injEq]at F;subst F;exact⟨vs,rfl,h⟩
 |cons q E ih=>
  intro z cs vs r h L J F;cases z with
  |nil=>simp at L
  |cons q' z=>
   obtain⟨qo,S,qy⟩:=q';obtain⟨T,t,W⟩:=J 0 (by simp) (by simp);simp only[List.getElem_cons_zero]at T W;have I:=aK hM W;simp only[aO,iE]at F;split at F<;>try (cases F;done)
   rename_i hc;obtain⟨O,Q,a1⟩:=hc;have U:=I.cells O;have H:(a.eval q.2).cells.size=S:=by rw[<-Q,<-aP];exact U.1.symm
   have a0:vs.size=cs.length:=by rw[<-aP];exact h.1.symm
   simp only[aO,Instr.fill,T];rw[if_neg (by simp[H];omega)];refine ih z _ _ r ?_ (by simpa using L) (fun i h Z=> ?_) F
   ·rw[<-Array.foldl_toList,Array.toList_zipIdx,qQ _ _ _ (by rw[aP];omega)]
    have e1:(a.eval q.2).cells.toList.length=S:=by simpa using H
    rw[e1];exact((h.take _).append U).append (h.drop _)
   ·have:=J (i+1) (by simpa using h) (by simpa using Z)
    simpa using this
theorem eN{α β:Type}{f:α->Option β}:∀{l:List α}{r:List β},jr f l=some r->r.length=l.length/\∀i (h:i<l.length) (B:i<r.length),f l[i]=some r[i]:=by
 intro l;induction l with
 |nil=>intro r h;simp only[jr]at h;cases h;exact⟨rfl,fun i h=>by simp at h⟩
 |cons q l H=>
  intro r h;simp only[jr]at h;split at h<;>try (cases h;done)
  rename_i b J I z;cases h;obtain⟨F,E⟩:=H z;refine⟨by simp[F],fun i h B=> ?_⟩;cases i with
  |zero=>simpa using I
  |succ i=>simpa using E i (by simpa using h) (by simpa using B)
theorem nj(z:Array Field)(h:∀f∈z.toList,(P.info? f.type).isSome=true)(w:World):
 (z.mapM fun f=>do pure (f.offset,<-sizeOf f.type):Sem (Array (Nat×Nat))).run P w= .ok (z.toList.map fun f=>(f.offset,(fj P f.type).getD 0)).toArray w:=by
 rw[Array.mapM_eq_mapM_toList]
 have:∀l:List Field,(∀f∈l,(P.info? f.type).isSome=true)->(l.mapM fun f=>do pure (f.offset,<-sizeOf f.type):Sem (List (Nat×Nat))).run P w= .ok (l.map fun f=>(f.offset,(fj P f.type).getD 0)) w:=by
  intro l;induction l with
  |nil=>intro _;rfl
  |cons f l F=>
   intro h;have E:=h f (by simp);obtain⟨i,hi⟩:=Option.isSome_iff_exists.1 E;have B:fj P f.type=some i.size:=by simp[fj,hi]
   simp only[List.mapM_cons,aB,cf B,am,aF,F (fun g H=>h g (aq _ H)),aO,B,ba]
 rw[Sem.run_map,this _ h];rfl
theorem CA(hM:aM C x s a w){t:TypeId}{B:Array (Nat×Operand)}(ho:o.op= .build t B)(H:br P o=some so)(hv:val s so=some (p,c)):ce P C o a w (s.put o.dst c):=by
 have a0:execOp a.eval o=(do pure (.value (<-Instr.build t (B.map fun(i,y)=>(i,a.eval y))))):=by simp only[execOp,ho]
 simp only[br,ho]at H;split at H<;>try (cases H;done)
 ·rename_i fs z hd hz
  split at H<;>try (cases H;done)
  rename_i a1;obtain⟨qs,Q,rfl⟩:=ai.1 H;obtain⟨vs,O,hL⟩:=qk hz;obtain⟨zv,Z,I⟩:=cC O;obtain⟨J,W⟩:=eN Q;simp only[val]at hv;obtain⟨r,hf,T⟩:=ai.1 hv;simp only[bn.injEq]at T;obtain⟨_,rfl⟩:=T;have S:∀f∈fs.toList,(P.info? f.type).isSome=true:=aT.1 a1
  obtain⟨us,U,F⟩:=oF hM (fun i=>(fs.toList.map fun f=>(f.offset,(fj P f.type).getD 0)).toArray[i]?) B.toList qs z zv.cells r (by rw[Z];exact hL) J (by
   intro i h h';have:=W i h h';generalize B.toList[i]=pi at*;generalize qs[i]=qi at*;cases hfi:fs[pi.1]? with
   |none=>simp[hfi]at this
   |some f=>
    simp only[hfi]at this;cases hn:fj P f.type with
    |none=>simp[hn]at this
    |some n=>
     cases E:bq P f.type pi.2 with
     |none=>simp[hn,E]at this
     |some ar=>
      simp only[hn,E,aw.injEq]at this;rw[<-this];refine⟨?_,f.type,E⟩;have a2:fs.toList[pi.1]? =some f:=by simpa using hfi
      simp[a2,hn]) hf
  refine ce.val hM a0 (u:= .agg us) ?_ ?_
  ·have L:(B.map fun(i,y)=>(i,a.eval y)).toList=B.toList.map fun(i,y)=>(i,a.eval y):=by simp
   simp only[Instr.build,aB,I,am,run_underlying hd,nj fs S,L];rw[U];rfl
  ·obtain⟨us⟩:=us
   exact .agg _ _ F.1 F.2
 ·rename_i k e z hd hz
  split at H<;>try (cases H;done)
  rename_i n hn;obtain⟨qs,Q,rfl⟩:=ai.1 H;obtain⟨vs,O,hL⟩:=qk hz;obtain⟨zv,Z,I⟩:=cC O;obtain⟨J,W⟩:=eN Q;simp only[val]at hv;obtain⟨r,hf,T⟩:=ai.1 hv;simp only[bn.injEq]at T;obtain⟨_,rfl⟩:=T
  obtain⟨us,U,F⟩:=oF hM (fun i=>some (i*n,n)) B.toList qs z zv.cells r (by rw[Z];exact hL) J (fun i h h'=>by have:=W i h h';obtain⟨ar,E,T⟩:=ai.1 this;rw[<-T];exact⟨rfl,e,E⟩) hf
  refine ce.val hM a0 (u:= .agg us) ?_ ?_
  ·have L:(B.map fun(i,y)=>(i,a.eval y)).toList=B.toList.map fun(i,y)=>(i,a.eval y):=by simp
   simp only[Instr.build,aB,I,am,run_underlying hd,cf hn,L];rw[U];rfl
  ·obtain⟨us⟩:=us
   exact .agg _ _ F.1 F.2
end Go.Sy
namespace Go.Sy
variable [bc]
variable {P : Program} {C : Ctx} {x : Sit} {s : St} {a : Act} {w : World} {o : Oper} {so : SOp} {p : Prop} {c : SV}
theorem mK(n:Nat):∀(us:LAb)(k:Nat)(vs:LAc),(∀u∈us,u.cells.size=n)->(k+us.length)*n<=vs.size->
 ∃r,Instr.fill (fun i=>some (i*n,n)) vs ((us.zipIdx k).map fun q=>(q.2,q.1))=some r/\r.toList=vs.toList.take (k*n)++(us.flatMap fun u=>u.cells.toList)++vs.toList.drop ((k+us.length)*n):=by
 intro us;induction us with
 |nil=>intro k vs _ _;exact⟨vs,rfl,by simp⟩
 |cons u us Q=>
  intro k vs hu H;have z:=hu u (by simp);have F:(k+(u::us).length)*n=k*n+n+us.length*n:=by simp only[av,bD,dH];omega
  have E:(k+1)*n=k*n+n:=dH k n;rw[F]at H;have h:=qQ vs (k*n) u.cells.toList (by rw[aP,z];omega);rw[aP,z]at h
  obtain⟨r,L,J⟩:=Q (k+1) (u.cells.toList.zipIdx.foldl (fun cs (c,j)=>cs.setIfInBounds (k*n+j) c) vs) (fun q I=>hu q (aq _ I)) (by rw[<-aP,h];simp only[ah,aD,aE,aP,z];rw[bD,E];omega)
  refine⟨r, ?_, ?_⟩
  ·simp only[List.zipIdx_cons,aO,Instr.fill]
   rw[if_neg (by simp[z];omega)];rw[<-Array.foldl_toList,Array.toList_zipIdx];exact L
  ·rw[J,h,E,F]
   have O:(k+1+us.length)*n=k*n+n+us.length*n:=by rw[bD,E]
   rw[O];have B:(vs.toList.take (k*n)++u.cells.toList).length=k*n+n:=by simp[z];omega
   rw[List.take_append_of_le_length (by rw[B];exact aI _),cg (by rw[B];exact aI _),List.drop_append,bO (by rw[B];omega),B,fp];simp only[dZ,bw,aZ]
   congr 3
   congr 1;omega
theorem uh{n:Nat}:∀{vs:t7}{r:f8},rows n vs=some r->r.length=vs.length/\∀i,i<vs.length->(vs.getD i .undef).isDef=true/\(vs.getD i .undef).cells.length=n/\
 (∀z∈(vs.getD i .undef).cells,z.isData=true)/\r.getD i []=(vs.getD i .undef).cells.map SV.data:=by
 intro vs;induction vs with
 |nil=>intro r h;simp only[rows,aw.injEq]at h;subst h;exact⟨rfl,fun i hi=>by simp at hi⟩
 |cons v vs I=>
  intro r h;simp only[rows]at h;split at h<;>try (cases h;done)
  rename_i E;obtain⟨J,B,rfl⟩:=ai.1 h;obtain⟨H,F⟩:=I B;refine⟨by simp[H],fun i hi=> ?_⟩;cases i with
  |zero=>exact⟨E.1,E.2.1,aT.1 E.2.2,rfl⟩
  |succ i=>simpa using F i (by simpa using hi)
theorem rH:∀{vs:t7}{r:t6},toB vs=some r->vs=r.map .u8:=by
 intro vs;induction vs with
 |nil=>intro r h;simp only[toB,aw.injEq]at h;subst h;rfl
 |cons v vs B=>intro r h;cases v<;>simp only[toB,reduceCtorEq]at h;obtain⟨E,z,rfl⟩:=ai.1 h;rw[B z];rfl
theorem jV{n:Nat}{us:LAb}(h:∀u∈us,u.cells.size=n){i j:Nat}(hi:i<us.length)(F:j<n):
 (us.flatMap fun u=>u.cells.toList)[i*n+j]? =(us.getD i undef).cells.toList[j]? :=by
 induction us generalizing i with
 |nil=>simp at hi
 |cons u us E=>
  have z:=h u (by simp);simp only[dZ];cases i with
  |zero=>rw[aY (by simp[z];omega)];simp
  |succ i=>rw[bj (by simp[z,dH];omega)];have:=E (fun q B=>h q (aq _ B)) (i:=i) (by simpa using hi);rw[show(i+1)*n+j-u.cells.toList.length=i*n+j from by simp[z,dH];omega];simpa using this
theorem nM(hM:aM C x s a w){t:TypeId}{len:Nat}{h:Array (Nat×Operand)}(ho:o.op= .buildSlice t len h)(hr:br P o=some so)(hv:val s so=some (p,c)):ce P C o a w (s.put o.dst c):=by
 have a3:execOp a.eval o=(do pure (.value (<-dF t len (h.map fun(i,y)=>(i,a.eval y))))):=by simp only[execOp,ho]
 simp only[br,ho]at hr;split at hr<;>try (cases hr;done)
 rename_i e hd;split at hr<;>try (cases hr;done)
 rename_i n zv hn c7;split at hr<;>try (cases hr;done)
 rename_i O;simp only[aA,decide_eq_true_eq]at O;obtain⟨⟨W,d5⟩,b3⟩:=O;obtain⟨qs,d3,rfl⟩:=ai.1 hr;obtain⟨a4,b7⟩:=eN d3;obtain⟨z,d6,c4⟩:=cC c7;have L:h.toList.length=len:=by have:=congrArg List.length W;simpa using this
 obtain⟨us,T⟩:∃us:LAb,us=h.toList.map fun q=>a.eval q.2:=⟨_,rfl⟩
 have B:us.length=len:=by rw[T];simpa using L
 have I:cr x (qs.map s.ev) us:=by
  refine⟨by rw[T];simp[a4],fun i hi=> ?_⟩;have a8:i<qs.length:=by simpa using hi
  have:=aK hM (b7 i (by omega) a8);rw[T];simp only[aa,aR,af a8,af (show i<h.toList.length from by omega),bm,ba];exact this
 have c6:(h.map fun(i,y)=>(i,a.eval y)).toList=(us.zipIdx 0).map fun q=>(q.2,q.1):=by
  rw[T];apply List.ext_getElem
  ·simp
  ·intro i S h2
   simp only[Array.toList_map,aQ,aP]at S;have:(h.toList.map (·.1))[i]? =(bS len)[i]? :=by rw[W]
   have hi:i<len:=by rw[<-L];simpa using S
   simp only[aR,cM hi]at this;rw[af (by simpa using S)]at this;simp at this;simp[this]
 have Z:(∀u∈us,u.cells.size=n)->∃r:LAc,(∀i j,i<len->j<n->r[i*n+j]? =(us.getD i undef).cells.toList[j]?)/\r.size=len*n/\
  (dF t len (h.map fun(i,y)=>(i,a.eval y))).run P w= .ok (.slice (some ⟨w.heap.size,0,none⟩) len len) (w.alloc (.cells r e (0,0))):=by
  intro a1
  have fin:∀zz:LAc,∃r:LAc,Instr.fill (fun i=>some (i*n,n)) ((Array.range (len*n)).map (fun i=>zz[i % zz.size]!)) (h.map fun(i,y)=>(i,a.eval y)).toList=some r/\
   (∀i j,i<len->j<n->r[i*n+j]? =(us.getD i undef).cells.toList[j]?)/\r.size=len*n:=by
   intro zz;obtain⟨r,b8,a0⟩:=mK n us 0 ((Array.range (len*n)).map (fun i=>zz[i % zz.size]!)) a1 (by simp[B])
   have H:r.toList=us.flatMap fun u=>u.cells.toList:=by rw[a0];simp[B]
   refine⟨r,by rw[c6];exact b8,fun i j hi hj=> ?_, ?_⟩
   ·rw[<-cY,H,jV a1 (by omega) hj]
   ·rw[<-aP,H,List.length_flatMap]
    have:us.map (fun u=>u.cells.toList.length)=au us.length n:=by
     apply List.ext_getElem
     ·simp
     ·intro i S h2
      simp;exact a1 _ (bo _)
    rw[this];simp[B]
  by_cases h0:len*n=0
  ·obtain⟨r,hf,S,h2⟩:=fin #[]
   refine⟨r,S,h2, ?_⟩;simp only[dF,aB,run_underlying hd,am,cf hn];rw[if_neg (by omega),if_pos h0];simp only[aB,aF,am];rw[hf];rfl
  ·obtain⟨r,hf,S,h2⟩:=fin z.cells
   refine⟨r,S,h2, ?_⟩;simp only[dF,aB,run_underlying hd,am,cf hn];rw[if_neg (by omega),if_neg h0];simp only[aB,aF,am,c4];rw[hf];rfl
 have E:∀i,i<len->i<(qs.map s.ev).length:=fun i hi=>by rw[I.1,B];exact hi
 cases h8:lv P e with
 |true=>
  simp only[h8,if_true,val]at hv;obtain⟨l,hl,he⟩:=ai.1 hv;simp only[bn.injEq]at he;obtain⟨_,rfl⟩:=he;have hq:=rH hl;have b5:l.length=len:=by have:=congrArg List.length hq;simp only[aQ]at this;rw[<-this,a4,L]
  have a5:∀i,i<len->us.getD i undef= .int .u8 (l.getD i 0).toNat:=by
   intro i hi;have:=I.2 i (E i hi);rw[hq]at this
   have e1:(l.map SV.u8).getD i .undef= .u8 (l.getD i 0):=by simp only[aa,aR];rw[af (by omega)];rfl
   rw[e1]at this;exact this.u8_inv
  have b4:∀u∈us,u.cells.size=1:=by intro u hu;obtain⟨i,hi,rfl⟩:=bl hu;have:=a5 i (by omega);rw[aa,af hi]at this;simp only[ba]at this;rw[this];rfl
  have a9:n=1:=by simpa[h8]using b3
  subst a9;obtain⟨r,a2,b6,Q⟩:=Z b4;refine ce.grow (x':=x.newD w.heap.size r len) hM a3 Q (hM.heap.newD_le r len) rfl rfl (hM.heap.allocD len) ?_;refine .dat _ _ (.byt l _ w.heap.size 0 len len b5.symm (aI _) fun i hi=> ?_) ⟨_,len,rfl⟩;simp only[Sit.newD];rw[if_pos ⟨trivial,by omega⟩,bC];have:=a2 i 0 hi (by omega);rw[iF,fm]at this;rw[this,a5 i hi];rfl
 |false=>
  simp only[h8,aJ,if_false,val]at hv;obtain⟨a6,c3,he⟩:=ai.1 hv;simp only[bn.injEq]at he;obtain⟨_,rfl⟩:=he;obtain⟨a0,J⟩:=uh c3;have H:a6.length=len:=by rw[a0,I.1,B]
  have F:∀i,i<len->cr x (((qs.map s.ev).getD i .undef).cells) ((us.getD i undef).cells.toList):=fun i hi=>(I.2 i (E i hi)).cells (J i (E i hi)).1
  have d4:∀u∈us,u.cells.size=n:=by intro u hu;obtain⟨i,hi,rfl⟩:=bl hu;have S:=F i (by omega);have h2:=(J i (E i (by omega))).2.1;rw[show us.getD i undef=us[i]from by rw[aa,af hi];rfl]at S;have:=S.1;rw[h2]at this;simpa using this.symm
  obtain⟨r,a2,b6,Q⟩:=Z d4;refine ce.grow (x':=x.newD w.heap.size r (len*n)) hM a3 Q (hM.heap.newD_le r _) rfl rfl (hM.heap.allocD _) ?_;have b2:=hM.heap.newD_le r (len*n)
  have U:∀i j,i<len->j<n->(x.newD w.heap.size r (len*n)).G w.heap.size (0+i*n+j)=some ((us.getD i undef).cells.toList.getD j undef):=by
   intro i j hi hj;simp only[Sit.newD]
   have hb:i*n+j<len*n:=by have:=bB n (Nat.succ_le_of_lt hi);rw[dH]at this;omega
   rw[if_pos ⟨trivial,by omega⟩,bC,a2 i j hi hj]
   have:j<(us.getD i undef).cells.toList.length:=by rw[<-(F i hi).1,(J i (E i hi)).2.1];exact hj
   generalize (us.getD i undef).cells.toList=q at*;rw[aa,af this];rfl
  refine .dat _ _ (.lst n a6 _ w.heap.size 0 len len (fun i j=>(us.getD i undef).cells.toList.getD j undef) H.symm (aI _) (fun i hi=> ?_) U (fun i j hi hj=> ?_)) ⟨_,len,rfl⟩
  ·rw[(J i (E i hi)).2.2.2,aQ];exact(J i (E i hi)).2.1
  ·obtain⟨q1,q2,q3,q4⟩:=J i (E i hi)
   rw[q4,fY];have a7:j<((qs.map s.ev).getD i .undef).cells.length:=by rw[q2];exact hj
   have:=(F i hi).2 j a7;refine(cD.mono b2 (this.data (q3 _ ?_))).toData;generalize ((qs.map s.ev).getD i .undef).cells=q at*;rw[aa,af a7];exact bo _
theorem vJ(hM:aM C x s a w){t:TypeId}{len:Nat}{h:Array (Nat×Operand)}(ho:o.op= .buildSlice t len h){W:Nat}{a3:List Arg}(Z:br P o=some (.lit W a3)){B:f8}(b3:rows W (a3.map s.ev)=some B):
 ∃(r:LAc)(e:TypeId),(execOp a.eval o).run P w= .ok (.value (.slice (some ⟨w.heap.size,0,none⟩) B.length B.length)) (w.alloc (.cells r e (0,0)))/\r.size=B.length*W/\(∀y∈B,y.length=W)/\
  ∀k,k<B.length*W->cD x.G ((B.getD (k/W) []).getD (k % W) .undef) (r.getD k undef):=by
 have b2:execOp a.eval o=(do pure (.value (<-dF t len (h.map fun(i,y)=>(i,a.eval y))))):=by simp only[execOp,ho]
 simp only[br,ho]at Z;split at Z<;>try (cases Z;done)
 rename_i e hd;split at Z<;>try (cases Z;done)
 rename_i n zv hn b8;split at Z<;>try (cases Z;done)
 rename_i Q;simp only[aA,decide_eq_true_eq]at Q;obtain⟨⟨a0,d3⟩,d4⟩:=Q;obtain⟨qs,c3,H⟩:=ai.1 Z;obtain⟨b6,c7⟩:=eN c3;obtain⟨z,d5,b5⟩:=cC b8;have U:h.toList.length=len:=by have:=congrArg List.length a0;simpa using this
 obtain⟨us,T⟩:∃us:LAb,us=h.toList.map fun q=>a.eval q.2:=⟨_,rfl⟩
 have F:us.length=len:=by rw[T];simpa using U
 have L:cr x (qs.map s.ev) us:=by
  refine⟨by rw[T];simp[b6],fun i hi=> ?_⟩;have a6:i<qs.length:=by simpa using hi
  have:=aK hM (c7 i (by omega) a6);rw[T];simp only[aa,aR,af a6,af (show i<h.toList.length from by omega),bm,ba];exact this
 have b7:(h.map fun(i,y)=>(i,a.eval y)).toList=(us.zipIdx 0).map fun q=>(q.2,q.1):=by
  rw[T];apply List.ext_getElem
  ·simp
  ·intro i O h2
   simp only[Array.toList_map,aQ,aP]at O;have:(h.toList.map (·.1))[i]? =(bS len)[i]? :=by rw[a0]
   have hi:i<len:=by rw[<-U];simpa using O
   simp only[aR,cM hi]at this;rw[af (by simpa using O)]at this;simp at this;simp[this]
 have a7:(∀u∈us,u.cells.size=n)->∃r:LAc,(∀i j,i<len->j<n->r[i*n+j]? =(us.getD i undef).cells.toList[j]?)/\r.size=len*n/\
  (dF t len (h.map fun(i,y)=>(i,a.eval y))).run P w= .ok (.slice (some ⟨w.heap.size,0,none⟩) len len) (w.alloc (.cells r e (0,0))):=by
  intro a2
  have fin:∀zz:LAc,∃r:LAc,Instr.fill (fun i=>some (i*n,n)) ((Array.range (len*n)).map (fun i=>zz[i % zz.size]!)) (h.map fun(i,y)=>(i,a.eval y)).toList=some r/\
   (∀i j,i<len->j<n->r[i*n+j]? =(us.getD i undef).cells.toList[j]?)/\r.size=len*n:=by
   intro zz;obtain⟨r,a9,a1⟩:=mK n us 0 ((Array.range (len*n)).map (fun i=>zz[i % zz.size]!)) a2 (by simp[F])
   have E:r.toList=us.flatMap fun u=>u.cells.toList:=by rw[a1];simp[F]
   refine⟨r,by rw[b7];exact a9,fun i j hi hj=> ?_, ?_⟩
   ·rw[<-cY,E,jV a2 (by omega) hj]
   ·rw[<-aP,E,List.length_flatMap]
    have:us.map (fun u=>u.cells.toList.length)=au us.length n:=by
     apply List.ext_getElem
     ·simp
     ·intro i O h2
      simp;exact a2 _ (bo _)
    rw[this];simp[F]
  by_cases h0:len*n=0
  ·obtain⟨r,hf,O,h2⟩:=fin #[]
   refine⟨r,O,h2, ?_⟩;simp only[dF,aB,run_underlying hd,am,cf hn];rw[if_neg (by omega),if_pos h0];simp only[aB,aF,am];rw[hf];rfl
  ·obtain⟨r,hf,O,h2⟩:=fin z.cells
   refine⟨r,O,h2, ?_⟩;simp only[dF,aB,run_underlying hd,am,cf hn];rw[if_neg (by omega),if_neg h0];simp only[aB,aF,am,b5];rw[hf];rfl
 have I:∀i,i<len->i<(qs.map s.ev).length:=fun i hi=>by rw[L.1,F];exact hi
 obtain⟨h8,rfl,rfl⟩:lv P e=false/\n=W/\qs=a3:=by
  cases h8:lv P e with
  |true=>rw[h8]at H;simp at H
  |false=>rw[h8]at H;simp at H;exact⟨rfl,H.1,H.2⟩
 obtain⟨a1,J⟩:=uh b3;have E:B.length=len:=by rw[a1,L.1,F]
 have S:∀i,i<len->cr x (((qs.map s.ev).getD i .undef).cells) ((us.getD i undef).cells.toList):=fun i hi=>(L.2 i (I i hi)).cells (J i (I i hi)).1
 have c4:∀u∈us,u.cells.size=n:=by intro u hu;obtain⟨i,hi,rfl⟩:=bl hu;have O:=S i (by omega);have h2:=(J i (I i (by omega))).2.1;rw[show us.getD i undef=us[i]from by rw[aa,af hi];rfl]at O;have:=O.1;rw[h2]at this;simpa using this.symm
 obtain⟨r,c6,H,a8⟩:=a7 c4
 have a4:(execOp a.eval o).run P w= .ok (.value (.slice (some ⟨w.heap.size,0,none⟩) B.length B.length)) (w.alloc (.cells r e (0,0))):=by rw[b2,E];simp[a8]
 refine⟨r,e,a4,by rw[E];exact H,fun y hy=> ?_,fun k hk=> ?_⟩
 ·obtain⟨i,hi,rfl⟩:=bl hy
  have:=(J i (I i (by omega))).2.2.2;rw[aa,af hi]at this;simp only[ba]at this;rw[this,aQ];exact(J i (I i (by omega))).2.1
 ·have b4:0<n:=by
   rcases gh n with h0|h0
   ·subst h0;omega
   ·exact h0
  have hi:k/n<len:=by rw[<-E];exact Nat.div_lt_of_lt_mul (by rw[dq];exact hk)
  have hj:k % n<n:=Nat.mod_lt _ b4;obtain⟨q1,q2,q3,q4⟩:=J (k/n) (I _ hi);rw[q4,fY];have e1:k/n*n+k % n=k:=by rw[dq];exact Nat.div_add_mod k n
  have e2:=c6 (k/n) (k % n) hi hj;rw[e1]at e2;have a5:k % n<((qs.map s.ev).getD (k/n) .undef).cells.length:=by rw[q2];exact hj
  have:=(S _ hi).2 _ a5;rw[aW,e2,<-aa];refine(this.data (q3 _ ?_)).toData;generalize ((qs.map s.ev).getD (k/n) .undef).cells=q at*;rw[aa,af a5];exact bo _
theorem vK(hM:aM C x s a w){t:TypeId}{len:Nat}{h:Array (Nat×Operand)}(ho:o.op= .buildSlice t len h){a1:List Arg}(O:br P o=some (.litB a1)){l:t6}(b6:toB (a1.map s.ev)=some l):
 ∃(r:LAc)(e:TypeId),(execOp a.eval o).run P w= .ok (.value (.slice (some ⟨w.heap.size,0,none⟩) l.length l.length)) (w.alloc (.cells r e (0,0)))/\l.length<=r.size/\∀i,i<l.length->r.getD i undef= .int .u8 (l.getD i 0).toNat:=by
 have a6:execOp a.eval o=(do pure (.value (<-dF t len (h.map fun(i,y)=>(i,a.eval y))))):=by simp only[execOp,ho]
 simp only[br,ho]at O;split at O<;>try (cases O;done)
 rename_i e hd;split at O<;>try (cases O;done)
 rename_i n zv hn b4;split at O<;>try (cases O;done)
 rename_i H;simp only[aA,decide_eq_true_eq]at H;obtain⟨⟨S,c4⟩,a5⟩:=H;obtain⟨qs,b5,E⟩:=ai.1 O;obtain⟨U,c3⟩:=eN b5;obtain⟨z,c6,a8⟩:=cC b4;have F:h.toList.length=len:=by have:=congrArg List.length S;simpa using this
 obtain⟨us,I⟩:∃us:LAb,us=h.toList.map fun q=>a.eval q.2:=⟨_,rfl⟩
 have B:us.length=len:=by rw[I];simpa using F
 have J:cr x (qs.map s.ev) us:=by
  refine⟨by rw[I];simp[U],fun i hi=> ?_⟩;have W:i<qs.length:=by simpa using hi
  have:=aK hM (c3 i (by omega) W);rw[I];simp only[aa,aR,af W,af (show i<h.toList.length from by omega),bm,ba];exact this
 have a9:(h.map fun(i,y)=>(i,a.eval y)).toList=(us.zipIdx 0).map fun q=>(q.2,q.1):=by
  rw[I];apply List.ext_getElem
  ·simp
  ·intro i L h2
   simp only[Array.toList_map,aQ,aP]at L;have:(h.toList.map (·.1))[i]? =(bS len)[i]? :=by rw[S]
   have hi:i<len:=by rw[<-F];simpa using L
   simp only[aR,cM hi]at this;rw[af (by simpa using L)]at this;simp at this;simp[this]
 have a0:(∀u∈us,u.cells.size=n)->∃r:LAc,(∀i j,i<len->j<n->r[i*n+j]? =(us.getD i undef).cells.toList[j]?)/\r.size=len*n/\
  (dF t len (h.map fun(i,y)=>(i,a.eval y))).run P w= .ok (.slice (some ⟨w.heap.size,0,none⟩) len len) (w.alloc (.cells r e (0,0))):=by
  intro T
  have fin:∀zz:LAc,∃r:LAc,Instr.fill (fun i=>some (i*n,n)) ((Array.range (len*n)).map (fun i=>zz[i % zz.size]!)) (h.map fun(i,y)=>(i,a.eval y)).toList=some r/\
   (∀i j,i<len->j<n->r[i*n+j]? =(us.getD i undef).cells.toList[j]?)/\r.size=len*n:=by
   intro zz;obtain⟨r,a4,a7⟩:=mK n us 0 ((Array.range (len*n)).map (fun i=>zz[i % zz.size]!)) T (by simp[B])
   have Q:r.toList=us.flatMap fun u=>u.cells.toList:=by rw[a7];simp[B]
   refine⟨r,by rw[a9];exact a4,fun i j hi hj=> ?_, ?_⟩
   ·rw[<-cY,Q,jV T (by omega) hj]
   ·rw[<-aP,Q,List.length_flatMap]
    have:us.map (fun u=>u.cells.toList.length)=au us.length n:=by
     apply List.ext_getElem
     ·simp
     ·intro i L h2
      simp;exact T _ (bo _)
    rw[this];simp[B]
  by_cases h0:len*n=0
  ·obtain⟨r,hf,L,h2⟩:=fin #[]
   refine⟨r,L,h2, ?_⟩;simp only[dF,aB,run_underlying hd,am,cf hn];rw[if_neg (by omega),if_pos h0];simp only[aB,aF,am];rw[hf];rfl
  ·obtain⟨r,hf,L,h2⟩:=fin z.cells
   refine⟨r,L,h2, ?_⟩;simp only[dF,aB,run_underlying hd,am,cf hn];rw[if_neg (by omega),if_neg h0];simp only[aB,aF,am,a8];rw[hf];rfl
 have b7:∀i,i<len->i<(qs.map s.ev).length:=fun i hi=>by rw[J.1,B];exact hi
 cases h8:lv P e with
 |true=>
  simp only[h8,if_true,SOp.litB.injEq]at E;subst E;have hl:=b6;have hq:=rH hl;have b3:l.length=len:=by have:=congrArg List.length hq;simp only[aQ]at this;rw[<-this,U,F]
  have Z:∀i,i<len->us.getD i undef= .int .u8 (l.getD i 0).toNat:=by
   intro i hi;have:=J.2 i (b7 i hi);rw[hq]at this
   have e1:(l.map SV.u8).getD i .undef= .u8 (l.getD i 0):=by simp only[aa,aR];rw[af (by omega)];rfl
   rw[e1]at this;exact this.u8_inv
  have b2:∀u∈us,u.cells.size=1:=by intro u hu;obtain⟨i,hi,rfl⟩:=bl hu;have:=Z i (by omega);rw[aa,af hi]at this;simp only[ba]at this;rw[this];rfl
  have a2:n=1:=by simpa[h8]using a5
  subst a2;obtain⟨r,b8,E,a3⟩:=a0 b2;refine⟨r,e,by rw[a6,aB,a3];simp[b3],by rw[E];omega,fun i hi=> ?_⟩;have:=b8 i 0 (by omega) (by omega);rw[iF,fm]at this;rw[aW,this,Z i (by omega)];rfl
 |false=>simp only[h8,aJ,if_false]at E;cases E
theorem Py{E:List Arg}(B:br P o=some (.litB E)):∃t len z,o.op= .buildSlice t len z:=by
 cases ho:o.op with
 |buildSlice t len z=>exact⟨t,len,z,rfl⟩
 |_=>exfalso;exact absurd B (by
  intro B;simp only[br,ho]at B
  first
   |(cases B;done)
   |(obtain⟨_,_,h⟩:=ai.1 B;cases h;done)
   |(repeat' split at B)<;>first|(cases B;done)|contradiction|(obtain⟨_,_,h⟩:=ai.1 B;first|(cases h;done)|(split at h<;>cases h;done)))
end Go.Sy
namespace Go.Sy
variable [bc]
variable {P : Program} {C : Ctx} {x : Sit} {s : St} {a : Act} {w : World} {o : Oper} {so : SOp} {p : Prop} {c : SV}
theorem FX{t:TypeId}{n:Nat}(h:vp P t=some n):pR P t=some false:=by unfold vp at h;unfold pR;split at h<;>first|(cases h;done)|(rename_i z;rw[z];rfl)
theorem wA{t:TypeId}{n:Nat}(B:vp P t=some n){c1 d1:SV}{u v:Value}(hu:Rep x c1 u)(z:Rep x d1 v){b:Bool}(h:tt n c1 d1=some b)(d:Nat):(Op.equalIn (d+1) t u v).run P w= .ok b w:=by
 unfold vp at B;split at B<;>try (cases B;done)
 all_goals
  rename_i hd;cases B;cases c1<;>cases d1<;>simp only[tt,reduceCtorEq,aw.injEq,aG]at h
 ·rw[hu.bool_inv,z.bool_inv]
  subst h;rename_i m n;simp only[Op.equalIn,aB,run_underlying hd,am,aF];cases m<;>cases n<;>rfl
 ·rw[hu.int_inv,z.int_inv]
  obtain⟨rfl,h⟩:=h;subst h;simp only[Op.equalIn,aB,run_underlying hd,am,if_true,aF];rfl
 ·rw[hu.u8_inv,z.u8_inv]
  subst h;rename_i m n;simp only[Op.equalIn,aB,run_underlying hd,am,if_true,aF]
  congr 1
  rw[eR];simp only[beq_iff_eq,decide_eq_true_eq,Int.natCast_inj];exact UInt8.toNat_inj
 ·rw[hu.str_inv,z.str_inv]
  subst h;rename_i m n;simp only[Op.equalIn,aB,run_underlying hd,am,aF]
  congr 1
  rw[beq_toListBytes,ByteArray.toList_eq,ByteArray.toList_eq,eR];simp
theorem jP:∀(S:List Field)(T:t8)(k:Nat)(cs H:t7)(z E:LAb)(d:Nat),ww P k S=some T->
 cr x cs (z.drop k)->cr x H (E.drop k)->∀{b:Bool},gF T cs H=some b->(Op.eqFields (d+1) ⟨z⟩ ⟨E⟩ S).run P w= .ok b w
 |[],T,k,cs,H,z,E,d,B,I,hy,b,h=>by simp only[ww,aw.injEq]at B;subst B;cases cs<;>cases H<;>simp[gF]at h;subst h;simp[Op.eqFields]
 |f::S,T,k,cs,H,z,E,d,B,I,hy,b,h=>by
  simp only[ww,aG]at B;obtain⟨⟨L,Q⟩,B⟩:=B;split at B<;>try (cases B;done)
  rename_i t a0 F a2;cases B;cases cs with
  |nil=>simp[gF]at h
  |cons c1 cs=>
   cases H with
   |nil=>simp[gF]at h
   |cons d1 H=>
    simp only[gF]at h;split at h<;>try (cases h;done)
    rename_i r q hr hq;cases h;have J:=I.1;have a3:=hy.1;simp only[av,aE]at J a3
    have U:(⟨z⟩:LAc)[k]? =some (z.getD k undef):=by rw[gg,af (by omega),aa,af (by omega)];rfl
    have a1:(⟨E⟩:LAc)[k]? =some (E.getD k undef):=by rw[gg,af (by omega),aa,af (by omega)];rfl
    have Z:Rep x c1 (z.getD k undef):=by have:=I.2 0 (by simp);simpa[aa,bf]using this
    have W:Rep x d1 (E.getD k undef):=by have:=hy.2 0 (by simp);simpa[aa,bf]using this
    have tl:∀{cs:t7}{c1:SV}{z:LAb},cr x (c1::cs) (z.drop k)->cr x cs (z.drop (k+1)):=by intro cs c1 z I;have J:=I.1;simp only[av,aE]at J;refine⟨by simp only[aE];omega,fun i hi=> ?_⟩;have:=I.2 (i+1) (by simpa using hi);simp only[aa,List.getElem?_cons_succ,bf]at this ⊢;rw[show k+1+i=k+(i+1)by omega];exact this
    have ih:=jP S a0 (k+1) cs H z E d a2 (tl I) (tl hy) hq;have O:=wA (w:=w) F Z W hr d;simp only[Op.eqFields,if_pos L,part,aB,fi (FX F),am,aJ,if_false];rw[Q,U,a1];simp only[aF,am,O];cases r
    ·simp
    ·simp only[Bool.not_true,aJ,if_false]
     rw[ih,Bool.true_and]
theorem N6(W:aM C x s a w){op:BinOp}{t u:TypeId}{X Y:Operand}(ho:o.op= .binOp op t X Y u){F:Bool}{T:t8}{x' L:Arg}(h:br P o=some (.eqS F T x' L))(B:val s (.eqS F T x' L)=some (p,c)):ce P C o a w (s.put o.dst c):=by
 have O:execOp a.eval o=(do pure (.value (<-(do eqGuard op t X Y (a.eval X) (a.eval Y);binOp op t (a.eval X) (a.eval Y):Sem Value)))):=by simp only[execOp,ho]
 simp only[br,ho]at h;split at h<;>try (cases h;done)
 ·split at h<;>cases h
 ·rename_i fs _ _ hd Q S
  split at h<;>try (cases h;done)
  rename_i I U;rw[aG]at h;obtain⟨z,h⟩:=h;simp only[aA,dv]at z
  have E:op=(if F then .neq else .eql)/\I=T/\bq P t X=some x'/\bq P u Y=some L:=by split at h<;>first|(cases h;done)|(cases h;exact⟨rfl,rfl,Q,S⟩)
  obtain⟨E,rfl,Q,S⟩:=E;have h1:=aK W Q;have Z:=aK W S;simp only[val]at B;cases hu:s.ev x' with
  |agg cs=>
   cases hw:s.ev L with
   |agg ds=>
    rw[hu,hw]at B;rw[hu]at h1;rw[hw]at Z;simp only[ai,bn.injEq]at B;obtain⟨b,hb,_,rfl⟩:=B;obtain⟨vs,e1,g1⟩:=h1.agg_inv;obtain⟨us,e2,g2⟩:=Z.agg_inv;have J:P.fieldsOf t=fs:=by simp[Program.fieldsOf,hd]
    have H:(Op.equalIn 10000 t (.agg ⟨vs⟩) (.agg ⟨us⟩)).run P w= .ok b w:=by rw[show(10000:Nat)=9998+1+1 from rfl,run_equalIn_struct w (9998+1) t ⟨vs⟩ ⟨us⟩ (by rw[J];exact hd) z.1,J];exact jP fs.toList I 0 cs ds vs us 9998 U (by simpa using g1) (by simpa using g2) hb
    refine ce.val W O (u:= .bool (if F then !b else b)) ?_ (dw _);rw[e1,e2];simp only[aB,run_eqGuard_agg w op t X Y ⟨vs⟩ ⟨us⟩ z.2,am];subst E;cases F
    ·simp only[aJ,if_false];rw[run_eql_struct,H];rfl
    ·simp only[if_true];rw[run_neq_struct,H];rfl
   |_=>rw[hu,hw]at B;simp at B
  |_=>rw[hu]at B;simp at B
 ·split at h<;>cases h
 ·split at h<;>cases h
theorem wD(W:aM C x s a w){H:Bool}{q:Arg}(B:br P o=some (.isnil H q)){K:Bool->Prop}
 (h:match s.ev q with
  | .byt l _=>∀b:Bool,(b=true->l=[])->K (b !=H)
  | .lst _ T _=>∀b:Bool,(b=true->T=[])->K (b !=H)
  | .psl _ _ _ _ _=>K H
  |_=>False):∃b,K b/\ce P C o a w (s.put o.dst (.bool b)):=by
 have I:∃op t X Y u,o.op= .binOp op t X Y u/\(op=if H then .neq else .eql)/\(∃e,P.underlying t=some (.slice e))/\bq P t X=some q/\Y= .const (.slice none 0 0):=by
  cases L:o.op with
  |binOp op t X Y u=>
   simp only[br,L]at B;split at B<;>try (cases B;done)
   ·split at B<;>cases B
   ·split at B<;>try (cases B;done)
    split at B<;>try (cases B;done)
    split at B<;>cases B
   ·rename_i e x' _ hd hx hy
    split at B<;>first|(cases B;done)|(cases B;exact⟨_,_,_,_,_,rfl,rfl,⟨_,hd⟩,hx,rfl⟩)
   ·split at B<;>first|(cases B;done)|contradiction
  |_=>exfalso;exact absurd B (by
   intro B;simp only[br,L]at B
   first
    |(cases B;done)
    |(obtain⟨_,_,h⟩:=ai.1 B;cases h;done)
    |(repeat' split at B)<;>first|(cases B;done)|contradiction|(obtain⟨_,_,h⟩:=ai.1 B;first|(cases h;done)|(split at h<;>cases h;done)))
 obtain⟨op,t,X,Y,u,L,I,⟨e,hd⟩,hX,hY⟩:=I;have O:execOp a.eval o=(do pure (.value (<-(do eqGuard op t X Y (a.eval X) (a.eval Y);binOp op t (a.eval X) (a.eval Y):Sem Value)))):=by simp only[execOp,L]
 have E:=aK W hX;have Q:a.eval Y= .slice none 0 0:=by rw[hY];rfl
 have run:∀F n cp,a.eval X= .slice F n cp->ce P C o a w (s.put o.dst (.bool (F.isNone !=H))):=by
  intro F n cp S
  have hg:∀v1 v2 v3 v4 Z,(eqGuard op t X Y (.slice v1 v2 v3) (.slice none v4 Z))=pure ():=by intros;subst I;cases H<;>rfl
  refine ce.val W O (u:= .bool (F.isNone !=H)) ?_ (dw _);rw[S,Q,hg];simp only[aB,aF,am]
  have J:(Op.equal t (.slice F n cp) (.slice none 0 0)).run P w= .ok F.isNone w:=by rw[show Op.equal t (.slice F n cp) (.slice none 0 0)=Op.equalIn (9999+1) t (.slice F n cp) (.slice none 0 0)from rfl,Op.equalIn];simp only[aB,run_underlying hd,am];cases F<;>rfl
  subst I;cases H
  ·simp only[aJ,if_false,binOp,aB,J,am,aF];cases F<;>rfl
  ·simp only[if_true,binOp,aB,J,am,aF];cases F<;>rfl
 cases hu:s.ev q with
 |byt l tk=>
  rw[hu]at h E;have z:=E.data rfl;cases hv:a.eval X with
  |slice F n cp=>
   refine⟨_,h F.isNone (fun hn=> ?_),run F n cp hv⟩;rw[hv]at z;cases z with
   |bytN=>rfl
   |bytE=>simp at hn
   |byt _ _ b off _ _ _ _ _=>simp at hn
  |_=>rw[hv]at z;cases z
 |lst sz T tk=>
  rw[hu]at h E;have z:=E.data rfl;cases hv:a.eval X with
  |slice F n cp=>
   refine⟨_,h F.isNone (fun hn=> ?_),run F n cp hv⟩;rw[hv]at z;cases z with
   |lstN=>rfl
   |lstE=>simp at hn
   |lst _ _ _ b off _ _ _ _ _ _ _ _=>simp at hn
  |_=>rw[hv]at z;cases z
 |psl o' sz off n cp=>rw[hu]at h E;obtain⟨cp,_,_,U,he,_⟩:=E.psl_inv;refine⟨_,h, ?_⟩;have:=run _ _ _ he;simpa using this
 |_=>rw[hu]at h;exact h.elim
end Go.Sy
namespace Go.Sy
variable [bc]
variable {P : Program} {C : Ctx} {x : Sit} {s : St} {a : Act} {w : World} {o : Oper} {so : SOp} {e : Eff}
theorem aM.newObj(E:aM C x s a w){d:Nat}(B:LAa)(z:100<=d){cv:LAc}{t:TypeId}(obj:aC){val:SV}{u:Value}(F:obj.size<=cv.size)(I:∀k,k<obj.size->bW x obj k (cv.getD k undef))
 (H:Rep (x.newO d w.heap.size) val u):
 aM C (x.newO d w.heap.size) (((s.purge d (d+1)).addO d (obj.purge d (d+1))).put B val) (a.put B u) (w.alloc (.cells cv t (0,0))):=by
 refine aM.put ⟨?_,E.defers, ?_⟩ B H
 ·exact cr.mono (x:=x) (x':=x.newO d w.heap.size) (lo:=d) (hi:=d+1) (fun _ _ _ h=>h) (Sit.newO_ne x d _) (fun _ _=>rfl) E.tm
 ·exact E.heap.allocO d z obj (fun i _ h=>by omega) F I (cu _) (fun _ h=>by omega)
theorem ce.newObj(I:aM C x s a w){d:Nat}(h:100<=d){m:Sem Value}{cv:LAc}{t:TypeId}(obj:aC){val:SV}{u:Value}(E:execOp a.eval o=(do pure (.value (<-m))))
 (F:m.run P w= .ok u (w.alloc (.cells cv t (0,0)))) (z:obj.size<=cv.size) (H:∀k,k<obj.size->bW x obj k (cv.getD k undef)) (B:Rep (x.newO d w.heap.size) val u):
 ce P C o a w (((s.purge d (d+1)).addO d (obj.purge d (d+1))).put o.dst val):=
 ⟨u,w.alloc (.cells cv t (0,0)),_,.value u,by rw[E];simp[F],.inl rfl,I.newObj o.dst h obj z H B⟩
theorem hJ(x:Sit)(d b:Nat){k:Nat}:(x.newO d b k).bk d=(b,k):=if_pos rfl
theorem i6(x:Sit)(d b:Nat){k:Nat}:((x.newO d b k).bk d).1=b:=by rw[hJ]
theorem DF(U:aM C x s a w){t:TypeId}(L:o.op= .alloc t)(B:br P o=some so)(F:eff s o.dst so=some e):ce P C o a w (s.app o.dst e):=by
 simp only[br,L]at B;split at B<;>try (cases B;done)
 rename_i obj z Q hz;split at B<;>try (cases B;done)
 rename_i h;cases B;simp only[eff]at F;split at F<;>try (cases F;done)
 rename_i d hd;cases F;obtain⟨O,E,J⟩:=cC hz;simp only[Yb,aA,decide_eq_true_eq,aT,nL]at h;simp only[St.app];have H:o.dst.getD 0=d:=by rw[hd];rfl
 rw[H];refine ce.newObj U (d:=d+100) (by omega) obj (m:=Instr.alloc t true (.tuple #[])) (cv:=O.cells) (t:=t) (u:= .pointer (some ⟨w.heap.size,0,none⟩)) (by simp only[execOp,L]) ?_ (by rw[<-aP,E];exact h.1) (fun k S=> ?_) ?_
 ·simp only[Instr.alloc,aB,J,am,newVar,newRow,run_newObj_alloc,aF]
 ·have I:=h.2 k S
  have T:O.cells.getD k undef=z.getD k undef:=by rw[<-E];simp[aW]
  rw[T];cases obj with
  |rc cs=>exact oV I
  |arr W Z=>exact lJ I
  |bar l=>exact lJ I
 ·have:=Rep.ptr (x:=x.newO (d+100) w.heap.size) (d+100) 0
  rw[i6]at this;exact this
theorem Qn(L:aM C x s a w){t:TypeId}{X:Operand}(H:o.op= .box t X)(I:br P o=some so)(z:eff s o.dst so=some e):ce P C o a w (s.app o.dst e):=by
 simp only[br,H]at I;obtain⟨r,B,rfl⟩:=ai.1 I;have h:=aK L B;simp only[eff]at z;split at z<;>try (cases z;done)
 rename_i d hd;cases z;simp only[St.app];have F:(s.ev r).isDef=true->cr x (s.ev r).cells (a.eval X).cells.toList:=h.cells;have hu:(s.ev r).isDef=true\/(s.ev r).cells=[]:=by cases s.ev r<;>simp[SV.isDef,SV.cells]
 have E:o.dst.getD 0=d:=by rw[hd];rfl
 rw[E];refine ce.newObj L (d:=d+100) (by omega) (.rc (s.ev r).cells) (m:=Instr.box t (a.eval X)) (cv:=(a.eval X).cells) (t:=t) (u:= .pointer (some ⟨w.heap.size,0,none⟩)) (by simp only[execOp,H]) ?_ ?_ (fun k J=> ?_) ?_
 ·simp only[Instr.box,aB,am,newVar,newRow,run_newObj_alloc,aF]
 ·rcases hu with hu|hu
  ·have:=(F hu).1;simp only[aC.size];rw[<-aP];omega
  ·simp[aC.size,hu]
 ·rcases hu with hu|hu
  ·have:=(F hu).2 k J
   simp only[bW];have O:(a.eval X).cells.getD k undef=(a.eval X).cells.toList.getD k undef:=by simp[aW]
   rw[O];exact this
  ·simp[aC.size,hu]at J
 ·have:=Rep.ptr (x:=x.newO (d+100) w.heap.size) (d+100) 0
  rw[i6]at this;exact this
theorem kI{t B:TypeId}{H n:Nat}{I:LAb}{l c:Int}{k1 k2:IntKind}(hd:P.underlying t=some (.slice B))(hn:fj P B=some n)(O:sm P B=some H)(hz:fN P B=some I)
 (h0:0<=l) (h1:l<=c) (h2:(H:Int)*c<=140737488355328) (h3:c<=9223372036854775807):
 ∃cv:LAc,(Instr.makeSlice t (.int k1 l) (.int k2 c)).run P w= .ok (.slice (some ⟨w.heap.size,0,none⟩) l.toNat c.toNat) (w.alloc (.cells cv B (0,0)))/\cv.size=c.toNat*n/\
  ∀k,k<c.toNat*n->cv.getD k undef=I.getD (k % I.length) default:=by
 obtain⟨z,Z,S⟩:=cC hz;have wl:aj.wrap l=l:=by rw[IntKind.wrap_i64];omega
 have wc:aj.wrap c=c:=by rw[IntKind.wrap_i64];omega
 have hby:∃i,P.info? B=some i/\i.bytes=H:=by
  unfold sm at O;cases hi:P.info? B with
  |none=>simp[hi]at O
  |some i=>simp[hi]at O;exact⟨i,rfl,O⟩
 obtain⟨i,hi,U⟩:=hby
 have L:¬((decide (c<0)||decide ((i.bytes:Int)*c>2^48)||decide (l<0)||decide (l>c))=true):=by rw[U];simp;omega
 have J:∀(Q:LAc),(c.toNat*n=0\/Q=z.cells)->∃cv:LAc,cv=(Array.range (c.toNat*n)).map (fun j=>Q[j % Q.size]!)/\cv.size=c.toNat*n/\∀k,k<c.toNat*n->cv.getD k undef=I.getD (k % I.length) default:=by
  intro Q T;refine⟨_,rfl,by simp,fun k hk=> ?_⟩;rcases T with h|rfl
  ·omega
  ·rw[<-Z]
   simp[aW,hk];rw[getElem!_def];cases z.cells[k % z.cells.size]? <;>rfl
 by_cases E:c.toNat*n=0
 ·obtain⟨cv,F,r1,W⟩:=J #[] (.inl E)
  refine⟨cv, ?_,r1,W⟩;simp only[Instr.makeSlice,aB,run_underlying hd,am,asInt,asIntOf,aF,run_typeInfo w hi,wl,wc];rw[if_neg (by simpa using L)];simp only[aB,run_askRoom,am,cf hn];rw[if_pos E];simp only[aB,aF,am,newRow,run_newObj_alloc,F]
 ·obtain⟨cv,F,r1,W⟩:=J z.cells (.inr rfl)
  refine⟨cv, ?_,r1,W⟩;simp only[Instr.makeSlice,aB,run_underlying hd,am,asInt,asIntOf,aF,run_typeInfo w hi,wl,wc];rw[if_neg (by simpa using L)];simp only[aB,run_askRoom,am,cf hn];rw[if_neg E];simp only[aB,aF,am,S,newRow,run_newObj_alloc,F]
end Go.Sy
namespace Go.Sy
variable [bc]
variable {P : Program} {C : Ctx} {x : Sit} {s : St} {a : Act} {w : World} {o : Oper} {so : SOp} {e : Eff}
theorem ft{α:Type}(n:Nat)(z d:α)(i:Nat)(h:i<n):(au n z).getD i d=z:=by rw[aa,List.getElem?_replicate,if_pos h];rfl
theorem mQ{t:TypeId}{cs:t7}(h:wU P t=some cs):∃vs,fN P t=some vs/\cs.length=vs.length/\∀(G:GM) i,i<cs.length->cD G (cs.getD i .undef) (vs.getD i undef):=by obtain⟨z,hz,rfl⟩:=ai.1 h;obtain⟨vs,B,E,F⟩:=jg hz;refine⟨vs,B,by simpa using E,fun G i hi=> ?_⟩;rw[aV _ (by rfl)];exact(F G i (by simpa using hi)).toData
theorem pW(hM:aM C x s a w){t:TypeId}{X Y:Operand}(ho:o.op= .makeSlice t X Y)(h:br P o=some so)(I:eff s o.dst so=some e)(hp:e.pre):ce P C o a w (s.app o.dst e):=by
 have W:execOp a.eval o=(do pure (.value (<-Instr.makeSlice t (a.eval X) (a.eval Y)))):=by simp only[execOp,ho]
 simp only[br,ho]at h;split at h<;>try (cases h;done)
 rename_i el hd;split at h<;>try (cases h;done)
 rename_i n a1 z l c hn hb hz hl hc;obtain⟨zs,Z,F,S⟩:=mQ hz;have h1:=aK hM hl;have h2:=aK hM hc;cases h8:lv P el with
 |true=>
  have a3:=ja h8;simp only[h8,if_true]at h
  by_cases T:n=1/\a1=1/\z0 z=true
  ·rw[if_pos T]at h
   obtain⟨rfl,rfl,B⟩:=T;simp only[aw.injEq]at h;subst h;simp only[eff]at I;split at I<;>try (cases I;done)
   rename_i d k1 L k2 K Q hL hK;cases I;obtain⟨q0,q1,q2⟩:=hp;rw[hL]at h1;rw[hK]at h2;obtain⟨cv,E,J,H⟩:=kI (P:=P) (w:=w) (k1:=k1) (k2:=k2) hd hn hb Z q0 q1 (by omega) (by omega);simp only[St.app];have O:o.dst.getD 0=d:=by rw[Q];rfl
   rw[O]
   have a2:z=[.u8 0]:=by
    unfold z0 at B;split at B
    ·rename_i b;simp at B;rw[B]
    ·cases B
   refine ce.newObj hM (d:=d+100) (by omega) (.bar (au K.toNat 0)) W (by rw[h1.int_inv,h2.int_inv];exact E) (by simp[aC.size,J]) (fun k U=> ?_) ?_
   ·simp only[aC.size,bQ]at U
    simp only[bW,aC.cell];rw[H k (by omega),ft _ _ _ _ U];rw[a2]at F S;have h0:=S x.G 0 (by simp);have:zs.length=1:=by simpa using F.symm
    rw[this,Nat.mod_one]
    match zs,this with
    |[v],_=>exact h0
   ·have:=Rep.psl (x:=x.newO (d+100) w.heap.size) (d+100) 1 0 L.toNat (some K.toNat) 0 K.toNat (.inr (by omega)) (by omega) (fun _ e=>by cases e;rfl) (fun e=>by cases e)
    rw[i6]at this;exact this
  ·rw[if_neg T]at h;cases h
 |false=>
  simp only[h8,aJ,if_false]at h
  by_cases hzl:z.length=n/\n≠0
  ·rw[if_pos hzl]at h
   simp only[aw.injEq]at h;subst h;obtain⟨hzl,hn0⟩:=hzl;simp only[eff]at I;split at I<;>try (cases I;done)
   rename_i d k1 L k2 K Q hL hK;cases I;obtain⟨q0,q1,q2,q3⟩:=hp;rw[hL]at h1;rw[hK]at h2;obtain⟨cv,E,J,H⟩:=kI (P:=P) (w:=w) (k1:=k1) (k2:=k2) hd hn hb Z q0 q1 q2 q3;simp only[St.app];have O:o.dst.getD 0=d:=by rw[Q];rfl
   rw[O];refine ce.newObj hM (d:=d+100) (by omega) (.arr z.length (au K.toNat z)) W (by rw[h1.int_inv,h2.int_inv];exact E) (by simp[aC.size,J,hzl]) (fun k U=> ?_) ?_
   ·simp only[aC.size,bQ]at U
    simp only[bW,aC.cell];rw[H k (by rw[<-hzl];exact U),ft _ _ _ _ (Nat.div_lt_of_lt_mul (by rw[dq];exact U)),<-F];have a0:k % z.length<z.length:=Nat.mod_lt _ (by omega);have:=S x.G _ a0
    have e1:zs.getD (k % z.length) default=zs.getD (k % z.length) undef:=by rw[aa,aa,af (by omega)];rfl
    rw[e1];exact this
   ·have:=Rep.psl (x:=x.newO (d+100) w.heap.size) (d+100) z.length 0 L.toNat (some K.toNat) 0 K.toNat (.inr (by omega)) (by omega) (fun _ e=>by cases e;rfl) (fun e=>by cases e)
    rw[i6]at this;exact this
  ·rw[if_neg hzl]at h;cases h
theorem cD.oneCell{G:GM}{c:SV}{v:Value}(h:cD G c v):v.oneCell'=true:=by cases h<;>rfl
theorem Rep.oneCell{c:SV}{v:Value}(h:Rep x c v)(z:c.one=true):v.oneCell'=true:=by
 cases h with
 |undef=>simp[SV.one]at z
 |dat _ _ h _=>exact h.oneCell
 |ptr=>rfl
 |ap=>rfl
 |psl=>rfl
 |agg=>simp[SV.one]at z
 |tup=>simp[SV.one]at z
 |fn=>rfl
theorem ry(cs:t7)(off:Nat)(v:t7)(h:off+v.length<=cs.length)(i:Nat):(setCells cs off v).getD i .undef=if off<=i/\i<off+v.length then v.getD (i-off) .undef else cs.getD i .undef:=by
 have z:∀i:Nat,(cs.take off++v++cs.drop (off+v.length)).getD i .undef=if off<=i/\i<off+v.length then v.getD (i-off) .undef else cs.getD i .undef:=by intro i;simp only[aa];rw[fP _ _ _ _ h];split<;>rfl
 unfold setCells;split
 ·rename_i u
  simp only[aL]at*;simp only[aa,eW]
  by_cases hi:off=i
  ·subst hi;rw[if_pos rfl,if_pos (by omega),if_pos (by omega)];simp
  ·rw[if_neg hi,if_neg (by omega)]
 ·exact z i
theorem nh(cs:t7)(off:Nat)(v:t7)(h:off+v.length<=cs.length):(setCells cs off v).length=cs.length:=by
 unfold setCells;split
 ·simp
 ·simp;omega
theorem ce.store(I:aM C x s a w){t:TypeId}{X Y:Operand}(ho:o.op= .store t X Y){n:Nat}(hn:fj P t=some n){d off:Nat}(hX:a.eval X= .pointer (some ⟨(x.bk d).1,off,none⟩)){obj obj':aC}(T:s.look d=some obj)
 {vs:LAb} (hY:(a.eval Y).cells.toList=vs) (z:vs.length=n) (F:∀v∈vs,v.oneCell'=true) (hb:off+n<=obj.size)
 (W:obj'.size=obj.size) (B:∀c:LAc,(∀k,k<obj.size->bW x obj k (c.getD k undef))->∀k,k<obj.size->bW x obj' k (if off<=k/\k<off+n then vs.getD (k-off) undef else c.getD k undef)) (E:obj'.arrB=obj.arrB:=by rfl):
 ce P C o a w ((s.setO d obj').put o.dst .undef):=by
 obtain⟨c,e,fl,fh,S,⟨hs,a0,J⟩,hr⟩:=eC I T;obtain⟨g1,Z,g3,g4,U⟩:=cT ((x.bk d).1) vs w off;obtain⟨c',Q,L,O⟩:=cK vs w off c S (by omega);refine⟨undef,bM w ((x.bk d).1) off vs,x,.skip, ?_,.inr ⟨rfl,rfl⟩,aM.put (s:=s.setO d obj') ⟨I.tm,I.defers, ?_⟩ o.dst (.undef _)⟩
 ·simp only[execOp,ho,Instr.storeAt,hX,Instr.sureAddr,aB,aF,am,storeVar,cf hn]
  have H:(a.eval Y).cells.size=n:=by rw[<-aP,hY];exact z
  rw[if_neg (by simp[H]),hY,eF off vs w c 0 S (by omega) F];rfl
 ·refine I.heap.block (cP T) g1 Z g3 g4 U ⟨c',e,fl,fh,Q,⟨by omega,by omega,fun h=>by rw[L];exact J (E ▸ h)⟩,fun k hk=> ?_⟩
  rw[O k,z];exact B c hr k (by omega)
theorem mq{cs:t7}{vs:LAb}(h:cr x cs vs)(E:cs.all SV.one=true):∀v∈vs,v.oneCell'=true:=by
 intro v F;obtain⟨i,hi,rfl⟩:=bl F;have z:i<cs.length:=by rw[h.1];exact hi
 have:=h.2 i z;have H:cs.getD i .undef=cs[i]:=by rw[aa,af z];rfl
 have B:vs.getD i undef=vs[i]:=by rw[aa,af hi];rfl
 rw[H,B]at this;exact this.oneCell (aT.1 E _ (bo _))
theorem oA{c:SV}(h:c.isData=true):c.one=true:=by cases c<;>simp[SV.isData,SV.one]at*
theorem OO{z:Nat}{B:f8}(h:∀y∈B,y.length=z){i j n:Nat}{v:t7}(hi:i<B.length)(hj:j+n<=z)(W:v.length=n):
 (gS z B i j n v).length=B.length/\∀k,k<B.length*z->((gS z B i j n v).getD (k/z) []).getD (k % z) .undef=if i*z+j<=k/\k<i*z+j+n then v.getD (k-(i*z+j)) .undef else(B.getD (k/z) []).getD (k % z) .undef:=by
 have T:(B.getD i []).length=z:=by rw[aa,af hi];exact h _ (bo _)
 obtain⟨S,J,H⟩:∃S:t7,(∀m,m<z->S.getD m .undef=if j<=m/\m<j+n then v.getD (m-j) .undef else(B.getD i []).getD m .undef)/\gS z B i j n v=B.set i S:=by
  unfold gS;split
  ·rename_i L
   obtain⟨rfl,rfl⟩:=L;exact⟨v,fun m U=>by rw[if_pos ⟨by omega,by omega⟩,Nat.sub_zero],rfl⟩
  ·refine⟨_,fun m U=> ?_,rfl⟩
   have:=fP (B.getD i []) v j m (by omega);rw[W]at this;simp only[aa]at this ⊢;rw[this];split<;>rfl
 rw[H];refine⟨by simp,fun k Z=> ?_⟩
 have F:0<z:=by
  rcases gh z with O|O
  ·subst O;omega
  ·exact O
 have I:=Nat.div_add_mod k z;have Q:=Nat.mod_lt k F;rw[dq]at I;simp only[aa,eW]at J ⊢
 by_cases E:i=k/z
 ·rw[if_pos E,if_pos hi]
  simp only[ba];rw[J _ Q,<-E];rw[<-E]at I
  by_cases L:j<=k % z/\k % z<j+n
  ·rw[if_pos L,if_pos (by omega),show k-(i*z+j)=k % z-j from by omega]
  ·rw[if_neg L,if_neg (by omega)]
 ·rw[if_neg E,if_neg ?_]
  rintro⟨h1,h2⟩;apply E;have:i*z<=k/\k<(i+1)*z:=by rw[dH];omega
  rw[eq_comm,Nat.div_eq_iff F];rw[dH]at this;omega
theorem lz(h:Nat):∀(m:Nat)(v:t7),(jw h m v).length=m
 |0,_=>rfl
 |m+1,v=>by simp[jw,lz h m]
theorem rb(z:Nat)(B:0<z):∀(m:Nat)(v:t7)(k:Nat),k<m*z->((jw z m v).getD (k/z) []).getD (k % z) .undef=v.getD k .undef
 |0,_,k,hk=>by omega
 |m+1,v,k,hk=>by
  rw[dH]at hk;simp only[jw]
  by_cases h:k<z
  ·rw[Nat.div_eq_of_lt h,iG h,bp]
   simp only[aa,bv,if_pos h]
  ·obtain⟨j,rfl⟩:∃j,k=j+z:=⟨k-z,by omega⟩
   rw[Nat.add_div_right _ B,Nat.add_mod_right,bF,rb z B m (v.drop z) j (by omega)];simp only[aa,bf,Nat.add_comm]
theorem DC(T:aM C x s a w){t:TypeId}{X Y:Operand}(U:o.op= .store t X Y)(hr:br P o=some so)(h:eff s o.dst so=some e)(W:e.pre):ce P C o a w (s.app o.dst e):=by
 simp only[br,U]at hr;split at hr<;>try (cases hr;done)
 rename_i n r q hn a5 a3;cases hr;have Q:=aK T a5;have h2:=aK T a3;simp only[eff]at h;split at h<;>try (cases h;done)
 rename_i hn0;have B:=h2.cells hn0;cases hu:s.ev r with
 |ptr d off=>
  rw[hu]at h Q;simp only[pF]at h;split at h<;>try (cases h;done)
  ·rename_i cs H
   cases h;obtain⟨S,I,L⟩:=W;refine ce.store T U hn Q.ptr_inv H rfl (by rw[<-B.1];exact I) (mq B L) S (by simp only[aC.size];exact nh _ _ _ (by omega)) (fun c O k F=> ?_);have:=O k F;simp only[bW]at this ⊢;rw[ry _ _ _ (by omega),I];split
   ·exact B.get _
   ·exact this
  ·rename_i J xs H
   cases h;obtain⟨rfl,S,I,L⟩:=W
   refine ce.store T U hn Q.ptr_inv H rfl (by rw[<-B.1];exact I) (mq B (by rw[aT]at L ⊢;exact fun z hz=>oA (L z hz))) (by simp only[aC.size];omega) (by simp only[aC.size,lz]) (fun c O k F=> ?_)
   simp only[aC.size]at F;have E:k<(s.ev q).cells.length:=by omega
   have a2:0<J:=by
    rcases gh J with h0|h0
    ·subst h0;omega
    ·exact h0
   simp only[bW,aC.cell];rw[if_pos ⟨by omega,by omega⟩,Nat.sub_zero,rb J a2 _ _ _ F,fY];refine((B.2 _ E).data (aT.1 L _ ?_)).toData;generalize (s.ev q).cells=qq at*;rw[aa,af E];exact bo _
  ·rename_i l H
   split at h<;>try (cases h;done)
   rename_i l' hv;cases h;obtain⟨rfl,S,I⟩:=W;have a4:=rH hv;rw[a4]at B
   refine ce.store T U hn Q.ptr_inv H rfl (by rw[<-B.1,aQ];exact I) (mq B (by rw[aT];intro z hz;obtain⟨b,_,rfl⟩:=aS.1 hz;rfl)) (by simp only[aC.size];omega) (by simp only[aC.size];omega) (fun c O k F=> ?_)
   simp only[aC.size]at F;simp only[bW,aC.cell];rw[if_pos ⟨by omega,by omega⟩,Nat.sub_zero];have E:k<(l'.map SV.u8).length:=by rw[aQ];omega
   have a0:k<l'.length:=by omega
   have e1:(l'.map SV.u8).getD k .undef= .u8 (l'.getD k 0):=by simp[aa,aR,af a0]
   have:=B.2 k E;rw[e1]at this;exact this.data rfl
 |ap d J i j=>
  rw[hu]at h Q;simp only[pF]at h;split at h<;>try (cases h;done)
  ·rename_i a6 xs H
   cases h;obtain⟨rfl,S,I,L,q3,q4⟩:=W;have a1:((s.ev q).cells.map SV.data).length=n:=by rw[aQ];exact L
   obtain⟨g1,g2⟩:=OO q3 S I a1
   have hb:i*J+j+n<=xs.length*J:=by have:=bB J (Nat.succ_le_of_lt S);rw[dH]at this;omega
   refine ce.store T U hn Q.ap_inv H rfl (by rw[<-B.1];exact L) (mq B (by rw[aT]at q4 ⊢;exact fun z hz=>oA (q4 z hz))) (by simp only[aC.size];exact hb) (by simp only[aC.size];rw[g1]) (fun c O k F=> ?_)
   have:=O k F;simp only[bW,aC.cell,aC.size]at this F ⊢;rw[g2 k F];split
   ·rename_i a7
    rw[fY];have E:k-(i*J+j)<(s.ev q).cells.length:=by omega
    refine((B.2 _ E).data (aT.1 q4 _ ?_)).toData;generalize (s.ev q).cells=qq at*;rw[aa,af E];exact bo _
   ·exact this
  ·rename_i l H
   split at h<;>try (cases h;done)
   rename_i b hb;cases h;obtain⟨rfl,rfl,rfl,S⟩:=W;rw[hb]at B;refine ce.store T U hn Q.ap_inv H rfl (by rw[<-B.1];rfl) (mq B rfl) (by simp only[aC.size];omega) (by simp[aC.size]) (fun c O k F=> ?_);have:=O k F;simp only[bW,aC.cell,aC.size]at this F ⊢;simp only[iF,fm]
   by_cases Z:k=i
   ·subst Z
    rw[if_pos (by omega),Nat.sub_self];have e1:(l.set k b).getD k 0=b:=by rw[aa,eW,if_pos rfl,if_pos F];rfl
    rw[e1];exact(B.2 0 (by simp)).data rfl
   ·rw[if_neg (by omega)]
    have e1:(l.set i b).getD k 0=l.getD k 0:=by rw[aa,eW,if_neg (fun e=>Z e.symm),<-aa]
    rw[e1];exact this
 |_=>rw[hu]at h;simp[pF]at h
end Go.Sy
namespace Go.Sy
variable [bc]
variable {P : Program} {C : Ctx} {x : Sit} {s : St} {a : Act} {w : World} {o : Oper} {so : SOp} {e : Eff}
def xlI(G:GM)(b off:Nat)(fl:t7):Prop:=∀k,k<fl.length->∃v,G b (off+k)=some v/\cD G (fl.getD k .undef) v
def Ct(G:GM)(h:Nat)(fl:t7)(v:Value)(n cap:Nat):Prop:=
 n*h=fl.length/\n<=cap/\((∃b off,v= .slice (some ⟨b,off,none⟩) n cap/\xlI G b off fl)\/((∃a,v= .slice a 0 0)/\n=0/\cap=0))
theorem eH(l:t6)(k:Nat)(h:k<l.length):(l.map SV.u8).getD k .undef= .u8 (l.getD k 0):=by simp only[aa,aR];rw[af h];rfl
theorem uJ{G:GM}{l:t6}{t:Tok}{v:Value}(h:cD G (.byt l t) v):∃cap,Ct G 1 (l.map .u8) v l.length cap/\∃bs,v= .slice bs l.length cap:=by
 cases h with
 |bytN=>exact⟨0,⟨by simp,by simp,.inr ⟨⟨none,rfl⟩,rfl,rfl⟩⟩,none,rfl⟩
 |bytE _ a=>exact⟨0,⟨by simp,by simp,.inr ⟨⟨some a,rfl⟩,rfl,rfl⟩⟩,some a,rfl⟩
 |byt _ _ b off cap n hn B h=>subst hn;refine⟨cap,⟨by simp,B,.inl ⟨b,off,rfl,fun k z=> ?_⟩⟩,_,rfl⟩;rw[aQ]at z;exact⟨_,h k z,by rw[eH _ _ z];exact .u8 _⟩
theorem Gu{G:GM}{l:t6}{t:Tok}{v:Value}{cap:Nat}(h:Ct G 1 (l.map .u8) v l.length cap):cD G (.byt l t) v:=by
 obtain⟨_,B,⟨b,off,rfl,H⟩|⟨⟨a,rfl⟩,E,_⟩⟩:=h
 ·refine .byt l t b off cap l.length rfl B fun i hi=> ?_
  obtain⟨v,F,z⟩:=H i (by simpa using hi);rw[eH _ _ hi]at z;cases z;exact F
 ·have:l=[]:=bP.1 E
  subst this;cases a with
  |none=>exact .bytN t
  |some a=>exact .bytE t a
theorem bG{E:Nat}{B:f8}(h:∀y∈B,y.length=E):B.flatten.length=B.length*E:=by
 induction B with
 |nil=>simp
 |cons y r F=>simp only[List.flatten_cons,ah,av,dH];rw[F (fun z hz=>h z (aq _ hz)),h y (by simp)];omega
theorem tP{B:Nat}{z:f8}(h:∀i,i<z.length->(z.getD i []).length=B):∀y∈z,y.length=B:=by intro y E;obtain⟨i,hi,rfl⟩:=bl E;have:=h i hi;rwa[aa,af hi]at this
theorem po{G:GM}{B:Nat}{E:f8}{t:Tok}{v:Value}(h:cD G (.lst B E t) v):∃cap,Ct G B E.flatten v E.length cap/\(∃bs,v= .slice bs E.length cap)/\∀y∈E,y.length=B:=by
 cases h with
 |lstN=>exact⟨0,⟨by simp,by simp,.inr ⟨⟨none,rfl⟩,rfl,rfl⟩⟩,⟨none,rfl⟩,by simp⟩
 |lstE _ _ a=>exact⟨0,⟨by simp,by simp,.inr ⟨⟨some a,rfl⟩,rfl,rfl⟩⟩,⟨some a,rfl⟩,by simp⟩
 |lst _ _ _ b off cap n Q hn S O T h=>
  subst hn;have z:=tP O;refine⟨cap,⟨(bG z).symm,S,.inl ⟨b,off,rfl,fun k I=> ?_⟩⟩,⟨_,rfl⟩,z⟩;rw[bG z]at I
  have J:0<B:=by
   rcases gh B with H|H
   ·subst H;omega
   ·exact H
  have hd:k/B<E.length:=Nat.div_lt_of_lt_mul (by rw[dq];exact I);have L:=Nat.mod_lt k J;have F:=Nat.div_add_mod k B;rw[dq]at F;refine⟨Q (k/B) (k % B), ?_, ?_⟩
  ·have:=T _ _ hd L
   rwa[cH,F]at this
  ·rw[cE E z k I];exact h _ _ hd L
theorem FQ{G:GM}{B:Nat}{E:f8}{t:Tok}{v:Value}{cap:Nat}(h:Ct G B E.flatten v E.length cap)(z:∀y∈E,y.length=B):cD G (.lst B E t) v:=by
 obtain⟨_,O,⟨b,off,rfl,L⟩|⟨⟨a,rfl⟩,J,_⟩⟩:=h
 ·refine .lst B E t b off cap E.length (fun i j=>(G b (off+i*B+j)).getD undef) rfl O (fun i hi=> ?_) (fun i j hi Q=> ?_) (fun i j hi Q=> ?_)
  ·rw[aa,af hi];exact z _ (bo _)
  all_goals
   have I:i*B+j<E.length*B:=by have:=bB B (Nat.succ_le_of_lt hi);rw[dH]at this;omega
   obtain⟨v,H,F⟩:=L (i*B+j) (by rw[bG z];exact I);rw[<-cH]at H
  ·rw[H];rfl
  ·rw[H]
   rw[cE E z _ I,show(i*B+j)/B=i from by rw[dq,Nat.mul_add_div (by omega),Nat.div_eq_of_lt (by omega)];rfl,
    show(i*B+j) % B=j from by rw[dq,Nat.mul_add_mod,iG (by omega)]]at F
   exact F
 ·have:E=[]:=bP.1 J
  subst this;cases a with
  |none=>exact .lstN B t
  |some a=>exact .lstE B t a
structure New(x:Sit)(ns:List Value)(fl:List SV):Prop where
 len:fl.length=ns.length
 rep:∀k,k<fl.length->cD x.G (fl.getD k .undef) (ns.getD k undef)
 one:∀v∈ns,v.oneCell'=true
theorem dz(z:LAc)(n:Nat):(Builtin.zeroCells z n).size=n*z.size:=by simp[Builtin.zeroCells]
theorem aM.retok(E:aM C x s a w){t:Tok}(L:t.ready s=true)(d:Nat){z n cap:Nat}{bs:Option Addr}(H:df x z t (.slice bs n cap)):
 ∃b lo hi,aM C (x.newT d b lo hi) (s.grew t d) a w/\df (x.newT d b lo hi) z (.id d) (.slice bs n cap):=by
 have empty:cap=n->∃b lo hi,aM C (x.newT d b lo hi) (s.grew t d) a w/\df (x.newT d b lo hi) z (.id d) (.slice bs n cap):=by
  intro B;refine⟨0,0,0,⟨?_,E.defers, ?_⟩,bs,n,cap,rfl,.inl B⟩
  ·exact cr.mono (x:=x) (x':=x.newT d 0 0 0) (lo:=d) (hi:=d+1) (fun _ _ _ h=>h) (fun _ _=>rfl) (Sit.newT_ne x d 0 0 0) E.tm
  ·refine(E.heap.sub (tk':=t.eat s.tk) (m6.refl _) ?_).addT d 0 0 0 (.inl rfl) (.inl rfl) (.inl rfl)
   intro u hu;cases t with
   |id t=>exact fS hu
   |_=>exact hu
 cases t with
 |no=>simp[Tok.ready]at L
 |clip=>obtain⟨Q,S,I⟩:=H;simp only[Value.slice.injEq]at I;exact empty (by omega)
 |id t=>
  obtain⟨Q,S,O,I,U⟩:=H;simp only[Value.slice.injEq]at I;obtain⟨rfl,rfl,rfl⟩:=I;rcases U with B|⟨b,off,rfl,hτ⟩
  ·exact empty B
  ·have F:t∈s.tk:=by simpa[Tok.ready]using L
   refine⟨b,off+n*z,off+cap*z,⟨?_,E.defers, ?_⟩,_,n,cap,rfl,.inr ⟨b,off,rfl,Sit.newT_eq x d _ _ _⟩⟩
   ·exact cr.mono (x:=x) (x':=x.newT d b (off+n*z) (off+cap*z)) (lo:=d) (hi:=d+1) (fun _ _ _ h=>h) (fun _ _=>rfl) (Sit.newT_ne x d _ _ _) E.tm
   ·have J:=E.heap.tks t F
    unfold gY at J;rw[hτ]at J;refine(E.heap.sub (tk':=co t (t+1) s.tk) (m6.refl _) (fun u hu=>fS hu)).addT d b (off+n*z) (off+cap*z) J ?_ ?_
    ·by_cases B:off+n*z=off+cap*z
     ·exact .inl B
     ·refine .inr fun p T _=> ?_
      have:=E.heap.tko t F p T;rw[hτ]at this;exact this.resolve_right B
    ·by_cases B:off+n*z=off+cap*z
     ·exact .inl B
     ·refine .inr fun u hu _=> ?_
      obtain⟨hu,W⟩:=bE.1 hu;have:=E.heap.tkd t F u hu (by omega);rw[hτ]at this;rcases this with h|h|h
      ·exact .inl h
      ·exact absurd h B
      ·exact .inr h
theorem fQ{t u I:TypeId}{d2:TypeDesc}{n m len cap:Nat}(hd:P.underlying t=some (.slice I))(hu:P.underlying u=some d2)(F:(∃E,d2= .slice E)\/d2= .string)(hn:fj P I=some n){ty:TypeId}{bs:Option Addr}{Y:Value}{ns:LAb}{w1:World}
 (B:(Builtin.lenOf Y).run P w= .ok m w) (h:(Builtin.firstCells n m Y).run P w= .ok ns.toArray w) (L:len+m<=cap)
 (z:(match bs with|some H=>storeCells (H.add (len*n)) ns|none=>pure ():Sem Unit).run P w= .ok () w1):
 (Builtin.append_ #[t,u] ty #[.slice bs len cap,Y]).run P w= .ok (.slice bs (len+m) cap) w1:=by
 have e:(#[t,u]:Array TypeId)[0]? =some t:=rfl;have E:(#[t,u]:Array TypeId)[1]? =some u:=rfl;have O:(#[Value.slice bs len cap,Y]:LAc)[0]? =some (.slice bs len cap):=rfl;have J:(#[Value.slice bs len cap,Y]:LAc)[1]? =some Y:=rfl;rcases F with⟨Q,rfl⟩|rfl
 all_goals
  simp only[Builtin.append_,e,E,O,J,aB,run_underlying hd,am,cf hn,run_underlying hu,aF,aJ,if_false,B,L,if_true,Bool.not_false,h];cases bs with
  |none=>simp only[aF]at z;cases z;rfl
  |some H=>simp only[aB];rw[z];rfl
theorem ip{t u E:TypeId}{d2:TypeDesc}{n m len cap B:Nat}{i:TypeInfo}{z:Value}(hd:P.underlying t=some (.slice E))(hu:P.underlying u=some d2)(T:(∃O,d2= .slice O)\/d2= .string)(hn:fj P E=some n){ty:TypeId}{bs:Option Addr}{Y:Value}{os ns:LAb}
 (hi:P.info? E=some i) (H:i.bytes=B) (hb0:B≠0) (Q:∀w,(zeroValue E).run P w= .ok z w)
 (I:∀w',w'.heap=w.heap->(Builtin.lenOf Y).run P w'= .ok m w') (h:∀w',w'.heap=w.heap->(Builtin.firstCells n m Y).run P w'= .ok ns.toArray w') (L:∀w',w'.heap=w.heap->(Builtin.firstCells n len (.slice bs len cap)).run P w'= .ok os.toArray w')
 (W:¬len+m<=cap) (F:(len+m)*B<=140737488355328):
 ∃S,len+m<=S/\(Builtin.append_ #[t,u] ty #[.slice bs len cap,Y]).run P w= .ok (.slice (some ⟨w.heap.size,0,none⟩) (len+m) S) (w.drew.alloc (.cells (os.toArray++ns.toArray++Builtin.zeroCells z.cells (S-(len+m))) E (0,0))):=by
 have e:(#[t,u]:Array TypeId)[0]? =some t:=rfl;have O:(#[t,u]:Array TypeId)[1]? =some u:=rfl;have e2:(#[Value.slice bs len cap,Y]:LAc)[0]? =some (.slice bs len cap):=rfl;have U:(#[Value.slice bs len cap,Y]:LAc)[1]? =some Y:=rfl;have Z:(Question.appendCap (len+m) cap E).forced=false:=rfl
 have J:¬Builtin.nextslicecap (len+m) cap*i.bytes>2^48:=by have:=growslice_fits (need:=len+m) (old:=cap) (bytes:=B) (by omega) F;rw[H];omega
 refine⟨(Question.appendCap (len+m) cap E).cut (w.tape w.drawn (Question.appendCap (len+m) cap E)),by simp only[Question.cut];omega, ?_⟩;rcases T with⟨e4,rfl⟩|rfl
 all_goals
  simp only[Builtin.append_,e,O,e2,U,aB,run_underlying hd,am,cf hn,run_underlying hu,aF,aJ,if_false,I w rfl,W,run_typeInfo w hi,H,hb0,false_or,and_false];rw[if_neg (by rw[<-H];exact J)];simp only[aB,run_choose_drew,Z,aJ,if_false,am,run_typeInfo w.drew hi,run_askRoom,L w.drew rfl,Bool.not_false,if_true,h w.drew rfl,Q,newRow,run_newObj_alloc,aF];rfl
theorem ix(os ns:LAb)(r:LAc)(k:Nat)(h:k<os.length+ns.length):(os.toArray++ns.toArray++r)[k]? =(os++ns)[k]? :=by rw[fV (by simp;omega)];rw[<-cY];simp
theorem nY(J:aM C x s a w){t u Z:TypeId}{d2:TypeDesc}{n a1:Nat}{zs:LAb}(hd:P.underlying t=some (.slice Z))(hu:P.underlying u=some d2)(b3:(∃e',d2= .slice e')\/d2= .string)(hn:fj P Z=some n)(hb:sm P Z=some a1)
 (hz:fN P Z=some zs) (hb0:a1≠0) (d4:n≠0) (hzl:zs.length=n) {ty:TypeId} {X Y:Value} {tok:Tok} {fl B:t7} {ns:LAb} {len m cap:Nat} (hX:Ct x.G n fl X len cap) (U:tok.ready s=true) (a6:df x n tok X)
 (O:∀w',w'.heap=w.heap->(Builtin.lenOf Y).run P w'= .ok m w') (F:∀w',w'.heap=w.heap->(Builtin.firstCells n m Y).run P w'= .ok ns.toArray w') (L:ns.length=m*n) (E:New x ns B) (a7:(len+m)*a1<=140737488355328) (d:Nat):
 ∃v w' x' a3,(Builtin.append_ #[t,u] ty #[X,Y]).run P w= .ok v w'/\aM C x' (s.grew tok d) a w'/\Ct x'.G n (fl++B) v (len+m) a3/\df x' n (.id d) v:=by
 obtain⟨Q,h4,a0⟩:=hX;obtain⟨z,g1,e7⟩:=cC hz
 have hby:∃i,P.info? Z=some i/\i.bytes=a1:=by
  unfold sm at hb;cases hi:P.info? Z with
  |none=>simp[hi]at hb
  |some i=>simp[hi]at hb;exact⟨i,rfl,hb⟩
 obtain⟨i,hi,d9⟩:=hby
 obtain⟨bs,e6⟩:∃bs,X= .slice bs len cap:=by
  rcases a0 with⟨b,off,rfl,_⟩|⟨⟨a,rfl⟩,rfl,rfl⟩
  ·exact⟨_,rfl⟩
  ·exact⟨_,rfl⟩
 subst e6;have c3:B.length=m*n:=by rw[E.len,L]
 have W:(len+m)*n=(fl++B).length:=by rw[ah,c3,<-Q,bD]
 by_cases hc:len+m<=cap
 ·by_cases hm:ns=[]
  ·
   subst hm;have b8:B=[]:=bP.1 (by rw[E.len];rfl);subst b8;obtain⟨b,lo,g6,e4,b6⟩:=J.retok U d a6
   by_cases a2:m=0
   ·subst a2
    refine⟨_,w,_,cap,fQ hd hu b3 hn (O w rfl) (F w rfl) hc (by cases bs<;>rfl),e4, ?_,b6⟩;refine⟨by simpa using Q,hc, ?_⟩;rcases a0 with⟨b,off,H,hr⟩|⟨H,h1,h2⟩
    ·exact .inl ⟨b,off,H,by rw[bK];exact hr⟩
    ·exact .inr ⟨H,h1,h2⟩
   ·
    have hn0:n=0:=by
     simp only[bg]at L;rcases Nat.mul_eq_zero.1 L.symm with h|h
     ·exact absurd h a2
     ·exact h
    exact absurd hn0 d4
  ·have d3:0<ns.length:=ig.2 hm
   have b4:0<m*n:=by omega
   cases tok with
   |no=>simp[Tok.ready]at U
   |clip=>
    obtain⟨b',n',H⟩:=a6;simp only[Value.slice.injEq]at H;have:m=0:=by omega
    subst this;omega
   |id tk=>
    have f0:tk∈s.tk:=by simpa[Tok.ready]using U
    obtain⟨b',n',a3,H,hh⟩:=a6;simp only[Value.slice.injEq]at H;obtain⟨rfl,rfl,rfl⟩:=H;rcases hh with h0|⟨b,off,rfl,hτ⟩
    ·have:m=0:=by omega
     subst this;omega
    ·have b7:off+len*n+ns.length<=off+cap*n:=by
      rw[L,cH,<-bD];exact Nat.add_le_add_left (bB _ hc) _
     obtain⟨f1,f2,f3,f4,f5,f6,f7,⟨c0,e0,g5,g7,hO,g4⟩⟩:=J.heap.fill f0 hτ ns b7 d3
     have T:=fQ (t:=t) (u:=u) (ty:=ty) (Y:=Y) (bs:=some ⟨b,off,none⟩) (w1:=bM w b (off+len*n) ns) hd hu b3 hn (O w rfl) (F w rfl) hc (by simp only[cU];exact eF (off+len*n) ns w c0 0 hO (by omega) E.one)
     refine⟨_,_,(x.fill b (off+len*n) ns).newT d b (off+len*n+ns.length) (off+cap*n),cap,T,⟨?_,J.defers, ?_⟩,⟨W,hc,.inl ⟨b,off,rfl, ?_⟩⟩, ?_⟩
     ·exact cr.mono (x:=x) (x':=(x.fill b (off+len*n) ns).newT d b (off+len*n+ns.length) (off+cap*n)) (lo:=d) (hi:=d+1) f1 (fun _ _=>rfl) (Sit.newT_ne (x.fill b (off+len*n) ns) d _ _ _) J.tm
     ·exact f2.addT d b _ _ (.inr ⟨f3,f4,f5⟩) (.inr fun p hp _=>f6 p hp) (.inr fun u hu _=>f7 u hu)
     ·rcases a0 with⟨b2,g2,a8,hr⟩|⟨a8,_,_⟩
      ·simp only[Value.slice.injEq,aw.injEq,Addr.mk.injEq]at a8
       obtain⟨⟨rfl,rfl,_⟩,_⟩:=a8;intro k hk
       by_cases I:k<fl.length
       ·obtain⟨v,hv,a4⟩:=hr k I
        refine⟨v,f1 _ _ _ hv, ?_⟩;have:(fl++B).getD k .undef=fl.getD k .undef:=by simp only[aa,aY I]
        rw[this];exact a4.mono f1
       ·rw[ah]at hk
        refine⟨ns.getD (k-fl.length) undef, ?_, ?_⟩
        ·show(x.fill b (off+len*n) ns).G b (off+k)=_
         simp only[Sit.fill];rw[if_pos ⟨trivial,by omega,by omega⟩,show off+k-(off+len*n)=k-fl.length from by omega]
        ·have:(fl++B).getD k .undef=B.getD (k-fl.length) .undef:=by simp only[aa,bj (Nat.le_of_not_lt I)]
         rw[this];exact(E.rep _ (by omega)).mono f1
      ·have a2:m=0:=by omega
       rw[a2,pB]at b4;exact absurd b4 (Nat.lt_irrefl _)
     ·refine⟨_,_,cap,rfl,.inr ⟨b,off,rfl, ?_⟩⟩
      rw[Sit.newT_eq,L,cH,<-bD]
 ·
  obtain⟨os,d6,S,c4⟩:∃os:LAb,(∀w',w'.heap=w.heap->(Builtin.firstCells n len (.slice bs len cap)).run P w'= .ok os.toArray w')/\os.length=fl.length/\∀k,k<fl.length->cD x.G (fl.getD k .undef) (os.getD k undef):=by
   rcases a0 with⟨b,off,H,hr⟩|⟨H,h1,h2⟩
   ·simp only[Value.slice.injEq]at H
    obtain⟨rfl,_⟩:=H;refine⟨(bS (len*n)).map fun k=>(w.cell? ⟨b,off+k,none⟩).getD undef,fun w' d8=> ?_,by simp[Q],fun k hk=> ?_⟩
    ·simp only[Builtin.firstCells]
     refine run_loadCells w' _ _ _ fun j hj=> ?_
     rw[cU,de (w:=w) (by rw[d8])];obtain⟨v,hv,_⟩:=hr j (by omega);rw[J.heap.per _ _ _ hv];rfl
    ·obtain⟨v,hv,a4⟩:=hr k hk
     have:((bS (len*n)).map fun k=>(w.cell? ⟨b,off+k,none⟩).getD undef).getD k undef=v:=by rw[aa];simp[show k<len*n from by omega,J.heap.per _ _ _ hv]
     rw[this];exact a4
   ·obtain⟨a,H⟩:=H
    simp only[Value.slice.injEq]at H;obtain⟨rfl,rfl,_⟩:=H;have:fl=[]:=bP.1 (by rw[<-Q,h1,pB]);subst this;exact⟨[],fun w' _=>by cases bs<;>simp only[Builtin.firstCells,pB]<;>rfl,rfl,fun k hk=>by simp at hk⟩
  obtain⟨nc,d7,T⟩:=ip (t:=t) (u:=u) (ty:=ty) (Y:=Y) hd hu b3 hn hi d9 hb0 e7 O F d6 hc a7
  let cv:LAc:=os.toArray++ns.toArray++Builtin.zeroCells z.cells (nc-(len+m))
  have g3:cv.size=nc*n:=by
   have e9:z.cells.size=n:=by rw[<-aP,g1];exact hzl
   simp only[cv,m9,gq,dz,e9,S,L,<-Q];rw[<-bD,<-bD];congr 1;omega
  have a5:∀o,x.G w.heap.size o=none:=by
   intro o;cases hg:x.G w.heap.size o with
   |none=>rfl
   |some v=>exact absurd (J.heap.ltG hg) (by omega)
  have b5:=J.heap.newD_le cv ((len+m)*n);have hH:cS C (x.newD w.heap.size cv ((len+m)*n)) s.ob s.tk (w.drew.alloc (.cells cv Z (0,0))):=J.heap.drew.allocD ((len+m)*n);have d5:dS (w.drew.alloc (.cells cv Z (0,0))) w.heap.size cv Z 0 0:=⟨cL (w:=w.drew),fun i _ h=>by omega⟩;refine⟨_,_,(x.newD w.heap.size cv ((len+m)*n)).newT d w.heap.size ((len+m)*n) (nc*n),nc,T,⟨?_,J.defers, ?_⟩,⟨W,d7,.inl ⟨_,0,rfl, ?_⟩⟩, ?_⟩
  ·exact cr.mono (x:=x) (x':=(x.newD w.heap.size cv ((len+m)*n)).newT d w.heap.size ((len+m)*n) (nc*n)) (lo:=d) (hi:=d+1) b5 (fun _ _=>rfl) (Sit.newT_ne (x.newD w.heap.size cv ((len+m)*n)) d _ _ _) J.tm
  ·refine(hH.sub (tk':=tok.eat s.tk) (m6.refl _) ?_).addT d w.heap.size _ _ (.inr ⟨⟨cv,Z,0,0,d5,by omega⟩,J.heap.new _ J.heap.size,fun o h1 h2=> ?_⟩) (.inr fun p hp _=> ?_) (.inr fun u hu _=> ?_)
   ·intro u hu
    cases tok with
    |id t=>exact fS hu
    |_=>exact hu
   ·simp only[Sit.newD];rw[if_neg (by omega)];exact a5 o
   ·obtain⟨⟨c2,e2,e3,e5,a9,_⟩,_⟩:=J.heap.obs p hp
    have:=a9.lt;show w.heap.size≠(x.bk p.1).1;omega
   ·have e8:u∈s.tk:=by
     cases tok with
     |id t=>exact fS hu
     |_=>exact hu
    rcases J.heap.tks u e8 with h|⟨⟨c2,e2,e3,e5,a9,_⟩,_⟩
    ·exact .inr h
    ·have:=a9.lt
     exact .inl (by show w.heap.size≠(x.τ u).1;omega)
  ·intro k hk
   have c7:k<os.length+ns.length:=by rw[S,<-E.len,<-ah];exact hk
   have c6:cv[k]? =(os++ns)[k]? :=ix os ns _ k c7;have h3:k<(len+m)*n:=by rw[W];exact hk
   refine⟨(os++ns).getD k undef, ?_, ?_⟩
   ·show(x.newD w.heap.size cv ((len+m)*n)).G w.heap.size (0+k)=_
    simp only[Sit.newD];rw[if_pos ⟨trivial,by omega⟩,bC,c6];have:k<(os++ns).length:=by rw[ah];exact c7
    rw[af this,aa,af this];rfl
   ·refine cD.mono (G:=x.G) b5 ?_
    by_cases I:k<fl.length
    ·have e1:(fl++B).getD k .undef=fl.getD k .undef:=by simp only[aa,aY I]
     have e2:(os++ns).getD k undef=os.getD k undef:=by simp only[aa,aY (show k<os.length by omega)]
     rw[e1,e2];exact c4 k I
    ·have e1:(fl++B).getD k .undef=B.getD (k-fl.length) .undef:=by simp only[aa,bj (Nat.le_of_not_lt I)]
     have e2:(os++ns).getD k undef=ns.getD (k-fl.length) undef:=by simp only[aa,bj (show os.length<=k by omega),S]
     rw[e1,e2];exact E.rep _ (by rw[ah]at hk;omega)
  ·exact⟨_,_,nc,rfl,.inr ⟨w.heap.size,0,rfl,by rw[Sit.newT_eq];simp⟩⟩
theorem fc(U:aM C x s a w){u:SV}{Y:Value}{p:Prop}{l:t6}(h:Rep x u Y)(F:bytesOf s u=some (p,l))(hp:p):
 (∀w',w'.heap=w.heap->(Builtin.lenOf Y).run P w'= .ok l.length w')/\(∀m,m<=l.length->∀w',w'.heap=w.heap->(Builtin.firstCells 1 m Y).run P w'= .ok ((l.take m).map fun b=>Value.int .u8 b.toNat).toArray w'):=by
 have load:∀(b off m:Nat),m<=l.length->(∀i,i<l.length->w.cell? ⟨b,off+i,none⟩=some (.int .u8 (l.getD i 0).toNat))->∀w':World,w'.heap=w.heap->
  (loadCells ⟨b,off,none⟩ (m*1)).run P w'= .ok ((l.take m).map fun b=>Value.int .u8 b.toNat).toArray w':=by
  intro b off m B T w' E;rw[run_loadCells w' _ _ (fun i=> .int .u8 (l.getD i 0).toNat) (fun j hj=>by rw[cU,de (w:=w) (by rw[E])];exact T j (by omega))]
  congr 2
  apply List.ext_getElem?;intro i
  by_cases hi:i<m
  ·simp[hi,aa,show i<l.length from by omega]
  ·simp[hi];omega
 cases u with
 |byt O t=>
  simp only[bytesOf,aw.injEq,bn.injEq]at F;obtain⟨rfl,rfl⟩:=F;have L:=h.data rfl;cases hY:Y with
  |slice ad n cp=>
   rw[hY]at L;cases L with
   |bytN=>exact⟨fun w' _=>rfl,fun m B w' _=>by simp at B;subst B;rfl⟩
   |bytE=>exact⟨fun w' _=>rfl,fun m B w' _=>by simp at B;subst B;rfl⟩
   |byt _ _ b off _ _ hn T hg=>subst hn;exact⟨fun w' _=>rfl,fun m B w' E=>by simp only[Builtin.firstCells];exact load b off m B (fun i hi=>U.heap.per _ _ _ (hg i hi)) w' E⟩
  |_=>rw[hY]at L;cases L
 |str O=>simp only[bytesOf,aw.injEq,bn.injEq]at F;obtain⟨rfl,rfl⟩:=F;rw[h.str_inv];refine⟨fun w' _=>by simp[Builtin.lenOf,ByteArray.size],fun m B w' _=> ?_⟩;simp only[Builtin.firstCells,zb,bi,aF];simp
 |psl o' sz off n cp=>
  simp only[bytesOf]at F;split at F<;>try (cases F;done)
  rename_i O hl;simp only[aw.injEq,bn.injEq]at F;obtain⟨rfl,rfl⟩:=F;obtain⟨S,a0⟩:=hp;obtain⟨cp,W,_,z,Q,J⟩:=h.psl_inv;have I:((O.drop off).take n).length=n:=by simp;omega
  rw[Q];refine⟨fun w' _=>by simp only[Builtin.lenOf,I];rfl,fun m B w' E=> ?_⟩;simp only[Builtin.firstCells]
  by_cases hn:cp=0
  ·have:m=0:=by omega
   subst this;rfl
  ·have H:z=off:=by
    rcases J with h|h
    ·omega
    ·rw[S,iF]at h;exact h
   subst H;refine load ((x.bk o').1) z m B (fun i hi=> ?_) w' E;obtain⟨v,h2,h3⟩:=(eC U hl).cell (k:=z+i) (by simp only[aC.size];omega);rw[h2];have Z:cD x.G (.u8 (O.getD (z+i) 0)) v:=h3;cases Z;simp only[aa,bv,if_pos (show i<n by omega),bf]
 |_=>simp[bytesOf]at F
theorem kr(l:t6):New x (l.map fun b=>Value.int .u8 b.toNat) (l.map .u8):=by
 refine⟨by simp,fun k h=> ?_,fun v z=> ?_⟩
 ·rw[aQ]at h
  rw[eH _ _ h]
  have:(l.map fun b=>Value.int .u8 b.toNat).getD k undef= .int .u8 (l.getD k 0).toNat:=by simp only[aa,aR];rw[af h];rfl
  rw[this];exact .u8 _
 ·obtain⟨b,_,rfl⟩:=aS.1 z;rfl
theorem gM(hM:aM C x s a w){B:Nat}{u:SV}{Y:Value}{p:Prop}{H:f8}(h:Rep x u Y)(Q:gU s B u=some (p,H))(hp:p):
 (∀y∈H,y.length=B)/\(∀w',w'.heap=w.heap->(Builtin.lenOf Y).run P w'= .ok H.length w')/\
 ∃ns:LAb,New x ns H.flatten/\∀m,m<=H.length->∀w',w'.heap=w.heap->(Builtin.firstCells B m Y).run P w'= .ok (ns.take (m*B)).toArray w':=by
 have Z:∀(b off:Nat),(∀y∈H,y.length=B)->(∀k,k<H.flatten.length->∃v,w.cell? ⟨b,off+k,none⟩=some v/\cD x.G (H.flatten.getD k .undef) v)->
  ∃ns:LAb,New x ns H.flatten/\∀m,m<=H.length->∀w',w'.heap=w.heap->(loadCells ⟨b,off,none⟩ (m*B)).run P w'= .ok (ns.take (m*B)).toArray w':=by
  intro b off z hc;refine⟨(bS H.flatten.length).map fun k=>(w.cell? ⟨b,off+k,none⟩).getD undef,⟨by simp,fun k F=> ?_,fun v I=> ?_⟩,fun m O w' L=> ?_⟩
  ·obtain⟨v,I,hr⟩:=hc k F
   have:((bS H.flatten.length).map fun k=>(w.cell? ⟨b,off+k,none⟩).getD undef).getD k undef=v:=by rw[aa,aR,cM F];simp[I]
   rw[this];exact hr
  ·obtain⟨k,F,rfl⟩:=aS.1 I
   obtain⟨v,I,hr⟩:=hc k (nL.1 F);rw[I];exact hr.oneCell
  ·have a2:m*B<=H.flatten.length:=by rw[bG z];exact bB _ O
   rw[run_loadCells w' _ _ (fun k=>(w.cell? ⟨b,off+k,none⟩).getD undef) (fun j hj=> ?_)]
   ·congr 2
    rw[<-List.map_take,List.take_range,gK a2]
   ·rw[cU,de (w:=w) (by rw[L])]
    obtain⟨v,I,_⟩:=hc j (by omega);rw[I];rfl
 cases u with
 |lst a4 E t=>
  simp only[gU,aw.injEq,bn.injEq]at Q;obtain⟨rfl,rfl⟩:=Q;subst hp;obtain⟨cap,⟨h1,h2,h3⟩,_,z⟩:=po (h.data rfl);refine⟨z, ?_⟩;rcases h3 with⟨b,off,rfl,hr⟩|⟨⟨ad,rfl⟩,U,_⟩
  ·refine⟨fun w' _=>rfl, ?_⟩
   obtain⟨ns,g1,g2⟩:=Z b off z (fun k F=>by obtain⟨v,I,a0⟩:=hr k F;exact⟨v,hM.heap.per _ _ _ I,a0⟩)
   exact⟨ns,g1,fun m O w' L=>by simp only[Builtin.firstCells];exact g2 m O w' L⟩
  ·have:E=[]:=bP.1 U
   subst this
   exact⟨fun w' _=>rfl,[],⟨rfl,fun k F=>by simp at F,fun v I=>by simp at I⟩,fun m O w' _=>by
    have a5:m=0:=by simpa using O
    subst a5;cases ad<;>simp only[Builtin.firstCells,pB]<;>rfl⟩
 |psl o' a4 off n cp=>
  simp only[gU]at Q;split at Q<;>try (cases Q;done)
  rename_i a9 E hl;simp only[aw.injEq,bn.injEq]at Q;obtain⟨rfl,rfl⟩:=Q;obtain⟨rfl,rfl,a7,a6⟩:=hp;have z:∀y∈(E.drop off).take n,y.length=B:=fun y hy=>a6 y (dQ (bL hy))
  obtain⟨cp,b2,_,S,a1,W⟩:=h.psl_inv;have J:((E.drop off).take n).length=n:=by simp;omega
  rw[a1];refine⟨z,fun w' _=>by simp only[Builtin.lenOf,J];rfl, ?_⟩
  by_cases hn:cp=0
  ·have hn0:n=0:=by omega
   subst hn0
   exact⟨[],⟨by simp,fun k F=>by simp at F,fun v I=>by simp at I⟩,fun m O w' _=>by simp at O;subst O;simp[Builtin.firstCells,loadCells,loadCellsFrom]⟩
  ·have T:S=off*B:=W.resolve_left hn
   obtain⟨ns,g1,g2⟩:=Z ((x.bk o').1) S z (fun k F=>by
    rw[bG z,J]at F
    have a8:off*B+k<E.length*B:=by have:=bB B a7;rw[bD]at this;omega
    obtain⟨v,h2,h3⟩:=(eC hM hl).cell (k:=off*B+k) (by simp only[aC.size];exact a8);refine⟨v,by rw[T];exact h2, ?_⟩;have h4:cD x.G ((E.getD ((off*B+k)/B) []).getD ((off*B+k) % B) .undef) v:=h3
    have a3:0<B:=by
     rcases gh B with U|U
     ·subst U;omega
     ·exact U
    rw[cE _ z k (by rw[J];exact F)];rw[dq off B,Nat.mul_add_div a3,Nat.mul_add_mod]at h4;have hd:k/B<n:=Nat.div_lt_of_lt_mul (by rw[dq];exact F)
    have e1:((E.drop off).take n).getD (k/B) []=E.getD (off+k/B) []:=by simp only[aa,bv,if_pos hd,bf]
    rw[e1];exact h4)
   exact⟨ns,g1,fun m O w' L=>by simp only[Builtin.firstCells];exact g2 m O w' L⟩
 |_=>simp[gU]at Q
theorem wB(hM:aM C x s a w){cl:Call}(ho:o.op= .call cl)(hb:cl.callee= .builtin .append)(h:br P o=some so)(E:eff s o.dst so=some e)(hp:e.pre):ce P C o a w (s.app o.dst e):=by
 simp only[br,ho,hb]at h;split at h<;>try (cases h;done)
 rename_i X Y t u hX ht;split at h<;>try (cases h;done)
 rename_i el d2 r q hd hu a9 b2;split at h<;>try (cases h;done)
 rename_i n a8 z hn hby hz;rw[aG]at h;obtain⟨I,h⟩:=h;simp only[aA,decide_eq_true_eq]at I;obtain⟨⟨hb0,hn0⟩,b4⟩:=I;obtain⟨zs,a7,b3,_⟩:=jg hz;have hzl:zs.length=n:=by omega
 have Q:((∃e',d2= .slice e')\/d2= .string)/\so= .app z a8 r q:=by
  split at h<;>try (cases h;done)
  ·cases h;exact⟨.inl ⟨_,rfl⟩,rfl⟩
  ·rw[aG]at h
   obtain⟨_,h⟩:=h;cases h;exact⟨.inr rfl,rfl⟩
  ·cases h;cases E
 obtain⟨Q,rfl⟩:=Q;have h1:=aK hM a9;have h2:=aK hM b2;have ea:cl.args= #[X,Y]:=by apply dL;simpa using hX
 have et:cl.argTypes= #[t,u]:=by apply dL;simpa using ht
 have U:=fz (a:=a) ho hb _ rfl;rw[ea,et]at U;have em: #[X,Y].map a.eval= #[a.eval X,a.eval Y]:=by simp
 rw[em]at U;simp only[eff]at E;split at E<;>try (cases E;done)
 rename_i d T
 have fin:∀{v w' x'}{c:SV},(Builtin.append_ #[t,u] o.type #[a.eval X,a.eval Y]).run P w= .ok v w'->∀{tk:Tok},aM C x' (s.grew tk (d+100)) a w'->Rep x' c v->ce P C o a w ((s.grew tk (d+100)).put o.dst c):=by intro v w' x' c B tk L hc;exact⟨v,w',x',.value v,by rw[U];simp[B],.inl rfl,L.put o.dst hc⟩
 cases hu':s.ev r with
 |byt l tk=>
  rw[hu']at E h1
  try simp only at E
  split at E<;>try (cases E;done)
  rename_i p l' W;cases E;obtain⟨a1,b6,rfl,a5,O⟩:=hp;obtain rfl:n=1:=by omega
  obtain⟨g1,g2⟩:=fc (P:=P) hM h2 W a1;obtain⟨_,_,_,_,_,a2⟩:=h1.byt_inv;obtain⟨cap,hF,_⟩:=uJ (h1.data rfl)
  obtain⟨v,w',x',J,B,L,a4,H⟩:=nY (ty:=o.type) hM hd hu Q hn hby a7 hb0 hn0 hzl hF a5 a2 g1 (fun w' a0=>by have:=g2 l'.length (aI _) w' a0;rwa[bt]at this) (by simp) (kr l') (by omega) (d+100)
  simp only[St.app];have a3:o.dst.getD 0=d:=by rw[T];rfl
  rw[a3];refine fin B L (.dat _ _ (Gu (cap:=J) ?_) H);rw[ah,dh];exact a4
 |lst b5 l tk=>
  rw[hu']at E h1
  try simp only at E
  split at E<;>try (cases E;done)
  rename_i p l' W;cases E;obtain⟨a1,rfl,a5,O⟩:=hp;obtain rfl:n=z.length:=by omega
  obtain⟨F,g1,ns,S,g2⟩:=gM (P:=P) hM h2 W a1;obtain⟨_,_,_,_,_,a2⟩:=h1.lst_inv;obtain⟨cap,hF,_,Z⟩:=po (h1.data rfl);have a6:ns.length=l'.length*z.length:=by rw[<-S.len,bG F]
  obtain⟨v,w',x',J,B,L,a4,H⟩:=nY (ty:=o.type) hM hd hu Q hn hby a7 hb0 hn0 hzl hF a5 a2 g1 (fun w' a0=>by have:=g2 l'.length (aI _) w' a0;rwa[<-a6,bt]at this) a6 S O (d+100)
  simp only[St.app];have a3:o.dst.getD 0=d:=by rw[T];rfl
  rw[a3];refine fin B L (.dat _ _ (FQ (cap:=J) ?_ ?_) H)
  ·rw[ah,bY];exact a4
  ·intro y hy
   rcases ak.1 hy with hy|hy
   ·exact Z y hy
   ·exact F y hy
 |_=>rw[hu']at E;simp at E
end Go.Sy
namespace Go.Sy
variable [bc]
variable {P : Program} {C : Ctx} {x : Sit} {s : St} {a : Act} {w : World} {o : Oper} {so : SOp} {e : Eff}
theorem aM.write(F:aM C x s a w){d off:Nat}{obj obj':aC}(O:s.look d=some obj){vs:LAb}(hb:off+vs.length<=obj.size)(Z:obj'.size=obj.size)
 (E:∀c:LAc,(∀k,k<obj.size->bW x obj k (c.getD k undef))->∀k,k<obj.size->bW x obj' k (if off<=k/\k<off+vs.length then vs.getD (k-off) undef else c.getD k undef)) (z:obj'.arrB=obj.arrB:=by rfl):
 aM C x (s.setO d obj') a (bM w ((x.bk d).1) off vs)/\((∀v∈vs,v.oneCell'=true)->∀w':World,w'=w->(storeCells ⟨(x.bk d).1,off,none⟩ vs).run P w'= .ok () (bM w ((x.bk d).1) off vs)):=by
 obtain⟨c,e,fl,fh,Q,⟨hs,a0,I⟩,U⟩:=eC F O;obtain⟨g1,g2,T,S,W⟩:=cT ((x.bk d).1) vs w off;obtain⟨c',L,J,H⟩:=cK vs w off c Q (by omega);refine⟨⟨F.tm,F.defers,F.heap.block (cP O) g1 g2 T S W ⟨c',e,fl,fh,L,⟨by omega,by omega,fun h=>by rw[J];exact I (z ▸ h)⟩,fun k hk=> ?_⟩⟩, ?_⟩
 ·rw[H k]
  exact E c U k (by omega)
 ·rintro B w' rfl
  exact eF off vs w' c 0 Q (by omega) B
theorem ug{t u F:TypeId}{n m k:Nat}{ty:TypeId}{bs:Addr}{cap:Nat}{Y:Value}{vs:LAb}{w1:World}(hd:P.underlying t=some (.slice F))(hn:fj P F=some n)
 (z:(Builtin.lenOf Y).run P w= .ok m w) (h:(Builtin.firstCells n (min m k) Y).run P w= .ok vs.toArray w) (E:(storeCells bs vs).run P w= .ok () w1):
 (Builtin.copy_ #[t,u] ty #[.slice (some bs) k cap,Y]).run P w= .ok (.int .i64 (min m k:Nat)) w1:=by
 have e:(#[t,u]:Array TypeId)[0]? =some t:=rfl;have I:(#[Value.slice (some bs) k cap,Y]:LAc)[0]? =some (.slice (some bs) k cap):=rfl;have H:(#[Value.slice (some bs) k cap,Y]:LAc)[1]? =some Y:=rfl;have B:(Builtin.firstCells n (Nat.min m k) Y).run P w= .ok vs.toArray w:=h;simp only[Builtin.copy_,e,I,H,aB,run_underlying hd,am,cf hn,z,B,E,aF,goInt]
theorem Gh(hM:aM C x s a w){cl:Call}(ho:o.op= .call cl)(hb:cl.callee= .builtin .copy)(hr:br P o=some so)(T:eff s o.dst so=some e)(hp:e.pre):ce P C o a w (s.app o.dst e):=by
 simp only[br,ho,hb]at hr;split at hr<;>try (cases hr;done)
 rename_i X Y t u hX ht;split at hr<;>try (cases hr;done)
 rename_i el r q hd b6 c3;split at hr<;>try (cases hr;done)
 rename_i n hn;cases hr;have h1:=aK hM b6;have h2:=aK hM c3;have ea:cl.args= #[X,Y]:=by apply dL;simpa using hX
 have et:cl.argTypes= #[t,u]:=by apply dL;simpa using ht
 have a0:=fz (a:=a) ho hb _ rfl;rw[ea,et]at a0;have em: #[X,Y].map a.eval= #[a.eval X,a.eval Y]:=by simp
 rw[em]at a0;simp only[eff]at T;cases hu:s.ev r with
 |psl d c7 off k cap=>
  rw[hu]at T h1;obtain⟨cap,d3,_,J,a7,a1⟩:=h1.psl_inv
  try simp only at T
  split at T<;>try (cases T;done)
  ·rename_i l hl
   split at T<;>try (cases T;done)
   rename_i p z a3;cases T;obtain⟨a5,rfl,rfl,b4⟩:=hp;obtain⟨g1,g2⟩:=fc (P:=P) hM h2 a3 a5;have Z:((z.take (min z.length k)).map fun b=>Value.int .u8 b.toNat).length=min z.length k:=by simp
   have b2:z.take (min z.length k)=z.take k:=by rw[Nat.min_comm,<-List.take_take];simp
   have H:min z.length k=0\/J=off:=by
    rcases a1 with h|h
    ·left;omega
    ·right;rw[iF]at h;exact h
   have S:(z.take k).length=min z.length k:=by simp;omega
   simp only[St.app]
   obtain⟨
    hM',hst⟩:=hM.write (P:=P) (off:=off) (vs:=(z.take (min z.length k)).map fun b=>Value.int .u8 b.toNat) (obj':= .bar (l.take off++z.take k++l.drop (off+(z.take k).length))) hl (by simp only[aC.size,Z];omega)
    (by simp only[aC.size,ah,aD,aE];omega) (by
     intro c hc i hi;have:=hc i hi;simp only[bW,aC.cell,aC.size]at this hi ⊢;have a6:=fP l (z.take k) off i (by rw[S];omega);rw[Z]
     have e1:(l.take off++z.take k++l.drop (off+(z.take k).length)).getD i 0=if off<=i/\i<off+min z.length k then(z.take k).getD (i-off) 0 else l.getD i 0:=by simp only[aa];rw[a6,S];split<;>rfl
     rw[e1];split
     ·rename_i b3
      rw[b2]
      have e2:((z.take k).map fun b=>Value.int .u8 b.toNat).getD (i-off) undef= .int .u8 ((z.take k).getD (i-off) 0).toNat:=by simp only[aa,aR];rw[af (by rw[S];omega)];rfl
      rw[e2];exact .u8 _
     ·exact this)
   refine⟨.int .i64 (min z.length k:Nat),_,x,.value _, ?_,.inl rfl,aM.put hM' o.dst (cI _ _)⟩;rw[a0,a7]
   have a4:=ug (P:=P) (w:=w) (t:=t) (u:=u) (ty:=o.type) (bs:=⟨(x.bk d).1,J,none⟩) (cap:=cap) (w1:=bM w ((x.bk d).1) off ((z.take (min z.length k)).map fun b=>Value.int .u8 b.toNat)) hd hn (g1 w rfl) (g2 _ (Nat.min_le_left _ _) w rfl) (by
    rcases H with h|h
    ·rw[h];rfl
    ·rw[h];exact hst (fun v hv=>by obtain⟨_,_,rfl⟩:=aS.1 hv;rfl) w rfl)
   simp[a4]
  ·rename_i c6 E hl
   split at T<;>try (cases T;done)
   rename_i p z a3;cases T;obtain⟨a5,rfl,rfl,b4,B⟩:=hp;obtain⟨L,g1,ns,I,g2⟩:=gM (P:=P) hM h2 a3 a5;have b8:ns.length=z.length*n:=by rw[<-I.len,bG L]
   have b7:(min z.length k)*n<=ns.length:=by rw[b8];exact bB _ (Nat.min_le_left _ _)
   have Z:(ns.take (min z.length k*n)).length=min z.length k*n:=by rw[aD,gK b7]
   have S:(z.take k).length=min z.length k:=by simp;omega
   have O:∀y∈z.take k,y.length=n:=fun y F=>L y (bL F)
   have W:(z.take k).flatten.length=min z.length k*n:=by rw[bG O,S]
   have H:min z.length k=0\/J=off*n:=by
    rcases a1 with h|h
    ·left;omega
    ·right;exact h
   have a2:off*n+min z.length k*n<=E.length*n:=by rw[<-bD];exact bB _ (by omega)
   have Q:∀y∈E.take off++z.take k++E.drop (off+(z.take k).length),y.length=n:=by
    intro y F;rcases ak.1 F with F|F
    ·rcases ak.1 F with F|F
     ·exact B y (bL F)
     ·exact O y F
    ·exact B y (dQ F)
   have U:(E.take off++z.take k++E.drop (off+(z.take k).length)).length=E.length:=by simp only[ah,aD,aE];omega
   simp only[St.app]
   obtain⟨
    hM',hst⟩:=hM.write (P:=P) (off:=off*n) (vs:=ns.take (min z.length k*n)) (obj':= .arr n (E.take off++z.take k++E.drop (off+(z.take k).length))) hl (by simp only[aC.size,Z];exact a2)
    (by simp only[aC.size];rw[U]) (by
     intro c hc i hi;have:=hc i hi;simp only[bW,aC.cell,aC.size]at this hi ⊢;rw[<-cE _ Q i (by rw[U];exact hi)];rw[<-cE _ B i hi]at this;rw[bY,bY,Z];have ef:E.flatten=(E.take off).flatten++(E.drop off).flatten:=by rw[<-bY,fZ]
     have l1:(E.take off).flatten.length=off*n:=by rw[bG (fun y F=>B y (bL F)),aD,gK (by omega)]
     have e1:E.flatten.take (off*n)=(E.take off).flatten:=by rw[ef,List.take_append_of_le_length (by rw[l1];exact aI _),cg (by rw[l1];exact aI _)]
     have e2:E.flatten.drop (off*n+min z.length k*n)=(E.drop (off+(z.take k).length)).flatten:=by
      have a9:E.flatten=(E.take (off+(z.take k).length)).flatten++(E.drop (off+(z.take k).length)).flatten:=by rw[<-bY,fZ]
      have l2:(E.take (off+(z.take k).length)).flatten.length=off*n+min z.length k*n:=by rw[bG (fun y F=>B y (bL F)),aD,S,gK (by omega),bD]
      rw[a9,List.drop_append,l2,Nat.sub_self,bi,bO (by rw[l2];exact aI _),bw]
     rw[<-e1,<-e2,<-W];have a6:=fP E.flatten (z.take k).flatten (off*n) i (by rw[W,bG B];exact a2);rw[aa,a6];split
     ·rename_i b3
      rw[<-aa];have c4:i-off*n<(z.take k).flatten.length:=by omega
      have a8:(z.take k).flatten.getD (i-off*n) .undef=z.flatten.getD (i-off*n) .undef:=by
       have b5:z.flatten=(z.take k).flatten++(z.drop k).flatten:=by rw[<-bY,fZ]
       rw[b5];simp only[aa];rw[aY c4]
      rw[a8]
      have e3:(ns.take (min z.length k*n)).getD (i-off*n) undef=ns.getD (i-off*n) undef:=by simp only[aa,bv];rw[if_pos (by omega)]
      rw[<-W]at e3;rw[e3];exact I.rep _ (by rw[I.len];omega)
     ·rw[<-aa];exact this)
   refine⟨.int .i64 (min z.length k:Nat),_,x,.value _, ?_,.inl rfl,aM.put hM' o.dst (cI _ _)⟩;rw[a0,a7]
   have a4:=ug (P:=P) (w:=w) (t:=t) (u:=u) (ty:=o.type) (bs:=⟨(x.bk d).1,J,none⟩) (cap:=cap) (w1:=bM w ((x.bk d).1) (off*n) (ns.take (min z.length k*n))) hd hn (g1 w rfl) (g2 _ (Nat.min_le_left _ _) w rfl) (by
    rcases H with h|h
    ·rw[h];simp[storeCells,bM]
    ·rw[h];exact hst (fun v hv=>I.one v (bL hv)) w rfl)
   simp[a4]
 |_=>rw[hu]at T;simp at T
theorem aM.writeRows(hM:aM C x s a w){d n off:Nat}{z B:f8}{ns:LAb}(hl:s.look d=some (.arr n z))(h:∀y∈z,y.length=n)(E:∀y∈B,y.length=n)
 (T:off+B.length<=z.length) (I:New x ns B.flatten):
 aM C x (s.setO d (.arr n (z.take off++B++z.drop (off+B.length)))) a (bM w ((x.bk d).1) (off*n) ns)/\(storeCells ⟨(x.bk d).1,off*n,none⟩ ns).run P w= .ok () (bM w ((x.bk d).1) (off*n) ns):=by
 have Q:ns.length=B.length*n:=by rw[<-I.len,bG E]
 have L:off*n+B.length*n<=z.length*n:=by rw[<-bD];exact bB _ T
 have H:∀y∈z.take off++B++z.drop (off+B.length),y.length=n:=by
  intro y F;rcases ak.1 F with F|F
  ·rcases ak.1 F with F|F
   ·exact h y (bL F)
   ·exact E y F
  ·exact h y (dQ F)
 have J:(z.take off++B++z.drop (off+B.length)).length=z.length:=by simp only[ah,aD,aE];omega
 obtain⟨
  hM',hst⟩:=hM.write (P:=P) (off:=off*n) (vs:=ns) (obj':= .arr n (z.take off++B++z.drop (off+B.length))) hl (by simp only[aC.size,Q];exact L)
  (by simp only[aC.size];rw[J]) (by
   intro c hc i hi;have:=hc i hi;simp only[bW,aC.cell,aC.size]at this hi ⊢;rw[<-cE _ H i (by rw[J];exact hi)];rw[<-cE _ h i hi]at this;rw[bY,bY,Q];have ef:z.flatten=(z.take off).flatten++(z.drop off).flatten:=by rw[<-bY,fZ]
   have Z:(z.take off).flatten.length=off*n:=by rw[bG (fun y F=>h y (bL F)),aD,gK (by omega)]
   have e1:z.flatten.take (off*n)=(z.take off).flatten:=by rw[ef,List.take_append_of_le_length (by rw[Z];exact aI _),cg (by rw[Z];exact aI _)]
   have O:B.flatten.length=B.length*n:=bG E
   have e2:z.flatten.drop (off*n+B.length*n)=(z.drop (off+B.length)).flatten:=by
    have U:z.flatten=(z.take (off+B.length)).flatten++(z.drop (off+B.length)).flatten:=by rw[<-bY,fZ]
    have W:(z.take (off+B.length)).flatten.length=off*n+B.length*n:=by rw[bG (fun y F=>h y (bL F)),aD,gK (by omega),bD]
    rw[U,List.drop_append,W,Nat.sub_self,bi,bO (by rw[W];exact aI _),bw]
   rw[<-e1,<-e2,<-O];have S:=fP z.flatten B.flatten (off*n) i (by rw[O,bG h];exact L);rw[aa,S];split
   ·rename_i a0
    rw[<-aa];exact I.rep _ (by omega)
   ·rw[<-aa];exact this)
 exact⟨hM',hst I.one w rfl⟩
theorem Dd{S:LAb}{z:t7}{I:LAc}(Q:I.toList=S)(U:z.length=S.length)(hz:∀(G:GM) i,i<z.length->cD G (z.getD i .undef) (S.getD i undef))(n:Nat):
 New x (Builtin.zeroCells I n).toList (au n z).flatten:=by
 have F:I.size=z.length:=by rw[<-aP,Q,U]
 have E:∀y∈au n z,y.length=z.length:=fun y W=>by rw[(List.mem_replicate.1 W).2]
 have O:(au n z).flatten.length=n*z.length:=by rw[bG E,bQ]
 have H:∀i,i<n*z.length->(Builtin.zeroCells I n).toList.getD i undef=S.getD (i % z.length) undef:=by
  intro i hi
  have B:0<z.length:=by
   rcases gh z.length with h|h
   ·rw[h]at hi;omega
   ·exact h
  have J:i % I.size<I.size:=Nat.mod_lt _ (by omega);rw[aa,Builtin.zeroCells];simp only[Array.toList_map,Array.toList_range,aR];rw[cM (by rw[F];exact hi)];simp only[bm,ba];rw[getElem!_pos I _ J,<-Q,aa,<-F,af (by simpa using J)];simp
 refine⟨by rw[O];simp[dz,F],fun i hi=> ?_,fun v Z=> ?_⟩
 ·rw[O]at hi
  have B:0<z.length:=by
   rcases gh z.length with h|h
   ·rw[h]at hi;omega
   ·exact h
  rw[H i hi,cE _ E i (by simpa using hi),ft _ _ _ _ (Nat.div_lt_of_lt_mul (by rw[dq];exact hi))];exact hz _ _ (Nat.mod_lt _ B)
 ·obtain⟨i,hi,rfl⟩:=List.mem_iff_getElem.1 Z
  have L:i<n*z.length:=by simpa[dz,F]using hi
  have B:0<z.length:=by
   rcases gh z.length with h|h
   ·rw[h]at L;omega
   ·exact h
  have T:=H i L;rw[aa,af hi,ba]at T;rw[T];exact(hz (fun _ _=>none) _ (Nat.mod_lt _ B)).oneCell
theorem DE(hM:aM C x s a w){W:Call}(ho:o.op= .call W)(hb:W.callee= .builtin .clear)(B:br P o=some so)(E:eff s o.dst so=some e)(hp:e.pre):ce P C o a w (s.app o.dst e):=by
 simp only[br,ho,hb]at B;split at B<;>try (cases B;done)
 rename_i X t hX ht;split at B<;>try (cases B;done)
 rename_i el r hd a3;split at B<;>try (cases B;done)
 rename_i z hz;cases B;have h1:=aK hM a3;have ea:W.args= #[X]:=by apply dL;simpa using hX
 have et:W.argTypes= #[t]:=by apply dL;simpa using ht
 have F:=fz (a:=a) ho hb _ rfl;rw[ea,et]at F;have em: #[X].map a.eval= #[a.eval X]:=by simp
 rw[em]at F;simp only[eff]at E;cases hu:s.ev r with
 |psl d a7 off k cap=>
  rw[hu]at E h1;obtain⟨cap,a9,_,T,Z,Q⟩:=h1.psl_inv
  try simp only at E
  split at E<;>try (cases E;done)
  rename_i a6 xs hl;cases E;obtain⟨a8,rfl,rfl,a1,I⟩:=hp
  have J:T=off*z.length:=by
   rcases Q with h|h
   ·omega
   ·exact h
  subst J;obtain⟨zs,U,hzl,a0⟩:=mQ hz;obtain⟨zv,a5,H⟩:=cC U;have O:=Dd (x:=x) a5 hzl a0 k;have S:∀y∈au k z,y.length=z.length:=fun y hy=>by rw[(List.mem_replicate.1 hy).2]
  obtain⟨L,a4⟩:=hM.writeRows (P:=P) (off:=off) hl I S (by simpa using a1) O;rw[bQ]at L;simp only[St.app];refine⟨.tuple #[],_,x,.value _, ?_,.inl rfl,aM.put L o.dst (.tup [] [] rfl fun i hi=>by simp at hi)⟩;rw[F,Z]
  have a2:(Builtin.clear_ #[t] o.type #[.slice (some ⟨(x.bk d).1,off*z.length,none⟩) k cap]).run P w= .ok (.tuple #[]) (bM w ((x.bk d).1) (off*z.length) (Builtin.zeroCells zv.cells k).toList):=by have e1:(#[t]:Array TypeId)[0]? =some t:=rfl;have e2:(#[Value.slice (some ⟨(x.bk d).1,off*z.length,none⟩) k cap]:LAc)[0]? =some (.slice (some ⟨(x.bk d).1,off*z.length,none⟩) k cap):=rfl;obtain⟨k',rfl⟩:∃k',k=k'+1:=⟨k-1,by omega⟩;simp only[Builtin.clear_,e1,e2,aB,run_underlying hd,am,H,a4,aF]
  simp[a2]
 |_=>rw[hu]at E;simp at E
theorem DD(E:aM C x s a w)(h:br P o=some so)(O:∀q r,so≠ .ovl q r)(H:eff s o.dst so=some e)(F:e.pre):ce P C o a w (s.app o.dst e):=by
 have z:(∀{p c},val s so=some (p,c)->p->ce P C o a w (s.put o.dst c))->(∀d,eff s d so=match val s so with|some (p,v)=>some {pre:=p,val:=v}|none=>none)->ce P C o a w (s.app o.dst e):=by
  intro W T;rw[T]at H;cases B:val s so with
  |none=>simp[B]at H
  |some S=>obtain⟨p,c⟩:=S;simp only[B,aw.injEq]at H;subst H;exact W B F
 cases ho:o.op with
 |move X=>exact z (fun B _=>tX E (.inl ho) h B) (by simp only[br,ho]at h;obtain⟨_,_,rfl⟩:=ai.1 h;intro d;rfl)
 |assign X=>exact z (fun B _=>tX E (.inr ho) h B) (by simp only[br,ho]at h;obtain⟨_,_,rfl⟩:=ai.1 h;intro d;rfl)
 |pick c X Y=>
  exfalso;simp only[br,ho]at h;split at h<;>try (cases h;done)
  cases h;simp[eff]at H
 |alloc t=>exact DF E ho h H
 |box t X=>exact Qn E ho h H
 |build t U=>exact z (fun B _=>CA E ho h B) (by
  simp only[br,ho]at h;split at h<;>try (cases h;done)
  ·split at h<;>try (cases h;done)
   obtain⟨_,_,rfl⟩:=ai.1 h;intro d;rfl
  ·split at h<;>try (cases h;done)
   obtain⟨_,_,rfl⟩:=ai.1 h;intro d;rfl)
 |buildSlice t n U=>exact z (fun B _=>nM E ho h B) (by
  simp only[br,ho]at h;split at h<;>try (cases h;done)
  split at h<;>try (cases h;done)
  split at h<;>try (cases h;done)
  obtain⟨_,_,rfl⟩:=ai.1 h;intro d;split<;>rfl)
 |load t X=>exact z (fun B F=>ED E ho h B F) (by
  simp only[br,ho]at h;split at h<;>try (cases h;done)
  split at h<;>try (cases h;done)
  cases h;intro d;rfl)
 |store t X Y=>exact DC E ho h H F
 |nilCheck X=>exact z (fun B _=>ru E ho h B) (by simp only[br,ho]at h;obtain⟨_,_,rfl⟩:=ai.1 h;intro d;rfl)
 |binOp op t X Y u=>
  by_cases I:∃J L q r,so= .eqS J L q r
  ·obtain⟨J,L,q,r,rfl⟩:=I
   exact z (fun B _=>N6 E ho h B) (fun _=>rfl)
  ·exact z (fun B F=>CB E ho h (fun J L q r e=>I ⟨J,L,q,r,e⟩) B F) (by
    simp only[br,ho]at h;split at h<;>try (cases h;done)
    ·split at h<;>try (cases h;done)
     all_goals (cases h;intro d;rfl)
    ·cases h;intro d;rfl
    ·cases h;intro d;rfl
    ·split at h<;>try (cases h;done)
     split at h<;>try (cases h;done)
     split at h<;>first|(cases h;done)|(cases h;intro d;rfl)
    ·split at h<;>first|(cases h;done)|(cases h;simp[eff]at H)
    ·split at h<;>first|(cases h;done)|(cases h;intro d;rfl))
 |unOp op t X=>exact z (fun B _=>EC E ho h B) (by simp only[br,ho]at h;obtain⟨_,_,rfl⟩:=ai.1 h;intro d;rfl)
 |convert t u X=>exact z (fun B F=>tK E ho h B F) (by
  simp only[br,ho]at h;split at h<;>try (cases h;done)
  ·cases h;intro d;rfl
  ·cases h;intro d;rfl
  ·split at h<;>try (cases h;done)
   cases h;intro d;rfl
  ·split at h<;>try (cases h;done)
   cases h;intro d;rfl
  ·split at h<;>try (cases h;done)
   cases h;intro d;rfl)
 |makeFunc f X Y=>exact z (fun B _=>rx E ho h B) (by
  cases f<;>simp only[br,ho,reduceCtorEq]at h;split at h<;>try (cases h;done)
  cases h;intro d;rfl)
 |makeSlice t X Y=>exact pW E ho h H F
 |slice t X lo hi Z=>exact z (fun B F=>Cx E ho h B F) (by
  simp only[br,ho]at h;split at h<;>try (cases h;done)
  split at h
  ·cases h
  split at h<;>try (cases h;done)
  ·split at h<;>try (cases h;done)
   cases h;intro d;rfl
  ·split at h<;>try (cases h;done)
   cases h;intro d;rfl
  ·split at h<;>try (cases h;done)
   cases h;intro d;rfl)
 |fieldAddr t X i=>exact z (fun B _=>pE E ho h B) (by
  simp only[br,ho]at h;split at h<;>try (cases h;done)
  split at h<;>try (cases h;done)
  split at h<;>try (cases h;done)
  split at h
  ·cases h
  cases h;intro d;rfl)
 |field t X i=>exact z (fun B F=>Cz E ho h B F) (by
  simp only[br,ho]at h;split at h<;>try (cases h;done)
  split at h<;>try (cases h;done)
  split at h<;>try (cases h;done)
  split at h<;>try (cases h;done)
  cases h;intro d;rfl)
 |indexAddr t X Y=>exact z (fun B F=>pD E ho h B F) (by
  simp only[br,ho]at h;split at h<;>try (cases h;done)
  ·split at h<;>try (cases h;done)
   cases h;intro d;rfl
  ·split at h<;>try (cases h;done)
   cases h;intro d;rfl)
 |index t X Y=>exact z (fun B F=>Cy E ho h B F) (by
  simp only[br,ho]at h;split at h<;>try (cases h;done)
  ·split at h<;>try (cases h;done)
   split at h<;>try (cases h;done)
   cases h;intro d;rfl
  ·cases h;intro d;rfl)
 |extract X i=>exact z (fun B F=>tJ E ho h B F) (by simp only[br,ho]at h;obtain⟨_,_,rfl⟩:=ai.1 h;intro d;rfl)
 |call Q=>
  cases hb:Q.callee with
  |invoke r m=>simp[br,ho,hb]at h
  |value f=>
   exfalso;simp only[br,ho,hb]at h;split at h<;>try (cases h;done)
   split at h<;>try (cases h;done)
   split at h
   ·split at h
    ·cases h;exact O _ _ rfl
    ·cases h;simp[eff]at H
   ·cases h;simp[eff]at H
  |builtin b=>
   cases b with
   |append=>exact wB E ho hb h H F
   |copy=>exact Gh E ho hb h H F
   |clear=>exact DE E ho hb h H F
   |cap=>exact z (fun B _=>N7 E ho hb h B) (by
    simp only[br,ho,hb]at h;split at h<;>try (cases h;done)
    split at h<;>try (cases h;done)
    cases h;intro d;rfl)
   |len=>exact z (fun B _=>N5 E ho hb h B) (by
    simp only[br,ho,hb]at h;split at h<;>try (cases h;done)
    split at h<;>try (cases h;done)
    ·cases h;intro d;rfl
    ·cases h;intro d;rfl
    ·cases h;intro d;rfl
    ·split at h<;>try (cases h;done)
     cases h;intro d;rfl)
   |min=>exact z (fun B _=>nN E ho (.inl hb) h B) (by
    simp only[br,ho,hb]at h;split at h<;>try (cases h;done)
    split at h<;>try (cases h;done)
    cases h;intro d;rfl)
   |max=>exact z (fun B _=>nN E ho (.inr hb) h B) (by
    simp only[br,ho,hb]at h;split at h<;>try (cases h;done)
    split at h<;>try (cases h;done)
    cases h;intro d;rfl)
   |_=>simp[br,ho,hb]at h
 |_=>simp[br,ho]at h
end Go.Sy
namespace Go.Sy
variable [bc]
variable {P : Program} {C : Ctx} {x : Sit} {s : St} {a : Act} {w : World}
theorem kQ{cs:t7}{i:Nat}(hi:i<cs.length):∀k∈(cs.getD i .undef).ids,k∈SV.idsL cs:=by
 induction cs generalizing i with
 |nil=>simp at hi
 |cons c r z=>
  intro k h;simp only[SV.idsL,ak];cases i with
  |zero=>exact .inl (by simpa using h)
  |succ i=>exact .inr (z (i:=i) (by simpa using hi) k (by simpa using h))
theorem j5{cs:t7}{i:Nat}(hi:i<cs.length):∀k∈(cs.getD i .undef).toks,k∈SV.toksL cs:=by
 induction cs generalizing i with
 |nil=>simp at hi
 |cons c r z=>
  intro k h;simp only[SV.toksL,ak];cases i with
  |zero=>exact .inl (by simpa using h)
  |succ i=>exact .inr (z (i:=i) (by simpa using hi) k (by simpa using h))
theorem Rep.renF{x x2:Sit}{mo mt:Nat->Nat}(hG:∀b o v,x.G b o=some v->x2.G b o=some v){sv:SV}{v:Value}(h:Rep x sv v):(∀k∈sv.ids,x2.bk (mo k)=x.bk k)->(∀t∈sv.toks,x2.τ (mt t)=x.τ t)->Rep x2 (sv.ren mo mt) v:=by
 induction h with
 |undef v=>intro _ _;exact .undef v
 |dat s v h O=>
  intro E I;have H:=h.mono hG
  have sp:∀(F:Nat)(t:Tok),(∀u,t= .id u->x2.τ (mt u)=x.τ u)->df x F t v->df x2 F (t.ren mt) v:=by
   intro F t O hs;cases t with
   |no=>trivial
   |clip=>exact hs
   |id u=>obtain⟨ad,n,cap,hv,S⟩:=hs;refine⟨ad,n,cap,hv,S.imp id ?_⟩;rintro⟨b,off,he,hh⟩;exact⟨b,off,he,by rw[O u rfl];exact hh⟩
  cases s with
  |byt l t=>simp only[SV.ren];exact .dat _ _ (H.tok _ (.inl ⟨l,t,_,rfl,rfl⟩)) (sp 1 t (fun u hu=>I u (by subst hu;simp[SV.toks])) O)
  |lst F xs t=>simp only[SV.ren];exact .dat _ _ (H.tok _ (.inr ⟨F,xs,t,_,rfl,rfl⟩)) (sp F t (fun u hu=>I u (by subst hu;simp[SV.toks])) O)
  |undef=>exact .undef v
  |bool b=>simp only[SV.ren];exact .dat _ _ H trivial
  |int k n=>simp only[SV.ren];exact .dat _ _ H trivial
  |u8 b=>simp only[SV.ren];exact .dat _ _ H trivial
  |str l=>simp only[SV.ren];exact .dat _ _ H trivial
  |nilp=>simp only[SV.ren];exact .dat _ _ H trivial
  |nili=>simp only[SV.ren];exact .dat _ _ H trivial
  |pp cs=>simp only[SV.ren];exact .dat _ _ H trivial
  |ptr o off=>cases h
  |ap o F i j=>cases h
  |psl o F off n cap=>cases h
  |agg cs=>cases h
  |tup cs=>cases h
  |fn f a b=>cases h
 |ptr o off=>intro E _;simp only[SV.ren];rw[<-E o (by simp[SV.ids])];exact .ptr _ off
 |ap o F i j=>intro E _;simp only[SV.ren];rw[<-E o (by simp[SV.ids])];exact .ap _ F i j
 |psl o F off n cap L J h hn S B=>intro E _;simp only[SV.ren];rw[<-E o (by simp[SV.ids])]at B ⊢;exact .psl _ F off n cap L J h hn S B
 |agg cs vs U _ T=>
  intro E I;simp only[SV.ren,fa]
  exact .agg _ _ (by simpa using U) fun i hi=>by
   rw[aV _ (by simp)];have z:i<cs.length:=by simpa using hi
   exact T i z (fun k B=>E k (by simp only[SV.ids];exact kQ z k B)) (fun k B=>I k (by simp only[SV.toks];exact j5 z k B))
 |tup cs vs U _ T=>
  intro E I;simp only[SV.ren,fa]
  exact .tup _ _ (by simpa using U) fun i hi=>by
   rw[aV _ (by simp)];have z:i<cs.length:=by simpa using hi
   exact T i z (fun k B=>E k (by simp only[SV.ids];exact kQ z k B)) (fun k B=>I k (by simp only[SV.toks];exact j5 z k B))
 |fn f c1 c2 v1 v2 Q _ a0 _ Z W=>
  intro E I;simp only[SV.ren,fa]
  exact .fn _ _ _ _ _ (by simpa using Q) (fun i hi=>by
   rw[aV _ (by simp)];have z:i<c1.length:=by simpa using hi
   exact Z i z (fun k B=>E k (by simp only[SV.ids,ak];exact .inl (kQ z k B))) (fun k B=>I k (by simp only[SV.toks,ak];exact .inl (j5 z k B))))
   (by simpa using a0) fun i hi=>by
    rw[aV _ (by simp)];have z:i<c2.length:=by simpa using hi
    exact W i z (fun k B=>E k (by simp only[SV.ids,ak];exact .inr (kQ z k B))) (fun k B=>I k (by simp only[SV.toks,ak];exact .inr (j5 z k B)))
def Sit.back(x:Sit)(mo mt:Nat->Nat):Sit:=⟨x.G,fun k=>x.bk (mo k),fun t=>x.τ (mt t)⟩
theorem nV{x:Sit}{mo mt:Nat->Nat}{z:Nat}{t:Tok}{v:Value}(h:df x z (t.ren mt) v):df (x.back mo mt) z t v:=by
 cases t with
 |no=>trivial
 |clip=>exact h
 |id u=>exact h
theorem Rep.renB{x:Sit}{mo mt:Nat->Nat}(sv:SV):∀v,Rep x (sv.ren mo mt) v->Rep (x.back mo mt) sv v:=by
 refine SV.rec (motive_1:=fun sv=>∀v,Rep x (sv.ren mo mt) v->Rep (x.back mo mt) sv v) (motive_2:=fun _=>True) (motive_3:=fun l=>∀i,i<l.length->∀v,Rep x ((l.getD i .undef).ren mo mt) v->Rep (x.back mo mt) (l.getD i .undef) v)
  ?_ ?_ ?_ ?_ ?_ ?_ ?_ ?_ ?_ ?_ ?_ ?_ ?_ ?_ ?_ ?_ ?_ ?_ ?_ ?_ sv
 ·intro v _;exact .undef v
 ·intro b v h;rw[Rep.bool_inv h];exact dw b
 ·intro k n v h;rw[Rep.int_inv h];exact cI k n
 ·intro b v h;rw[Rep.u8_inv h];exact nB b
 ·intro l v h;rw[Rep.str_inv h];exact kL l
 ·intro l t v h
  simp only[SV.ren]at h;cases h with
  |dat _ _ h Q=>exact .dat _ _ (h.tok _ (.inl ⟨l,_,t,rfl,rfl⟩)) (nV Q)
 ·intro z Z t _ v h
  simp only[SV.ren]at h;cases h with
  |dat _ _ h Q=>exact .dat _ _ (h.tok _ (.inr ⟨z,Z,_,t,rfl,rfl⟩)) (nV Q)
 ·intro v h;rw[Rep.nilp_inv h];exact .dat _ _ .nilp trivial
 ·intro v h;rw[Rep.nili_inv h];exact .dat _ _ .nili trivial
 ·intro cs _ v h
  simp only[SV.ren]at h;exact .dat _ _ (Rep.data (x:=x) h rfl) trivial
 ·intro o off v h;simp only[SV.ren]at h;rw[h.ptr_inv];exact .ptr o off
 ·intro o z i j v h;simp only[SV.ren]at h;rw[h.ap_inv];exact .ap o z i j
 ·intro o z off n cap v h
  simp only[SV.ren]at h;obtain⟨B,hn,W,E,rfl,ho,U⟩:=h.psl_invA;exact .psl (x:=x.back mo mt) o z off n cap E B ho hn W U
 ·intro cs J v h
  simp only[SV.ren,fa]at h;obtain⟨vs,rfl,F⟩:=h.agg_inv;refine .agg _ _ (by simpa using F.1) fun i hi=>J i hi _ ?_
  have:=F.2 i (by simpa using hi);rwa[aV _ (by simp)]at this
 ·intro cs J v h
  simp only[SV.ren,fa]at h;obtain⟨vs,rfl,F⟩:=h.tup_inv;refine .tup _ _ (by simpa using F.1) fun i hi=>J i hi _ ?_
  have:=F.2 i (by simpa using hi);rwa[aV _ (by simp)]at this
 ·intro f c1 c2 O L v h
  simp only[SV.ren,fa]at h;obtain⟨v1,v2,rfl,S,T⟩:=h.fn_inv;refine .fn _ _ _ _ _ (by simpa using S.1) (fun i hi=>O i hi _ ?_) (by simpa using T.1) (fun i hi=>L i hi _ ?_)
  ·have:=S.2 i (by simpa using hi);rwa[aV _ (by simp)]at this
  ·have:=T.2 i (by simpa using hi);rwa[aV _ (by simp)]at this
 ·trivial
 ·intros;trivial
 ·intro i hi;simp at hi
 ·intro c r I H i hi v h
  cases i with
  |zero=>exact I v (by simpa using h)
  |succ i=>simpa using H i (by simpa using hi) v (by simpa using h)
theorem dA.renB{mo mt:Nat->Nat}{o:Nat}{obj:aC}(h:dA x w (mo o) (obj.ren mo mt)):dA (x.back mo mt) w o obj:=by
 obtain⟨c,e,fl,fh,I,⟨H,F,E⟩,z⟩:=h;refine⟨c,e,fl,fh,I,⟨?_,F,by cases obj<;>exact E⟩,fun k B=> ?_⟩
 ·cases obj<;>simpa[aC.ren,aC.size,fa]using H
 ·cases obj with
  |rc cs=>have:=z k (by simpa[aC.ren,aC.size,fa]using B);simp only[aC.ren,bW,fa]at this ⊢;rw[aV _ (by simp)]at this;exact Rep.renB _ _ this
  |arr J L=>exact z k B
  |bar l=>exact z k B
theorem dA.renF{x2:Sit}{w':World}{mo mt:Nat->Nat}{o:Nat}{obj:aC}(h:dA x w' o obj)(F:∀b o v,x.G b o=some v->x2.G b o=some v)(L:x2.bk (mo o)=x.bk o)
 (T:∀k∈obj.ids,x2.bk (mo k)=x.bk k) (Q:∀t∈obj.toks,x2.τ (mt t)=x.τ t):dA x2 w' (mo o) (obj.ren mo mt):=by
 obtain⟨c,e,fl,fh,S,⟨O,I,H⟩,B⟩:=h;refine⟨c,e,fl,fh,by rw[L];exact S,⟨?_,by rw[L];exact I,by cases obj<;>exact H⟩,fun k E=> ?_⟩
 ·cases obj<;>simpa[aC.ren,aC.size,fa]using O
 ·cases obj with
  |rc cs=>
   have z:k<cs.length:=by simpa[aC.ren,aC.size,fa]using E
   have:=B k z;simp only[aC.ren,bW,fa]at this ⊢;rw[aV _ (by simp)];exact Rep.renF F this (fun j J=>T j (kQ z j J)) (fun j J=>Q j (j5 z j J))
  |arr U W=>exact(B k E).mono F
  |bar l=>exact(B k E).mono F
theorem iM{os:List aC}{p:Nat×aC}:p∈idx os↔p.1<os.length/\p.2=os.getD p.1 (.rc []):=by
 unfold idx;rw[aS];constructor
 ·rintro⟨⟨ob,i⟩,h,rfl⟩
  have:=List.mem_zipIdx' h;exact⟨this.1,by rw[aa,af this.1];exact this.2⟩
 ·rintro⟨z,B⟩
  refine⟨(p.2,p.1), ?_,rfl⟩;rw[List.mk_mem_zipIdx_iff_getElem?,B,aa,af z];rfl
theorem mB(os:List aC):((idx os).map cB).Nodup:=by
 unfold idx;rw[List.map_map];have:(cB∘fun p:aC×Nat=>(p.2,p.1))=Prod.snd:=rfl;rw[this];have:os.zipIdx.map Prod.snd=List.range' 0 os.length:=by simp[List.zipIdx_map_snd]
 rw[this];exact List.nodup_range'
theorem qB{m:t8}(h:m.Nodup){i j:Nat}(hi:i<m.length)(E:j<m.length)(e:m[i]=m[j]):i=j:=by
 have B:=gZ.1 h;rcases Nat.lt_trichotomy i j with z|heq|hgt
 ·exact absurd e (B i j hi E z)
 ·exact heq
 ·exact absurd e.symm (B j i E hi hgt)
def Ctx.callee(x:Sit)(w:World)(m:t8)(β0:Nat->Nat×Nat):Ctx:=⟨w,x.G,fun b=>w.heap.size<=b\/∃i,i<m.length/\(x.bk (m.getD i 0)).1=b,β0⟩
theorem tU(H:aM C x s a w){m:t8}{os:List aC}{mo mt:Nat->Nat}(F:∀i,i<m.length->mo i=m.getD i 0)(Z:m.length=os.length)(L:m.Nodup)
 (z:∀i,i<os.length->s.look (m.getD i 0)=some ((os.getD i (.rc [])).ren mo mt)):cS (Ctx.callee x w m (x.back mo mt).bk) (x.back mo mt) (idx os) [] w:=by
 have J:∀i,i<os.length->(x.back mo mt).bk i=x.bk (m.getD i 0):=fun i hi=>by show x.bk (mo i)=_;rw[F i (by omega)]
 refine⟨H.heap.per,fun _ _ _ h=>h,fun _ _ _ h=> .inl h,fun b h=> .inl h, ?_,mB os, ?_,fun t h=>by simp at h,fun t h=>by simp at h,fun t h=>by simp at h,rfl,rfl,rfl,aI _,fun _ _=>rfl,fun _ _=>rfl,H.heap.lay.mono H.heap.g0⟩
 ·intro p O
  obtain⟨B,I⟩:=iM.1 O;obtain⟨W,h4,Q⟩:=H.heap.obs _ (cP (z p.1 B));refine⟨?_,.inr ⟨p.1,by omega,by rw[J p.1 B]⟩,fun off=>by rw[J p.1 B];exact Q off⟩;rw[I];refine dA.renB ?_;rw[F p.1 (by omega)];exact W
 ·intro p O q S E
  obtain⟨B,_⟩:=iM.1 O;obtain⟨I,_⟩:=iM.1 S;rw[J _ B,J _ I]at E;have:=H.heap.inj _ (cP (z p.1 B)) _ (cP (z q.1 I)) E;simp only at this;have T:m.getD p.1 0=m[p.1]'(by omega):=by rw[aa,af (by omega)];rfl
  have U:m.getD q.1 0=m[q.1]'(by omega):=by rw[aa,af (by omega)];rfl
  rw[T,U]at this;exact qB L _ _ this
end Go.Sy
namespace Go.Sy
variable [bc]
variable {P : Program} {C : Ctx} {x : Sit} {s : St} {a : Act} {w : World}
theorem jq{m:t8}{l:List (Nat×aC)}{p:Nat×aC}:p∈fb m l↔p∈l/\p.1∉m:=by
 induction l with
 |nil=>simp[fb]
 |cons q r E=>
  simp only[fb];split<;>rename_i B
  ·rw[E,an];constructor
   ·rintro⟨z,h⟩;exact⟨.inr z,h⟩
   ·rintro⟨rfl|z,h⟩
    ·exact absurd B h
    ·exact⟨z,h⟩
  ·rw[an,E,an];constructor
   ·rintro(rfl|⟨z,h⟩)
    ·exact⟨.inl rfl,B⟩
    ·exact⟨.inr z,h⟩
   ·rintro⟨rfl|z,h⟩
    ·exact .inl rfl
    ·exact .inr ⟨z,h⟩
theorem gR(m:t8)(l:List (Nat×aC)):(fb m l).Sublist l:=by
 induction l with
 |nil=>exact m6.refl _
 |cons q r h=>
  simp only[fb];split
  ·exact h.cons q
  ·exact h.cons_cons q
theorem wt(hM:aM C x s a w){m:t8}{os:List aC}{mo mt:Nat->Nat}{lo hi:Nat}(hl:m.length=os.length)(d4:∀i,i<os.length->s.look (m.getD i 0)=some ((os.getD i (.rc [])).ren mo mt))
 {x':Sit} {w':World} {Z:List (Nat×aC)} {tks:t8} {β0:Nat->Nat×Nat} (T:cS (Ctx.callee x w m β0) x' Z tks w')
 (d8:∀i,i<m.length->mo i=m.getD i 0) {β2:Nat->Nat×Nat} {τ2:Nat->Nat×Nat×Nat} (a9:∀i,i<100->¬(lo<=i/\i<hi)) (a1:∀o,¬(lo<=o/\o<hi)->β2 o=x.bk o) (a2:∀o,¬(lo<=o/\o<hi)->τ2 o=x.τ o)
 (L:∀p∈Z,β2 (mo p.1)=x'.bk p.1) (b6:∀p∈Z,∀k∈p.2.ids,β2 (mo k)=x'.bk k) (b7:∀p∈Z,∀t∈p.2.toks,τ2 (mt t)=x'.τ t)
 (b2:∀p∈Z,p.1<m.length\/(lo<=mo p.1/\mo p.1<hi)) (a4:∀t∈tks,(lo<=mt t/\mt t<hi)/\τ2 (mt t)=x'.τ t):
 (∀b o v,x.G b o=some v->x'.G b o=some v)/\cS C ⟨x'.G,β2,τ2⟩ (Z.map (fun p=>(mo p.1,p.2.ren mo mt))++fb m (bz lo hi s.ob)) (tks.map mt++co lo hi s.tk) w':=by
 have hG:∀b o v,x.G b o=some v->x'.G b o=some v:=T.g0;have z:=hM.heap;have S:∀i,i<m.length->(∃ob,(m.getD i 0,ob)∈s.ob):=fun i hi=>⟨_,cP (d4 i (by omega))⟩
 have W:∀b,(Ctx.callee x w m β0).mine b->C.mine b:=by
  rintro b (h|⟨i,hi,rfl⟩)
  ·exact z.new b (pC z.size h)
  ·obtain⟨ob,b5⟩:=S i hi
   exact(z.obs _ b5).2.1
 have e1:∀o∈m,∃i,i<m.length/\m.getD i 0=o:=by intro o ho;obtain⟨i,hi,rfl⟩:=bl ho;exact⟨i,hi,by rw[aa,af hi];rfl⟩
 have a5:∀b,b<w.heap.size->(∀i,i<m.length->(x.bk (m.getD i 0)).1≠b)->w'.heap[b]? =w.heap[b]? /\((∀off,x.G b off=none)->∀off,x'.G b off=none):=by
  intro b hb b4
  have a8:¬(Ctx.callee x w m β0).mine b:=by
   rintro(h|⟨i,hi,h⟩)
   ·omega
   ·exact b4 i hi h
  refine⟨T.ext b a8,fun h off=> ?_⟩;cases hg:x'.G b off with
  |none=>rfl
  |some v=>
   rcases T.gm b off v hg with B|B
   ·change x.G b off=some v at B;rw[h off]at B;cases B
   ·exact absurd B a8
 have a3:∀p∈fb m (bz lo hi s.ob),∃ob,(p.1,ob)∈s.ob/\p.2=ob.purge lo hi/\¬(lo<=p.1/\p.1<hi)/\p.1∉m/\(∀i,i<m.length->(x.bk (m.getD i 0)).1≠(x.bk p.1).1)/\(x.bk p.1).1<w.heap.size:=by
  intro p H;obtain⟨B,U⟩:=jq.1 H;obtain⟨h3,ob,h4,h5⟩:=cm B;refine⟨ob,h4,h5,h3,U,fun i hi e=> ?_, ?_⟩
  ·obtain⟨ob',c6⟩:=S i hi
   have:=z.inj _ c6 _ h4 e;simp only at this;apply U;rw[<-this,aa,af hi];exact bo _
  ·obtain⟨⟨c,e,fl,fh,hO,_⟩,_⟩:=z.obs _ h4
   exact hO.lt
 have Q:∀p∈Z.map (fun p=>(mo p.1,p.2.ren mo mt)),∃q∈Z,p=(mo q.1,q.2.ren mo mt)/\β2 p.1=x'.bk q.1:=by intro p H;obtain⟨q,F,rfl⟩:=aS.1 H;exact⟨q,F,rfl,L q F⟩
 have J:∀q∈Z,w.heap.size<=(x'.bk q.1).1\/∃i,i<m.length/\(x.bk (m.getD i 0)).1=(x'.bk q.1).1:=fun q F=>(T.obs q F).2.1
 have E:∀t∈co lo hi s.tk,t∈s.tk/\¬(lo<=t/\t<hi):=fun t O=>bE.1 O
 have I:∀t∈s.tk,(x.τ t).2.1=(x.τ t).2.2\/((x.τ t).1<w.heap.size/\∀i,i<m.length->(x.bk (m.getD i 0)).1≠(x.τ t).1):=by
  intro t O;rcases z.tks t O with h|⟨⟨c,e,fl,fh,hO,_⟩,_⟩
  ·exact .inl h
  ·by_cases he:(x.τ t).2.1=(x.τ t).2.2
   ·exact .inl he
   ·refine .inr ⟨hO.lt,fun i hi e'=> ?_⟩
    obtain⟨ob,b5⟩:=S i hi;rcases z.tko t O _ b5 with h|h
    ·exact h e'.symm
    ·exact he h
 refine⟨hG,⟨T.per,fun b o v h=>hG _ _ _ (z.g0 b o v h), ?_,z.new, ?_, ?_, ?_, ?_, ?_, ?_,T.os.trans z.os,T.tape.trans z.tape,T.output.trans z.output,pC z.size T.size, ?_,fun i hi=>(a1 i (a9 i hi)).trans (z.pin i hi),z.lay⟩⟩
 ·intro b o v h
  rcases T.gm b o v h with B|B
  ·exact z.gm b o v B
  ·exact .inr (W b B)
 ·intro p H
  rcases ak.1 H with H|H
  ·obtain⟨q,F,rfl,hb⟩:=Q p H
   obtain⟨B,U,h3⟩:=T.obs q F;refine⟨B.renF (x2:=⟨x'.G,β2,τ2⟩) (fun _ _ _ h=>h) (L q F) (b6 q F) (b7 q F), ?_,fun off=> ?_⟩
   ·show C.mine (β2 (mo q.1)).1;rw[L q F];exact W _ U
   ·show x'.G (β2 (mo q.1)).1 off=none;rw[L q F];exact h3 off
  ·obtain⟨ob,B,U,h3,h4,h5,h6⟩:=a3 p H
   obtain⟨g1,g2,g3⟩:=z.obs _ B;obtain⟨k1,k2⟩:=a5 _ h6 h5;have hb:β2 p.1=x.bk p.1:=a1 _ h3;refine⟨?_,by show C.mine (β2 p.1).1;rw[hb];exact g2,fun off=>by show x'.G (β2 p.1).1 off=none;rw[hb];exact k2 g3 off⟩;rw[U];exact dA.of_heap (x':=⟨x'.G,β2,τ2⟩) g1 k1 hG a1 a2 h3
 ·rw[dh,List.nodup_append]
  refine⟨?_, ?_, ?_⟩
  ·rw[List.map_map]
   have c4:=gu.1 T.nd;refine gu.2 (iI.imp_of_mem (fun{p q} H F b4=> ?_) c4);intro e;simp only[Function.comp]at e;have:(x'.bk p.1).1=(x'.bk q.1).1:=by rw[<-L p H,<-L q F,e]
   exact b4 (T.inj p H q F this)
  ·have B:(fb m (bz lo hi s.ob)).Sublist (bz lo hi s.ob):=gR _ _
   refine vg.sublist (B.map cB) ?_;rw[eI];exact z.nd.filter _
  ·intro o1 B o2 U e
   subst e;obtain⟨p,H,rfl⟩:=aS.1 B;obtain⟨q,F,c3⟩:=aS.1 U;obtain⟨r,hr,rfl⟩:=aS.1 H;obtain⟨ob,k1,k2,k3,k4,k5,k6⟩:=a3 q F;simp only at c3;rcases b2 r hr with h|h
   ·apply k4;rw[c3,d8 _ h,aa,af h];exact bo _
   ·apply k3;rw[c3];exact h
 ·intro p H q F a0
  change (β2 p.1).1=(β2 q.1).1 at a0;rcases ak.1 H with H|H<;>rcases ak.1 F with F|F
  ·obtain⟨p',b3,rfl,hb⟩:=Q p H
   obtain⟨q',b8,rfl,d6⟩:=Q q F;rw[hb,d6]at a0;have:=T.inj p' b3 q' b8 a0;simp only;rw[this]
  ·obtain⟨p',b3,rfl,hb⟩:=Q p H
   obtain⟨ob,k1,k2,k3,k4,k5,k6⟩:=a3 q F;rw[hb,a1 _ k3]at a0;rcases J p' b3 with h|⟨i,hi,h⟩
   ·omega
   ·exact absurd (h.trans a0) (k5 i hi)
  ·obtain⟨q',b8,rfl,hb⟩:=Q q F
   obtain⟨ob,k1,k2,k3,k4,k5,k6⟩:=a3 p H;rw[hb,a1 _ k3]at a0;rcases J q' b8 with h|⟨i,hi,h⟩
   ·omega
   ·exact absurd (h.trans a0.symm) (k5 i hi)
  ·obtain⟨ob,k1,k2,k3,k4,k5,k6⟩:=a3 p H
   obtain⟨ob',d9,e3,e0,e4,e2,e5⟩:=a3 q F;rw[a1 _ k3,a1 _ e0]at a0;exact z.inj (p.1,ob) k1 (q.1,ob') d9 a0
 ·intro t O
  rcases ak.1 O with O|O
  ·obtain⟨u,hu,rfl⟩:=aS.1 O
   obtain⟨_,d7⟩:=a4 u hu;have:=T.tks u hu;unfold gY at this ⊢;simp only[d7];exact this.imp id fun⟨B,U,h3⟩=>⟨B,W _ U,h3⟩
  ·obtain⟨
    B,U⟩:=E t O
   have:=z.tks t B;unfold gY at this ⊢;simp only[a2 t U];rcases this with h|⟨⟨c,e,fl,fh,hO,hc⟩,h4,h5⟩
   ·exact .inl h
   ·rcases I t B with h|⟨k1,k2⟩
    ·exact .inl h
    ·obtain⟨g1,_⟩:=a5 _ k1 k2
     refine .inr ⟨⟨c,e,fl,fh,hO.of_heap g1,hc⟩,h4,fun o d5 d3=> ?_⟩;cases hg:x'.G (x.τ t).1 o with
     |none=>rfl
     |some v=>
      rcases T.gm _ _ _ hg with q1|q1
      ·change x.G _ _=some v at q1;rw[h5 o d5 d3]at q1;cases q1
      ·rcases q1 with q1|⟨i,hi,q1⟩
       ·change w.heap.size<=_ at q1;omega
       ·exact absurd q1 (k2 i hi)
 ·intro t O p H
  rcases ak.1 O with O|O<;>rcases ak.1 H with H|H
  ·obtain⟨u,hu,rfl⟩:=aS.1 O
   obtain⟨q,F,rfl,hb⟩:=Q p H;show(τ2 (mt u)).1≠(β2 (mo q.1)).1\/(τ2 (mt u)).2.1=(τ2 (mt u)).2.2;rw[(a4 u hu).2,L q F];exact T.tko u hu q F
  ·obtain⟨u,hu,rfl⟩:=aS.1 O
   obtain⟨ob,k1,k2,k3,k4,k5,k6⟩:=a3 p H;show(τ2 (mt u)).1≠(β2 p.1).1\/(τ2 (mt u)).2.1=(τ2 (mt u)).2.2;rw[(a4 u hu).2,a1 _ k3];rcases T.tks u hu with h|⟨_,h,_⟩
   ·exact .inr h
   ·left;intro e
    rcases h with h|⟨i,hi,h⟩
    ·change w.heap.size<=_ at h;omega
    ·exact k5 i hi (h.trans e)
  ·obtain⟨B,U⟩:=E t O
   obtain⟨q,F,rfl,hb⟩:=Q p H;show(τ2 t).1≠(β2 (mo q.1)).1\/(τ2 t).2.1=(τ2 t).2.2;rw[a2 t U,L q F];rcases I t B with h|⟨k1,k2⟩
   ·exact .inr h
   ·left;intro e
    rcases J q F with h|⟨i,hi,h⟩
    ·omega
    ·exact k2 i hi (h.trans e.symm)
  ·obtain⟨B,U⟩:=E t O
   obtain⟨ob,k1,k2,k3,k4,k5,k6⟩:=a3 p H;show(τ2 t).1≠(β2 p.1).1\/(τ2 t).2.1=(τ2 t).2.2;rw[a2 t U,a1 _ k3];exact z.tko t B (p.1,ob) k1
 ·intro t O u hu c7
  show kV (τ2 t) (τ2 u)\/(τ2 t).2.1=(τ2 t).2.2\/(τ2 u).2.1=(τ2 u).2.2;rcases ak.1 O with O|O<;>rcases ak.1 hu with hu|hu
  ·obtain⟨t',a6,rfl⟩:=aS.1 O
   obtain⟨u',a7,rfl⟩:=aS.1 hu;rw[(a4 t' a6).2,(a4 u' a7).2];exact T.tkd t' a6 u' a7 (fun e=>c7 (by rw[e]))
  ·obtain⟨t',a6,rfl⟩:=aS.1 O
   obtain⟨B,U⟩:=E u hu;rw[(a4 t' a6).2,a2 u U];rcases T.tks t' a6 with h|⟨_,h,_⟩
   ·exact .inr (.inl h)
   ·rcases I u B with k|⟨k1,k2⟩
    ·exact .inr (.inr k)
    ·refine .inl (fun e=> ?_)
     rcases h with h|⟨i,hi,h⟩
     ·change w.heap.size<=_ at h;omega
     ·exact k2 i hi (h.trans e)
  ·obtain⟨u',a7,rfl⟩:=aS.1 hu
   obtain⟨B,U⟩:=E t O;rw[(a4 u' a7).2,a2 t U];rcases T.tks u' a7 with h|⟨_,h,_⟩
   ·exact .inr (.inr h)
   ·rcases I t B with k|⟨k1,k2⟩
    ·exact .inr (.inl k)
    ·refine .inl (fun e=> ?_)
     rcases h with h|⟨i,hi,h⟩
     ·change w.heap.size<=_ at h;omega
     ·exact k2 i hi (h.trans e.symm)
  ·obtain⟨B,U⟩:=E t O
   obtain⟨h3,h4⟩:=E u hu;rw[a2 t U,a2 u h4];exact z.tkd t B u h3 c7
 ·intro b hb
  have a8:¬(Ctx.callee x w m β0).mine b:=fun h=>hb (W b h)
  exact(T.ext b a8).trans (z.ext b hb)
theorem cS.only{ob ob':List (Nat×aC)}{tk tk':t8}(h:cS C x ob tk w)(B:∀p∈ob',p∈ob)(hn:(ob'.map cB).Nodup)(E:∀t∈tk',t∈tk):cS C x ob' tk' w:=
 ⟨h.per,h.g0,h.gm,h.new,fun p z=>h.obs p (B p z),hn,fun p z q F=>h.inj p (B p z) q (B q F),fun t hu=>h.tks t (E t hu),fun t hu p z=>h.tko t (E t hu) p (B p z),
  fun t hu u H=>h.tkd t (E t hu) u (E u H),h.os,h.tape,h.output,h.size,h.ext,h.pin,h.lay⟩
theorem uj(d:Nat)(m:t8)(os:List (Nat×aC)):nZ d m os=os.map fun p=>(ij d m p.1,p.2.ren (ij d m) (jy d)):=by
 induction os with
 |nil=>rfl
 |cons p r h=>simp[nZ,h]
end Go.Sy
namespace Go.Sy
variable [bc]
variable {P : Program} {C : Ctx} {x : Sit} {s : St} {a : Act} {w : World} {o : Oper} {so : SOp}
def Ei(C:Ctx)(k:St->Prop):LBa:=fun a w=>∃x s,aM C x s a w/\k s
theorem cR{K:LBa}{Q:LAf}{k:St->Prop}{s':St}(h:ce P C o a w s')(E:k s')(B:∀a w,Ei C k a w->K a w):o.wp P a w K Q:=by
 obtain⟨u,w',x',n,z,hn,F⟩:=h;unfold Oper.wp;rw[z];rcases hn with rfl|⟨rfl,rfl⟩
 ·exact B _ _ ⟨x',s',F,E⟩
 ·exact B _ _ ⟨x',s',F,E⟩
theorem rC{f:Nat}(h:ec P f=true)(args:LAc)(w:World):(callFunc f args).run P w= .ok (.enter f args) w:=by
 unfold ec at h;split at h
 ·rename_i fn z
  simp only[aA,dv]at h;obtain⟨B,E⟩:=h;have F:fn.body.isNone=false:=by cases hb:fn.body<;>simp[hb]at B ⊢
  simp only[callFunc,aB,run_program,am,z,E,aJ,if_false,F,aF]
 ·cases h
theorem DB(S:aM C x s a w){h:Call}{F:Operand}(ho:o.op= .call h)(hb:h.callee= .value F){f:Arg}{a_:List Arg}(hf:bq P 0 F=some f)
 (has:jr (fun p=>bq P p.2 p.1) (h.args.toList.zip h.argTypes.toList)=some a_) (L:h.args.size=h.argTypes.size) {g:Nat} {c1 c2:t7} (hg:s.ev f= .fn g c1 c2) (Z:ec P g=true):
 ∃vs:LAb,(execOp a.eval o).run P w= .ok (.enter g ⟨vs⟩) w/\cr x (c1++a_.map s.ev++c2) vs:=by
 have O:=aK S hf;rw[hg]at O;obtain⟨v1,Q,H,h1,W⟩:=O.fn_inv;obtain⟨T,E⟩:=eN has;have hzl:(h.args.toList.zip h.argTypes.toList).length=h.args.toList.length:=by simp[L]
 have z:cr x (a_.map s.ev) (h.args.toList.map a.eval):=by
  refine⟨by simp only[aQ];rw[T,hzl],fun i hi=> ?_⟩;have B:i<a_.length:=by simpa using hi
  have J:i<(h.args.toList.zip h.argTypes.toList).length:=by omega
  have:=aK S (E i J B);have U:(a_.map s.ev).getD i .undef=s.ev a_[i]:=by rw[aa,aR,af B];rfl
  have e2:(h.args.toList.map a.eval).getD i undef=a.eval (h.args.toList.zip h.argTypes.toList)[i].1:=by
   have I:i<h.args.toList.length:=by omega
   rw[aa,aR,af I,List.getElem_zip];rfl
  rw[U,e2];exact this
 refine⟨v1++h.args.toList.map a.eval++Q, ?_,(h1.append z).append W⟩
 have:(execOp a.eval o).run P w=(callFunc g ((⟨v1⟩:LAc)++h.args.map a.eval++⟨Q⟩)).run P w:=by simp only[execOp,ho,resolve,hb,H,Deferred.ofValue,aB,aF,am,invoke]
 rw[this,rC Z]
 congr 2
 apply dL;simp
end Go.Sy
namespace Go.Sy
variable [bc]
variable {P : Program} {C : Ctx} {x : Sit} {s : St} {a : Act} {w : World} {o : Oper} {so : SOp} {p : Prop} {c : SV}
theorem Gk(B:aM C x s a w){q r:Arg}(z:br P o=some (.ovl q r)){e:Eff}(h:eff s o.dst (.ovl q r)=some e)(E:e.pre):ce P C o a w (s.app o.dst e):=by simp only[eff,val]at h;cases h
end Go.Sy
namespace Go.Sy
variable [bc]
variable {P : Program} {C : Ctx} {x : Sit} {s : St} {a : Act} {w : World} {o : Oper} {so : SOp} {p : Prop} {c : SV}
theorem New.append{a_ bs:LAb}{A B:t7}(h:New x a_ A)(k:New x bs B):New x (a_++bs) (A++B):=by
 refine⟨by simp[h.len,k.len],fun i hi=> ?_,fun v E=>(ak.1 E).elim (h.one v) (k.one v)⟩;simp only[aa]
 by_cases z:i<A.length
 ·rw[aY z,aY (by rw[<-h.len];exact z)]
  have:=h.rep i z;simpa only[aa]using this
 ·rw[bj (by omega),bj (by rw[<-h.len];omega),h.len]
  have:=k.rep (i-A.length) (by simp only[ah]at hi;omega);rw[h.len]at this;simpa only[aa]using this
theorem DM{B:Nat}{rs:f8}(z:∀y∈rs,y.length=B){cs:LAb}(h:New x cs rs.flatten)(k:Nat)(E:k<rs.length*B):bW x (.arr B rs) k ((⟨cs⟩:LAc).getD k undef):=by
 simp only[bW,aC.cell];rw[<-cE rs z k E];have:=h.rep k (by rw[bG z];exact E);have e:(⟨cs⟩:LAc).getD k undef=cs.getD k undef:=by simp[aW,aa]
 rw[e];exact this
structure Src(P:Program)(n m:Nat)(w:World)(Y:Value)(ns:List Value):Prop where
 len:∀w':World,w'.heap=w.heap->(Builtin.lenOf Y).run P w'= .ok m w'
 cells:∀w':World,w'.heap=w.heap->(Builtin.firstCells n m Y).run P w'= .ok ns.toArray w'
theorem oW(O:aM C x s a w){n:Nat}{u:SV}{Y:Value}{p:Prop}{R:f8}(h:Rep x u Y)(L:gU s n u=some (p,R))(J:p):∃ns,(∀y∈R,y.length=n)/\New x ns R.flatten/\Src P n R.length w Y ns:=by
 obtain⟨z,H,ns,B,I⟩:=gM (P:=P) O h L J;refine⟨ns,z,B,H,fun w' F=> ?_⟩;have:=I R.length (aI _) w' F;have E:ns.length=R.length*n:=by rw[<-B.len,bG z]
 rwa[<-E,bt]at this
theorem Dc{so:SOp}(B:br P o=some so)(H:(∃z b q r,so= .app z b q r)\/∃z b q r,so= .appM z b q r):∃E,o.op= .call E/\E.callee= .builtin .append:=by
 cases ho:o.op with
 |call E=>
  cases hb:E.callee with
  |invoke r m=>simp[br,ho,hb]at B
  |value F=>
   exfalso;simp only[br,ho,hb]at B
   (repeat' split at B)<;>first|(cases B;done)|(cases B;rcases H with⟨_,_,_,_,h⟩|⟨_,_,_,_,h⟩<;>cases h)
  |builtin b=>
   cases b<;>first|exact⟨E,rfl,hb⟩|(exfalso;simp only[br,ho,hb,reduceCtorEq]at B<;>((repeat' split at B)<;>first|(cases B;done)|(cases B;rcases H with⟨_,_,_,_,h⟩|⟨_,_,_,_,h⟩<;>cases h)))
 |_=>
  exfalso
  have:¬((∃z b q r,so= .app z b q r)\/∃z b q r,so= .appM z b q r):=by
   simp only[br,ho]at B
   first
    |(cases B;done)
    |(obtain⟨_,_,rfl⟩:=ai.1 B;rintro(⟨_,_,_,_,h⟩|⟨_,_,_,_,h⟩)<;>cases h;done)
    |(repeat' split at B)<;>first|(cases B;done)|contradiction|(cases B;rintro(⟨_,_,_,_,h⟩|⟨_,_,_,_,h⟩)<;>cases h;done)|(obtain⟨_,_,rfl⟩:=ai.1 B;rintro(⟨_,_,_,_,h⟩|⟨_,_,_,_,h⟩)<;>first|(cases h;done)|(split at h<;>cases h;done))
  exact this H
structure xlJ(P:Program)(o:Oper)(z:List SV)(by_:Nat)(q r:Arg)(a:Act)(X Y:Operand)(t u el:TypeId)(d2:TypeDesc)(zs:List Value):Prop where
 ex:execOp a.eval o=(do pure (.value (<-Builtin.append_ #[t,u] o.type #[a.eval X,a.eval Y])))
 hd:P.underlying t=some (.slice el)
 hu:P.underlying u=some d2
 hX:bq P t X=some q
 hY:bq P u Y=some r
 hn:fj P el=some z.length
 hby:sm P el=some by_
 hz:fN P el=some zs
 hzl:z.length=zs.length
 hzd:∀(G:GM) i,i<z.length->cD G (z.getD i .undef) (zs.getD i undef)
 hb0:by_≠0
 hn0:z.length≠0
theorem QU{so:SOp}(B:br P o=some so){z:t7}{E:Nat}{q r:Arg}(L:so= .app z E q r\/so= .appM z E q r)(a:Act):∃X Y t u Q d2 S,xlJ P o z E q r a X Y t u Q d2 S/\
 (so= .app z E q r->(∃O,d2= .slice O)\/d2= .string)/\(so= .appM z E q r->∃k,d2= .int k):=by
 obtain⟨cl,ho,hb⟩:=Dc B (L.imp (fun h=>⟨_,_,_,_,h⟩) (fun h=>⟨_,_,_,_,h⟩));simp only[br,ho,hb]at B;split at B<;>try (cases B;done)
 rename_i X Y t u hX ht;split at B<;>try (cases B;done)
 rename_i Q d2 r' q' hd hu W T;split at B<;>try (cases B;done)
 rename_i n b' z' hn hby hz;rw[aG]at B;obtain⟨F,B⟩:=B;simp only[aA,decide_eq_true_eq]at F;obtain⟨⟨hb0,hn0⟩,J⟩:=F;obtain⟨S,Z,I,hzd⟩:=jg hz;have ea:cl.args= #[X,Y]:=by apply dL;simpa using hX
 have et:cl.argTypes= #[t,u]:=by apply dL;simpa using ht
 have H:=fz (a:=a) ho hb _ rfl;rw[ea,et]at H;have em: #[X,Y].map a.eval= #[a.eval X,a.eval Y]:=by simp
 rw[em]at H
 have U:z'=z/\b'=E/\r'=q/\q'=r/\(so= .app z E q r->(∃O,d2= .slice O)\/d2= .string)/\(so= .appM z E q r->∃k,d2= .int k):=by
  split at B<;>try (cases B;done)
  ·cases B;rcases L with h|h<;>cases h;exact⟨rfl,rfl,rfl,rfl,fun _=> .inl ⟨_,rfl⟩,fun h=>by cases h⟩
  ·rw[aG]at B
   obtain⟨_,B⟩:=B;cases B;rcases L with h|h<;>cases h;exact⟨rfl,rfl,rfl,rfl,fun _=> .inr rfl,fun h=>by cases h⟩
  ·cases B;rcases L with h|h<;>cases h;exact⟨rfl,rfl,rfl,rfl,fun h=>(by cases h),fun _=>⟨_,rfl⟩⟩
 obtain⟨rfl,rfl,rfl,rfl,k1,k2⟩:=U;subst J;exact⟨X,Y,t,u,Q,d2,S,⟨H,hd,hu,W,T,hn,hby,Z,I,hzd,hb0,hn0⟩,k1,k2⟩
theorem rh{t:TypeId}{b:Nat}(h:sm P t=some b):∃i,P.info? t=some i/\i.bytes=b:=by
 unfold sm at h;cases hi:P.info? t with
 |none=>simp[hi]at h
 |some i=>simp[hi]at h;exact⟨i,rfl,h⟩
end Go.Sy
namespace Go.Sy
variable [bc]
variable {P : Program} {C : Ctx} {x : Sit} {s : St} {a : Act} {w : World} {o : Oper} {so : SOp}
def xhb(C:Ctx)(P:Program)(g:Nat)(vs:LAb)(w:World)(d:LAa)(a:Act)(k:St->Prop):Prop:=
 Calls P g ⟨vs⟩ w fun en w'=>∃v,en= .returned v/\Ei C k (a.put d v) w'
theorem tF{K:LBa}{Q:LAf}{k:St->Prop}{g:Nat}{vs:LAb}(z:(execOp a.eval o).run P w= .ok (.enter g ⟨vs⟩) w)(h:xhb C P g vs w o.dst a k)
 (B:∀a w,Ei C k a w->K a w):o.wp P a w K Q:=by
 unfold Oper.wp;rw[z];refine Calls.mono h ?_;rintro en w' ⟨v,rfl,E⟩;exact B _ _ E
theorem Gs{f:Arg}{a_:List Arg}(z:br P o=some (.call f a_)):∃B F,o.op= .call B/\B.callee= .value F/\bq P 0 F=some f/\jr (fun p=>bq P p.2 p.1) (B.args.toList.zip B.argTypes.toList)=some a_/\B.args.size=B.argTypes.size:=by
 cases ho:o.op with
 |call B=>
  cases hb:B.callee with
  |invoke r m=>simp[br,ho,hb]at z
  |value F=>
   simp only[br,ho,hb]at z;split at z<;>try (cases z;done)
   rename_i O L H E;split at z<;>try (cases z;done)
   rename_i I;split at z
   ·split at z
    ·cases z
    ·cases z;exact⟨B,F,rfl,hb,H,E,I⟩
   ·cases z;exact⟨B,F,rfl,hb,H,E,I⟩
  |builtin b=>
   exfalso;cases b<;>simp only[br,ho,hb,reduceCtorEq]at z
   all_goals
    (first|(cases z;done)|(split at z<;>(first|(cases z;done)|(split at z<;>(first|(cases z;done)|(split at z<;>(first|(cases z;done)|(split at z<;>(first|(cases z;done)|(split at z<;>(first|(cases z;done)|(split at z<;>((cases z;done))))))))))))))
 |pick c X Y=>exfalso;simp only[br,ho]at z;split at z<;>cases z
 |move X=>exfalso;simp only[br,ho]at z;obtain⟨_,_,h⟩:=ai.1 z;cases h
 |assign X=>exfalso;simp only[br,ho]at z;obtain⟨_,_,h⟩:=ai.1 z;cases h
 |box t X=>exfalso;simp only[br,ho]at z;obtain⟨_,_,h⟩:=ai.1 z;cases h
 |nilCheck X=>exfalso;simp only[br,ho]at z;obtain⟨_,_,h⟩:=ai.1 z;cases h
 |unOp op t X=>exfalso;simp only[br,ho]at z;obtain⟨_,_,h⟩:=ai.1 z;cases h
 |extract X i=>exfalso;simp only[br,ho]at z;obtain⟨_,_,h⟩:=ai.1 z;cases h
 |build t J=>
  exfalso;simp only[br,ho]at z;split at z<;>try (cases z;done)
  ·split at z<;>try (cases z;done)
   obtain⟨_,_,h⟩:=ai.1 z;cases h
  ·split at z<;>try (cases z;done)
   obtain⟨_,_,h⟩:=ai.1 z;cases h
 |buildSlice t n J=>
  exfalso;simp only[br,ho]at z;split at z<;>try (cases z;done)
  split at z<;>try (cases z;done)
  split at z<;>try (cases z;done)
  obtain⟨_,_,h⟩:=ai.1 z;split at h<;>cases h
 |makeFunc f X Y=>exfalso;cases f<;>simp only[br,ho,reduceCtorEq]at z;split at z<;>cases z
 |alloc t=>exfalso;simp only[br,ho]at z;first|(cases z;done)|(split at z<;>(first|(cases z;done)|(split at z<;>(first|(cases z;done)|(split at z<;>(first|(cases z;done)|(split at z<;>(first|(cases z;done)|(split at z<;>(first|(cases z;done)|(split at z<;>((cases z;done)))))))))))))
 |load t X=>exfalso;simp only[br,ho]at z;first|(cases z;done)|(split at z<;>(first|(cases z;done)|(split at z<;>(first|(cases z;done)|(split at z<;>(first|(cases z;done)|(split at z<;>(first|(cases z;done)|(split at z<;>(first|(cases z;done)|(split at z<;>((cases z;done)))))))))))))
 |store t X Y=>exfalso;simp only[br,ho]at z;first|(cases z;done)|(split at z<;>(first|(cases z;done)|(split at z<;>(first|(cases z;done)|(split at z<;>(first|(cases z;done)|(split at z<;>(first|(cases z;done)|(split at z<;>(first|(cases z;done)|(split at z<;>((cases z;done)))))))))))))
 |binOp op t X Y u=>exfalso;simp only[br,ho]at z;first|(cases z;done)|(split at z<;>(first|(cases z;done)|(split at z<;>(first|(cases z;done)|(split at z<;>(first|(cases z;done)|(split at z<;>(first|(cases z;done)|(split at z<;>(first|(cases z;done)|(split at z<;>((cases z;done)))))))))))))
 |convert t u X=>exfalso;simp only[br,ho]at z;first|(cases z;done)|(split at z<;>(first|(cases z;done)|(split at z<;>(first|(cases z;done)|(split at z<;>(first|(cases z;done)|(split at z<;>(first|(cases z;done)|(split at z<;>(first|(cases z;done)|(split at z<;>((cases z;done)))))))))))))
 |makeSlice t X Y=>exfalso;simp only[br,ho]at z;first|(cases z;done)|(split at z<;>(first|(cases z;done)|(split at z<;>(first|(cases z;done)|(split at z<;>(first|(cases z;done)|(split at z<;>(first|(cases z;done)|(split at z<;>(first|(cases z;done)|(split at z<;>((cases z;done)))))))))))))
 |slice t X lo hi Q=>exfalso;simp only[br,ho]at z;first|(cases z;done)|(split at z<;>(first|(cases z;done)|(split at z<;>(first|(cases z;done)|(split at z<;>(first|(cases z;done)|(split at z<;>(first|(cases z;done)|(split at z<;>(first|(cases z;done)|(split at z<;>((cases z;done)))))))))))))
 |fieldAddr t X i=>exfalso;simp only[br,ho]at z;first|(cases z;done)|(split at z<;>(first|(cases z;done)|(split at z<;>(first|(cases z;done)|(split at z<;>(first|(cases z;done)|(split at z<;>(first|(cases z;done)|(split at z<;>(first|(cases z;done)|(split at z<;>((cases z;done)))))))))))))
 |field t X i=>exfalso;simp only[br,ho]at z;first|(cases z;done)|(split at z<;>(first|(cases z;done)|(split at z<;>(first|(cases z;done)|(split at z<;>(first|(cases z;done)|(split at z<;>(first|(cases z;done)|(split at z<;>(first|(cases z;done)|(split at z<;>((cases z;done)))))))))))))
 |indexAddr t X i=>exfalso;simp only[br,ho]at z;first|(cases z;done)|(split at z<;>(first|(cases z;done)|(split at z<;>(first|(cases z;done)|(split at z<;>(first|(cases z;done)|(split at z<;>(first|(cases z;done)|(split at z<;>(first|(cases z;done)|(split at z<;>((cases z;done)))))))))))))
 |index t X i=>exfalso;simp only[br,ho]at z;first|(cases z;done)|(split at z<;>(first|(cases z;done)|(split at z<;>(first|(cases z;done)|(split at z<;>(first|(cases z;done)|(split at z<;>(first|(cases z;done)|(split at z<;>(first|(cases z;done)|(split at z<;>((cases z;done)))))))))))))
 |_=>simp[br,ho]at z
theorem FB{c q r:Arg}(z:br P o=some (.pick c q r)):∃X Y Z,o.op= .pick X Y Z/\bq P 0 X=some c/\bq P o.type Y=some q/\bq P o.type Z=some r:=by
 cases ho:o.op with
 |pick X Y Z=>
  simp only[br,ho]at z;split at z<;>try (cases z;done)
  rename_i L O Q I E J;simp only[aw.injEq,SOp.pick.injEq]at z;obtain⟨rfl,rfl,rfl⟩:=z;exact⟨X,Y,Z,rfl,I,E,J⟩
 |call B=>
  exfalso;cases hb:B.callee with
  |invoke r m=>simp[br,ho,hb]at z
  |value F=>simp only[br,ho,hb]at z;first|(cases z;done)|(split at z<;>(first|(cases z;done)|(split at z<;>(first|(cases z;done)|(split at z<;>(first|(cases z;done)|(split at z<;>(first|(cases z;done)|(split at z<;>(first|(cases z;done)|(split at z<;>((cases z;done)))))))))))))
  |builtin b=>
   cases b<;>simp only[br,ho,hb,reduceCtorEq]at z
   all_goals
    (first|(cases z;done)|(split at z<;>(first|(cases z;done)|(split at z<;>(first|(cases z;done)|(split at z<;>(first|(cases z;done)|(split at z<;>(first|(cases z;done)|(split at z<;>(first|(cases z;done)|(split at z<;>((cases z;done))))))))))))))
 |move X=>exfalso;simp only[br,ho]at z;obtain⟨_,_,h⟩:=ai.1 z;cases h
 |assign X=>exfalso;simp only[br,ho]at z;obtain⟨_,_,h⟩:=ai.1 z;cases h
 |box t X=>exfalso;simp only[br,ho]at z;obtain⟨_,_,h⟩:=ai.1 z;cases h
 |nilCheck X=>exfalso;simp only[br,ho]at z;obtain⟨_,_,h⟩:=ai.1 z;cases h
 |unOp op t X=>exfalso;simp only[br,ho]at z;obtain⟨_,_,h⟩:=ai.1 z;cases h
 |extract X i=>exfalso;simp only[br,ho]at z;obtain⟨_,_,h⟩:=ai.1 z;cases h
 |build t H=>
  exfalso;simp only[br,ho]at z;split at z<;>try (cases z;done)
  ·split at z<;>try (cases z;done)
   obtain⟨_,_,h⟩:=ai.1 z;cases h
  ·split at z<;>try (cases z;done)
   obtain⟨_,_,h⟩:=ai.1 z;cases h
 |buildSlice t n H=>
  exfalso;simp only[br,ho]at z;split at z<;>try (cases z;done)
  split at z<;>try (cases z;done)
  split at z<;>try (cases z;done)
  obtain⟨_,_,h⟩:=ai.1 z;split at h<;>cases h
 |makeFunc f X Y=>exfalso;cases f<;>simp only[br,ho,reduceCtorEq]at z;split at z<;>cases z
 |alloc t=>exfalso;simp only[br,ho]at z;first|(cases z;done)|(split at z<;>(first|(cases z;done)|(split at z<;>(first|(cases z;done)|(split at z<;>(first|(cases z;done)|(split at z<;>(first|(cases z;done)|(split at z<;>(first|(cases z;done)|(split at z<;>((cases z;done)))))))))))))
 |load t X=>exfalso;simp only[br,ho]at z;first|(cases z;done)|(split at z<;>(first|(cases z;done)|(split at z<;>(first|(cases z;done)|(split at z<;>(first|(cases z;done)|(split at z<;>(first|(cases z;done)|(split at z<;>(first|(cases z;done)|(split at z<;>((cases z;done)))))))))))))
 |store t X Y=>exfalso;simp only[br,ho]at z;first|(cases z;done)|(split at z<;>(first|(cases z;done)|(split at z<;>(first|(cases z;done)|(split at z<;>(first|(cases z;done)|(split at z<;>(first|(cases z;done)|(split at z<;>(first|(cases z;done)|(split at z<;>((cases z;done)))))))))))))
 |binOp op t X Y u=>exfalso;simp only[br,ho]at z;first|(cases z;done)|(split at z<;>(first|(cases z;done)|(split at z<;>(first|(cases z;done)|(split at z<;>(first|(cases z;done)|(split at z<;>(first|(cases z;done)|(split at z<;>(first|(cases z;done)|(split at z<;>((cases z;done)))))))))))))
 |convert t u X=>exfalso;simp only[br,ho]at z;first|(cases z;done)|(split at z<;>(first|(cases z;done)|(split at z<;>(first|(cases z;done)|(split at z<;>(first|(cases z;done)|(split at z<;>(first|(cases z;done)|(split at z<;>(first|(cases z;done)|(split at z<;>((cases z;done)))))))))))))
 |makeSlice t X Y=>exfalso;simp only[br,ho]at z;first|(cases z;done)|(split at z<;>(first|(cases z;done)|(split at z<;>(first|(cases z;done)|(split at z<;>(first|(cases z;done)|(split at z<;>(first|(cases z;done)|(split at z<;>(first|(cases z;done)|(split at z<;>((cases z;done)))))))))))))
 |slice t X lo hi S=>exfalso;simp only[br,ho]at z;first|(cases z;done)|(split at z<;>(first|(cases z;done)|(split at z<;>(first|(cases z;done)|(split at z<;>(first|(cases z;done)|(split at z<;>(first|(cases z;done)|(split at z<;>(first|(cases z;done)|(split at z<;>((cases z;done)))))))))))))
 |fieldAddr t X i=>exfalso;simp only[br,ho]at z;first|(cases z;done)|(split at z<;>(first|(cases z;done)|(split at z<;>(first|(cases z;done)|(split at z<;>(first|(cases z;done)|(split at z<;>(first|(cases z;done)|(split at z<;>(first|(cases z;done)|(split at z<;>((cases z;done)))))))))))))
 |field t X i=>exfalso;simp only[br,ho]at z;first|(cases z;done)|(split at z<;>(first|(cases z;done)|(split at z<;>(first|(cases z;done)|(split at z<;>(first|(cases z;done)|(split at z<;>(first|(cases z;done)|(split at z<;>(first|(cases z;done)|(split at z<;>((cases z;done)))))))))))))
 |indexAddr t X i=>exfalso;simp only[br,ho]at z;first|(cases z;done)|(split at z<;>(first|(cases z;done)|(split at z<;>(first|(cases z;done)|(split at z<;>(first|(cases z;done)|(split at z<;>(first|(cases z;done)|(split at z<;>(first|(cases z;done)|(split at z<;>((cases z;done)))))))))))))
 |index t X i=>exfalso;simp only[br,ho]at z;first|(cases z;done)|(split at z<;>(first|(cases z;done)|(split at z<;>(first|(cases z;done)|(split at z<;>(first|(cases z;done)|(split at z<;>(first|(cases z;done)|(split at z<;>(first|(cases z;done)|(split at z<;>((cases z;done)))))))))))))
 |_=>simp[br,ho]at z
theorem DI(h:aM C x s a w){c q r:Arg}(H:br P o=some (.pick c q r)){t:Bool}(F:s.ev c= .bool t):ce P C o a w (s.put o.dst (if t then s.ev q else s.ev r)):=by
 obtain⟨X,Y,Z,B,E,I,J⟩:=FB H;have z:=aK h E;rw[F]at z;refine ce.val h (m:=do pure (if<-asBool (a.eval X)then a.eval Y else a.eval Z)) (u:=if t then a.eval Y else a.eval Z) (by simp only[execOp,B];simp) ?_ ?_
 ·rw[z.bool_inv];rfl
 ·cases t
  ·exact aK h J
  ·exact aK h I
theorem Qo(H:aM C x s a w)(F:br P o=some so){e:Eff}(E:eff s o.dst so=some e)(B:e.pre):ce P C o a w (s.app o.dst e):=by
 by_cases z:∃q r,so= .ovl q r
 ·obtain⟨q,r,rfl⟩:=z
  exact Gk H F E B
 ·exact DD H F (fun q r h=>z ⟨q,r,h⟩) E B
end Go.Sy
namespace Go.Sy
variable [bc]
variable {P : Program} {C : Ctx} {x : Sit} {s : St} {a : Act} {w : World}
theorem Gb(H:aM C x s a w){g:Nat}{t:Bool}(h:s.get g= .bool t):g<s.tm.length/\a.tmps[g]? =some (.bool t)/\s.tm[g]? =some (.bool t):=by
 have z:g<s.tm.length:=by
  rcases bH g s.tm.length with B|B
  ·exact B
  ·unfold St.get at h;rw[aa,jZ B]at h;cases h
 have I:s.tm[g]? =some (.bool t):=by unfold St.get at h;rw[aa,af z]at h;rw[af z];exact congrArg some h
 have F:=H.slot g;rw[h]at F;have J:=F.bool_inv;have E:g<a.tmps.size:=by rw[<-aP,<-H.tm.1];exact z
 refine⟨z, ?_,I⟩;rw[cy E];have:a.tmps.getD g undef=a.tmps[g]:=by simp[jQ,E]
 rw[<-this,J]
def qj(P:Program)(o:Oper)(so:SOp):Prop:=br P o=some so\/∃h,so= .newB h/\br P o=some (.litB h)
theorem qj.fresh{ops:Array Oper}{o:Oper}{so:SOp}(d:LAa)(h:br P o=some so):qj P o (nD ops d so):=by
 rcases Dv ops d so with e|⟨xs,e1,e2⟩
 ·rw[e];exact .inl h
 ·rw[e2];exact .inr ⟨xs,rfl,e1 ▸ h⟩
theorem qj.old{o:Oper}{so:SOp}(h:qj P o so)(hn:∀z,so≠ .newB z):br P o=some so:=by
 rcases h with h|⟨z,e,_⟩
 ·exact h
 ·exact absurd e (hn z)
theorem kq{ops:Array Oper}{o:Oper}{i:SI}(h:fR P ops o=some i):qj P o i.op/\i.dst=o.dst/\(i.g=none/\o.guard=none\/∃j b g,i.g=some (g,b)/\o.guard=some (j,b)/\(ops[j]?).bind (·.dst)=some g):=by
 unfold fR at h;split at h<;>try (cases h;done)
 ·rename_i so B z;cases h;exact⟨.fresh _ B,rfl,.inl ⟨rfl,z⟩⟩
 ·rename_i so j b B z
  split at h<;>try (cases h;done)
  rename_i g E;cases h;exact⟨.fresh _ B,rfl,.inr ⟨j,b,g,rfl,z,E⟩⟩
theorem jR{ops:Array Oper}{o:Oper}(h:o.guard=none):Region.wanted o (yielded ops a.tmps)=true:=by simp[Region.wanted,h]
theorem tG{ops:Array Oper}{o:Oper}{j g:Nat}{b t:Bool}(h:o.guard=some (j,b))(B:(ops[j]?).bind (·.dst)=some g)(z:a.tmps[g]? =some (.bool t)):Region.wanted o (yielded ops a.tmps)=(t==b):=by simp only[Region.wanted,h,yielded,B,cQ,z];cases t<;>cases b<;>rfl
end Go.Sy
namespace Go.Sy
variable [bc]
variable {P : Program} {C : Ctx} {x : Sit} {s : St} {a : Act} {w : World}
mutual
theorem vY{n:Nat}:∀v:SV,n∉v.ids->n∉v.toks->v.purge n (n+1)=v
 | .byt l t,_,h=>by
  cases t with
  |id t=>simp only[SV.toks,aN]at h;simp only[SV.purge,Tok.purge];rw[if_neg (by omega)]
  |_=>rfl
 | .lst sz xs t,_,h=>by
  cases t with
  |id t=>simp only[SV.toks,aN]at h;simp only[SV.purge,Tok.purge];rw[if_neg (by omega)]
  |_=>rfl
 | .ptr o off,h,_=>by simp only[SV.ids,aN]at h;simp only[SV.purge];rw[if_neg (by omega)]
 | .ap o sz i j,h,_=>by simp only[SV.ids,aN]at h;simp only[SV.purge];rw[if_neg (by omega)]
 | .psl o sz off k cap,h,_=>by simp only[SV.ids,aN]at h;simp only[SV.purge];rw[if_neg (by omega)]
 | .agg cs,h,k=>by simp only[SV.ids,SV.toks]at h k;simp only[SV.purge];rw[gn cs h k]
 | .tup cs,h,k=>by simp only[SV.ids,SV.toks]at h k;simp only[SV.purge];rw[gn cs h k]
 | .fn f p q,h,k=>by simp only[SV.ids,SV.toks,ak,not_or]at h k;simp only[SV.purge];rw[gn p h.1 k.1,gn q h.2 k.2]
 | .undef,_,_=>rfl
 | .bool _,_,_=>rfl
 | .int _ _,_,_=>rfl
 | .u8 _,_,_=>rfl
 | .str _,_,_=>rfl
 | .nilp,_,_=>rfl
 | .nili,_,_=>rfl
 | .pp _,_,_=>rfl
theorem gn{n:Nat}:∀l:t7,n∉SV.idsL l->n∉SV.toksL l->SV.purgeL n (n+1) l=l
 |[],_,_=>rfl
 |v::r,h,k=>by simp only[SV.idsL,SV.toksL,ak,not_or]at h k;simp only[SV.purgeL];rw[vY v h.1 k.1,gn r h.2 k.2]
end
end Go.Sy
namespace Go.Sy
variable [bc]
variable {P : Program} {C : Ctx} {x : Sit} {s s' : St} {a : Act} {w : World}
end Go.Sy
namespace Go.Sy
variable [bc]
variable {P : Program} {C : Ctx} {x : Sit} {s s' : St} {a : Act} {w : World}
structure Itm where
 n:Nat
 i:SI
 o:Option Eff
 f:oS
end Go.Sy
namespace Go.Sy
variable [bc]
variable {P : Program} {C : Ctx} {x : Sit} {s : St} {a : Act} {w : World}
theorem aM.purge(H:aM C x s a w)(lo hi:Nat):aM C x (s.purge lo hi) a w:=by
 have z:=H.heap;refine⟨H.tm.mono (fun _ _ _ h=>h) (fun _ _=>rfl) (fun _ _=>rfl),H.defers,⟨z.per,z.g0,z.gm,z.new, ?_, ?_, ?_, ?_, ?_, ?_,z.os,z.tape,z.output,z.size,z.ext,z.pin,z.lay⟩⟩
 ·intro p E
  obtain⟨Q,o,B,I⟩:=cm E;obtain⟨O,L⟩:=z.obs _ B;refine⟨?_,L⟩;rw[I];exact O.of_heap rfl (fun _ _ _ h=>h) (fun _ _=>rfl) (fun _ _=>rfl) Q
 ·show((bz lo hi s.ob).map cB).Nodup
  rw[eI];exact z.nd.filter _
 ·intro p E q J
  obtain⟨_,o,B,_⟩:=cm E;obtain⟨_,S,I,_⟩:=cm J;exact z.inj (p.1,o) B (q.1,S) I
 ·intro t F;exact z.tks t (bE.1 F).1
 ·intro t F p E
  obtain⟨_,o,B,_⟩:=cm E;exact z.tko t (bE.1 F).1 (p.1,o) B
 ·intro t F u hu;exact z.tkd t (bE.1 F).1 u (bE.1 hu).1
theorem wi{ob:List (Nat×aC)}(h:(ob.map cB).Nodup){p:Nat×aC}(z:p∈ob):ob.lookup p.1=some p.2:=by
 induction ob with
 |nil=>cases z
 |cons q r B=>
  simp only[aO,ed]at h;rcases an.1 z with rfl|z
  ·simp[List.lookup]
  ·have:(p.1==q.1)=false:=by
    rw[beq_eq_false_iff_ne];intro e;apply h.1;rw[<-e];exact ie z
   simp only[List.lookup,this];exact B h.2 z
section
variable {ops : Array Oper} {l : List SI} {its : List Itm} {b : List Nat}
def left(its:List Itm)(listed:Array Bool):List Itm:=its.filter fun h=> !listed.getD h.n true
theorem pS{listed:Array Bool}{i:Nat}(hi:i<listed.size):(listed.setIfInBounds i true).getD i true=true:=by simp[jQ,hi]
theorem eD{listed:Array Bool}{i j:Nat}(hi:i<listed.size):(listed.setIfInBounds i true).getD j true=if j=i then true else listed.getD j true:=by
 by_cases h:j=i
 ·subst h;rw[if_pos rfl];exact pS hi
 ·rw[if_neg h,getD_set_ne true (fun e=>h e.symm)]
end
end Go.Sy
