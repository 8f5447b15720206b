/- An engine that steps through Go code with symbolic values: sound by proof. No condition. -/
import Derived.WalkKit
import Derived.ChangeKeysEq
import Derived.Laws.StructEq
import Derived.Laws.Externs
open Array renaming ext' -> dY, getD -> jK, getD_eq_getD_getElem? -> aQ, getElem?_append_left -> b8, getElem?_eq_getElem -> cg, getElem?_toList -> cP, length_toList -> aS, replicate -> ei
open Bool renaming and_eq_true -> aA, eq_iff_iff -> eW, false_eq_true -> aO
open Go.Instr renaming buildSlice -> dU
open Int renaming fdiv_eq_ediv_of_nonneg -> ic, tmod_eq_emod_of_nonneg -> ib
open Go.IntKind renaming i64 -> ah, u8 -> fA
open List renaming all_eq_true -> aV, append_assoc -> ay, drop_eq_nil_of_le -> bD, filter_cons -> fq, flatMap_cons -> eo, flatten_cons -> cr, foldl_cons -> dO, getD_eq_getElem?_getD -> aa, getElem?_append_left -> bq, getElem?_append_right -> bB, getElem?_drop -> bi, getElem?_eq_getElem -> ac, getElem?_eq_none -> gj, getElem?_map -> aR, getElem?_range -> ch, getElem?_set -> gr, getElem?_take -> bC, getElem?_toArray -> cU, getElem_mem -> bo, getElem_of_mem -> bn, length_append -> af, length_cons -> am, length_drop -> aL, length_map -> aY, length_nil -> aB, length_take -> ax, map_cons -> aF, map_nil -> bX, mem_cons -> aw, mem_cons_of_mem -> av, mem_cons_self -> aE, mem_map_of_mem -> ik, mem_range -> dJ, nil_append -> aI, nodup_cons -> dN, range -> bA, replicate -> aH, take_of_length_le -> bj
open Nat renaming add_assoc -> ep, add_mul -> bv, add_zero -> gx, div_eq_of_lt -> xZ, eq_zero_or_pos -> gk, le_refl -> aK, le_trans -> kL, lt_or_ge -> bO, min_eq_left -> fi, mod_eq_of_lt -> cx, mul_comm -> cB, mul_le_mul_right -> aX, mul_one -> iJ, succ_mul -> dy, zero_add -> bS
open Go.Op renaming bytesLess -> cM, intCmp -> pL
open Option renaming bind_some -> cY, getD_some -> aM, map_eq_some_iff -> ae, map_some -> bp, some -> aq
open Prod renaming fst -> cH, mk -> bt
open Go.Result renaming andThen_ok -> aj
open Go.Sem renaming run_bind -> az, run_pure -> aJ
open UInt8 renaming ofInt -> cQ, ofNat -> gw
set_option linter.unusedVariables false
set_option linter.unusedSimpArgs false
set_option linter.unnecessarySimpa false
set_option linter.unusedSectionVars false
namespace Go.Sy
inductive Tok where
 |no
 |clip
 |id (t:Nat)
 deriving DecidableEq
inductive SV where
 |undef
 |bool (b:Bool)
 |int (k:IntKind) (n:Int)
 |u8 (b:UInt8)
 |str (l:List UInt8)
 |byt (l:List UInt8) (t:Tok)
 |lst (sz:Nat) (xs:List (List SV)) (t:Tok)
 |nilp
 |nili
 |pp (cs:List SV)
 |ptr (o off:Nat)
 |ap (o sz i j:Nat)
 |psl (o sz off n:Nat) (cap:Option Nat)
 |agg (cs:List SV)
 |tup (vs:List SV)
 |fn (f:Nat) (first cap:List SV)
 deriving Inhabited
inductive aC where
 |rc (cs:List SV)
 |arr (sz:Nat) (xs:List (List SV))
 |bar (l:List UInt8)
def aC.size:aC->Nat
 | .rc cs=>cs.length
 | .arr sz xs=>xs.length*sz
 | .bar l=>l.length
def aC.cell:aC->Nat->SV
 | .rc cs,k=>cs.getD k .undef
 | .arr sz xs,k=>(xs.getD (k/sz) []).getD (k % sz) .undef
 | .bar l,k=> .u8 (l.getD k 0)
def aC.arrB:aC->Bool
 | .arr _ _=>true
 |_=>false
abbrev GM:=Nat->Nat->Option Value
structure Sit where
 G:GM
 bk:Nat->Nat×Nat
 τ:Nat->Nat×Nat×Nat
inductive co(G:GM):SV->Value->Prop
 |bool (b:Bool):co G (.bool b) (.bool b)
 |int (k:IntKind) (n:Int):co G (.int k n) (.int k n)
 |u8 (b:UInt8):co G (.u8 b) (.int .u8 b.toNat)
 |str (l:List UInt8):co G (.str l) (.string ⟨⟨l⟩⟩)
 |nilp:co G .nilp (.pointer none)
 |nili:co G .nili .nilIface
 |bytN (t:Tok):co G (.byt [] t) (.slice none 0 0)
 |bytE (t:Tok) (a:Addr):co G (.byt [] t) (.slice (some a) 0 0)
 |byt (l:List UInt8) (t:Tok) (b off cap n:Nat) (hn:n=l.length) (hc:n<=cap)
  (h:∀i,i<n->G b (off+i)=some (.int .u8 (l.getD i 0).toNat)):co G (.byt l t) (.slice (some ⟨b,off,none⟩) n cap)
 |lstN (sz:Nat) (t:Tok):co G (.lst sz [] t) (.slice none 0 0)
 |lstE (sz:Nat) (t:Tok) (a:Addr):co G (.lst sz [] t) (.slice (some a) 0 0)
 |lst (sz:Nat) (xs:List (List SV)) (t:Tok) (b off cap n:Nat) (val:Nat->Nat->Value) (hn:n=xs.length) (hc:n<=cap)
  (hl:∀i,i<n->(xs.getD i []).length=sz)
  (hg:∀i j,i<n->j<sz->G b (off+i*sz+j)=some (val i j))
  (h:∀i j,i<n->j<sz->co G ((xs.getD i []).getD j .undef) (val i j)):co G (.lst sz xs t) (.slice (some ⟨b,off,none⟩) n cap)
 |pp (cs:List SV) (b off:Nat) (val:Nat->Value) (hg:∀j,j<cs.length->G b (off+j)=some (val j))
  (h:∀j,j<cs.length->co G (cs.getD j .undef) (val j)):co G (.pp cs) (.pointer (some ⟨b,off,none⟩))
class bf where
 cells:Nat->Option (List SV)
variable [bf]
def Lay(G:GM):Prop:=∀g cs,bf.cells g=some cs->∀j,j<cs.length->∃v,G g j=some v/\co G (cs.getD j .undef) v
def dt(x:Sit)(sz:Nat)(t:Tok)(v:Value):Prop:=
 match t with
 | .no=>True
 | .clip=>∃a n,v= .slice a n n
 | .id t=>∃a n cap,v= .slice a n cap/\(cap=n\/∃b off,a=some ⟨b,off,none⟩/\x.τ t=(b,off+n*sz,off+cap*sz))
def NH(x:Sit):SV->Value->Prop
 | .byt _ t,v=>dt x 1 t v
 | .lst sz _ t,v=>dt x sz t v
 |_,_=>True
inductive Rep(x:Sit):SV->Value->Prop
 |undef (v:Value):Rep x .undef v
 |dat (s:SV) (v:Value) (h:co x.G s v) (ht:NH x s v):Rep x s v
 |ptr (o off:Nat):Rep x (.ptr o off) (.pointer (some ⟨(x.bk o).1,off,none⟩))
 |ap (o sz i j:Nat):Rep x (.ap o sz i j) (.pointer (some ⟨(x.bk o).1,i*sz+j,none⟩))
 |psl (o sz off n:Nat) (cap:Option Nat) (off' cap':Nat) (h:cap'=0\/off'=off*sz) (hn:n<=cap') (hc:∀c,cap=some c->c=cap') (hk:cap=none->cap'=0\/off'+cap'*sz<=(x.bk o).2):Rep x (.psl o sz off n cap) (.slice (some ⟨(x.bk o).1,off',none⟩) n cap')
 |agg (cs:List SV) (vs:List Value) (hl:cs.length=vs.length) (h:∀i,i<cs.length->Rep x (cs.getD i .undef) (vs.getD i Go.undef)):Rep x (.agg cs) (.agg ⟨vs⟩)
 |tup (cs:List SV) (vs:List Value) (hl:cs.length=vs.length) (h:∀i,i<cs.length->Rep x (cs.getD i .undef) (vs.getD i Go.undef)):Rep x (.tup cs) (.tuple ⟨vs⟩)
 |fn (f:Nat) (c1 c2:List SV) (v1 v2:List Value) (hl1:c1.length=v1.length) (h1:∀i,i<c1.length->Rep x (c1.getD i .undef) (v1.getD i Go.undef))
  (hl2:c2.length=v2.length) (h2:∀i,i<c2.length->Rep x (c2.getD i .undef) (v2.getD i Go.undef)):Rep x (.fn f c1 c2) (.func (.func f) ⟨v1⟩ ⟨v2⟩)
def cj(x:Sit)(cs:List SV)(vs:List Value):Prop:=cs.length=vs.length/\∀i,i<cs.length->Rep x (cs.getD i .undef) (vs.getD i Go.undef)
structure St where
 tm:List SV
 ob:List (Nat×aC)
 tk:List Nat
structure Ctx where
 w0:World
 G0:GM
 mine:Nat->Prop
 β0:Nat->Nat×Nat
def eh(w:World)(b:Nat)(c:Array Value)(e:TypeId)(fl fh:Nat):Prop:=
 w.heap[b]? =some (.cells c e (fl,fh))/\∀i,i<c.size->¬(fl<=i/\i<fh)
def cf(x:Sit)(obj:aC)(k:Nat)(v:Value):Prop:=
 match obj with
 | .rc cs=>Rep x (cs.getD k .undef) v
 |obj=>co x.G (obj.cell k) v
def dM(x:Sit)(w:World)(o:Nat)(obj:aC):Prop:=
 ∃c e fl fh,eh w ((x.bk o).1) c e fl fh/\(obj.size<=c.size/\(x.bk o).2<=c.size/\(obj.arrB=true->¬(fl<=c.size/\c.size<fh)))/\∀k,k<obj.size->cf x obj k (c.getD k Go.undef)
def gS(x:Sit)(w:World)(mine:Nat->Prop)(t:Nat):Prop:=
 (x.τ t).2.1=(x.τ t).2.2\/
 ((∃c e fl fh,eh w (x.τ t).1 c e fl fh/\(x.τ t).2.2<=c.size)/\mine (x.τ t).1/\∀o,(x.τ t).2.1<=o->o<(x.τ t).2.2->x.G (x.τ t).1 o=none)
def kK(p q:Nat×Nat×Nat):Prop:=p.1≠q.1
structure cX(C:Ctx)(x:Sit)(ob:List (Nat×aC))(tk:List Nat)(w:World):Prop where
 per:∀b o v,x.G b o=some v->w.cell? ⟨b,o,none⟩=some v
 g0:∀b o v,C.G0 b o=some v->x.G b o=some v
 gm:∀b o v,x.G b o=some v->C.G0 b o=some v\/C.mine b
 new:∀b,C.w0.heap.size<=b->C.mine b
 obs:∀p∈ob,dM x w p.1 p.2/\C.mine ((x.bk p.1).1)/\∀off,x.G ((x.bk p.1).1) off=none
 nd:(ob.map cH).Nodup
 inj:∀p∈ob,∀q∈ob,(x.bk p.1).1=(x.bk q.1).1->p.1=q.1
 tks:∀t∈tk,gS x w C.mine t
 tko:∀t∈tk,∀p∈ob,(x.τ t).1≠(x.bk p.1).1\/(x.τ t).2.1=(x.τ t).2.2
 tkd:∀t∈tk,∀u∈tk,t≠u->kK (x.τ t) (x.τ u)\/(x.τ t).2.1=(x.τ t).2.2\/(x.τ u).2.1=(x.τ u).2.2
 os:w.os=C.w0.os
 tape:w.tape=C.w0.tape
 output:w.output=C.w0.output
 size:C.w0.heap.size<=w.heap.size
 ext:∀b,¬C.mine b->w.heap[b]? =C.w0.heap[b]?
 pin:∀i,i<100->x.bk i=C.β0 i
 lay:Lay C.G0
structure aN(C:Ctx)(x:Sit)(s:St)(a:Act)(w:World):Prop where
 tm:cj x s.tm a.tmps.toList
 defers:a.defers=[]
 heap:cX C x s.ob s.tk w
end Go.Sy
namespace Go.Sy
variable [bf]
inductive Arg where
 |t (n:Nat)
 |c (v:SV)
 |f (g:Nat)
inductive SOp where
 |mov (x:Arg)
 |pick (c a b:Arg)
 |new (o:aC)
 |box (x:Arg)
 |build (z:List SV) (ps:List (Nat×Nat×Arg))
 |lit (sz:Nat) (xs:List Arg)
 |litB (xs:List Arg)
 |load (n:Nat) (ag:Bool) (a:Arg)
 |store (n:Nat) (a x:Arg)
 |nchk (x:Arg)
 |bin (op:BinOp) (x y:Arg)
 |beq (ne:Bool) (x y:Arg)
 |un (op:UnOp) (x:Arg)
 |toInt (k:IntKind) (x:Arg)
 |toStr (x:Arg)
 |s2b (x:Arg)
 |b2s (x:Arg)
 |mkfn (f:Nat) (first cap:List Arg)
 |mk (z:List SV) (bytes:Nat) (len cap:Arg)
 |mkB (len cap:Arg)
 |slcS (x:Arg) (lo hi:Option Arg)
 |slcL (sz:Nat) (x:Arg) (lo hi mx:Option Arg)
 |slcA (len sz:Nat) (x:Arg) (lo hi mx:Option Arg)
 |faddr (off:Nat) (x:Arg)
 |fld (off n:Nat) (ag:Bool) (x:Arg)
 |iaddrL (sz:Nat) (x i:Arg)
 |iaddrA (len sz:Nat) (x i:Arg)
 |idxA (len sz:Nat) (ag:Bool) (x i:Arg)
 |idxS (x i:Arg)
 |ext (x:Arg) (i:Nat)
 |len (str:Bool) (x:Arg)
 |lenC (n:Nat)
 |cap (x:Arg)
 |app (z:List SV) (bytes:Nat) (x y:Arg)
 |appM (z:List SV) (bytes:Nat) (x k:Arg)
 |appO (z:List SV) (bytes:Nat) (x y:Arg)
 |eqS (ne:Bool) (ts:List Nat) (x y:Arg)
 |isnil (ne:Bool) (x:Arg)
 |isni (ne:Bool) (x:Arg)
 |slid (x:Arg)
 |newB (xs:List Arg)
 |ovl (x y:Arg)
 |cpy (sz:Nat) (x y:Arg)
 |clr (z:List SV) (x:Arg)
 |mini (x y:Arg)
 |maxi (x y:Arg)
 |call (f:Arg) (args:List Arg)
structure SI where
 dst:Option Nat
 g:Option (Nat×Bool)
 op:SOp
inductive fQ where
 |skip
 |ops (l:List SI)
 |drw (b ds:List Nat) (l:List SI)
 |seq (a b:fQ)
 |cond (c:Arg) (a b:fQ)
 |block (id:Nat) (b:fQ)
 |loop (b:fQ)
 |exit (id:Nat)
 |ret
 |bad
def St.get(s:St)(n:Nat):SV:=s.tm.getD n .undef
def St.ev(s:St):Arg->SV
 | .t n=>s.get n
 | .c v=>v
 | .f g=> .fn g [] []
def St.put(s:St)(d:Option Nat)(v:SV):St:=
 match d with
 |some d=> {s with tm:=s.tm.set d v}
 |none=>s
def St.look(s:St)(o:Nat):Option aC:=s.ob.lookup o
def Tok.purge(lo hi:Nat):Tok->Tok
 | .id t=>if lo<=t/\t<hi then .no else .id t
 |t=>t
mutual
def SV.purge(lo hi:Nat):SV->SV
 | .byt l t=> .byt l (t.purge lo hi)
 | .lst sz xs t=> .lst sz xs (t.purge lo hi)
 | .ptr o off=>if lo<=o/\o<hi then .undef else .ptr o off
 | .ap o sz i j=>if lo<=o/\o<hi then .undef else .ap o sz i j
 | .psl o sz off n cap=>if lo<=o/\o<hi then .undef else .psl o sz off n cap
 | .agg cs=> .agg (SV.purgeL lo hi cs)
 | .tup cs=> .tup (SV.purgeL lo hi cs)
 | .fn f a b=> .fn f (SV.purgeL lo hi a) (SV.purgeL lo hi b)
 |v=>v
def SV.purgeL(lo hi:Nat):List SV->List SV
 |[]=> []
 |v::r=>v.purge lo hi::SV.purgeL lo hi r
end
def aC.purge(lo hi:Nat):aC->aC
 | .rc cs=> .rc (SV.purgeL lo hi cs)
 | .arr sz xs=> .arr sz xs
 | .bar l=> .bar l
def bF(lo hi:Nat):List (Nat×aC)->List (Nat×aC)
 |[]=> []
 |p::r=>if lo<=p.1/\p.1<hi then bF lo hi r else(p.1,p.2.purge lo hi)::bF lo hi r
def cz(lo hi:Nat):List Nat->List Nat
 |[]=> []
 |t::r=>if lo<=t/\t<hi then cz lo hi r else t::cz lo hi r
def St.purge(s:St)(lo hi:Nat):St:= {tm:=SV.purgeL lo hi s.tm,ob:=bF lo hi s.ob,tk:=cz lo hi s.tk}
def St.addO(s:St)(d:Nat)(o:aC):St:= {s with ob:=(d,o)::s.ob}
def setO(d:Nat)(o:aC):List (Nat×aC)->List (Nat×aC)
 |[]=> []
 |p::r=>if p.1=d then(d,o)::r else p::setO d o r
def St.setO(s:St)(d:Nat)(o:aC):St:= {s with ob:=Sy.setO d o s.ob}
def SV.data:SV->SV
 | .byt l _=> .byt l .no
 | .lst sz xs _=> .lst sz xs .no
 |v=>v
def SV.isData:SV->Bool
 | .bool _| .int _ _| .u8 _| .str _| .byt _ _| .lst _ _ _| .nilp| .nili| .pp _=>true
 |_=>false
def SV.cells:SV->List SV
 | .agg cs=>cs
 | .undef=> []
 |v=> [v]
def SV.isDef:SV->Bool
 | .undef=>false
 |_=>true
def Oj(op:BinOp)(a b:Int):Option SV:=
 match op with
 | .eql=>some (.bool (decide (a=b)))
 | .neq=>some (.bool (decide (a≠b)))
 | .lss=>some (.bool (decide (a<b)))
 | .leq=>some (.bool (decide (a<=b)))
 | .gtr=>some (.bool (decide (b<a)))
 | .geq=>some (.bool (decide (b<=a)))
 |_=>none
def bZ(op:BinOp)(k:IntKind)(x y:Int):Int:=
 let a:=BitVec.ofInt k.bits x
 let b:=BitVec.ofInt k.bits y
 k.wrap (match op with| .and=>a&&&b| .or=>a|||b| .xor=>a^^^b|_=>a&&& ~~~b:BitVec k.bits).toNat
def QY(op:BinOp)(k:IntKind)(a b:Int):Option (Prop×SV):=
 match op with
 | .add=>some (True,.int k (k.wrap (a+b)))
 | .sub=>some (True,.int k (k.wrap (a-b)))
 | .mul=>some (True,.int k (k.wrap (a*b)))
 | .quo=>some (b≠0,.int k (k.wrap (a.tdiv b)))
 | .rem=>some (b≠0,.int k (a.tmod b))
 | .and=>some (True,.int k (bZ .and k a b))
 | .or=>some (True,.int k (bZ .or k a b))
 | .xor=>some (True,.int k (bZ .xor k a b))
 | .andNot=>some (True,.int k (bZ .andNot k a b))
 | .shl| .shr=>none
 |op=>(Oj op a b).map fun v=>(True,v)
def DD(op:BinOp)(a b:UInt8):Option (Prop×SV):=
 match op with
 | .add=>some (True,.u8 (a+b))
 | .sub=>some (True,.u8 (a-b))
 | .mul=>some (True,.u8 (a*b))
 | .quo=>some (b≠0,.u8 (a/b))
 | .rem=>some (b≠0,.u8 (a % b))
 | .and=>some (True,.u8 (a&&&b))
 | .or=>some (True,.u8 (a|||b))
 | .xor=>some (True,.u8 (a^^^b))
 | .andNot=>some (True,.u8 (a&&& ~~~b))
 | .eql=>some (True,.bool (decide (a=b)))
 | .neq=>some (True,.bool (decide (a≠b)))
 | .lss=>some (True,.bool (decide (a<b)))
 | .leq=>some (True,.bool (decide (a<=b)))
 | .gtr=>some (True,.bool (decide (b<a)))
 | .geq=>some (True,.bool (decide (b<=a)))
 |_=>none
def ua(op:BinOp)(k:IntKind)(a b:Int):Option (Prop×SV):=
 match op with
 | .shl=>some (0<=b,.int k (k.wrap (a*2^(min b.toNat k.bits))))
 | .shr=>some (0<=b,.int k (a.fdiv (2^(min b.toNat k.bits))))
 |_=>none
def Sm(op:BinOp)(a:UInt8)(b:Int):Option (Prop×SV):=
 match op with
 | .shl=>some (0<=b,.u8 (gw (a.toNat*2^(min b.toNat 8))))
 | .shr=>some (0<=b,.u8 (gw (a.toNat/2^(min b.toNat 8))))
 |_=>none
def Su(op:BinOp)(a b:List UInt8):Option (Prop×SV):=
 match op with
 | .add=>some (a.length+b.length<=9223372036854775807,.str (a++b))
 | .eql=>some (True,.bool (decide (a=b)))
 | .neq=>some (True,.bool (decide (a≠b)))
 | .lss=>some (True,.bool (cM a b))
 | .leq=>some (True,.bool (cM a b||decide (a=b)))
 | .gtr=>some (True,.bool (!(cM a b||decide (a=b))))
 | .geq=>some (True,.bool (!cM a b))
 |_=>none
def xM(op:BinOp):SV->SV->Option (Prop×SV)
 | .int k a,.int k' b=>
  match op with
  | .shl=>ua .shl k a b
  | .shr=>ua .shr k a b
  |op=>if k=k' then QY op k a b else none
 | .u8 a,.int _ b=>Sm op a b
 | .u8 a,.u8 b=>DD op a b
 | .str a,.str b=>Su op a b
 |_,_=>none
def wk(op:UnOp):SV->Option SV
 | .bool b=>match op with| .not=>some (.bool (!b))|_=>none
 | .int k n=>match op with
  | .neg=>some (.int k (k.wrap (0-n)))
  | .xor=>some (.int k (bZ .xor k (if k.signed then-1 else k.max) n))
  |_=>none
 |_=>none
def gT(k:IntKind):SV->Option SV
 | .int _ n=>match k with| .u8=>some (.u8 (cQ n))|k=>some (.int k (k.wrap n))
 | .u8 b=>match k with| .u8=>some (.u8 b)| .i8=>none|k=>some (.int k b.toNat)
 |_=>none
def jE(b:Bool):SV->Option Nat
 | .str l=>if b then some l.length else none
 | .byt l _=>if b then none else some l.length
 | .lst _ xs _=>if b then none else some xs.length
 | .psl _ _ _ n _=>if b then none else some n
 |_=>none
def dC(ag:Bool)(n:Nat)(cs:List SV):SV:=if ag then .agg (cs.take n)else cs.getD 0 .undef
def iE(s:St)(n:Nat)(ag:Bool):SV->Option (Prop×SV)
 | .pp cs=>some (n<=cs.length,dC ag n (cs.map SV.data))
 | .ptr o off=>match s.look o with
  |some (.rc cs)=>some (off+n<=cs.length,dC ag n (cs.drop off))
  |some (.arr sz xs)=>if off=0 then some (n<=xs.flatten.length/\(∀x∈xs,x.length=sz),dC ag n (xs.flatten.map SV.data))else none
  |some (.bar l)=>if off=0 then some (n<=l.length,dC ag n (l.map .u8))else none
  |none=>none
 | .ap o sz i j=>match s.look o with
  |some (.arr sz' xs)=>some (sz=sz'/\i<xs.length/\j+n<=sz/\(xs.getD i []).length=sz,dC ag n (((xs.getD i []).drop j).map SV.data))
  |some (.bar l)=>some (sz=1/\j=0/\n=1/\i<l.length,dC ag n [.u8 (l.getD i 0)])
  |_=>none
 |_=>none
def SV.num:SV->Option Int
 | .int _ n=>some n
 | .u8 b=>some b.toNat
 |_=>none
def iD(s:St)(x:Option Arg)(dflt:Int):Option Int:=
 match x with
 |none=>some dflt
 |some a=>(s.ev a).num
def lm(t:Tok)(whole clip:Bool):Tok:=if clip then .clip else if whole then t else .no
def jf(s:St)(sz:Nat)(x:SV)(lo hi mx:Option Arg):Option (Prop×SV):=
 match x with
 | .byt l t=>
  match iD s lo 0,iD s hi l.length,iD s mx l.length with
  |some a,some b,some c=>some (0<=a/\a<=b/\b<=c/\c<=l.length/\sz=1/\(mx.isSome=true->b=c),.byt ((l.take b.toNat).drop a.toNat) (lm t hi.isNone mx.isSome))
  |_,_,_=>none
 | .lst sz' l t=>
  match iD s lo 0,iD s hi l.length,iD s mx l.length with
  |some a,some b,some c=>some (0<=a/\a<=b/\b<=c/\c<=l.length/\sz=sz'/\(mx.isSome=true->b=c),.lst sz ((l.take b.toNat).drop a.toNat) (lm t hi.isNone mx.isSome))
  |_,_,_=>none
 | .psl o sz' off n none=>
  match iD s lo 0,iD s hi n,mx with
  |some a,some b,none=>some (0<=a/\a<=b/\b<=n/\sz=sz',.psl o sz (off+a.toNat) (b.toNat-a.toNat) none)
  |_,_,_=>none
 | .psl o sz' off n (some cap)=>
  match iD s lo 0,iD s hi n,iD s mx cap with
  |some a,some b,some c=>some (0<=a/\a<=b/\b<=c/\c<=cap/\sz=sz',.psl o sz (off+a.toNat) (b.toNat-a.toNat) (some (c.toNat-a.toNat)))
  |_,_,_=>none
 |_=>none
def iH(cs:List SV):List (Nat×Nat×SV)->Option (List SV)
 |[]=>some cs
 |(off,n,v)::r=>if v.isDef=true/\v.cells.length=n/\off+n<=cs.length then iH (cs.take off++v.cells++cs.drop (off+n)) r else none
def toB:List SV->Option (List UInt8)
 |[]=>some []
 | .u8 b::r=>(toB r).map (b:: ·)
 |_::_=>none
def rows(sz:Nat):List SV->Option (List (List SV))
 |[]=>some []
 |v::r=>if v.isDef=true/\v.cells.length=sz/\v.cells.all SV.isData=true then(rows sz r).map (v.cells.map SV.data:: ·)else none
def xO(s:St):SV->Option (Prop×SV)
 | .byt l _=>some (True,.str l)
 | .psl o sz off n _=>match s.look o with
  |some (.bar l)=>some (sz=1/\off+n<=l.length,.str ((l.drop off).take n))
  |_=>none
 |_=>none
def uh:Nat->SV->SV->Option Bool
 |0,.bool a,.bool b=>some (decide (a=b))
 |1,.int k a,.int k' b=>if k=k' then some (decide (a=b))else none
 |1,.u8 a,.u8 b=>some (decide (a=b))
 |2,.str a,.str b=>some (decide (a=b))
 |_,_,_=>none
def gD:List Nat->List SV->List SV->Option Bool
 |[],[],[]=>some true
 |t::ts,a::r,b::s=>match uh t a b,gD ts r s with
  |some p,some q=>some (p&&q)
  |_,_=>none
 |_,_,_=>none
def val(s:St):SOp->Option (Prop×SV)
 | .mov x=>some (True,s.ev x)
 | .build z ps=>(iH z (ps.map fun(o,n,x)=>(o,n,s.ev x))).map fun cs=>(True,.agg cs)
 | .lit sz xs=>(rows sz (xs.map s.ev)).map fun r=>(True,.lst sz r .clip)
 | .litB xs=>(toB (xs.map s.ev)).map fun r=>(True,.byt r .clip)
 | .load n ag a=>iE s n ag (s.ev a)
 | .nchk x=>match s.ev x with
  | .ptr o off=>some (True,.ptr o off)
  | .ap o sz i j=>some (True,.ap o sz i j)
  | .pp cs=>some (True,.pp cs)
  | .fn f a b=>some (True,.fn f a b)
  |_=>none
 | .bin op x y=>xM op (s.ev x) (s.ev y)
 | .beq ne x y=>match s.ev x,s.ev y with
  | .bool a,.bool b=>some (True,.bool (if ne then decide (a≠b)else decide (a=b)))
  |_,_=>none
 | .eqS ne ts x y=>match s.ev x,s.ev y with
  | .agg cs,.agg ds=>(gD ts cs ds).map fun b=>(True,.bool (if ne then !b else b))
  |_,_=>none
 | .un op x=>(wk op (s.ev x)).map (True,·)
 | .toInt k x=>(gT k (s.ev x)).map (True,·)
 | .toStr x=>match s.ev x with| .str l=>some (True,.str l)|_=>none
 | .slid _=>none
 | .newB _=>none
 | .isni ne x=>match s.ev x with| .nili=>some (True,.bool (!ne))|_=>none
 | .s2b x=>match s.ev x with| .str l=>some (True,.byt l .no)|_=>none
 | .b2s x=>xO s (s.ev x)
 | .mkfn f a b=>some (True,.fn f (a.map s.ev) (b.map s.ev))
 | .slcS x lo hi=>match s.ev x with
  | .str l=>match iD s lo 0,iD s hi l.length with
   |some a,some b=>some (0<=a/\a<=b/\b<=l.length,.str ((l.take b.toNat).drop a.toNat))
   |_,_=>none
  |_=>none
 | .slcL sz x lo hi mx=>jf s sz (s.ev x) lo hi mx
 | .slcA len sz x lo hi mx=>match s.ev x with
  | .ptr o 0=>jf s sz (.psl o sz 0 len (some len)) lo hi mx
  |_=>none
 | .faddr off x=>match s.ev x with
  | .ptr o k=>some (True,.ptr o (k+off))
  | .ap o sz i j=>some (True,.ap o sz i (j+off))
  | .pp cs=>some (True,.pp (cs.drop off))
  |_=>none
 | .fld off n ag x=>match s.ev x with
  | .agg cs=>some (off+n<=cs.length,dC ag n (cs.drop off))
  |_=>none
 | .iaddrL sz x i=>match s.ev x,(s.ev i).num with
  | .byt l _,some n=>some (0<=n/\n<l.length/\sz=1,.pp [.u8 (l.getD n.toNat 0)])
  | .lst sz' xs _,some n=>some (0<=n/\n<xs.length/\sz=sz',.pp (xs.getD n.toNat []))
  | .psl o sz' off k _,some n=>some (0<=n/\n<k/\sz=sz',.ap o sz (off+n.toNat) 0)
  |_,_=>none
 | .iaddrA len sz x i=>match s.ev x,(s.ev i).num with
  | .ptr o off,some n=>match s.look o with
   |some (.rc _)=>some (0<=n/\n<len,.ptr o (off+n.toNat*sz))
   |some _=>if off=0 then some (0<=n/\n<len,.ap o sz n.toNat 0)else none
   |none=>none
  | .pp cs,some n=>some (0<=n/\n<len/\cs.length=len*sz,.pp (cs.drop (n.toNat*sz)))
  |_,_=>none
 | .idxA len sz ag x i=>match s.ev x,(s.ev i).num with
  | .agg cs,some n=>some (0<=n/\n<len/\cs.length=len*sz,dC ag sz (cs.drop (n.toNat*sz)))
  |_,_=>none
 | .idxS x i=>match s.ev x,(s.ev i).num with
  | .str l,some n=>some (0<=n/\n<l.length,.u8 (l.getD n.toNat 0))
  |_,_=>none
 | .ext x i=>match s.ev x with
  | .tup vs=>some (i<vs.length,vs.getD i .undef)
  |_=>none
 | .len b x=>match jE b (s.ev x)with
  |some n=>some (True,.int .i64 (n:Nat))
  |none=>none
 | .lenC n=>some (True,.int .i64 n)
 | .cap x=>match s.ev x with
  | .psl _ _ _ _ (some c)=>some (True,.int .i64 c)
  | .byt l .clip=>some (True,.int .i64 l.length)
  | .lst _ xs .clip=>some (True,.int .i64 xs.length)
  |_=>none
 | .mini x y=>match s.ev x,s.ev y with
  | .int k a,.int k' b=>if k=k' then some (True,.int k (if b<a then b else a))else none
  |_,_=>none
 | .maxi x y=>match s.ev x,s.ev y with
  | .int k a,.int k' b=>if k=k' then some (True,.int k (if a<b then b else a))else none
  |_,_=>none
 |_=>none
end Go.Sy
namespace Go.Sy
variable [bf]
def Tok.ren(m:Nat->Nat):Tok->Tok
 | .id t=> .id (m t)
 |t=>t
mutual
def SV.ren(m mt:Nat->Nat):SV->SV
 | .byt l t=> .byt l (t.ren mt)
 | .lst sz xs t=> .lst sz xs (t.ren mt)
 | .ptr o off=> .ptr (m o) off
 | .ap o sz i j=> .ap (m o) sz i j
 | .psl o sz off n cap=> .psl (m o) sz off n cap
 | .agg cs=> .agg (SV.renL m mt cs)
 | .tup cs=> .tup (SV.renL m mt cs)
 | .fn f a b=> .fn f (SV.renL m mt a) (SV.renL m mt b)
 |v=>v
def SV.renL(m mt:Nat->Nat):List SV->List SV
 |[]=> []
 |v::r=>v.ren m mt::SV.renL m mt r
end
def aC.ren(m mt:Nat->Nat):aC->aC
 | .rc cs=> .rc (SV.renL m mt cs)
 |o=>o
mutual
def SV.toks:SV->List Nat
 | .byt _ t=>match t with| .id t=> [t]|_=> []
 | .lst _ _ t=>match t with| .id t=> [t]|_=> []
 | .agg cs=>SV.toksL cs
 | .tup cs=>SV.toksL cs
 | .fn _ a b=>SV.toksL a++SV.toksL b
 |_=> []
def SV.toksL:List SV->List Nat
 |[]=> []
 |v::r=>v.toks++SV.toksL r
end
mutual
def SV.ids:SV->List Nat
 | .ptr o _=> [o]
 | .ap o _ _ _=> [o]
 | .psl o _ _ _ _=> [o]
 | .agg cs=>SV.idsL cs
 | .tup cs=>SV.idsL cs
 | .fn _ a b=>SV.idsL a++SV.idsL b
 |_=> []
def SV.idsL:List SV->List Nat
 |[]=> []
 |v::r=>v.ids++SV.idsL r
end
def aC.ids:aC->List Nat
 | .rc cs=>SV.idsL cs
 |_=> []
def aC.toks:aC->List Nat
 | .rc cs=>SV.toksL cs
 |_=> []
def idx(os:List aC):List (Nat×aC):=os.zipIdx.map fun p=>(p.2,p.1)
def dL(P:Program)(f:Nat):Bool:=
 match P.funcs[f]? with
 |some fn=>fn.body.isSome&& !(fn.name== "runtime.NumGoroutine")
 |none=>false
def xdO(P:Program)(f:Nat)(args:List SV)(os:List aC)(R:SV->List (Nat×aC)->Prop):Prop:=
 dL P f=true/\∀(C:Ctx)(x:Sit)(w:World)(vs:List Value),C.w0=w->C.G0=x.G->
  (∀b,C.mine b->w.heap.size<=b\/∃i,i<os.length/\(x.bk i).1=b)->os.length<=100->
  cX C x (idx os) [] w->cj x args vs->
  Calls P f ⟨vs⟩ w fun e w'=>∃v x' r os',e= .returned v/\R r os'/\Rep x' r v/\cX C x' os' r.toks w'/\∀i,i<os.length->x'.bk i=x.bk i
def Fn(P:Program)(f:Nat)(args:List SV)(r:SV):Prop:=xdO P f args [] fun r' os'=>r'=r/\os'=[]
def qx(a b:SV):Prop:=∀(x:Sit)(v:Value),Rep x a v->Rep x b v
def im(d:Nat)(m:List Nat)(o:Nat):Nat:=if o<m.length then m.getD o 0 else(d+1)*1000+o
def js(d:Nat)(t:Nat):Nat:=(d+1)*1000+t
def inR(d:Nat)(o:Nat):Bool:=decide ((d+1)*1000<=o)&&decide (o<(d+2)*1000)
def leL(as bs:List SV):Prop:=as.length=bs.length/\∀i,i<as.length->qx (as.getD i .undef) (bs.getD i .undef)
def fe(m:List Nat):List (Nat×aC)->List (Nat×aC)
 |[]=> []
 |p::r=>if p.1∈m then fe m r else p::fe m r
def nX(d:Nat)(m:List Nat):List (Nat×aC)->List (Nat×aC)
 |[]=> []
 |p::r=>(im d m p.1,p.2.ren (im d m) (js d))::nX d m r
def St.after(s:St)(d:Option Nat)(m:List Nat)(r:SV)(os:List (Nat×aC)):St:=
 St.put {
  tm:=SV.purgeL ((d.getD 0+1)*1000) ((d.getD 0+2)*1000) s.tm
  ob:=nX (d.getD 0) m os++fe m (bF ((d.getD 0+1)*1000) ((d.getD 0+2)*1000) s.ob)
  tk:=r.toks.map (js (d.getD 0))++cz ((d.getD 0+1)*1000) ((d.getD 0+2)*1000) s.tk}
  d (r.ren (im (d.getD 0) m) (js (d.getD 0)))
structure Eff where
 pre:Prop
 val:SV
 wr:List (Nat×aC):=[]
 new:Option aC:=none
 eat:Tok:= .no
 tok:Bool:=false
def iX(sz:Nat)(xs:List (List SV))(i j n:Nat)(v:List SV):List (List SV):=
 if j=0/\n=sz then xs.set i v else xs.set i (((xs.getD i []).take j)++v++((xs.getD i []).drop (j+n)))
def setCells(cs:List SV)(off:Nat)(v:List SV):List SV:=
 match v with
 |[u]=>cs.set off u
 |v=>cs.take off++v++cs.drop (off+v.length)
def SV.one:SV->Bool
 | .undef| .agg _| .tup _=>false
 |_=>true
def jq(sz:Nat):Nat->List SV->List (List SV)
 |0,_=> []
 |m+1,v=>v.take sz::jq sz m (v.drop sz)
def pP(s:St)(n:Nat)(v:List SV):SV->Option Eff
 | .ptr o off=>match s.look o with
  |some (.rc cs)=>some {pre:=off+n<=cs.length/\v.length=n/\v.all SV.one=true,val:= .undef,wr:=[(o,.rc (setCells cs off v))]}
  |some (.arr sz xs)=>some {pre:=off=0/\n=xs.length*sz/\v.length=n/\v.all SV.isData=true,val:= .undef,wr:=[(o,.arr sz (jq sz xs.length (v.map SV.data)))]}
  |some (.bar l)=>match toB v with
   |some l'=>some {pre:=off=0/\n=l.length/\l'.length=n,val:= .undef,wr:=[(o,.bar l')]}
   |none=>none
  |_=>none
 | .ap o sz i j=>match s.look o with
  |some (.arr sz' xs)=>some {pre:=sz=sz'/\i<xs.length/\j+n<=sz/\v.length=n/\(∀x∈xs,x.length=sz)/\v.all SV.isData=true,val:= .undef,wr:=[(o,.arr sz' (iX sz xs i j n (v.map SV.data)))]}
  |some (.bar l)=>match v with
   |[.u8 b]=>some {pre:=sz=1/\j=0/\n=1/\i<l.length,val:= .undef,wr:=[(o,.bar (l.set i b))]}
   |_=>none
  |_=>none
 |_=>none
def Tok.ready(s:St):Tok->Bool
 | .no=>false
 | .clip=>true
 | .id t=>s.tk.contains t
def Tok.eat(t:Tok)(tk:List Nat):List Nat:=
 match t with
 | .id t=>cz t (t+1) tk
 |_=>tk
def bytesOf(s:St):SV->Option (Prop×List UInt8)
 | .byt l _=>some (True,l)
 | .str l=>some (True,l)
 | .psl o sz off n _=>match s.look o with
  |some (.bar l)=>some (sz=1/\off+n<=l.length,(l.drop off).take n)
  |_=>none
 |_=>none
def gR(s:St)(sz:Nat):SV->Option (Prop×List (List SV))
 | .lst sz' xs _=>some (sz=sz',xs)
 | .psl o sz' off n _=>match s.look o with
  |some (.arr sz'' xs)=>some (sz=sz'/\sz=sz''/\off+n<=xs.length/\(∀x∈xs,x.length=sz),((xs.drop off).take n))
  |_=>none
 |_=>none
def eff(s:St)(d:Option Nat):SOp->Option Eff
 | .new o=>match d with
  |some d=>some {pre:=True,val:= .ptr (d+100) 0,new:=some o}
  |none=>none
 | .box x=>match d with
  |some d=>some {pre:=True,val:= .ptr (d+100) 0,new:=some (.rc (s.ev x).cells)}
  |none=>none
 | .mk z bytes n c=>match d,s.ev n,s.ev c with
  |some d,.int _ n,.int _ c=>some {pre:=0<=n/\n<=c/\bytes*c<=140737488355328/\c<=9223372036854775807,val:= .psl (d+100) z.length 0 n.toNat (some c.toNat),new:=some (.arr z.length (aH c.toNat z))}
  |_,_,_=>none
 | .mkB n c=>match d,s.ev n,s.ev c with
  |some d,.int _ n,.int _ c=>some {pre:=0<=n/\n<=c/\c<=140737488355328,val:= .psl (d+100) 1 0 n.toNat (some c.toNat),new:=some (.bar (aH c.toNat 0))}
  |_,_,_=>none
 | .store n a x=>match (s.ev x).isDef with
  |true=>pP s n (s.ev x).cells (s.ev a)
  |false=>none
 | .app z bytes x y=>match d with
  |some d=>match s.ev x with
   | .byt l t=>match bytesOf s (s.ev y)with
    |some (p,l')=>some {pre:=p/\z.length=1/\bytes=1/\t.ready s=true/\l.length+l'.length<=140737488355328,val:= .byt (l++l') (.id (d+100)),eat:=t,tok:=true}
    |none=>none
   | .lst sz' l t=>match gR s z.length (s.ev y)with
    |some (p,l')=>some {pre:=p/\z.length=sz'/\t.ready s=true/\(l.length+l'.length)*bytes<=140737488355328,val:= .lst z.length (l++l') (.id (d+100)),eat:=t,tok:=true}
    |none=>none
   |_=>none
  |none=>none
 | .cpy sz x y=>match s.ev x with
  | .psl o sz' off n _=>match s.look o with
   |some (.bar l)=>match bytesOf s (s.ev y)with
    |some (p,l')=>some {pre:=p/\sz=1/\sz'=1/\off+n<=l.length,val:= .int .i64 (min l'.length n:Nat),wr:=[(o,.bar (l.take off++l'.take n++l.drop (off+(l'.take n).length)))]}
    |none=>none
   |some (.arr sz'' xs)=>match gR s sz (s.ev y)with
    |some (p,l')=>some {pre:=p/\sz=sz'/\sz=sz''/\off+n<=xs.length/\(∀x∈xs,x.length=sz),val:= .int .i64 (min l'.length n:Nat),wr:=[(o,.arr sz (xs.take off++l'.take n++xs.drop (off+(l'.take n).length)))]}
    |none=>none
   |_=>none
  |_=>none
 | .pick _ _ _=>none
 | .call _ _=>none
 | .appM _ _ _ _=>none
 | .appO _ _ _ _=>none
 | .clr z x=>match s.ev x with
  | .psl o sz' off n _=>match s.look o with
   |some (.arr sz'' xs)=>some {pre:=0<n/\z.length=sz'/\z.length=sz''/\off+n<=xs.length/\(∀x∈xs,x.length=z.length),val:= .tup [],wr:=[(o,.arr z.length (xs.take off++aH n z++xs.drop (off+n)))]}
   |_=>none
  |_=>none
 | .isnil _ _=>none
 |so=>match val s so with
  |some (p,v)=>some {pre:=p,val:=v}
  |none=>none
def St.wr(s:St):List (Nat×aC)->St
 |[]=>s
 |p::r=>(s.setO p.1 p.2).wr r
def St.grew(s:St)(t:Tok)(d:Nat):St:=
 {tm:=SV.purgeL d (d+1) s.tm,ob:=bF d (d+1) s.ob,tk:=d::cz d (d+1) (t.eat s.tk)}
def St.app(s:St)(d:Option Nat)(e:Eff):St:=
 match e.new,e.tok with
 |some o,_=>((s.purge (d.getD 0+100) (d.getD 0+100+1)).addO (d.getD 0+100) (o.purge (d.getD 0+100) (d.getD 0+100+1))).put d e.val
 |none,true=>(s.grew e.eat (d.getD 0+100)).put d e.val
 |none,false=>(s.wr e.wr).put d e.val
def ND(P:Program)(s:St)(g:Nat)(as:List SV)(e:Eff):Prop:=
 ∃(m:List Nat)(args:List SV)(os:List aC)(r:SV)(os':List aC),xdO P g args os (fun r' o'=>r'=r/\o'=idx os')/\m.length=os.length/\os'.length=os.length/\os.length<=100/\m.Nodup/\
  leL as (SV.renL (fun k=>m.getD k 0) id args)/\(∀i,i<os.length->s.look (m.getD i 0)=some ((os.getD i (.rc [])).ren (fun k=>m.getD k 0) id))/\
  r.toks=[]/\(∀k∈r.ids,k<os.length)/\(∀ob∈os',ob.toks=[]/\∀k∈ob.ids,k<os.length)/\
  e= {pre:=True,val:=r.ren (fun k=>m.getD k 0) id,wr:=m.zip (os'.map (aC.ren (fun k=>m.getD k 0) id))}
def xgB(P:Program)(g:Nat)(as:List SV)(d:Option Nat)(k:St->Prop)(s:St):Prop:=
 (∃e,ND P s g as e/\k (s.app d e))\/
 (∃(m:List Nat)(args:List SV)(os:List aC)(R:SV->List (Nat×aC)->Prop),xdO P g args os R/\leL as (SV.renL (im (d.getD 0) m) (js (d.getD 0)) args)/\m.length=os.length/\os.length<=100/\m.Nodup/\
  (∀i,i<os.length->s.look (m.getD i 0)=some ((os.getD i (.rc [])).ren (im (d.getD 0) m) (js (d.getD 0))))/\(∀o∈m,inR (d.getD 0) o=false)/\
  ∀r os',R r os'->(∀p∈os',p.1<1000/\(∀k∈p.2.ids,k<1000)/\(∀t∈p.2.toks,t<1000))/\(∀k∈r.ids,k<1000)/\(∀t∈r.toks,t<1000)/\k (s.after d m r os'))
def Yk:SV->Option Nat
 | .psl _ _ _ _ c=>c
 | .lst _ xs .clip=>some xs.length
 |_=>none
def DZ(d:Nat)(z:List SV)(R0 R1:List (List SV))(nc:Nat):Eff:=
 {pre:=True,val:= .psl (d+100) z.length 0 (R0.length+R1.length) (some nc),new:=some (.arr z.length (R0++R1++aH (nc-(R0.length+R1.length)) z))}
def xlu(s:St)(d:Option Nat)(R1:List (List SV))(k:St->Prop):SV->Prop
 | .psl o sz off n cap=>match s.look o with
  |
   some (.arr sz' xs)=>sz'=sz/\(∀r∈xs,r.length=sz)/\off+n+R1.length<=xs.length/\
   k (s.app d {pre:=True,val:= .psl o sz off (n+R1.length) cap,wr:=[(o,.arr sz (xs.take (off+n)++R1++xs.drop (off+n+R1.length)))]})
  |_=>False
 |v=>k (s.put d v)
def xme(s:St)(d:Option Nat)(z:List SV)(bytes:Nat)(x:SV)(new:Option (Prop×List (List SV)))(k:St->Prop):Prop:=
 match d,Yk x,gR s z.length x,new with
 |some d0,some cap,some (p0,R0),some (p1,R1)=>p0/\p1/\(R0.length+R1.length)*bytes<=140737488355328/\
  (R0.length+R1.length<=cap->xlu s d R1 k x)/\
  (cap<R0.length+R1.length->∀nc,R0.length+R1.length<=nc->k (s.app d (DZ d0 z R0 R1 nc)))
 |_,_,_,_=>False
def xmd(s:St)(d:Option Nat)(z:List SV)(bytes:Nat)(x k0:SV)(k:St->Prop):Prop:=
 match d,Yk x,gR s z.length x,k0 with
 |some d0,some cap,some (p0,R0),.int _ n=>p0/\0<=n/\n<=140737488355328/\(R0.length+n.toNat)*bytes<=140737488355328/\cap<R0.length+n.toNat/\
  ∀nc,R0.length+n.toNat<=nc->k (s.app d (DZ d0 z R0 (aH n.toNat z) nc))
 |_,_,_,_=>False
def sym(P:Program)(so:SOp)(d:Option Nat)(k:St->Prop)(s:St):Prop:=
 match so with
 | .pick c a b=>match s.ev c with
  | .bool t=>(t=true->k (s.put d (s.ev a)))/\(t=false->k (s.put d (s.ev b)))
  |_=>False
 | .call f as=>match s.ev f with
  | .fn g a b=>xgB P g (a++as.map s.ev++b) d k s
  |_=>False
 | .isnil ne x=>match s.ev x with
  | .byt l _=>∀b:Bool,(b=true->l=[])->k (s.put d (.bool (b !=ne)))
  | .lst _ xs _=>∀b:Bool,(b=true->xs=[])->k (s.put d (.bool (b !=ne)))
  | .psl _ _ _ _ _=>k (s.put d (.bool ne))
  |_=>False
 | .appM z bytes x c=>xmd s d z bytes (s.ev x) (s.ev c) k
 |
  .app z bytes x y=>if s.tk.contains 99 then xme s d z bytes (s.ev x) (gR s z.length (s.ev y)) k else
  match eff s d (.app z bytes x y)with
  |some e=>e.pre/\k (s.app d e)
  |none=>False
 |so=>match eff s d so with
  |some e=>e.pre/\k (s.app d e)
  |none=>False
def xaD(P:Program)(i:SI)(k:St->Prop)(s:St):Prop:=
 match i.g with
 |none=>sym P i.op i.dst k s
 |some (g,b)=>match s.get g with
  | .bool t=>(t=b->sym P i.op i.dst k (s.put (some g) (.bool b)))/\(t= !b->k ((s.put (some g) (.bool !b)).put i.dst .undef))
  |_=>False
def Sj(P:Program):List SI->(St->Prop)->St->Prop
 |[],k,s=>k s
 |i::r,k,s=>xaD P i (Sj P r k) s
def Tok.ids:Tok->List Nat
 | .id t=> [t]
 |_=> []
def SOp.args:SOp->List Arg
 | .mov x| .box x| .load _ _ x| .nchk x| .un _ x| .toInt _ x| .toStr x| .s2b x| .b2s x| .faddr _ x| .fld _ _ _ x| .ext x _| .len _ x| .cap x| .isnil _ x| .isni _ x| .slid x| .clr _ x=> [x]
 | .pick c a b=> [c,a,b]
 | .new _| .lenC _=> []
 | .build _ ps=>ps.map fun p=>p.2.2
 | .lit _ xs| .litB xs| .newB xs=>xs
 | .store _ a b| .bin _ a b| .beq _ a b| .mk _ _ a b| .mkB a b| .iaddrL _ a b| .iaddrA _ _ a b| .idxA _ _ _ a b| .idxS a b| .app _ _ a b| .appM _ _ a b| .appO _ _ a b| .eqS _ _ a b| .ovl a b| .cpy _ a b| .mini a b| .maxi a b=> [a,b]
 | .mkfn _ a b=>a++b
 | .slcS x lo hi=>x::(lo.toList++hi.toList)
 | .slcL _ x lo hi mx| .slcA _ _ x lo hi mx=>x::(lo.toList++hi.toList++mx.toList)
 | .call f as=>f::as
structure o6 where
 r:List Nat
 w:List Nat
 t:List Nat
 n:List Nat
 m:List Nat
 l:List Nat
def SOp.blind(o:SOp):Bool:=match o with
 | .mov _=>true
 | .nchk _=>true
 | .faddr _ _=>true
 |_=>false
def SV.names(v:SV):List Nat:=v.ids++v.toks
def aC.names(o:aC):List Nat:=o.ids++o.toks
def M6:List (Nat×aC)->List Nat
 |[]=> []
 |p::r=>p.2.names++M6 r
def Eff.names(e:Eff):List Nat:=e.val.names++M6 e.wr++(match e.new with|some o=>o.names|none=> [])
def xcZ(s:St)(so:SOp)(d:Option Nat)(e:Eff):o6:=
 ⟨SV.idsL (so.args.map s.ev),e.wr.map cH,e.eat.ids,(match e.new,e.tok with|none,false=> []|_,_=> [d.getD 0+100]),e.names,if so.blind=true then []else SV.idsL (so.args.map s.ev)⟩
def qE(a b:List Nat):Bool:=a.any b.contains
def o6.clash(a b:o6):Bool:=qE a.w b.w||qE a.w b.l||qE b.w a.l||qE a.t b.t||qE a.n (b.r++b.w++b.t++b.m++b.n)||qE b.n (a.r++a.w++a.t++a.m)
def p8:o6:=⟨[],[],[],[],[],[]⟩
def o6.before(a b:o6):Bool:= !qE b.n (a.r++a.w++a.t++a.m++a.n)
def xdi(b:List Nat)(fs:List o6):Bool:=
 (bA fs.length).all fun j=>(bA j).all fun i=>(fs.getD i p8).before (fs.getD j p8)&&((b.getD j 0).testBit i|| !(fs.getD i p8).clash (fs.getD j p8))
def o6.quiet(f:o6):Bool:=f.w.isEmpty&&f.t.isEmpty&&f.n.isEmpty
def Sp(P:Program)(i:SI)(s:St)(k:Eff->Prop):Prop:=
 match i.op with
 | .pick c a b=>match s.ev c with
  | .bool t=>(t=true->k {pre:=True,val:=s.ev a})/\(t=false->k {pre:=True,val:=s.ev b})
  |_=>False
 | .call f as=>match s.ev f with
  | .fn g a b=>∃e,ND P s g (a++as.map s.ev++b) e/\k e
  |_=>False
 |so=>match eff s i.dst so with
  |some e=>e.pre/\k e
  |none=>False
def X0(V:List o6->(St->Prop)->St->Prop)(fs:List o6)(k:St->Prop)(op:SOp)(d:Option Nat)(s:St)(e:Eff):Prop:=V (xcZ s op d e::fs) k (s.app d e)
def vcD(P:Program)(b:List Nat):List SI->List o6->(St->Prop)->St->Prop
 |[],fs,k,s=>(fs.all o6.quiet||xdi b fs.reverse)=true/\k s
 |i::r,fs,k,s=>match i.g with
  |none=>Sp P i s (X0 (vcD P b r) fs k i.op i.dst s)
  |some (g,want)=>match s.get g with
   | .bool t=>(t=want->Sp P i s (X0 (vcD P b r) fs k i.op i.dst s))/\(t= !want->vcD P b r (p8::fs) k (s.put i.dst .undef))
   |_=>False
def St.forget(s:St):List Nat->St
 |[]=>s
 |d::r=>(s.purge d (d+1)).forget r
def xjQ(s s':St):Prop:=∀(C:Ctx)(x:Sit)(a:Act)(w:World),aN C x s a w->∃x',aN C x' s' a w
def Sn(k:St->Prop)(Q:Exit->St->Prop):Exit->St->Prop
 | .normal,s=>k s
 |e,s=>Q e s
def xdp(id:Nat)(Q:Exit->St->Prop):Exit->St->Prop
 | .exit id',s=>if id'=id then Q .normal s else Q (.exit id') s
 |e,s=>Q e s
def St.know(s:St)(c:Arg)(b:Bool):St:=
 match c with
 | .t n=>s.put (some n) (.bool b)
 |_=>s
def vc(P:Program):fQ->(Exit->St->Prop)->St->Prop
 | .skip,Q,s=>Q .normal s
 | .ops l,Q,s=>Sj P l (Q .normal) s
 | .drw b ds l,Q,s=>vcD P b l [] (Q .normal) (s.forget ds)
 | .seq a b,Q,s=>vc P a (Sn (vc P b Q) Q) s
 | .cond c a b,Q,s=>match s.ev c with
  | .bool t=>(t=true->vc P a Q (s.know c true))/\(t=false->vc P b Q (s.know c false))
  |_=>False
 | .block id b,Q,s=>vc P b (xdp id Q) s
 | .loop b,Q,s=>∃(X:Type)(S:X->St)(I:X->Prop)(μ:X->Nat),(∃x,I x/\xjQ s (S x))/\
  ∀x,I x->vc P b (Sn (fun s'=>∃x',I x'/\xjQ s' (S x')/\μ x'<μ x) Q) (S x)
 | .exit id,Q,s=>Q (.exit id) s
 | .ret,Q,s=>Q .ret s
 | .bad,_,_=>False
end Go.Sy
namespace Go.Sy
variable [bf]
theorem co.mono{G G':GM}(hG:∀b o v,G b o=some v->G' b o=some v){s:SV}{v:Value}(h:co G s v):co G' s v:=by
 induction h with
 |bool b=>exact .bool b
 |int k n=>exact .int k n
 |u8 b=>exact .u8 b
 |str l=>exact .str l
 |nilp=>exact .nilp
 |nili=>exact .nili
 |bytN t=>exact .bytN t
 |bytE t a=>exact .bytE t a
 |byt l t b off cap n hn hc h=>exact .byt l t b off cap n hn hc fun i hi=>hG _ _ _ (h i hi)
 |lstN sz t=>exact .lstN sz t
 |lstE sz t a=>exact .lstE sz t a
 |lst sz xs t b off cap n val hn hc hl hg _ ih=>exact .lst sz xs t b off cap n val hn hc hl (fun i j hi hj=>hG _ _ _ (hg i j hi hj)) fun i j hi hj=>ih i j hi hj
 |pp cs b off val hg _ ih=>exact .pp cs b off val (fun j hj=>hG _ _ _ (hg j hj)) fun j hj=>ih j hj
theorem Lay.mono{G G':GM}(h:Lay G)(hG:∀b o v,G b o=some v->G' b o=some v):Lay G':=fun g cs hc j hj=>by obtain⟨v,h1,h2⟩:=h g cs hc j hj;exact⟨v,hG _ _ _ h1,h2.mono hG⟩
theorem dx(lo hi:Nat)(cs:List SV):SV.purgeL lo hi cs=cs.map (SV.purge lo hi):=by
 induction cs with
 |nil=>simp[SV.purgeL]
 |cons c r ih=>simp[SV.purgeL,ih]
theorem eL(m mt:Nat->Nat)(cs:List SV):SV.renL m mt cs=cs.map (SV.ren m mt):=by
 induction cs with
 |nil=>simp[SV.renL]
 |cons c r ih=>simp[SV.renL,ih]
theorem aW(f:SV->SV)(hf:f .undef= .undef)(cs:List SV)(i:Nat):(cs.map f).getD i .undef=f (cs.getD i .undef):=by simp only[aa,aR];cases cs[i]? <;>simp[hf]
@[simp] theorem purge_undef (lo hi:Nat):SV.purge lo hi .undef= .undef:=by simp[SV.purge]
@[simp] theorem ren_undef (m mt:Nat->Nat):SV.ren m mt .undef= .undef:=by simp[SV.ren]
theorem co.tok{G:GM}{s:SV}{v:Value}(h:co G s v)(s':SV)
 (hs:(∃l t t',s= .byt l t/\s'= .byt l t')\/(∃sz xs t t',s= .lst sz xs t/\s'= .lst sz xs t')):co G s' v:=by
 rcases hs with⟨l,t,t',rfl,rfl⟩|⟨sz,xs,t,t',rfl,rfl⟩
 ·cases h with
  |bytN=>exact .bytN _
  |bytE _ a=>exact .bytE _ a
  |byt _ _ b off cap n hn hc h=>exact .byt _ _ b off cap n hn hc h
 ·cases h with
  |lstN=>exact .lstN _ _
  |lstE _ _ a=>exact .lstE _ _ a
  |lst _ _ _ b off cap n val hn hc hl hg h=>exact .lst _ _ _ b off cap n val hn hc hl hg h
theorem dt.mono{x x':Sit}{lo hi sz:Nat}{t:Tok}{v:Value}(hτ:∀o,¬(lo<=o/\o<hi)->x'.τ o=x.τ o)(h:dt x sz t v):dt x' sz (t.purge lo hi) v:=by
 cases t with
 |no=>trivial
 |clip=>exact h
 |id t=>
  simp only[Tok.purge];split
  ·trivial
  ·rename_i hn
   obtain⟨a,n,cap,hv,hc⟩:=h;refine⟨a,n,cap,hv,hc.imp id ?_⟩;rintro⟨b,off,ha,ht⟩;exact⟨b,off,ha,by rw[hτ _ hn];exact ht⟩
theorem Rep.mono{x x':Sit}{lo hi:Nat}(hG:∀b o v,x.G b o=some v->x'.G b o=some v)(hβ:∀o,¬(lo<=o/\o<hi)->x'.bk o=x.bk o)
 (hτ:∀o,¬(lo<=o/\o<hi)->x'.τ o=x.τ o) {s:SV} {v:Value} (h:Rep x s v):Rep x' (s.purge lo hi) v:=by
 induction h with
 |undef v=>simp only[purge_undef];exact .undef v
 |dat s v h ht=>
  have h':=h.mono hG;cases s with
  |byt l t=>simp only[SV.purge];exact .dat _ _ (h'.tok _ (.inl ⟨l,t,_,rfl,rfl⟩)) (dt.mono hτ ht)
  |lst sz xs t=>simp only[SV.purge];exact .dat _ _ (h'.tok _ (.inr ⟨sz,xs,t,_,rfl,rfl⟩)) (dt.mono hτ ht)
  |undef=>simp only[SV.purge];exact .undef v
  |bool b=>simp only[SV.purge];exact .dat _ _ h' trivial
  |int k n=>simp only[SV.purge];exact .dat _ _ h' trivial
  |u8 b=>simp only[SV.purge];exact .dat _ _ h' trivial
  |str l=>simp only[SV.purge];exact .dat _ _ h' trivial
  |nilp=>simp only[SV.purge];exact .dat _ _ h' trivial
  |nili=>simp only[SV.purge];exact .dat _ _ h' trivial
  |pp cs=>simp only[SV.purge];exact .dat _ _ h' trivial
  |ptr o off=>cases h
  |ap o sz i j=>cases h
  |psl o sz off n cap=>cases h
  |agg cs=>cases h
  |tup cs=>cases h
  |fn f a b=>cases h
 |ptr o off=>
  simp only[SV.purge];split
  ·exact .undef _
  ·rename_i hn;rw[<-hβ o hn];exact .ptr o off
 |ap o sz i j=>
  simp only[SV.purge];split
  ·exact .undef _
  ·rename_i hn;rw[<-hβ o hn];exact .ap o sz i j
 |psl o sz off n cap off' cap' h hn' hc' hk'=>
  simp only[SV.purge];split
  ·exact .undef _
  ·rename_i hn;rw[<-hβ o hn]at hk' ⊢;exact .psl o sz off n cap off' cap' h hn' hc' hk'
 |agg cs vs hl _ ih=>simp only[SV.purge,dx];exact .agg _ _ (by simpa using hl) fun i hi=>by rw[aW _ (by simp)];exact ih i (by simpa using hi)
 |tup cs vs hl _ ih=>simp only[SV.purge,dx];exact .tup _ _ (by simpa using hl) fun i hi=>by rw[aW _ (by simp)];exact ih i (by simpa using hi)
 |fn f c1 c2 v1 v2 hl1 _ hl2 _ ih1 ih2=>
  simp only[SV.purge,dx]
  exact .fn _ _ _ _ _ (by simpa using hl1) (fun i hi=>by rw[aW _ (by simp)];exact ih1 i (by simpa using hi))
   (by simpa using hl2) fun i hi=>by rw[aW _ (by simp)];exact ih2 i (by simpa using hi)
theorem Bi(s:SV):s.purge 0 0=s:=by
 have ht:∀t:Tok,t.purge 0 0=t:=fun t=>by cases t<;>simp[Tok.purge]
 refine SV.rec (motive_1:=fun s=>s.purge 0 0=s) (motive_2:=fun _=>True) (motive_3:=fun l=>SV.purgeL 0 0 l=l) ?_ ?_ ?_ ?_ ?_ ?_ ?_ ?_ ?_ ?_ ?_ ?_ ?_ ?_ ?_ ?_ ?_ ?_ ?_ ?_ s<;>
  intros<;>simp_all [SV.purge,SV.purgeL]
theorem FA(l:List SV):SV.purgeL 0 0 l=l:=by
 rw[dx];induction l with
 |nil=>rfl
 |cons c r ih=>simp[Bi,ih]
theorem Fx(l:List (Nat×aC)):bF 0 0 l=l:=by
 induction l with
 |nil=>rfl
 |cons q r ih=>simp only[bF];rw[if_neg (by omega),ih];obtain⟨n,o⟩:=q;cases o<;>simp[aC.purge,FA]
theorem Rep.grow{x x':Sit}(hG:∀b o v,x.G b o=some v->x'.G b o=some v)(hβ:x'.bk=x.bk)(hτ:x'.τ=x.τ){s:SV}{v:Value}(h:Rep x s v):Rep x' s v:=by have h':=h.mono (x':=x') (lo:=0) (hi:=0) hG (fun o _=>by rw[hβ]) (fun o _=>by rw[hτ]);rwa[Bi]at h'
theorem cj.mono{x x':Sit}{lo hi:Nat}(hG:∀b o v,x.G b o=some v->x'.G b o=some v)(hβ:∀o,¬(lo<=o/\o<hi)->x'.bk o=x.bk o)
 (hτ:∀o,¬(lo<=o/\o<hi)->x'.τ o=x.τ o) {cs:List SV} {vs:List Value} (h:cj x cs vs):cj x' (SV.purgeL lo hi cs) vs:=by
 refine⟨by rw[dx];simpa using h.1,fun i hi=> ?_⟩;rw[dx,aW _ (by simp)];exact(h.2 i (by rw[dx]at hi;simpa using hi)).mono hG hβ hτ
theorem cj.grow{x x':Sit}(hG:∀b o v,x.G b o=some v->x'.G b o=some v)(hβ:x'.bk=x.bk)(hτ:x'.τ=x.τ){cs:List SV}{vs:List Value}(h:cj x cs vs):cj x' cs vs:=
 ⟨h.1,fun i hi=>(h.2 i hi).grow hG hβ hτ⟩
theorem Rep.data{x:Sit}{s:SV}{v:Value}(h:Rep x s v)(hs:s.isData=true):co x.G s v:=by
 cases h with
 |dat _ _ h _=>exact h
 |_=>simp[SV.isData]at hs
theorem co.rep{x:Sit}{s:SV}{v:Value}(h:co x.G s v):Rep x s.data v:=by
 cases h with
 |byt l t b off cap n hn hc h=>exact .dat _ _ (.byt l _ b off cap n hn hc h) trivial
 |bytN t=>exact .dat _ _ (.bytN _) trivial
 |bytE t a=>exact .dat _ _ (.bytE _ a) trivial
 |lstN sz t=>exact .dat _ _ (.lstN _ _) trivial
 |lstE sz t a=>exact .dat _ _ (.lstE _ _ a) trivial
 |lst sz xs t b off cap n val hn hc hl hg h=>exact .dat _ _ (.lst _ _ _ b off cap n val hn hc hl hg h) trivial
 |bool b=>exact .dat _ _ (.bool b) trivial
 |int k n=>exact .dat _ _ (.int k n) trivial
 |u8 b=>exact .dat _ _ (.u8 b) trivial
 |str l=>exact .dat _ _ (.str l) trivial
 |nilp=>exact .dat _ _ .nilp trivial
 |nili=>exact .dat _ _ .nili trivial
 |pp cs b off val hg h=>exact .dat _ _ (.pp cs b off val hg h) trivial
theorem co.toData{G:GM}{s:SV}{v:Value}(h:co G s v):co G s.data v:=by
 cases h with
 |byt l t b off cap n hn hc h=>exact .byt l _ b off cap n hn hc h
 |bytN t=>exact .bytN _
 |bytE t a=>exact .bytE _ a
 |lstN sz t=>exact .lstN _ _
 |lstE sz t a=>exact .lstE _ _ a
 |lst sz xs t b off cap n val hn hc hl hg h=>exact .lst _ _ _ b off cap n val hn hc hl hg h
 |bool b=>exact .bool b
 |int k n=>exact .int k n
 |u8 b=>exact .u8 b
 |str l=>exact .str l
 |nilp=>exact .nilp
 |nili=>exact .nili
 |pp cs b off val hg h=>exact .pp cs b off val hg h
theorem qx.data(s:SV):qx s s.data:=by
 intro x v h;cases h with
 |dat _ _ h ht=>exact h.rep
 |undef v=>exact .undef v
 |ptr o off=>exact .ptr o off
 |ap o sz i j=>exact .ap o sz i j
 |psl o sz off n cap off' cap' h hn hc hk=>exact .psl o sz off n cap off' cap' h hn hc hk
 |agg cs vs hl h=>exact .agg cs vs hl h
 |tup cs vs hl h=>exact .tup cs vs hl h
 |fn f a b u v h1 h2 h3 h4=>exact .fn f a b u v h1 h2 h3 h4
theorem qx.refl(s:SV):qx s s:=fun _ _ h=>h
theorem qx.undef(s:SV):qx s .undef:=fun _ v _=> .undef v
theorem qx.trans{a b c:SV}(h:qx a b)(k:qx b c):qx a c:=fun x v hv=>k x v (h x v hv)
theorem ct{lo hi:Nat}{ob:List (Nat×aC)}{p:Nat×aC}(h:p∈bF lo hi ob):
 ¬(lo<=p.1/\p.1<hi)/\∃o,(p.1,o)∈ob/\p.2=o.purge lo hi:=by
 induction ob with
 |nil=>simp[bF]at h
 |cons q r ih=>
  simp only[bF]at h;split at h
  ·obtain⟨h1,o,h2,h3⟩:=ih h;exact⟨h1,o,av _ h2,h3⟩
  ·rename_i hq
   rcases aw.1 h with rfl|h
   ·exact⟨hq,q.2,aE ..,rfl⟩
   ·obtain⟨h1,o,h2,h3⟩:=ih h;exact⟨h1,o,av _ h2,h3⟩
theorem eM{lo hi:Nat}(ob:List (Nat×aC)):(bF lo hi ob).map cH=(ob.map cH).filter fun o=>decide (¬(lo<=o/\o<hi)):=by
 induction ob with
 |nil=>simp[bF]
 |cons q r ih=>
  simp only[bF,aF,fq];split<;>rename_i h
  ·rw[ih,if_neg (by simp;omega)]
  ·rw[if_pos (by simp;omega),aF,ih]
theorem bK{lo hi t:Nat}{tk:List Nat}:t∈cz lo hi tk↔t∈tk/\¬(lo<=t/\t<hi):=by
 induction tk with
 |nil=>simp[cz]
 |cons u r ih=>
  simp only[cz];split<;>rename_i hu
  ·rw[ih,aw];constructor
   ·rintro⟨a,b⟩;exact⟨.inr a,b⟩
   ·rintro⟨a|a,b⟩
    ·subst a;exact absurd hu b
    ·exact⟨a,b⟩
  ·rw[aw,ih,aw];constructor
   ·rintro(rfl|⟨a,b⟩)
    ·exact⟨.inl rfl,hu⟩
    ·exact⟨.inr a,b⟩
   ·rintro⟨a|a,b⟩
    ·exact .inl a
    ·exact .inr ⟨a,b⟩
end Go.Sy
namespace Go.Sy
variable [bf]
theorem xp{w:World}{b:Nat}{o:Obj}(h:w.heap[b]? =some o):b<w.heap.size:=by
 rcases bO b w.heap.size with h'|h'
 ·exact h'
 ·simp[Array.getElem?_eq_none h']at h
theorem dq{w:World}{o:Obj}{b:Nat}(h:b<w.heap.size):(w.alloc o).heap[b]? =w.heap[b]? :=by show(w.heap.push o)[b]? =_;rw[Array.getElem?_push,if_neg (by omega)]
theorem heap_alloc_new{w:World}{o:Obj}:(w.alloc o).heap[w.heap.size]? =some o:=by show(w.heap.push o)[w.heap.size]? =_;rw[Array.getElem?_push,if_pos rfl]
theorem eh.lt{w:World}{b:Nat}{c:Array Value}{e:TypeId}{fl fh:Nat}(h:eh w b c e fl fh):b<w.heap.size:=xp h.1
theorem eh.of_heap{w w':World}{b:Nat}{c:Array Value}{e:TypeId}{fl fh:Nat}(h:eh w b c e fl fh)(hb:w'.heap[b]? =w.heap[b]?):eh w' b c e fl fh:=⟨hb.trans h.1,h.2⟩
theorem dr{w w':World}{b o:Nat}(hb:w'.heap[b]? =w.heap[b]?):w'.cell? ⟨b,o,none⟩=w.cell? ⟨b,o,none⟩:=by simp only[World.cell?,hb]
theorem eh.cell{w:World}{b:Nat}{c:Array Value}{e:TypeId}{fl fh:Nat}(h:eh w b c e fl fh)(o:Nat):w.cell? ⟨b,o,none⟩=c[o]? :=by simp[World.cell?,h.1]
theorem eh.free{w:World}{b:Nat}{c:Array Value}{e:TypeId}{fl fh:Nat}(h:eh w b c e fl fh){o:Nat}(ho:o<c.size):w.frozen? ⟨b,o,none⟩=false:=by simp only[World.frozen?,h.1];have:=h.2 o ho;simpa using this
theorem cX.ltG{C:Ctx}{x:Sit}{ob:List (Nat×aC)}{tk:List Nat}{w:World}(h:cX C x ob tk w){b o:Nat}{v:Value}(hg:x.G b o=some v):b<w.heap.size:=by have:=h.per b o v hg;exact World.block_lt_of_cell? (w:=w) (a:=⟨b,o,none⟩) this
theorem dM.of_heap{x x':Sit}{w w':World}{o:Nat}{obj:aC}{lo hi:Nat}(h:dM x w o obj)(hb:w'.heap[(x.bk o).1]? =w.heap[(x.bk o).1]?)
 (hG:∀b o v,x.G b o=some v->x'.G b o=some v) (hβ:∀o,¬(lo<=o/\o<hi)->x'.bk o=x.bk o) (hτ:∀o,¬(lo<=o/\o<hi)->x'.τ o=x.τ o)
 (ho:¬(lo<=o/\o<hi)):dM x' w' o (obj.purge lo hi):=by
 obtain⟨c,e,fl,fh,hO,⟨hs,hs',hs3⟩,hr⟩:=h;refine⟨c,e,fl,fh,by rw[hβ o ho];exact hO.of_heap hb,⟨?_,by rw[hβ o ho];exact hs',by cases obj<;>exact hs3⟩, ?_⟩
 ·cases obj<;>simpa[aC.purge,aC.size,dx]using hs
 ·intro k hk
  cases obj with
  |rc cs=>simp only[aC.purge,cf,dx];rw[aW _ (by simp)];exact(hr k (by simpa[aC.purge,aC.size,dx]using hk)).mono hG hβ hτ
  |arr sz xs=>exact(hr k hk).mono hG
  |bar l=>exact(hr k hk).mono hG
theorem cX.congr{C:Ctx}{x:Sit}{ob:List (Nat×aC)}{tk:List Nat}{w w':World}(h:cX C x ob tk w)(hh:w'.heap=w.heap)(ho:w'.os=w.os)(ht:w'.tape=w.tape)
 (hout:w'.output=w.output):cX C x ob tk w':=by
 have hc:∀a,w'.cell? a=w.cell? a:=fun a=>by simp only[World.cell?,hh]
 refine⟨fun b o v hv=>by rw[hc];exact h.per b o v hv,h.g0,h.gm,h.new, ?_,h.nd,h.inj, ?_,h.tko,h.tkd,ho.trans h.os,ht.trans h.tape,hout.trans h.output,by rw[hh];exact h.size,fun b hb=>by rw[hh];exact h.ext b hb,h.pin,h.lay⟩
 ·intro p hp
  obtain⟨⟨c,e,fl,fh,hO,r⟩,q⟩:=h.obs p hp;exact⟨⟨c,e,fl,fh,hO.of_heap (by rw[hh]),r⟩,q⟩
 ·intro t ht
  exact(h.tks t ht).imp id fun⟨⟨c,e,fl,fh,hO,r⟩,q⟩=>⟨⟨c,e,fl,fh,hO.of_heap (by rw[hh]),r⟩,q⟩
theorem cX.drew{C:Ctx}{x:Sit}{ob:List (Nat×aC)}{tk:List Nat}{w:World}(h:cX C x ob tk w):cX C x ob tk w.drew:=h.congr rfl rfl rfl rfl
theorem cX.drawn{C:Ctx}{x:Sit}{ob:List (Nat×aC)}{tk:List Nat}{w:World}(h:cX C x ob tk w)(n:Nat):cX C x ob tk {w with drawn:=n}:=h.congr rfl rfl rfl rfl
def Sit.newO(x:Sit)(d b:Nat)(k:Nat:=0):Sit:= {x with bk:=fun o=>if o=d then(b,k)else x.bk o}
theorem Sit.newO_ne(x:Sit)(d b:Nat){k:Nat}(o:Nat)(h:¬(d<=o/\o<d+1)):(x.newO d b k).bk o=x.bk o:=if_neg (by omega)
theorem cX.allocO{C:Ctx}{x:Sit}{ob:List (Nat×aC)}{tk:List Nat}{w:World}(h:cX C x ob tk w)(d:Nat)(hd100:100<=d){c:Array Value}{e:TypeId}{fl fh:Nat}(obj:aC)
 (hf:∀i,i<c.size->¬(fl<=i/\i<fh)) (hs:obj.size<=c.size) (hr:∀k,k<obj.size->cf x obj k (c.getD k Go.undef)) {K:Nat} (hK:K<=c.size) (hmk:obj.arrB=true->¬(fl<=c.size/\c.size<fh)):
 cX C (x.newO d w.heap.size K) ((d,obj.purge d (d+1))::bF d (d+1) ob) (cz d (d+1) tk) (w.alloc (.cells c e (fl,fh))):=by
 have hβ:=Sit.newO_ne x d w.heap.size (k:=K)
 have hnew:∀off,x.G w.heap.size off=none:=by
  intro off;cases hg:x.G w.heap.size off with
  |none=>rfl
  |some v=>exact absurd (h.ltG hg) (by omega)
 have hob:∀p∈bF d (d+1) ob,p.1≠d/\(x.newO d w.heap.size K).bk p.1=x.bk p.1/\(x.bk p.1).1<w.heap.size:=by intro p hp;obtain⟨h1,o,h2,_⟩:=ct hp;obtain⟨⟨c,e,fl,fh,hO,_⟩,_⟩:=h.obs _ h2;exact⟨by omega,hβ _ h1,hO.lt⟩
 have hd2:(x.newO d w.heap.size K).bk d=(w.heap.size,K):=if_pos rfl;have hd:((x.newO d w.heap.size K).bk d).1=w.heap.size:=by rw[hd2]
 refine⟨?_,h.g0,h.gm,h.new, ?_, ?_, ?_, ?_, ?_, ?_,h.os,h.tape,h.output, ?_, ?_,fun i hi=>by rw[hβ i (by omega)];exact h.pin i hi,h.lay⟩
 ·intro b o v hv
  rw[dr (dq (h.ltG hv))];exact h.per b o v hv
 ·intro p hp
  rcases aw.1 hp with rfl|hp
  ·refine⟨⟨c,e,fl,fh,⟨by rw[hd];exact heap_alloc_new,hf⟩,⟨?_,by rw[hd2];exact hK,by cases obj<;>exact hmk⟩, ?_⟩, ?_, ?_⟩
   ·cases obj<;>simpa[aC.purge,aC.size,dx]using hs
   ·intro k hk
    cases obj with
    |rc cs=>simp only[aC.purge,cf,dx];rw[aW _ (by simp)];exact Rep.mono (x:=x) (x':=x.newO d w.heap.size K) (lo:=d) (hi:=d+1) (fun _ _ _ hv=>hv) hβ (fun _ _=>rfl) (hr k (by simpa[aC.purge,aC.size,dx]using hk))
    |arr sz xs=>exact hr k hk
    |bar l=>exact hr k hk
   ·rw[hd];exact h.new _ h.size
   ·intro off;rw[hd];exact hnew off
  ·obtain⟨h1,o,h2,h3⟩:=ct hp
   obtain⟨hob1,hm,hg⟩:=h.obs _ h2;obtain⟨hne,hbe,hlt⟩:=hob p hp;refine⟨?_,by rw[hbe];exact hm,fun off=>by rw[hbe];exact hg off⟩;rw[h3];exact hob1.of_heap (dq hlt) (fun _ _ _ hv=>hv) hβ (fun _ _=>rfl) h1
 ·rw[aF,dN,eM]
  refine⟨?_,h.nd.filter _⟩;simp
 ·intro p hp q hq hpq
  rcases aw.1 hp with rfl|hp<;>rcases aw.1 hq with rfl|hq
  ·rfl
  ·obtain⟨_,hbe,hlt⟩:=hob q hq
   rw[hd,hbe]at hpq;omega
  ·obtain⟨_,hbe,hlt⟩:=hob p hp
   rw[hd,hbe]at hpq;omega
  ·obtain⟨_,hbe,_⟩:=hob q hq
   obtain⟨_,hbe',_⟩:=hob p hp;obtain⟨_,o,h2,_⟩:=ct hp;obtain⟨_,o',h2',_⟩:=ct hq;rw[hbe,hbe']at hpq;exact h.inj (_,o) h2 (_,o') h2' hpq
 ·intro t ht
  obtain⟨ht,_⟩:=bK.1 ht;exact(h.tks t ht).imp id fun⟨⟨c,e,fl,fh,hO,r⟩,q⟩=>⟨⟨c,e,fl,fh,hO.of_heap (dq hO.lt),r⟩,q⟩
 ·intro t ht p hp
  obtain⟨ht,_⟩:=bK.1 ht;rcases aw.1 hp with rfl|hp
  ·rcases h.tks t ht with h'|⟨⟨c,e,fl,fh,hO,r⟩,q⟩
   ·exact .inr h'
   ·refine .inl ?_
    rw[hd];have:=hO.lt;show(x.τ t).1≠_;omega
  ·obtain⟨_,o,h2,_⟩:=ct hp
   rw[(hob p hp).2.1];exact h.tko t ht (_,o) h2
 ·intro t ht u hu
  exact h.tkd t (bK.1 ht).1 u (bK.1 hu).1
 ·have:=h.size;rw[World.size_alloc];omega
 ·intro b hb
  rw[dq,h.ext b hb];rcases bO b w.heap.size with h'|h'
  ·exact h'
  ·exact absurd (h.new b (kL h.size h')) hb
def Sit.newD(x:Sit)(b:Nat)(c:Array Value)(n:Nat):Sit:= {x with G:=fun b' o=>if b'=b/\o<n then c[o]? else x.G b' o}
theorem cX.newD_le{C:Ctx}{x:Sit}{ob:List (Nat×aC)}{tk:List Nat}{w:World}(h:cX C x ob tk w)(c:Array Value)(n:Nat):
 ∀b o v,x.G b o=some v->(x.newD w.heap.size c n).G b o=some v:=by
 intro b o v hv;have:=h.ltG hv;simp only[Sit.newD];rw[if_neg (by omega)];exact hv
theorem cX.allocD{C:Ctx}{x:Sit}{ob:List (Nat×aC)}{tk:List Nat}{w:World}(h:cX C x ob tk w){c:Array Value}{e:TypeId}{fl fh:Nat}(n:Nat):
 cX C (x.newD w.heap.size c n) ob tk (w.alloc (.cells c e (fl,fh))):=by
 have hle:=h.newD_le c n
 have hsame:∀b,b≠w.heap.size->∀o,(x.newD w.heap.size c n).G b o=x.G b o:=by intro b hb o;simp only[Sit.newD];rw[if_neg (by rintro⟨h1,_⟩;exact hb h1)]
 refine⟨?_,fun b o v hv=>hle b o v (h.g0 b o v hv), ?_,h.new, ?_,h.nd,h.inj, ?_,h.tko,h.tkd,h.os,h.tape,h.output, ?_, ?_,h.pin,h.lay⟩
 ·intro b o v hv
  by_cases hb:b=w.heap.size
  ·subst hb
   simp only[Sit.newD]at hv;split at hv
   ·simp only[World.cell?,heap_alloc_new];simpa using hv
   ·exact absurd (h.ltG hv) (by omega)
  ·rw[hsame b hb]at hv
   rw[dr (dq (h.ltG hv))];exact h.per b o v hv
 ·intro b o v hv
  by_cases hb:b=w.heap.size
  ·right;rw[hb];exact h.new _ h.size
  ·rw[hsame b hb]at hv;exact h.gm b o v hv
 ·intro p hp
  obtain⟨h1,hm,hg⟩:=h.obs p hp;have hlt:(x.bk p.1).1<w.heap.size:=by obtain⟨c,e,fl,fh,hO,_⟩:=h1;exact hO.lt
  refine⟨?_,hm,fun off=>by rw[show(x.newD w.heap.size c n).bk p.1=x.bk p.1 from rfl,hsame _ (by omega)];exact hg off⟩;obtain⟨c',e',fl',fh',hO,hs,hr⟩:=h1;refine⟨c',e',fl',fh',hO.of_heap (dq hlt),hs,fun k hk=> ?_⟩;have:=hr k hk;generalize p.2=obj at*;cases obj with
  |rc cs=>exact Rep.grow hle rfl rfl this
  |arr sz xs=>exact co.mono hle this
  |bar l=>exact co.mono hle this
 ·intro t ht
  refine(h.tks t ht).imp id ?_;rintro⟨⟨c',e',fl',fh',hO,r⟩,q,g⟩;refine⟨⟨c',e',fl',fh',hO.of_heap (dq hO.lt),r⟩,q,fun o h1 h2=> ?_⟩;rw[show((x.newD w.heap.size c n).τ t).1=(x.τ t).1 from rfl,hsame _ (by have:=hO.lt;omega)];exact g o h1 h2
 ·have:=h.size;rw[World.size_alloc];omega
 ·intro b hb
  rw[dq,h.ext b hb];rcases bO b w.heap.size with h'|h'
  ·exact h'
  ·exact absurd (h.new b (kL h.size h')) hb
def Sit.newT(x:Sit)(d b lo hi:Nat):Sit:= {x with τ:=fun t=>if t=d then(b,lo,hi)else x.τ t}
theorem Sit.newT_ne(x:Sit)(d b lo hi:Nat)(o:Nat)(h:¬(d<=o/\o<d+1)):(x.newT d b lo hi).τ o=x.τ o:=if_neg (by omega)
theorem Sit.newT_eq(x:Sit)(d b lo hi:Nat):(x.newT d b lo hi).τ d=(b,lo,hi):=if_pos rfl
theorem cX.addT{C:Ctx}{x:Sit}{ob:List (Nat×aC)}{tk:List Nat}{w:World}(h:cX C x ob tk w)(d b lo hi:Nat)
 (hv:lo=hi\/((∃c e fl fh,eh w b c e fl fh/\hi<=c.size)/\C.mine b/\∀o,lo<=o->o<hi->x.G b o=none))
 (hob:lo=hi\/∀p∈ob,p.1≠d->b≠(x.bk p.1).1) (htk:lo=hi\/∀t∈tk,t≠d->kK (b,lo,hi) (x.τ t)\/(x.τ t).2.1=(x.τ t).2.2):
 cX C (x.newT d b lo hi) (bF d (d+1) ob) (d::cz d (d+1) tk) w:=by
 have hτ:=Sit.newT_ne x d b lo hi;have hd:=Sit.newT_eq x d b lo hi;refine⟨h.per,h.g0,h.gm,h.new, ?_, ?_, ?_, ?_, ?_, ?_,h.os,h.tape,h.output,h.size,h.ext,h.pin,h.lay⟩
 ·intro p hp
  obtain⟨h1,o,h2,h3⟩:=ct hp;obtain⟨hob1,hm,hg⟩:=h.obs _ h2;exact⟨by rw[h3];exact hob1.of_heap rfl (fun _ _ _ hv=>hv) (fun _ _=>rfl) hτ h1,hm,hg⟩
 ·rw[eM];exact h.nd.filter _
 ·intro p hp q hq hpq
  obtain⟨_,o,h2,_⟩:=ct hp;obtain⟨_,o',h2',_⟩:=ct hq;exact h.inj (_,o) h2 (_,o') h2' hpq
 ·intro t ht
  rcases aw.1 ht with rfl|ht
  ·unfold gS;rw[hd];exact hv
  ·obtain⟨ht,hne⟩:=bK.1 ht
   unfold gS;rw[hτ _ hne];exact h.tks t ht
 ·intro t ht p hp
  obtain⟨h1,o,h2,_⟩:=ct hp;rcases aw.1 ht with rfl|ht
  ·rw[hd]
   rcases hob with hob|hob
   ·exact .inr hob
   ·exact .inl (hob (_,o) h2 (by show p.1≠t;omega))
  ·obtain⟨ht,hne⟩:=bK.1 ht
   rw[hτ _ hne];exact h.tko t ht (_,o) h2
 ·intro t ht u hu htu
  rcases aw.1 ht with rfl|ht<;>rcases aw.1 hu with rfl|hu
  ·exact absurd rfl htu
  ·obtain⟨hu,hne⟩:=bK.1 hu
   rw[hd,hτ _ hne];rcases htk with htk|htk
   ·exact .inr (.inl htk)
   ·rcases htk u hu (by omega)with h'|h'
    ·exact .inl h'
    ·exact .inr (.inr h')
  ·obtain⟨ht,hne⟩:=bK.1 ht
   rw[hd,hτ _ hne];rcases htk with htk|htk
   ·exact .inr (.inr htk)
   ·rcases htk t ht (by omega)with h'|h'
    ·refine .inl ?_
     unfold kK at*;exact fun e=>h' e.symm
    ·exact .inr (.inl h')
  ·obtain⟨ht,hne⟩:=bK.1 ht
   obtain⟨hu,hne'⟩:=bK.1 hu;rw[hτ _ hne,hτ _ hne'];exact h.tkd t ht u hu htu
end Go.Sy
namespace Go.Sy
variable [bf]
def bU(w:World)(b off:Nat):List Value->World
 |[]=>w
 |v::r=>bU (w.setCell ⟨b,off,none⟩ v) b (off+1) r
theorem rP(w:World)(a:Addr)(v:Value):(w.setCell a v).os=w.os/\(w.setCell a v).tape=w.tape/\(w.setCell a v).output=w.output/\(w.setCell a v).heap.size=w.heap.size:=
 ⟨rfl,rfl,rfl,by simp⟩
theorem dn(b:Nat)(vs:List Value):∀(w:World)(off:Nat),(bU w b off vs).os=w.os/\(bU w b off vs).tape=w.tape/\(bU w b off vs).output=w.output/\
 (bU w b off vs).heap.size=w.heap.size/\(∀b',b'≠b->(bU w b off vs).heap[b']? =w.heap[b']?):=by
 induction vs with
 |nil=>intro w off;exact⟨rfl,rfl,rfl,rfl,fun _ _=>rfl⟩
 |cons v r ih=>intro w off;obtain⟨h1,h2,h3,h4,h5⟩:=ih (w.setCell ⟨b,off,none⟩ v) (off+1);obtain⟨g1,g2,g3,g4⟩:=rP w ⟨b,off,none⟩ v;refine⟨h1.trans g1,h2.trans g2,h3.trans g3,h4.trans g4,fun b' hb=> ?_⟩;rw[bU,h5 b' hb];exact Go.RowKit.Below.heap_setCell _ _ _ _ hb
theorem oK(c:Array Value)(i k:Nat)(v:Value)(h:i<c.size):(c.setIfInBounds i v).getD k Go.undef=if k=i then v else c.getD k Go.undef:=by
 simp only[aQ,Array.getElem?_setIfInBounds]
 by_cases hk:i=k
 ·subst hk;simp[h]
 ·rw[if_neg hk,if_neg (fun e=>hk e.symm)]
theorem dd{b:Nat}{e:TypeId}{fl fh:Nat}(vs:List Value):∀(w:World)(off:Nat)(c:Array Value),eh w b c e fl fh->off+vs.length<=c.size->
 ∃c',eh (bU w b off vs) b c' e fl fh/\c'.size=c.size/\∀k,c'.getD k Go.undef=if off<=k/\k<off+vs.length then vs.getD (k-off) Go.undef else c.getD k Go.undef:=by
 induction vs with
 |nil=>intro w off c h _;exact⟨c,h,rfl,fun k=>by rw[if_neg (by simp only[aB];omega)]⟩
 |cons v r ih=>
  intro w off c h hs;simp only[am]at hs
  have h1:eh (w.setCell ⟨b,off,none⟩ v) b (c.setIfInBounds off v) e fl fh:=by refine⟨?_,by simpa using h.2⟩;simp only[World.setCell,Array.getElem?_modify];rw[if_pos trivial,h.1];simp
  obtain⟨c',hO,hsz,hk⟩:=ih _ (off+1) _ h1 (by simp;omega);refine⟨c',hO,by simpa using hsz,fun k=> ?_⟩;rw[hk k];simp only[am]
  by_cases h1:k=off
  ·subst h1
   rw[if_neg (by omega),if_pos (by omega),oK _ _ _ _ (by omega),if_pos rfl];simp
  ·by_cases h2:off+1<=k/\k<off+1+r.length
   ·rw[if_pos h2,if_pos (by omega)]
    rw[show k-off=(k-(off+1))+1 from by omega];simp
   ·rw[if_neg h2,if_neg (by omega),oK _ _ _ _ (by omega),if_neg h1]
theorem di(b off n:Nat):(⟨b,off,none⟩:Addr).add n=⟨b,off+n,none⟩:=by
 unfold Addr.add;split
 ·rename_i h;subst h;rfl
 ·rfl
theorem fv{P:Program}{b:Nat}{e:TypeId}{fl fh:Nat}(off:Nat)(vs:List Value):∀(w:World)(c:Array Value)(i:Nat),eh w b c e fl fh->off+i+vs.length<=c.size->
 (∀v∈vs,v.oneCell'=true)->(storeCells ⟨b,off,none⟩ vs i).run P w= .ok () (bU w b (off+i) vs):=by
 induction vs with
 |nil=>intro w c i _ _ _;rfl
 |cons v r ih=>
  intro w c i h hs hv;simp only[am]at hs
  have h1:eh (w.setCell ⟨b,off+i,none⟩ v) b (c.setIfInBounds (off+i) v) e fl fh:=by refine⟨?_,by simpa using h.2⟩;simp only[World.setCell,Array.getElem?_modify];rw[if_pos trivial,h.1];simp
  have hcell:w.cell? ⟨b,off+i,none⟩=some (c[off+i]'(by omega)):=by rw[h.cell];exact cg _
  simp only[storeCells,az,di,run_store P w _ v _ (hv v (by simp)),hcell,h.free (o:=off+i) (by omega),aO,if_false,aj];rw[ih _ _ (i+1) h1 (by simp;omega) (fun u hu=>hv u (av _ hu))];rfl
theorem lJ{d:Nat}{o:aC}{ob:List (Nat×aC)}(hnd:(ob.map cH).Nodup){p:Nat×aC}(h:p∈setO d o ob):(p=(d,o)/\d∈ob.map cH)\/(p∈ob/\p.1≠d):=by
 induction ob with
 |nil=>simp[setO]at h
 |cons q r ih=>
  simp only[aF,dN]at hnd;simp only[setO]at h;split at h<;>rename_i hq
  ·rcases aw.1 h with rfl|h
   ·exact .inl ⟨rfl,by simp[hq]⟩
   ·refine .inr ⟨av _ h,fun e=>hnd.1 ?_⟩
    rw[hq,<-e];exact ik h
  ·rcases aw.1 h with rfl|h
   ·exact .inr ⟨aE ..,hq⟩
   ·rcases ih hnd.2 h with⟨h1,h2⟩|⟨h1,h2⟩
    ·exact .inl ⟨h1,by simp[h2]⟩
    ·exact .inr ⟨av _ h1,h2⟩
theorem Gg{d:Nat}{o:aC}(ob:List (Nat×aC)):(setO d o ob).map cH=ob.map cH:=by
 induction ob with
 |nil=>rfl
 |cons q r ih=>
  simp only[setO];split<;>rename_i hq
  ·simp[hq]
  ·simp[ih]
theorem db{s:St}{o:Nat}{obj:aC}(h:s.look o=some obj):(o,obj)∈s.ob:=by
 unfold St.look at h;generalize s.ob=l at h;induction l with
 |nil=>simp at h
 |cons p r ih=>
  rw[show p=(p.1,p.2)from rfl,List.lookup_cons]at h;split at h
  ·rename_i hb
   have:o=p.1:=by simpa using hb
   subst this;simp at h;subst h;simp
  ·exact av _ (ih h)
theorem cX.block{C:Ctx}{x:Sit}{ob:List (Nat×aC)}{tk:List Nat}{w w':World}(h:cX C x ob tk w){d:Nat}{obj obj':aC}(hd:(d,obj)∈ob)
 (ho:w'.os=w.os) (ht:w'.tape=w.tape) (hout:w'.output=w.output) (hsz:w'.heap.size=w.heap.size) (hb:∀b,b≠(x.bk d).1->w'.heap[b]? =w.heap[b]?)
 (hr:dM x w' d obj'):cX C x (setO d obj' ob) tk w':=by
 obtain⟨_,hmd,hgd⟩:=h.obs _ hd;have hne:∀p∈ob,p.1≠d->(x.bk p.1).1≠(x.bk d).1:=fun p hp hpd e=>hpd (h.inj p hp _ hd e)
 refine⟨?_,h.g0,h.gm,h.new, ?_,by rw[Gg];exact h.nd, ?_, ?_, ?_,h.tkd,ho.trans h.os,ht.trans h.tape,hout.trans h.output,by rw[hsz];exact h.size, ?_,h.pin,h.lay⟩
 ·intro b o v hv
  have:b≠(x.bk d).1:=by rintro rfl;simp[hgd]at hv
  rw[dr (hb b this)];exact h.per b o v hv
 ·intro p hp
  rcases lJ h.nd hp with⟨rfl,_⟩|⟨hp,hpd⟩
  ·exact⟨hr,hmd,hgd⟩
  ·obtain⟨⟨c,e,fl,fh,hO,r⟩,q⟩:=h.obs p hp
   exact⟨⟨c,e,fl,fh,hO.of_heap (hb _ (hne p hp hpd)),r⟩,q⟩
 ·intro p hp q hq hpq
  rcases lJ h.nd hp with⟨rfl,_⟩|⟨hp,hpd⟩<;>rcases lJ h.nd hq with⟨rfl,_⟩|⟨hq,hqd⟩
  ·rfl
  ·exact absurd hpq.symm (hne q hq hqd)
  ·exact absurd hpq (hne p hp hpd)
  ·exact h.inj p hp q hq hpq
 ·intro t ht
  rcases h.tks t ht with h'|⟨⟨c,e,fl,fh,hO,r⟩,q⟩
  ·exact .inl h'
  ·rcases h.tko t ht _ hd with h''|h''
   ·exact .inr ⟨⟨c,e,fl,fh,hO.of_heap (hb _ h''),r⟩,q⟩
   ·exact .inl h''
 ·intro t ht p hp
  rcases lJ h.nd hp with⟨rfl,_⟩|⟨hp,_⟩
  ·exact h.tko t ht (d,obj) hd
  ·exact h.tko t ht p hp
 ·intro b hbm
  rw[hb b (fun e=>hbm (e ▸ hmd))];exact h.ext b hbm
def Sit.fill(x:Sit)(b lo:Nat)(vs:List Value):Sit:= {x with G:=fun b' o=>if b'=b/\lo<=o/\o<lo+vs.length then some (vs.getD (o-lo) Go.undef)else x.G b' o}
theorem cX.fill{C:Ctx}{x:Sit}{ob:List (Nat×aC)}{tk:List Nat}{w:World}(h:cX C x ob tk w){t:Nat}(ht:t∈tk){b lo hi:Nat}(hτ:x.τ t=(b,lo,hi))
 (vs:List Value) (hvs:lo+vs.length<=hi) (h0:0<vs.length):
 (∀b' o v,x.G b' o=some v->(x.fill b lo vs).G b' o=some v)/\cX C (x.fill b lo vs) ob (cz t (t+1) tk) (bU w b lo vs)/\
 (∃c e fl fh,eh (bU w b lo vs) b c e fl fh/\hi<=c.size)/\C.mine b/\(∀o,lo+vs.length<=o->o<hi->(x.fill b lo vs).G b o=none)/\
 (∀p∈ob,b≠(x.bk p.1).1)/\(∀u∈cz t (t+1) tk,kK (b,lo+vs.length,hi) (x.τ u)\/(x.τ u).2.1=(x.τ u).2.2)/\(∃c e fl fh,eh w b c e fl fh/\hi<=c.size):=by
 have htk:=h.tks t ht;unfold gS at htk;rw[hτ]at htk;rcases htk with htk|⟨⟨c,e,fl,fh,hO,hc⟩,hm,hg⟩
 ·simp only at htk;omega
 simp only at hc hm hg hO;obtain⟨g1,g2,g3,g4,g5⟩:=dn b vs w lo;obtain⟨c',hO',hcs,hck⟩:=dd vs w lo c hO (by omega)
 have hob:∀p∈ob,b≠(x.bk p.1).1:=by
  intro p hp;have:=h.tko t ht p hp;rw[hτ]at this;rcases this with h'|h'
  ·exact h'
  ·simp only at h';omega
 have hle:∀b' o v,x.G b' o=some v->(x.fill b lo vs).G b' o=some v:=by
  intro b' o v hv;simp only[Sit.fill];rw[if_neg ?_]
  ·exact hv
  ·rintro⟨rfl,h1,h2⟩
   rw[hg o h1 (by omega)]at hv;cases hv
 refine⟨hle,⟨?_,fun b o v hv=>hle b o v (h.g0 b o v hv), ?_,h.new, ?_,h.nd,h.inj, ?_, ?_, ?_,g1.trans h.os,g2.trans h.tape,g3.trans h.output,by rw[g4];exact h.size, ?_,h.pin,h.lay⟩,
  ⟨c',e,fl,fh,hO',by omega⟩,hm, ?_,hob, ?_,⟨c,e,fl,fh,hO,hc⟩⟩
 ·intro b' o v hv
  by_cases hb:b'=b
  ·subst hb
   rw[hO'.cell];simp only[Sit.fill]at hv;have hk:=hck o;split at hv
   ·rename_i hin
    rw[if_pos hin.2]at hk;have ho:o<c'.size:=by omega
    rw[cg ho];have:c'.getD o Go.undef=c'[o]:=by simp[jK,ho]
    rw[<-this,hk];exact hv
   ·rename_i hin
    have hv':=h.per _ _ _ hv;rw[hO.cell]at hv'
    have ho:o<c.size:=by
     rcases bO o c.size with h'|h'
     ·exact h'
     ·simp[Array.getElem?_eq_none h']at hv'
    rw[if_neg (by rintro⟨h1,h2⟩;exact hin ⟨trivial,h1,h2⟩)]at hk;rw[cg (by omega)];have e1:c'.getD o Go.undef=c'[o]'(by omega):=by simp[jK,show o<c'.size from by omega]
    have e2:c.getD o Go.undef=c[o]:=by simp[jK,ho]
    rw[cg ho]at hv';rw[<-e1,hk,e2];exact hv'
  ·rw[dr (g5 b' hb)]
   refine h.per b' o v ?_;simp only[Sit.fill]at hv;rwa[if_neg (by rintro⟨h1,_⟩;exact hb h1)]at hv
 ·intro b' o v hv
  simp only[Sit.fill]at hv;split at hv
  ·rename_i hin;right;rw[hin.1];exact hm
  ·exact h.gm b' o v hv
 ·intro p hp
  obtain⟨h1,hmp,hgp⟩:=h.obs p hp;have hne:=hob p hp;refine⟨?_,hmp,fun off=> ?_⟩
  ·obtain⟨c2,e2,fl2,fh2,hO2,hs2,hr2⟩:=h1
   refine⟨c2,e2,fl2,fh2,hO2.of_heap (g5 _ (fun e=>hne e.symm)),hs2,fun k hk=> ?_⟩;have:=hr2 k hk;generalize p.2=obj at*;cases obj with
   |rc cs=>exact Rep.grow hle rfl rfl this
   |arr sz xs=>exact co.mono hle this
   |bar l=>exact co.mono hle this
  ·simp only[Sit.fill]
   rw[if_neg (by rintro⟨h1,_⟩;exact hne h1.symm)];exact hgp off
 ·intro u hu
  obtain⟨hu,hne⟩:=bK.1 hu;have hap:=h.tkd t ht u hu (by omega);rw[hτ]at hap;refine(h.tks u hu).imp id ?_;rintro⟨⟨c2,e2,fl2,fh2,hO2,hs2⟩,hm2,hg2⟩;refine⟨?_,hm2,fun o h1 h2=> ?_⟩
  ·by_cases hb:(x.τ u).1=b
   ·rw[hb]at hO2
    have e1:=hO2.1.symm.trans hO.1;simp at e1;exact⟨c',e,fl,fh,by rw[show((x.fill b lo vs).τ u).1=b from hb];exact hO',by rw[hcs,<-e1.1];exact hs2⟩
   ·exact⟨c2,e2,fl2,fh2,hO2.of_heap (g5 _ hb),hs2⟩
  ·show(x.fill b lo vs).G (x.τ u).1 o=none
   simp only[Sit.fill];rw[if_neg ?_]
   ·exact hg2 o h1 h2
   ·rintro⟨e1,e2,e3⟩
    change (x.τ u).2.1<=o at h1;change o<(x.τ u).2.2 at h2;rcases hap with hap|hap|hap
    ·exact hap e1.symm
    ·simp only at hap;omega
    ·omega
 ·intro u hu p hp
  exact h.tko u (bK.1 hu).1 p hp
 ·intro u hu v hv huv
  exact h.tkd u (bK.1 hu).1 v (bK.1 hv).1 huv
 ·intro b' hb'
  rw[g5 b' (fun e=>hb' (e ▸ hm))];exact h.ext b' hb'
 ·intro o h1 h2
  simp only[Sit.fill];rw[if_neg (by rintro⟨_,_,h3⟩;omega)];exact hg o (by omega) h2
 ·intro u hu
  obtain⟨hu,hne⟩:=bK.1 hu;have hap:=h.tkd t ht u hu (by omega);rw[hτ]at hap;unfold kK at*;simp only at*;rcases hap with hap|hap|hap
  ·left;exact hap
  ·omega
  ·exact .inr hap
theorem fY{lo hi:Nat}{tk:List Nat}{t:Nat}(h:t∈cz lo hi tk):t∈tk:=(bK.1 h).1
theorem cX.sub{C:Ctx}{x:Sit}{ob ob':List (Nat×aC)}{tk tk':List Nat}{w:World}(h:cX C x ob tk w)(ho:ob'.Sublist ob)(ht:∀t∈tk',t∈tk):cX C x ob' tk' w:=
 ⟨h.per,h.g0,h.gm,h.new,fun p hp=>h.obs p (ho.subset hp),h.nd.sublist (ho.map _),fun p hp q hq=>h.inj p (ho.subset hp) q (ho.subset hq),fun t hu=>h.tks t (ht t hu),
  fun t hu p hp=>h.tko t (ht t hu) p (ho.subset hp),fun t hu u hv=>h.tkd t (ht t hu) u (ht u hv),h.os,h.tape,h.output,h.size,h.ext,h.pin,h.lay⟩
end Go.Sy
namespace Go.Sy
variable [bf]
def zT:SV->Value->Bool
 | .bool b,.bool c=>b==c
 | .int k n,.int k' m=>decide (k=k')&&decide (n=m)
 | .u8 b,.int .u8 n=>decide (n=b.toNat)
 | .str l,.string s=>decide (s.data.toList=l)
 | .byt [] _,.slice none 0 0=>true
 | .lst _ [] _,.slice none 0 0=>true
 | .nilp,.pointer none=>true
 | .nili,.nilIface=>true
 |_,_=>false
def lj(P:Program)(e:TypeId):Bool:=match P.underlying e with|some (.int .u8)=>true|_=>false
def qc(P:Program)(t:TypeId):Option Bool:=(P.underlying t).map fun| .struct _| .array _ _=>true|_=>false
def fd(P:Program)(t:TypeId):Option Nat:=(P.info? t).map (·.size)
def sO(P:Program)(t:TypeId):Option Nat:=(P.info? t).map (·.bytes)
def cvT(P:Program)(t:TypeId):Value->Option SV
 | .bool b=>some (.bool b)
 | .int .u8 n=>some (.u8 (gw n.toNat))
 | .int k n=>some (.int k n)
 | .string s=>some (.str s.data.toList)
 | .pointer none=>some .nilp
 | .nilIface=>some .nili
 | .slice none 0 0=>match P.underlying t with
  |some (.slice e)=>some (if lj P e then .byt [] .clip else .lst (P.cellsOf e) [] .clip)
  |_=>none
 |_=>none
def bx(P:Program)(t:TypeId):Operand->Option Arg
 | .tmp n=>some (.t n)
 | .const v=>(cvT P t v).bind fun sv=>if zT sv v then some (.c sv)else none
 | .func f=>some (.f f)
 | .global g=>(bf.cells g).map fun cs=> .c (.pp cs)
def mb(P:Program):Nat->TypeId->List TypeId
 |0,_=> []
 |d+1,t=>match P.underlying t with
  |some (.struct fs)=>fs.toList.flatMap fun f=>mb P d f.type
  |some (.array n e)=>(aH n (mb P d e)).flatten
  |_=> [t]
def DC(P:Program):List TypeId->List Value->Option (List SV)
 |[],[]=>some []
 |t::ts,v::vs=>match cvT P t v,DC P ts vs with
  |some s,some r=>some (s::r)
  |_,_=>none
 |_,_=>none
def fU(P:Program)(t:TypeId):Option (List Value):=(P.info? t).bind fun i=>i.zero.map fun z=>z.cells.toList
def DW(cs:List SV)(vs:List Value):Bool:=decide (cs.length=vs.length)&&(bA cs.length).all fun i=>zT (cs.getD i .undef) (vs.getD i Go.undef)
def m5(P:Program)(t:TypeId):Option (List SV):=(fU P t).bind fun vs=>(DC P (mb P 30 t) vs).bind fun cs=>if DW cs vs then some cs else none
def x0(P:Program)(t:TypeId):Option (List SV):=(m5 P t).map (List.map SV.data)
def GG(P:Program)(t:TypeId):Option aC:=
 match P.underlying t with
 |some (.array n e)=>if lj P e then some (.bar (aH n 0))else(m5 P e).map fun z=> .arr z.length (aH n z)
 |_=>(m5 P t).map .rc
def XY(o:aC)(vs:List Value):Bool:=decide (o.size<=vs.length)&&(bA o.size).all fun k=>zT (o.cell k) (vs.getD k Go.undef)
def jm{α β:Type}(f:α->Option β):List α->Option (List β)
 |[]=>some []
 |a::r=>match f a,jm f r with
  |some b,some s=>some (b::s)
  |_,_=>none
def vk{α β:Type}(f:α->Option β):Option α->Option (Option β)
 |none=>some none
 |some a=>(f a).map some
def wz(P:Program)(t:TypeId):Option Nat:=
 match P.underlying t with
 |some .bool=>some 0
 |some (.int _)=>some 1
 |some .string=>some 2
 |_=>none
def xB(P:Program):Nat->List Field->Option (List Nat)
 |_,[]=>some []
 |k,f::r=>if f.name≠ "_" /\f.offset=k then(match wz P f.type,xB P (k+1) r with
  |some t,some ts=>some (t::ts)
  |_,_=>none)else none
def xf8(P:Program)(f:FuncId):Bool:=
 match P.funcs[f]? with
 |some fn=>fn.body.isNone&& !(fn.name== "runtime.NumGoroutine")&&(Extern.findNext fn).isNone&&decide (fn.origin= "slices.overlaps")&&
  (Extern.allGenericRows.lookup fn.name).isNone&&(Extern.allTypedRows.lookup fn.name).isNone&&(Extern.allRows.lookup fn.name).isNone&&
  (match fn.params[0]? with|some t=>(match P.underlying t with|some (.slice e)=>(fd P e).isSome|_=>false)|none=>false)
 |none=>false
def z0:List SV->Bool
 |[.u8 b]=>b==0
 |_=>false
def bz(P:Program)(o:Oper):Option SOp:=
 match o.op with
 | .move x=>(bx P o.type x).map .mov
 | .assign x=>(bx P o.type x).map .mov
 | .pick c a b=>match bx P 0 c,bx P o.type a,bx P o.type b with
  |some c,some a,some b=>some (.pick c a b)
  |_,_,_=>none
 | .alloc e=>match GG P e,fU P e with
  |some o,some z=>if XY o z then some (.new o)else none
  |_,_=>none
 | .box e x=>(bx P e x).map .box
 | .build t parts=>match P.underlying t,m5 P t with
  |some (.struct fs),some z=>
   if fs.toList.all fun f=>(P.info? f.type).isSome then
    (jm (fun p=>match fs[p.1]? with
     |some f=>match fd P f.type,bx P f.type p.2 with
      |some n,some a=>some (f.offset,n,a)
      |_,_=>none
     |none=>none) parts.toList).map (.build z)
   else none
  |some (.array _ e),some z=>match fd P e with
   |some n=>(jm (fun p=>(bx P e p.2).map fun a=>(p.1*n,n,a)) parts.toList).map (.build z)
   |none=>none
  |_,_=>none
 | .buildSlice t len parts=>match P.underlying t with
  |some (.slice e)=>match fd P e,fU P e with
   |some n,some _=>
    if decide (parts.toList.map (·.1)=bA len)&&decide (len*n<=16777216)&&(!lj P e||decide (n=1))then
     (jm (fun p=>bx P e p.2) parts.toList).map fun xs=>if lj P e then .litB xs else .lit n xs
    else none
   |_,_=>none
  |_=>none
 | .load t a=>match fd P t,qc P t,bx P 0 a with
  |some n,some ag,some a=>if ag||n==1 then some (.load n ag a)else none
  |_,_,_=>none
 | .store t a x=>match fd P t,bx P 0 a,bx P t x with
  |some n,some a,some x=>some (.store n a x)
  |_,_,_=>none
 | .nilCheck x=>(bx P o.type x).map .nchk
 | .binOp op xt x y yt=>match P.underlying xt,bx P xt x,bx P yt y with
  |some .bool,some x,some y=>match op with
   | .eql=>some (.beq false x y)
   | .neq=>some (.beq true x y)
   |_=>none
  |some (.int _),some x,some y=>some (.bin op x y)
  |some .string,some x,some y=>some (.bin op x y)
  |some (.struct fs),some x,some y=>
   match xB P 0 fs.toList with
   |
    some ts=>if !P.stoodInHeld xt&& !P.eqGuardType P.depth xt then
    (match op with
    | .eql=>some (.eqS false ts x y)
    | .neq=>some (.eqS true ts x y)
    |_=>none)
    else none
   |none=>none
  |some (.slice _),some x,some _=>match op,y with
   | .eql,.const (.slice none 0 0)=>some (.isnil false x)
   | .neq,.const (.slice none 0 0)=>some (.isnil true x)
   |_,_=>none
  |some (.interface _),some x,some _=>match op,y with
   | .eql,.const .nilIface=>some (.isni false x)
   | .neq,.const .nilIface=>some (.isni true x)
   |_,_=>none
  |_,_,_=>none
 | .unOp op t x=>(bx P t x).map (.un op)
 | .convert src dst x=>match P.underlying src,P.underlying dst,bx P src x with
  |some (.int _),some (.int k),some x=>some (.toInt k x)
  |some .string,some .string,some x=>some (.toStr x)
  |some (.slice e),some .string,some x=>if lj P e then some (.b2s x)else none
  |some .string,some (.slice e),some x=>if lj P e then some (.s2b x)else none
  |some (.slice _),some (.slice e),some x=>if decide (src=dst)&&lj P e then some (.slid x)else none
  |_,_,_=>none
 | .makeFunc (.func f) first cap=>match jm (bx P 0) first.toList,jm (bx P 0) cap.toList with
  |some a,some b=>some (.mkfn f a b)
  |_,_=>none
 | .makeSlice t l c=>match P.underlying t with
  |some (.slice e)=>match fd P e,sO P e,x0 P e,bx P 0 l,bx P 0 c with
   |some n,some by_,some z,some l,some c=>if lj P e then(if n=1/\by_=1/\z0 z=true then some (.mkB l c)else none)else(if z.length=n/\n≠0 then some (.mk z by_ l c)else none)
   |_,_,_,_,_=>none
  |_=>none
 | .slice t x lo hi mx=>match vk (bx P 0) lo,vk (bx P 0) hi,vk (bx P 0) mx,bx P t x with
  |some lo,some hi,some mx,some x=>if mx.isSome&&hi.isNone then none else match P.underlying t with
   |some .string=>if mx.isNone then some (.slcS x lo hi)else none
   |some (.slice e)=>match fd P e with
    |some n=>some (.slcL n x lo hi mx)
    |none=>none
   |some (.array k e)=>match fd P e with
    |some n=>some (.slcA k n x lo hi mx)
    |none=>none
   |_=>none
  |_,_,_,_=>none
 | .fieldAddr t x i=>match P.underlying t,bx P 0 x with
  |some (.struct fs),some x=>match fs[i]? with
   |some f=>match fd P f.type with
    |some n=>if n=0 then none else some (.faddr f.offset x)
    |none=>none
   |none=>none
  |_,_=>none
 | .field t x i=>match P.underlying t,bx P t x with
  |some (.struct fs),some x=>match fs[i]? with
   |some f=>match fd P f.type,qc P f.type with
    |some n,some ag=>if ag||n==1 then some (.fld f.offset n ag x)else none
    |_,_=>none
   |none=>none
  |_,_=>none
 | .indexAddr t x i=>match P.underlying t,bx P t x,bx P 0 i with
  |some (.slice e),some x,some i=>match fd P e with
   |some n=>some (.iaddrL n x i)
   |none=>none
  |some (.array k e),some x,some i=>match fd P e with
   |some n=>some (.iaddrA k n x i)
   |none=>none
  |_,_,_=>none
 | .index t x i=>match P.underlying t,bx P t x,bx P 0 i with
  |some (.array k e),some x,some i=>match fd P e,qc P e with
   |some n,some ag=>if ag||n==1 then some (.idxA k n ag x i)else none
   |_,_=>none
  |some .string,some x,some i=>some (.idxS x i)
  |_,_,_=>none
 | .extract x i=>(bx P 0 x).map (.ext · i)
 | .call c=>match c.callee with
  | .value f=>match bx P 0 f,jm (fun p=>bx P p.2 p.1) (c.args.toList.zip c.argTypes.toList)with
   |some f,some as=>if c.args.size=c.argTypes.size then(match f,as with
    | .f g,[x,y]=>if xf8 P g then some (.ovl x y)else some (.call (.f g) [x,y])
    |f,as=>some (.call f as))else none
   |_,_=>none
  | .builtin .len=>match c.args.toList,c.argTypes.toList with
   |[x],[t]=>match P.underlying t,bx P t x with
    |some .string,some x=>some (.len true x)
    |some (.slice _),some x=>some (.len false x)
    |some (.array n _),some _=>some (.lenC n)
    |some (.pointer arr),some _=>match P.underlying arr with
     |some (.array n _)=>some (.lenC n)
     |_=>none
    |_,_=>none
   |_,_=>none
  | .builtin .cap=>match c.args.toList,c.argTypes.toList with
   |[x],[t]=>match P.underlying t,bx P t x with
    |some (.slice _),some x=>some (.cap x)
    |_,_=>none
   |_,_=>none
  | .builtin .append=>match c.args.toList,c.argTypes.toList with
   |[x,y],[t,u]=>match P.underlying t,P.underlying u,bx P t x,bx P u y with
    |some (.slice e),some d,some x,some y=>match fd P e,sO P e,m5 P e with
     |some n,some b,some z=>if decide (b≠0)&&decide (n≠0)&&decide (z.length=n)then(match d with
      | .slice _=>some (.app z b x y)
      | .string=>if lj P e then some (.app z b x y)else none
      | .int _=>some (.appM z b x y)
      |_=>none)else none
     |_,_,_=>none
    |_,_,_,_=>none
   |_,_=>none
  | .builtin .clear=>match c.args.toList,c.argTypes.toList with
   |[x],[t]=>match P.underlying t,bx P t x with
    |some (.slice e),some x=>match x0 P e with
     |some z=>some (.clr z x)
     |none=>none
    |_,_=>none
   |_,_=>none
  | .builtin .copy=>match c.args.toList,c.argTypes.toList with
   |[x,y],[t,u]=>match P.underlying t,bx P t x,bx P u y with
    |some (.slice e),some x,some y=>match fd P e with
     |some n=>some (.cpy n x y)
     |none=>none
    |_,_,_=>none
   |_,_=>none
  | .builtin .min=>match c.args.toList,c.argTypes.toList with
   |[x,y],[t,u]=>match bx P t x,bx P u y with
    |some x,some y=>some (.mini x y)
    |_,_=>none
   |_,_=>none
  | .builtin .max=>match c.args.toList,c.argTypes.toList with
   |[x,y],[t,u]=>match bx P t x,bx P u y with
    |some x,some y=>some (.maxi x y)
    |_,_=>none
   |_,_=>none
  |_=>none
 |_=>none
def xaI(ops:Array Oper)(d:Nat):Bool:=ops.any fun o=>match o.op with
 | .convert src dst (.tmp k)=>decide (src=dst)&&k==d
 |_=>false
def ny(ops:Array Oper)(d:Option Nat)(so:SOp):SOp:=
 match so,d with
 | .litB xs,some d=>if xaI ops d then .newB xs else .litB xs
 |so,_=>so
theorem Df(ops:Array Oper)(d:Option Nat)(so:SOp):ny ops d so=so\/∃xs,so= .litB xs/\ny ops d so= .newB xs:=by
 unfold ny;split
 ·split
  ·exact .inr ⟨_,rfl,rfl⟩
  ·exact .inl rfl
 ·exact .inl rfl
def fW(P:Program)(ops:Array Oper)(o:Oper):Option SI:=
 match bz P o,o.guard with
 |some so,none=>some ⟨o.dst,none,ny ops o.dst so⟩
 |some so,some (j,b)=>match (ops[j]?).bind (·.dst)with
  |some g=>some ⟨o.dst,some (g,b),ny ops o.dst so⟩
  |none=>none
 |none,_=>none
def xfV:SOp->Bool
 | .new _| .box _| .mk _ _ _ _| .mkB _ _| .app _ _ _ _| .newB _=>true
 |_=>false
def xjL(l:List SI):List Nat:=l.filterMap fun i=>if xfV i.op then some (i.dst.getD 0+100)else none
def Arg.tmps:Arg->List Nat
 | .t n=> [n]
 |_=> []
def SI.reads(i:SI):List Nat:=(i.op.args.flatMap Arg.tmps)++(match i.g with|some (g,_)=> [g]|none=> [])
def Pj(b:List Nat)(l:List SI):Bool:=
 (bA l.length).all fun j=>(bA l.length).all fun i=>i==j||
  (match (l.getD i ⟨none,none,.lenC 0⟩).dst with
   |some d=> !((l.getD j ⟨none,none,.lenC 0⟩).reads.contains d)||(b.getD (max i j) 0).testBit (min i j)
   |none=>true)
def pH(ops:Array Oper)(b:List Nat):Bool:=
 ops.toList.zipIdx.all fun(o,i)=>(o.after.all fun e=> !Region.binds .any e||decide (e.on<i))&&
  (bA ops.size).all fun k=> !(b.getD i 0).testBit k||(decide (k<i)&&o.after.any fun e=>Region.binds .any e&&(e.on==k||(b.getD e.on 0).testBit k))
def drawn(ops:Array Oper)(l:List SI):Bool:=
 let b:=(Region.before ops).toList
 pH ops b&&Pj b l&&decide (l.filterMap (·.dst)).Nodup
def aZ(P:Program):Code->Option fQ
 | .skip=>some .skip
 | .region _ ops draw=>match jm (fW P ops) ops.toList with
  |some l=>
   if draw then(if drawn ops l&&P.follows .mixedOrders then some (.drw (Region.before ops).toList (xjL l) l)else none)
   else some (.ops l)
  |none=>none
 | .seq a b=>match aZ P a,aZ P b with
  |some a,some b=>some (.seq a b)
  |_,_=>none
 | .cond c a b=>match bx P 0 c,aZ P a,aZ P b with
  |some c,some a,some b=>some (.cond c a b)
  |_,_,_=>none
 | .block id b=>(aZ P b).map (.block id)
 | .loop b=>(aZ P b).map .loop
 | .exit id=>some (.exit id)
 | .ret=>some .ret
 |_=>none
def cC(P:Program):Code->fQ
 | .skip=> .skip
 | .exit id=> .exit id
 | .ret=> .ret
 | .seq a b=> .seq (cC P a) (cC P b)
 | .cond c a b=>match bx P 0 c with
  |some k=> .cond k (cC P a) (cC P b)
  |none=> .bad
 | .block id b=> .block id (cC P b)
 | .loop b=> .loop (cC P b)
 | .region id ops draw=>match aZ P (.region id ops draw)with
  |some s=>s
  |none=> .bad
 |_=> .bad
end Go.Sy
namespace Go.Sy
variable [bf]
variable {P : Program} {C : Ctx} {x : Sit} {s : St} {a : Act} {w : World}
theorem lC{G:GM}{c:SV}{v:Value}(h:zT c v=true):co G c v:=by
 unfold zT at h;split at h
 ·simp at h;subst h;exact .bool _
 ·simp at h;obtain⟨rfl,rfl⟩:=h;exact .int _ _
 ·simp at h;subst h;exact .u8 _
 ·rename_i l s
  simp at h;obtain⟨⟨d⟩⟩:=s;simp at h;subst h;exact .str _
 ·exact .bytN _
 ·exact .lstN _ _
 ·exact .nilp
 ·exact .nili
 ·cases h
theorem EU{x:Sit}{c:SV}{v:Value}(h:zT c v=true):NH x c v:=by
 unfold zT at h;split at h
 all_goals first
  |trivial
  |(
   rename_i t;cases t with
   |no=>trivial
   |clip=>exact⟨none,0,rfl⟩
   |id t=>exact⟨none,0,0,rfl,.inl rfl⟩)
  |(cases h;done)
theorem o8{x:Sit}{c:SV}{v:Value}(h:zT c v=true):Rep x c v:= .dat _ _ (lC h) (EU h)
theorem cj.get{cs:List SV}{vs:List Value}(h:cj x cs vs)(i:Nat):Rep x (cs.getD i .undef) (vs.getD i Go.undef):=by
 rcases bO i cs.length with hi|hi
 ·exact h.2 i hi
 ·rw[aa,gj hi];exact .undef _
theorem cj.set{cs:List SV}{vs:List Value}(h:cj x cs vs)(d:Nat){c:SV}{v:Value}(hc:Rep x c v):cj x (cs.set d c) (vs.set d v):=by
 refine⟨by simpa using h.1,fun i hi=> ?_⟩;simp only[List.length_set]at hi;simp only[aa,gr]
 by_cases hd:d=i
 ·subst hd
  rw[if_pos rfl,if_pos hi,if_pos rfl,if_pos (by rw[<-h.1];exact hi)];exact hc
 ·rw[if_neg hd,if_neg hd]
  have:=h.get i;simpa only[aa]using this
theorem aN.slot(h:aN C x s a w)(n:Nat):Rep x (s.get n) (a.tmps.getD n Go.undef):=by have:=h.tm.get n;simpa[St.get,aQ]using this
theorem aN.put(h:aN C x s a w)(d:Option Nat){c:SV}{v:Value}(hc:Rep x c v):aN C x (s.put d c) (a.put d v) w:=by
 cases d with
 |none=>exact h
 |some d=>refine⟨?_,h.defers,h.heap⟩;have:=h.tm.set d hc;simpa[St.put,Act.put]using this
theorem aP{t:TypeId}{o:Operand}{r:Arg}(h:aN C x s a w)(hr:bx P t o=some r):Rep x (s.ev r) (a.eval o):=by
 cases o with
 |tmp n=>simp only[bx]at hr;cases hr;exact h.slot n
 |const v=>
  simp only[bx]at hr;cases hc:cvT P t v with
  |none=>simp[hc]at hr
  |some sv=>
   simp only[hc,cY]at hr;split at hr
   ·cases hr;rename_i hs;exact o8 hs
   ·cases hr
 |func f=>simp only[bx]at hr;cases hr;exact .fn f [] [] [] [] rfl (fun i hi=>by simp at hi) rfl (fun i hi=>by simp at hi)
 |global g=>
  simp only[bx]at hr;obtain⟨cs,hcs,rfl⟩:=ae.1 hr;have hl:=(h.heap.lay.mono h.heap.g0) g cs hcs;refine .dat _ _ (.pp cs g 0 (fun j=>(x.G g j).getD Go.undef) (fun j hj=> ?_) (fun j hj=> ?_)) trivial
  ·obtain⟨v,hv,_⟩:=hl j hj
   rw[bS,hv];rfl
  ·obtain⟨v,hv,hr⟩:=hl j hj
   rw[hv];exact hr
def cn(P:Program)(C:Ctx)(o:Oper)(a:Act)(w:World)(s':St):Prop:=
 ∃u w' x' n,(execOp a.eval o).run P w= .ok n w'/\(n= .value u\/(n= .skip/\u=Go.undef))/\aN C x' s' (a.put o.dst u) w'
theorem cn.val{o:Oper}{m:Sem Value}{u:Value}{c:SV}(h:aN C x s a w)(he:execOp a.eval o=(do pure (.value (<-m))))(hm:m.run P w= .ok u w)(hc:Rep x c u):
 cn P C o a w (s.put o.dst c):=
 ⟨u,w,x,.value u,by rw[he];simp[hm],.inl rfl,h.put o.dst hc⟩
theorem cn.grow{o:Oper}{m:Sem Value}{u:Value}{c:SV}{x':Sit}{w':World}(h:aN C x s a w)(he:execOp a.eval o=(do pure (.value (<-m))))(hm:m.run P w= .ok u w')
 (hG:∀b o v,x.G b o=some v->x'.G b o=some v) (hβ:x'.bk=x.bk) (hτ:x'.τ=x.τ) (hh:cX C x' s.ob s.tk w') (hc:Rep x' c u):
 cn P C o a w (s.put o.dst c):=
 ⟨u,w',x',.value u,by rw[he];simp[hm],.inl rfl,aN.put ⟨h.tm.grow hG hβ hτ,h.defers,hh⟩ o.dst hc⟩
theorem Rep.int_inv{k:IntKind}{n:Int}{v:Value}(h:Rep x (.int k n) v):v= .int k n:=by
 cases h with|dat _ _ h _=>cases h;rfl
theorem Rep.bool_inv{b:Bool}{v:Value}(h:Rep x (.bool b) v):v= .bool b:=by
 cases h with|dat _ _ h _=>cases h;rfl
theorem Rep.u8_inv{b:UInt8}{v:Value}(h:Rep x (.u8 b) v):v= .int .u8 b.toNat:=by
 cases h with|dat _ _ h _=>cases h;rfl
theorem Rep.str_inv{l:List UInt8}{v:Value}(h:Rep x (.str l) v):v= .string ⟨⟨l⟩⟩:=by
 cases h with|dat _ _ h _=>cases h;rfl
theorem Rep.ptr_inv{o off:Nat}{v:Value}(h:Rep x (.ptr o off) v):v= .pointer (some ⟨(x.bk o).1,off,none⟩):=by
 cases h with
 |dat _ _ h _=>cases h
 |ptr=>rfl
theorem Rep.ap_inv{o sz i j:Nat}{v:Value}(h:Rep x (.ap o sz i j) v):v= .pointer (some ⟨(x.bk o).1,i*sz+j,none⟩):=by
 cases h with
 |dat _ _ h _=>cases h
 |ap=>rfl
theorem Rep.psl_inv{o sz off n:Nat}{cap:Option Nat}{v:Value}(h:Rep x (.psl o sz off n cap) v):∃cap',n<=cap'/\(∀c,cap=some c->c=cap')/\∃off',v= .slice (some ⟨(x.bk o).1,off',none⟩) n cap'/\(cap'=0\/off'=off*sz):=by
 cases h with
 |dat _ _ h _=>cases h
 |psl _ _ _ _ _ off' cap' h hn hc _=>exact⟨cap',hn,hc,off',rfl,h⟩
theorem Rep.psl_invA{o sz off n:Nat}{cap:Option Nat}{v:Value}(h:Rep x (.psl o sz off n cap) v):∃cap',n<=cap'/\(∀c,cap=some c->c=cap')/\∃off',v= .slice (some ⟨(x.bk o).1,off',none⟩) n cap'/\(cap'=0\/off'=off*sz)/\(cap=none->cap'=0\/off'+cap'*sz<=(x.bk o).2):=by
 cases h with
 |dat _ _ h _=>cases h
 |psl _ _ _ _ _ off' cap' h hn hc hk=>exact⟨cap',hn,hc,off',rfl,h,hk⟩
theorem Rep.psl_invK{o sz off n:Nat}{v:Value}(h:Rep x (.psl o sz off n none) v):∃cap',n<=cap'/\∃off',v= .slice (some ⟨(x.bk o).1,off',none⟩) n cap'/\(cap'=0\/off'=off*sz)/\(cap'=0\/off'+cap'*sz<=(x.bk o).2):=by
 cases h with
 |dat _ _ h _=>cases h
 |psl _ _ _ _ _ off' cap' h hn hc hk=>exact⟨cap',hn,off',rfl,h,hk rfl⟩
theorem Rep.agg_inv{cs:List SV}{v:Value}(h:Rep x (.agg cs) v):∃vs,v= .agg ⟨vs⟩/\cj x cs vs:=by
 cases h with
 |dat _ _ h _=>cases h
 |agg _ vs hl h=>exact⟨vs,rfl,hl,h⟩
theorem Rep.tup_inv{cs:List SV}{v:Value}(h:Rep x (.tup cs) v):∃vs,v= .tuple ⟨vs⟩/\cj x cs vs:=by
 cases h with
 |dat _ _ h _=>cases h
 |tup _ vs hl h=>exact⟨vs,rfl,hl,h⟩
theorem Rep.fn_inv{f:Nat}{c1 c2:List SV}{v:Value}(h:Rep x (.fn f c1 c2) v):∃v1 v2,v= .func (.func f) ⟨v1⟩ ⟨v2⟩/\cj x c1 v1/\cj x c2 v2:=by
 cases h with
 |dat _ _ h _=>cases h
 |fn _ _ _ v1 v2 h1 h2 h3 h4=>exact⟨v1,v2,rfl,⟨h1,h2⟩,⟨h3,h4⟩⟩
theorem Rep.pp_inv{cs:List SV}{v:Value}(h:Rep x (.pp cs) v):∃(b off:Nat)(val:Nat->Value),v= .pointer (some ⟨b,off,none⟩)/\(∀j,j<cs.length->x.G b (off+j)=some (val j))/\∀j,j<cs.length->co x.G (cs.getD j .undef) (val j):=by
 cases h with
 |dat _ _ h _=>cases h with|pp _ b off val hg h=>exact⟨b,off,val,rfl,hg,h⟩
theorem Rep.nilp_inv{v:Value}(h:Rep x .nilp v):v= .pointer none:=by
 cases h with|dat _ _ h _=>cases h;rfl
theorem Rep.nili_inv{v:Value}(h:Rep x .nili v):v= .nilIface:=by
 cases h with|dat _ _ h _=>cases h;rfl
theorem Rep.byt_inv{l:List UInt8}{t:Tok}{v:Value}(h:Rep x (.byt l t) v):∃b cap,v= .slice b l.length cap/\l.length<=cap/\co x.G (.byt l t) v/\dt x 1 t v:=by
 cases h with
 |dat _ _ h ht=>
  cases h with
  |bytN=>exact⟨none,0,rfl,by simp,.bytN _,ht⟩
  |bytE _ a=>exact⟨some a,0,rfl,by simp,.bytE _ a,ht⟩
  |byt _ _ b off cap n hn hc h=>subst hn;exact⟨_,cap,rfl,hc,.byt _ _ b off cap _ rfl hc h,ht⟩
theorem Rep.lst_inv{sz:Nat}{xs:List (List SV)}{t:Tok}{v:Value}(h:Rep x (.lst sz xs t) v):∃b cap,v= .slice b xs.length cap/\xs.length<=cap/\co x.G (.lst sz xs t) v/\dt x sz t v:=by
 cases h with
 |dat _ _ h ht=>
  cases h with
  |lstN=>exact⟨none,0,rfl,by simp,.lstN _ _,ht⟩
  |lstE _ _ a=>exact⟨some a,0,rfl,by simp,.lstE _ _ a,ht⟩
  |lst _ _ _ b off cap n val hn hc hl hg h=>subst hn;exact⟨_,cap,rfl,hc,.lst _ _ _ b off cap _ val rfl hc hl hg h,ht⟩
theorem cO(k:IntKind)(n:Int):Rep x (.int k n) (.int k n):= .dat _ _ (.int k n) trivial
theorem dG(b:Bool):Rep x (.bool b) (.bool b):= .dat _ _ (.bool b) trivial
theorem nv(b:UInt8):Rep x (.u8 b) (.int .u8 b.toNat):= .dat _ _ (.u8 b) trivial
theorem ku(l:List UInt8):Rep x (.str l) (.string ⟨⟨l⟩⟩):= .dat _ _ (.str l) trivial
theorem Fl{op:BinOp}{t:TypeId}{k:IntKind}{m n:Int}{p:Prop}{c:SV}(h:QY op k m n=some (p,c))(hp:p):
 ∃r,(binOp op t (.int k m) (.int k n)).run P w= .ok r w/\Rep x c r:=by
 cases op<;>simp only[QY,Oj,bp,aq.injEq,bt.injEq,reduceCtorEq]at h<;>obtain⟨rfl,rfl⟩:=h
 ·exact⟨.int k (k.wrap (m+n)),by simp[binOp,Op.intArith],cO _ _⟩
 ·exact⟨.int k (k.wrap (m-n)),by simp[binOp,Op.intArith],cO _ _⟩
 ·exact⟨.int k (k.wrap (m*n)),by simp[binOp,Op.intArith],cO _ _⟩
 ·exact⟨.int k (k.wrap (m.tdiv n)),by simp[binOp,Op.intDiv,hp],cO _ _⟩
 ·exact⟨.int k (m.tmod n),by simp[binOp,Op.intDiv,hp],cO _ _⟩
 ·exact⟨.int k (bZ .and k m n),by simp[binOp,Op.intBits,bZ],cO _ _⟩
 ·exact⟨.int k (bZ .or k m n),by simp[binOp,Op.intBits,bZ],cO _ _⟩
 ·exact⟨.int k (bZ .xor k m n),by simp[binOp,Op.intBits,bZ],cO _ _⟩
 ·exact⟨.int k (bZ .andNot k m n),by simp[binOp,Op.intBits,bZ],cO _ _⟩
 ·exact⟨.bool (decide (m=n)),by simp[binOp,pL];rw[eW];simp,dG _⟩
 ·exact⟨.bool (decide (m≠n)),by simp[binOp,pL];rw[eW];simp,dG _⟩
 ·exact⟨.bool (decide (m<n)),by simp[binOp,pL],dG _⟩
 ·exact⟨.bool (decide (m<=n)),by simp[binOp,pL],dG _⟩
 ·exact⟨.bool (decide (m>n)),by simp[binOp,pL],dG _⟩
 ·exact⟨.bool (decide (m≥n)),by simp[binOp,pL],dG _⟩
theorem fR(n:Int):fA.wrap n=n % 256:=by simp[IntKind.wrap,IntKind.bits,IntKind.signed]
theorem uB(n:Int):((cQ n).toNat:Int)=n % 256:=by rw[cQ,<-UInt8.toNat_toBitVec];simp;omega
theorem m6(b:UInt8):b.toNat<256:=b.toNat_lt
theorem CN{op:BinOp}{t:TypeId}{a b:UInt8}{p:Prop}{c:SV}(h:DD op a b=some (p,c))(hp:p):
 ∃r,(binOp op t (.int .u8 a.toNat) (.int .u8 b.toNat)).run P w= .ok r w/\Rep x c r:=by
 have ha:=m6 a;have hb:=m6 b;have R:∀(r:UInt8)(v:Value),v= .int .u8 r.toNat->Rep x (.u8 r) v:=fun r v e=>e ▸ nv r
 have B:∀(r:Bool)(v:Value),v= .bool r->Rep x (.bool r) v:=fun r v e=>e ▸ dG r
 cases op<;>simp only[DD,aq.injEq,bt.injEq,reduceCtorEq]at h<;>obtain⟨rfl,rfl⟩:=h
 ·exact⟨.int .u8 (fA.wrap (a.toNat+b.toNat)),by simp[binOp,Op.intArith],R _ _ (by rw[fR,UInt8.toNat_add];simp)⟩
 ·refine⟨.int .u8 (fA.wrap (a.toNat-b.toNat)),by simp[binOp,Op.intArith],R _ _ (by rw[fR,UInt8.toNat_sub];congr 1;omega)⟩
 ·exact⟨.int .u8 (fA.wrap (a.toNat*b.toNat)),by simp[binOp,Op.intArith],R _ _ (by rw[fR,UInt8.toNat_mul];simp)⟩
 ·have hb0:¬((b.toNat:Int)=0):=by intro e;exact hp (UInt8.toNat_inj.1 (by simpa using e))
  refine⟨.int .u8 (fA.wrap ((a.toNat:Int).tdiv b.toNat)), ?_,R _ _ ?_⟩
  ·simp only[binOp,Op.intDiv];rw[if_neg (fun e=>e rfl),if_neg hb0];rfl
  rw[fR,UInt8.toNat_div,Int.tdiv_eq_ediv_of_nonneg (by omega)];have:=Nat.div_le_self a.toNat b.toNat;rw[<-Int.natCast_ediv];simp only[Value.int.injEq,true_and];generalize a.toNat/b.toNat=q at*;omega
 ·have hb0:¬((b.toNat:Int)=0):=by intro e;exact hp (UInt8.toNat_inj.1 (by simpa using e))
  refine⟨.int .u8 ((a.toNat:Int).tmod b.toNat), ?_,R _ _ ?_⟩
  ·simp only[binOp,Op.intDiv];rw[if_neg (fun e=>e rfl),if_neg hb0];rfl
  rw[UInt8.toNat_mod,ib (by omega)];simp
 all_goals have ea:BitVec.ofInt fA.bits (a.toNat:Int)=a.toBitVec:=by rw[BitVec.ofInt_natCast];exact BitVec.ofNat_toNat _ _
 all_goals have eb:BitVec.ofInt fA.bits (b.toNat:Int)=b.toBitVec:=by rw[BitVec.ofInt_natCast];exact BitVec.ofNat_toNat _ _
 ·refine⟨.int .u8 (bZ .and .u8 a.toNat b.toNat),by simp[binOp,Op.intBits,bZ],R _ _ ?_⟩
  have:=m6 (a&&&b);simp only[bZ];rw[ea,eb,fR];change Value.int .u8 ((((a&&&b).toNat:Nat):Int) % 256)=_
  congr 1;omega
 ·refine⟨.int .u8 (bZ .or .u8 a.toNat b.toNat),by simp[binOp,Op.intBits,bZ],R _ _ ?_⟩
  have:=m6 (a|||b);simp only[bZ];rw[ea,eb,fR];change Value.int .u8 ((((a|||b).toNat:Nat):Int) % 256)=_
  congr 1;omega
 ·refine⟨.int .u8 (bZ .xor .u8 a.toNat b.toNat),by simp[binOp,Op.intBits,bZ],R _ _ ?_⟩
  have:=m6 (a^^^b);simp only[bZ];rw[ea,eb,fR];change Value.int .u8 ((((a^^^b).toNat:Nat):Int) % 256)=_
  congr 1;omega
 ·refine⟨.int .u8 (bZ .andNot .u8 a.toNat b.toNat),by simp[binOp,Op.intBits,bZ],R _ _ ?_⟩
  have:=m6 (a&&& ~~~b);simp only[bZ];rw[ea,eb,fR];change Value.int .u8 ((((a&&& ~~~b).toNat:Nat):Int) % 256)=_
  congr 1;omega
 all_goals clear ea eb
 ·exact⟨.bool ((a.toNat:Int)==b.toNat),by simp[binOp,pL],B _ _ (by congr 1;rw[eW];simp[<-UInt8.toNat_inj];try omega)⟩
 ·exact⟨.bool ((a.toNat:Int) !=b.toNat),by simp[binOp,pL],B _ _ (by congr 1;rw[eW];simp[<-UInt8.toNat_inj];try omega)⟩
 ·exact⟨.bool (decide ((a.toNat:Int)<b.toNat)),by simp[binOp,pL],B _ _ (by congr 1;rw[eW];simp[UInt8.lt_iff_toNat_lt])⟩
 ·exact⟨.bool (decide ((a.toNat:Int)<=b.toNat)),by simp[binOp,pL],B _ _ (by congr 1;rw[eW];simp[UInt8.le_iff_toNat_le])⟩
 ·exact⟨.bool (decide ((a.toNat:Int)>b.toNat)),by simp[binOp,pL],B _ _ (by congr 1;rw[eW];simp[UInt8.lt_iff_toNat_lt])⟩
 ·exact⟨.bool (decide ((a.toNat:Int)≥b.toNat)),by simp[binOp,pL],B _ _ (by congr 1;rw[eW];simp[UInt8.le_iff_toNat_le])⟩
theorem Fh{op:BinOp}{t:TypeId}{l m:List UInt8}{p:Prop}{c:SV}(h:Su op l m=some (p,c))(hp:p):
 ∃r,(binOp op t (.string ⟨⟨l⟩⟩) (.string ⟨⟨m⟩⟩)).run P w= .ok r w/\Rep x c r:=by
 have e1:∀l:List UInt8,(ByteArray.mk ⟨l⟩).toList=l:=fun l=>by rw[ByteArray.toList_eq]
 have eq:(l==m)=decide (l=m):=by rw[eW];simp
 cases op<;>simp only[Su,aq.injEq,bt.injEq,reduceCtorEq]at h<;>obtain⟨rfl,rfl⟩:=h
 ·refine⟨.string ⟨⟨l++m⟩⟩, ?_,ku _⟩
  simp only[binOp,Op.stringOp]
  have hs:((((ByteArray.mk ⟨l⟩).size+(ByteArray.mk ⟨m⟩).size:Nat):Int)>ah.max)=False:=by rw[IntKind.max_i64];simp only[ByteArray.size,eq_iff_iff,iff_false];simp;omega
  simp only[hs,if_false];rw[show(ByteArray.mk ⟨l⟩++ByteArray.mk ⟨m⟩)=ByteArray.mk ⟨l++m⟩from by apply ByteArray.ext;simp];rfl
 all_goals refine⟨_,by simp only[binOp,Op.stringOp,e1,eq];rfl, ?_⟩
 ·exact dG _
 ·rw[show decide (l≠m)= !decide (l=m)from by simp];exact dG _
 all_goals exact dG _
theorem Ff{op:BinOp}{t:TypeId}{k:IntKind}{a:UInt8}{b:Int}{p:Prop}{c:SV}(h:Sm op a b=some (p,c))(hp:p):
 ∃r,(binOp op t (.int .u8 a.toNat) (.int k b)).run P w= .ok r w/\Rep x c r:=by
 have ha:=m6 a;have R:∀(r:UInt8)(v:Value),v= .int .u8 r.toNat->Rep x (.u8 r) v:=fun r v e=>e ▸ nv r
 cases op<;>simp only[Sm,aq.injEq,bt.injEq,reduceCtorEq]at h<;>obtain⟨rfl,rfl⟩:=h
 ·refine⟨.int .u8 (fA.wrap ((a.toNat:Int)*2^(min b.toNat fA.bits))),by simp only[binOp,Op.shift];rw[if_neg (by omega)];rfl,R _ _ ?_⟩
  rw[fR,UInt8.toNat_ofNat'];have e:((a.toNat:Int)*2^(min b.toNat fA.bits))=((a.toNat*2^(min b.toNat 8):Nat):Int):=by rw[Int.natCast_mul,Int.natCast_pow];rfl
  rw[e];rfl
 ·refine⟨.int .u8 ((a.toNat:Int).fdiv (2^(min b.toNat fA.bits))),by simp only[binOp,Op.shift];rw[if_neg (by omega)];rfl,R _ _ ?_⟩
  have e:(a.toNat:Int).fdiv (2^(min b.toNat fA.bits))=((a.toNat/2^(min b.toNat 8):Nat):Int):=by rw[show((2:Int)^(min b.toNat fA.bits))=((2^(min b.toNat 8):Nat):Int)from by rw[Int.natCast_pow];rfl];rw[ic _ (Int.natCast_nonneg _),Int.natCast_ediv]
  have h2:a.toNat/2^(min b.toNat 8)<256:=Nat.lt_of_le_of_lt (Nat.div_le_self _ _) ha;rw[e,UInt8.toNat_ofNat',cx h2]
theorem PI{op:BinOp}{t:TypeId}{X Y:Operand}{u v:SV}{a b:Value}{p:Prop}{c:SV}(hu:Rep x u a)(hv:Rep x v b)(h:xM op u v=some (p,c))(hp:p):
 ∃r,(do eqGuard op t X Y a b;binOp op t a b:Sem Value).run P w= .ok r w/\Rep x c r:=by
 cases u<;>cases v<;>simp only[xM]at h<;>try (cases h;done)
 ·rename_i k m k' n
  have e1:=hu.int_inv;have e2:=hv.int_inv;subst e1;subst e2;rw[show eqGuard op t X Y (.int k m) (.int k' n)=pure ()from by cases op<;>rfl];simp only[az,aJ,aj]
  by_cases hs:op= .shl\/op= .shr
  ·rcases hs with rfl|rfl
   ·simp only[ua,aq.injEq,bt.injEq]at h
    obtain⟨rfl,rfl⟩:=h;exact⟨_,by simp only[binOp,Op.shift];rw[if_neg (by omega)];rfl,cO _ _⟩
   ·simp only[ua,aq.injEq,bt.injEq]at h
    obtain⟨rfl,rfl⟩:=h;exact⟨_,by simp only[binOp,Op.shift];rw[if_neg (by omega)];rfl,cO _ _⟩
  ·have h':(if k=k' then QY op k m n else none)=some (p,c):=by
    cases op<;>simp at hs<;>exact h
   split at h'
   ·rename_i hk;subst hk;exact Fl h' hp
   ·cases h'
 ·rename_i b1 k2 b2
  have e1:=hu.u8_inv;have e2:=hv.int_inv;subst e1;subst e2;rw[show eqGuard op t X Y (.int .u8 b1.toNat) (.int k2 b2)=pure ()from by cases op<;>rfl];simp only[az,aJ,aj];exact Ff h hp
 ·rename_i b1 b2
  have e1:=hu.u8_inv;have e2:=hv.u8_inv;subst e1;subst e2;rw[show eqGuard op t X Y (.int .u8 b1.toNat) (.int .u8 b2.toNat)=pure ()from by cases op<;>rfl];simp only[az,aJ,aj];exact CN h hp
 ·rename_i b1 b2
  have e1:=hu.str_inv;have e2:=hv.str_inv;subst e1;subst e2;rw[show eqGuard op t X Y (.string ⟨⟨b1⟩⟩) (.string ⟨⟨b2⟩⟩)=pure ()from by cases op<;>rfl];simp only[az,aJ,aj];exact Fh h hp
end Go.Sy
namespace Go.Sy
variable [bf]
variable {P : Program} {C : Ctx} {x : Sit} {s : St} {a : Act} {w : World}
theorem b9{t:TypeId}{n:Nat}(h:fd P t=some n)(w:World):(sizeOf t).run P w= .ok n w:=by
 unfold fd at h;cases hi:P.info? t with
 |none=>simp[hi]at h
 |some i=>simp[hi]at h;subst h;simp[sizeOf,run_typeInfo w hi]
theorem eE{t:TypeId}{b:Bool}(h:qc P t=some b)(w:World):(isAgg t).run P w= .ok b w:=by
 unfold qc at h;cases hd:P.underlying t with
 |none=>simp[hd]at h
 |some d=>simp[hd]at h;subst h;unfold isAgg;simp only[az,run_underlying hd,aj];split<;>first|rfl|(cases d<;>simp_all)
theorem cJ{sz:Nat}(xs:List (List SV))(h:∀y∈xs,y.length=sz)(k:Nat)(hk:k<xs.length*sz):
 xs.flatten.getD k .undef=(xs.getD (k/sz) []).getD (k % sz) .undef:=by
 induction xs generalizing k with
 |nil=>simp at hk
 |cons y r ih=>
  have hy:=h y (by simp)
  have hsz:0<sz:=by
   rcases gk sz with h0|h0;· subst h0;simp at hk
   ·exact h0
  simp only[cr,aa]
  by_cases hlt:k<sz
  ·rw[bq (by omega),xZ hlt,cx hlt]
   simp
  ·rw[bB (by omega),hy]
   have:=ih (fun z hz=>h z (av _ hz)) (k-sz) (by simp only[am,dy]at hk;omega);simp only[aa]at this;rw[this];have e1:k/sz=(k-sz)/sz+1:=by rw[<-Nat.add_div_right _ hsz];congr 1;omega
   have e2:k % sz=(k-sz) % sz:=(Nat.mod_eq_sub_mod (by omega));rw[e1,e2];simp
def Cc(x:Sit)(w:World)(b off n:Nat)(cs:List SV):Prop:=
 n<=cs.length/\∀j,j<n->∃v,w.cell? ⟨b,off+j,none⟩=some v/\Rep x (cs.getD j .undef) v
theorem ox{b off n:Nat}{cs:List SV}{t:TypeId}{ag:Bool}(h:Cc x w b off n cs)(hn:fd P t=some n)(hag:qc P t=some ag)(h1:(ag||n==1)=true):
 ∃v,(loadVar t ⟨b,off,none⟩).run P w= .ok v w/\Rep x (dC ag n cs) v:=by
 obtain⟨hl,hc⟩:=h
 have hf:∀j,j<n->w.cell? ((⟨b,off,none⟩:Addr).add j)=some ((w.cell? ⟨b,off+j,none⟩).getD Go.undef):=by intro j hj;obtain⟨v,hv,_⟩:=hc j hj;rw[di,hv];rfl
 cases ag with
 |true=>
  refine⟨.agg ((bA n).map fun j=>(w.cell? ⟨b,off+j,none⟩).getD Go.undef).toArray, ?_, ?_⟩
  ·simp only[loadVar,az,eE hag,aj,if_true,b9 hn,run_loadCells w _ n _ hf,aJ]
  ·simp only[dC,if_true]
   refine .agg _ _ (by simp;omega) fun i hi=> ?_
   have hi:i<n/\i<cs.length:=by simp only[ax]at hi;omega
   obtain⟨v,hv,hr⟩:=hc i hi.1;rw[aa,bC,if_pos hi.1,<-aa]
   have:((bA n).map fun j=>(w.cell? ⟨b,off+j,none⟩).getD Go.undef).getD i Go.undef=v:=by rw[aa];simp[hi.1,hv]
   rw[this];exact hr
 |false=>simp at h1;subst h1;obtain⟨v,hv,hr⟩:=hc 0 (by omega);refine⟨v, ?_,by simpa[dC]using hr⟩;rw[gx]at hv;simp only[loadVar,az,eE hag,aj,aO,if_false,run_load,hv]
theorem eT(hM:aN C x s a w){o:Nat}{obj:aC}(h:s.look o=some obj):dM x w o obj:=(hM.heap.obs _ (db h)).1
theorem dM.cell{o:Nat}{obj:aC}(h:dM x w o obj){k:Nat}(hk:k<obj.size):∃v,w.cell? ⟨(x.bk o).1,k,none⟩=some v/\cf x obj k v:=by obtain⟨c,e,fl,fh,hO,hs,hr⟩:=h;refine⟨c.getD k Go.undef, ?_,hr k hk⟩;rw[hO.cell,aQ,cg (by omega)];rfl
theorem cf.data{obj:aC}(hobj:∀cs,obj≠ .rc cs){k:Nat}{v:Value}(h:cf x obj k v):Rep x (obj.cell k).data v:=by
 cases obj with
 |rc cs=>exact absurd rfl (hobj cs)
 |arr sz xs=>exact co.rep h
 |bar l=>exact co.rep h
theorem gg(cs:List SV)(j:Nat):(cs.map SV.data).getD j .undef=(cs.getD j .undef).data:=aW _ rfl _ _
theorem kh{α:Type}(cs:List α)(j k:Nat)(d:α):(cs.drop j).getD k d=cs.getD (j+k) d:=by simp[aa,bi]
theorem lg(hM:aN C x s a w){u c:SV}{v:Value}{n:Nat}{ag:Bool}{p:Prop}(hu:Rep x u v)(h:iE s n ag u=some (p,c))(hp:p):
 ∃b off cs,v= .pointer (some ⟨b,off,none⟩)/\c=dC ag n cs/\Cc x w b off n cs:=by
 cases u with
 |pp cs=>simp only[iE,aq.injEq,bt.injEq]at h;obtain⟨rfl,rfl⟩:=h;obtain⟨b,off,val,rfl,hg,hr⟩:=hu.pp_inv;refine⟨b,off,_,rfl,rfl,by simpa using hp,fun j hj=>⟨val j,hM.heap.per _ _ _ (hg j (by omega)), ?_⟩⟩;rw[gg];exact(hr j (by omega)).rep
 |ptr o off=>
  have hv:=hu.ptr_inv;simp only[iE]at h;cases hl:s.look o with
  |none=>simp[hl]at h
  |some obj=>
   have hob:=eT hM hl;cases obj with
   |rc cs=>simp only[hl,aq.injEq,bt.injEq]at h;obtain⟨rfl,rfl⟩:=h;refine⟨_,off,_,hv,rfl,by simp;omega,fun j hj=> ?_⟩;obtain⟨v,h1,h2⟩:=hob.cell (k:=off+j) (by simp only[aC.size];omega);exact⟨v,h1,by rw[kh];exact h2⟩
   |arr sz xs=>
    simp only[hl]at h;split at h
    ·rename_i h0;subst h0
     simp only[aq.injEq,bt.injEq]at h;obtain⟨rfl,rfl⟩:=h
     have hlen:xs.flatten.length=xs.length*sz:=by
      have h2:=hp.2;clear hp hl hob;induction xs with
      |nil=>simp
      |cons y r ih=>simp only[cr,af,am,dy];rw[ih (fun z hz=>h2 z (av _ hz)),h2 y (by simp)];omega
     refine⟨_,0,_,hv,rfl,by rw[aY];exact hp.1,fun j hj=> ?_⟩;have hj':j<xs.length*sz:=by rw[<-hlen];omega
     obtain⟨v,h1,h2⟩:=hob.cell (k:=j) (by simpa only[aC.size]using hj');refine⟨v,by rw[bS];exact h1, ?_⟩;rw[gg,cJ xs hp.2 j hj'];exact h2.data (by intro cs;simp)
    ·cases h
   |bar l=>
    simp only[hl]at h;split at h
    ·rename_i h0;subst h0
     simp only[aq.injEq,bt.injEq]at h;obtain⟨rfl,rfl⟩:=h;refine⟨_,0,_,hv,rfl,by simpa using hp,fun j hj=> ?_⟩;obtain⟨v,h1,h2⟩:=hob.cell (k:=j) (by simp only[aC.size];omega);refine⟨v,by rw[bS];exact h1, ?_⟩
     have:(l.map SV.u8).getD j .undef= .u8 (l.getD j 0):=by simp only[aa,aR];rw[ac (by omega)];rfl
     rw[this];exact h2.data (by intro cs;simp)
    ·cases h
 |ap o sz i j=>
  have hv:=hu.ap_inv;simp only[iE]at h;cases hl:s.look o with
  |none=>simp[hl]at h
  |some obj=>
   have hob:=eT hM hl;cases obj with
   |rc cs=>simp[hl]at h
   |arr sz' xs=>
    simp only[hl,aq.injEq,bt.injEq]at h;obtain⟨rfl,rfl⟩:=h;obtain⟨rfl,hi,hj,hlen⟩:=hp;refine⟨_,_,_,hv,rfl,by rw[aY,aL];omega,fun k hk=> ?_⟩
    have hlt:i*sz+(j+k)<xs.length*sz:=by have:=aX sz (Nat.succ_le_of_lt hi);rw[dy]at this;omega
    obtain⟨v,h1,h2⟩:=hob.cell (k:=i*sz+(j+k)) (by simpa only[aC.size]using hlt);refine⟨v,by rw[ep];exact h1, ?_⟩;rw[gg,kh];have h3:=h2.data (by intro cs;simp);simp only[aC.cell]at h3
    rwa[show(i*sz+(j+k))/sz=i from by rw[cB,Nat.mul_add_div (by omega),xZ (by omega)];rfl,
     show(i*sz+(j+k)) % sz=j+k from by rw[cB,Nat.mul_add_mod,cx (by omega)]]at h3
   |bar l=>
    simp only[hl,aq.injEq,bt.injEq]at h;obtain⟨rfl,rfl⟩:=h;obtain⟨rfl,rfl,rfl,hi⟩:=hp;refine⟨_,_,_,hv,rfl,by simp,fun k hk=> ?_⟩;obtain rfl:k=0:=by omega
    obtain⟨v,h1,h2⟩:=hob.cell (k:=i) (by simpa only[aC.size]using hi);exact⟨v,by simpa using h1,h2.data (by intro cs;simp)⟩
 |_=>simp[iE]at h
end Go.Sy
namespace Go.Sy
variable [bf]
variable {P : Program} {C : Ctx} {x : Sit} {s : St} {a : Act} {w : World} {o : Oper} {so : SOp} {p : Prop} {c : SV}
theorem uE(hM:aN C x s a w){X:Operand}(ho:o.op= .move X\/o.op= .assign X)(hr:bz P o=some so)(hv:val s so=some (p,c)):cn P C o a w (s.put o.dst c):=by
 have hr':(bx P o.type X).map SOp.mov=some so:=by rcases ho with ho|ho<;>simpa only[bz,ho]using hr
 obtain⟨r,hra,rfl⟩:=ae.1 hr';simp only[val,aq.injEq,bt.injEq]at hv;obtain⟨_,rfl⟩:=hv;exact⟨a.eval X,w,x,.value (a.eval X),by rcases ho with ho|ho<;>simp only[execOp,ho]<;>rfl,.inl rfl,hM.put o.dst (aP hM hra)⟩
theorem EN(hM:aN C x s a w){t:TypeId}{X:Operand}(ho:o.op= .load t X)(hr:bz P o=some so)(hv:val s so=some (p,c))(hp:p):cn P C o a w (s.put o.dst c):=by
 simp only[bz,ho]at hr;split at hr<;>try (cases hr;done)
 rename_i n ag r hn hag hra;split at hr<;>try (cases hr;done)
 rename_i h1;cases hr;simp only[val]at hv;obtain⟨b,off,cs,hX,rfl,hc⟩:=lg hM (aP hM hra) hv hp;obtain⟨v,hrun,hrep⟩:=ox (P:=P) hc hn hag h1;refine cn.val hM (m:=Instr.loadAt t (a.eval X)) (by simp only[execOp,ho]) ?_ hrep;rw[hX];simp only[Instr.loadAt,Instr.sureAddr,az,aJ,aj];exact hrun
theorem rL(hM:aN C x s a w){X:Operand}(ho:o.op= .nilCheck X)(hr:bz P o=some so)(hv:val s so=some (p,c)):cn P C o a w (s.put o.dst c):=by
 simp only[bz,ho]at hr;obtain⟨r,hra,rfl⟩:=ae.1 hr;have hrep:=aP hM hra;simp only[val]at hv;cases hu:s.ev r with
 |ptr o' off=>rw[hu]at hv hrep;simp only[aq.injEq,bt.injEq]at hv;obtain⟨_,rfl⟩:=hv;exact⟨a.eval X,w,x,.value (a.eval X),by simp only[execOp,ho];rw[hrep.ptr_inv];rfl,.inl rfl,hM.put o.dst hrep⟩
 |ap o' sz i j=>rw[hu]at hv hrep;simp only[aq.injEq,bt.injEq]at hv;obtain⟨_,rfl⟩:=hv;exact⟨a.eval X,w,x,.value (a.eval X),by simp only[execOp,ho];rw[hrep.ap_inv];rfl,.inl rfl,hM.put o.dst hrep⟩
 |pp cs=>rw[hu]at hv hrep;simp only[aq.injEq,bt.injEq]at hv;obtain⟨_,rfl⟩:=hv;obtain⟨b,off,val,he,_⟩:=hrep.pp_inv;exact⟨a.eval X,w,x,.value (a.eval X),by simp only[execOp,ho];rw[he];rfl,.inl rfl,hM.put o.dst hrep⟩
 |fn f c1 c2=>rw[hu]at hv hrep;simp only[aq.injEq,bt.injEq]at hv;obtain⟨_,rfl⟩:=hv;obtain⟨v1,v2,he,_⟩:=hrep.fn_inv;exact⟨a.eval X,w,x,.value (a.eval X),by simp only[execOp,ho];rw[he];rfl,.inl rfl,hM.put o.dst hrep⟩
 |_=>rw[hu]at hv;simp at hv
theorem Cl(hM:aN C x s a w){op:BinOp}{t u:TypeId}{X Y:Operand}(ho:o.op= .binOp op t X Y u)(hr:bz P o=some so)(hns:∀ne n x y,so≠ .eqS ne n x y)(hv:val s so=some (p,c))(hp:p):cn P C o a w (s.put o.dst c):=by
 have hex:execOp a.eval o=(do pure (.value (<-(do eqGuard op t X Y (a.eval X) (a.eval Y);binOp op t (a.eval X) (a.eval Y):Sem Value)))):=by simp only[execOp,ho]
 simp only[bz,ho]at hr;split at hr<;>try (cases hr;done)
 ·rename_i x' y' hb hx hy
  have h1:=aP hM hx;have h2:=aP hM hy
  have key:∀ne:Bool,op=(if ne then .neq else .eql)->val s (.beq ne x' y')=some (p,c)->cn P C o a w (s.put o.dst c):=by
   intro ne hop hv;simp only[val]at hv;cases hu:s.ev x' with
   |bool b1=>
    cases hw:s.ev y' with
    |bool b2=>
     rw[hu,hw]at hv;rw[hu]at h1;rw[hw]at h2;simp only[aq.injEq,bt.injEq]at hv;obtain⟨_,rfl⟩:=hv;refine cn.val hM hex (u:= .bool (if ne then decide (b1≠b2)else decide (b1=b2))) ?_ (dG _);rw[h1.bool_inv,h2.bool_inv,show eqGuard op t X Y (.bool b1) (.bool b2)=pure ()from by cases op<;>rfl];simp only[az,aJ,aj];cases ne<;>simp only[aO,if_false,if_true]at hop<;>subst hop
     ·rw[run_eql_bool w t b1 b2 hb];cases b1<;>cases b2<;>rfl
     ·rw[run_neq_bool w t b1 b2 hb];cases b1<;>cases b2<;>rfl
    |_=>rw[hu,hw]at hv;simp at hv
   |_=>rw[hu]at hv;simp at hv
  split at hr<;>try (cases hr;done)
  ·cases hr;exact key false rfl hv
  ·cases hr;exact key true rfl hv
 case h_4=>
  exfalso;split at hr<;>try (cases hr;done)
  split at hr<;>try (cases hr;done)
  split at hr<;>first|(cases hr;done)|(cases hr;exact hns _ _ _ _ rfl)
 case h_5=>exfalso;split at hr<;>first|(cases hr;done)|(cases hr;simp[val]at hv)
 case h_6=>
  rename_i ms x' _ hd hx hy;have h1:=aP hM hx
  have key:∀ne:Bool,op=(if ne then .neq else .eql)->Y= .const .nilIface->val s (.isni ne x')=some (p,c)->cn P C o a w (s.put o.dst c):=by
   intro ne hop hY hv;simp only[val]at hv;cases hu:s.ev x' with
   |nili=>
    rw[hu]at hv h1;simp only[aq.injEq,bt.injEq]at hv;obtain⟨_,rfl⟩:=hv;refine cn.val hM hex (u:= .bool (!ne)) ?_ (dG _);have hYv:a.eval Y= .nilIface:=by rw[hY];rfl
    have hm:P.underlying t=some (.interface (P.methodsAt t)):=by rw[hd];simp[Program.methodsAt,hd]
    rw[h1.nili_inv,hYv]
    have hg:eqGuard op t X Y .nilIface .nilIface=pure ():=by subst hY;subst hop;cases ne<;>simp[eqGuard]
    rw[hg];simp only[az,aJ,aj];subst hop;cases ne
    ·simp only[aO,if_false];rw[run_eql_nil_nil w t hm];rfl
    ·simp only[if_true];rw[run_neq_nil_nil w t hm];rfl
   |_=>rw[hu]at hv;simp at hv
  split at hr<;>first|(cases hr;done)|(cases hr;exact key false rfl rfl hv)|(cases hr;exact key true rfl rfl hv)
 all_goals
  rename_i hx hy;cases hr;simp only[val]at hv;obtain⟨r,hrun,hrep⟩:=PI (P:=P) (w:=w) (t:=t) (X:=X) (Y:=Y) (aP hM hx) (aP hM hy) hv hp;exact cn.val hM hex hrun hrep
theorem EM(hM:aN C x s a w){op:UnOp}{t:TypeId}{X:Operand}(ho:o.op= .unOp op t X)(hr:bz P o=some so)(hv:val s so=some (p,c)):cn P C o a w (s.put o.dst c):=by
 simp only[bz,ho]at hr;obtain⟨r,hra,rfl⟩:=ae.1 hr;have hrep:=aP hM hra;simp only[val]at hv;obtain⟨c',hc',he⟩:=ae.1 hv;simp only[bt.injEq]at he;obtain⟨_,rfl⟩:=he;cases hu:s.ev r with
 |bool b=>rw[hu]at hc' hrep;cases op<;>simp only[wk,aq.injEq,reduceCtorEq]at hc';subst hc';exact cn.val hM (m:=Op.unary .not (a.eval X)) (by simp only[execOp,ho]) (by rw[hrep.bool_inv];rfl) (dG _)
 |int k n=>
  rw[hu]at hc' hrep;cases op<;>simp only[wk,aq.injEq,reduceCtorEq]at hc'<;>subst hc'
  ·exact cn.val hM (m:=Op.unary .neg (a.eval X)) (by simp only[execOp,ho]) (by rw[hrep.int_inv];rfl) (cO _ _)
  ·exact cn.val hM (m:=Op.unary .xor (a.eval X)) (by simp only[execOp,ho]) (by rw[hrep.int_inv];simp only[Op.unary,Op.intBits];rfl) (cO _ _)
 |_=>rw[hu]at hc';simp[wk]at hc'
theorem rM(hM:aN C x s a w){f:Go.Fn}{X Y:Array Operand}(ho:o.op= .makeFunc f X Y)(hr:bz P o=some so)(hv:val s so=some (p,c)):cn P C o a w (s.put o.dst c):=by
 cases f<;>simp only[bz,ho,reduceCtorEq]at hr;rename_i g;split at hr<;>try (cases hr;done)
 rename_i l1 l2 h1 h2;cases hr;simp only[val,aq.injEq,bt.injEq]at hv;obtain⟨_,rfl⟩:=hv
 have key:∀(l:List Operand)(r:List Arg),jm (bx P 0) l=some r->cj x (r.map s.ev) (l.map a.eval):=by
  intro l;induction l with
  |nil=>intro r h;simp only[jm]at h;cases h;exact⟨rfl,fun i hi=>by simp at hi⟩
  |cons q l ih=>
   intro r h;simp only[jm]at h;split at h<;>try (cases h;done)
   rename_i b r' hb hr';cases h;have h3:=ih _ hr';refine⟨by simpa using h3.1,fun i hi=> ?_⟩;cases i with
   |zero=>simpa using aP hM hb
   |succ i=>simpa using h3.2 i (by simpa using hi)
 have e1:=key _ _ h1;have e2:=key _ _ h2;refine cn.val hM (m:=Instr.makeFunc (.func g) (X.map a.eval) (Y.map a.eval)) (u:= .func (.func g) ⟨X.toList.map a.eval⟩ ⟨Y.toList.map a.eval⟩) (by simp only[execOp,ho]) ?_ ?_
 ·simp only[Instr.makeFunc,aJ]
  congr 2<;>(apply dY;simp)
 ·exact .fn g _ _ _ _ e1.1 e1.2 e2.1 e2.2
theorem uu(hM:aN C x s a w){X:Operand}{i:Nat}(ho:o.op= .extract X i)(hr:bz P o=some so)(hv:val s so=some (p,c))(hp:p):cn P C o a w (s.put o.dst c):=by
 simp only[bz,ho]at hr;obtain⟨r,hra,rfl⟩:=ae.1 hr;have hrep:=aP hM hra;simp only[val]at hv;cases hu:s.ev r with
 |tup vs=>
  rw[hu]at hv hrep;simp only[aq.injEq,bt.injEq]at hv;obtain⟨rfl,rfl⟩:=hv;obtain⟨us,he,hl⟩:=hrep.tup_inv;have hi:i<us.length:=by rw[<-hl.1];exact hp
  refine cn.val hM (m:=Instr.extract (a.eval X) i) (u:=us.getD i Go.undef) (by simp only[execOp,ho]) ?_ (hl.2 i hp);rw[he];simp[Instr.extract,hi,aa]
 |_=>rw[hu]at hv;simp at hv
theorem pO(hM:aN C x s a w){t:TypeId}{X:Operand}{i:Nat}(ho:o.op= .fieldAddr t X i)(hr:bz P o=some so)(hv:val s so=some (p,c)):cn P C o a w (s.put o.dst c):=by
 simp only[bz,ho]at hr;split at hr<;>try (cases hr;done)
 rename_i fs r hfs hra;split at hr<;>try (cases hr;done)
 rename_i f hf;split at hr<;>try (cases hr;done)
 rename_i n hn;split at hr
 ·cases hr
 rename_i hn0;cases hr;have hrep:=aP hM hra
 have run:∀b off,a.eval X= .pointer (some ⟨b,off,none⟩)->(Instr.fieldAt t (a.eval X) i).run P w= .ok (.pointer (some ⟨b,off+f.offset,none⟩)) w:=by intro b off he;rw[he];simp only[Instr.fieldAt,az,run_underlying hfs,aj,hf,Instr.sureAddr,aJ,fieldPlace,b9 hn,if_neg hn0,di]
 simp only[val]at hv;cases hu:s.ev r with
 |ptr o' off=>rw[hu]at hv hrep;simp only[aq.injEq,bt.injEq]at hv;obtain⟨_,rfl⟩:=hv;exact cn.val hM (by simp only[execOp,ho]) (run _ _ hrep.ptr_inv) (.ptr o' (off+f.offset))
 |ap o' sz i j=>rw[hu]at hv hrep;simp only[aq.injEq,bt.injEq]at hv;obtain⟨_,rfl⟩:=hv;refine cn.val hM (by simp only[execOp,ho]) (run _ _ hrep.ap_inv) ?_;rw[ep];exact .ap o' sz i (j+f.offset)
 |pp cs=>
  rw[hu]at hv hrep;simp only[aq.injEq,bt.injEq]at hv;obtain⟨_,rfl⟩:=hv;obtain⟨b,off,vl,he,hg,hh⟩:=hrep.pp_inv;refine cn.val hM (by simp only[execOp,ho]) (run _ _ he) (.dat _ _ (.pp _ b (off+f.offset) (fun j=>vl (f.offset+j)) ?_ ?_) trivial)
  ·intro j hj;rw[ep];exact hg _ (by simp only[aL]at hj;omega)
  ·intro j hj;rw[kh];exact hh _ (by simp only[aL]at hj;omega)
 |_=>rw[hu]at hv;simp at hv
theorem vi{cs:List SV}{vs:List Value}(h:cj x cs vs){t:TypeId}{n:Nat}{ag:Bool}{off:Nat}(hn:fd P t=some n)(hag:qc P t=some ag)(h1:(ag||n==1)=true)(hb:off+n<=cs.length):
 ∃v,(part t ⟨vs⟩ off).run P w= .ok v w/\Rep x (dC ag n (cs.drop off)) v:=by
 have hl:=h.1;cases ag with
 |true=>
  refine⟨.agg ⟨(vs.drop off).take n⟩, ?_, ?_⟩
  ·simp only[part,az,eE hag,aj,if_true,b9 hn,aJ]
   congr 2
   apply dY;simp
  ·simp only[dC,if_true]
   refine .agg _ _ (by simp;omega) fun i hi=> ?_
   have hi:i<n:=by simp only[ax]at hi;omega
   have:=h.get (off+i);simp only[aa,bC,if_pos hi,bi]at this ⊢;exact this
 |false=>
  simp at h1;subst h1;refine⟨vs.getD off Go.undef, ?_, ?_⟩
  ·simp only[part,az,eE hag,aj,aO,if_false]
   have:off<vs.length:=by omega
   simp[ac this,aa]
  ·simp only[dC,aO,if_false,kh,gx]
   exact h.get off
theorem Cj(hM:aN C x s a w){t:TypeId}{X:Operand}{i:Nat}(ho:o.op= .field t X i)(hr:bz P o=some so)(hv:val s so=some (p,c))(hp:p):cn P C o a w (s.put o.dst c):=by
 simp only[bz,ho]at hr;split at hr<;>try (cases hr;done)
 rename_i fs r hfs hra;split at hr<;>try (cases hr;done)
 rename_i f hf;split at hr<;>try (cases hr;done)
 rename_i n ag hn hag;split at hr<;>try (cases hr;done)
 rename_i h1;cases hr;have hrep:=aP hM hra;simp only[val]at hv;cases hu:s.ev r with
 |agg cs=>rw[hu]at hv hrep;simp only[aq.injEq,bt.injEq]at hv;obtain⟨rfl,rfl⟩:=hv;obtain⟨vs,he,hl⟩:=hrep.agg_inv;obtain⟨v,hrun,hc⟩:=vi (P:=P) (w:=w) hl hn hag h1 hp;refine cn.val hM (m:=Instr.field t (a.eval X) i) (by simp only[execOp,ho]) ?_ hc;rw[he];simp only[Instr.field,az,run_underlying hfs,aj,hf,asAgg,aJ];exact hrun
 |_=>rw[hu]at hv;simp at hv
theorem Gy{l:List UInt8}{t:Tok}{v:Value}(h:co x.G (.byt l t) v)(i:Nat)(hi:i<l.length):∃b off cap,v= .slice (some ⟨b,off,none⟩) l.length cap/\x.G b (off+i)=some (.int .u8 (l.getD i 0).toNat):=by
 cases h with
 |bytN=>simp at hi
 |bytE=>simp at hi
 |byt _ _ b off cap n hn hc h=>subst hn;exact⟨b,off,cap,rfl,h i hi⟩
theorem iL{u:SV}{v:Value}{n:Int}(h:Rep x u v)(hn:u.num=some n):∃k,v= .int k n:=by
 cases u<;>simp only[SV.num,aq.injEq,reduceCtorEq]at hn
 ·subst hn;exact⟨_,h.int_inv⟩
 ·subst hn;exact⟨_,h.u8_inv⟩
theorem pN(hM:aN C x s a w){t:TypeId}{X Y:Operand}(ho:o.op= .indexAddr t X Y)(hr:bz P o=some so)(hv:val s so=some (p,c))(hp:p):cn P C o a w (s.put o.dst c):=by
 have hex:execOp a.eval o=(do pure (.value (<-Instr.indexAt t (a.eval X) (a.eval Y)))):=by simp only[execOp,ho]
 simp only[bz,ho]at hr;split at hr<;>try (cases hr;done)
 ·rename_i e r q hd hra hrb
  split at hr<;>try (cases hr;done)
  rename_i n hn;cases hr;have h1:=aP hM hra;have h2:=aP hM hrb
  have run:∀(b:Nat)(off len cap:Nat)(k:IntKind)(i:Int),a.eval X= .slice (some ⟨b,off,none⟩) len cap->a.eval Y= .int k i->0<=i->i<len->(Instr.indexAt t (a.eval X) (a.eval Y)).run P w= .ok (.pointer (some ⟨b,off+i.toNat*n,none⟩)) w:=by intro b off len cap k i he hf h0 h3;rw[he,hf];simp only[Instr.indexAt,asIntOf,az,aJ,aj,run_underlying hd,if_pos (And.intro h0 h3),b9 hn,di]
  simp only[val]at hv;split at hv<;>try (cases hv;done)
  ·rename_i l tk i hu hw
   rw[hu]at h1;obtain⟨k,hk⟩:=iL h2 hw;simp only[aq.injEq,bt.injEq]at hv;obtain⟨rfl,rfl⟩:=hv;obtain⟨h0,h3,rfl⟩:=hp;obtain⟨b,off,cap,he,hg⟩:=Gy (h1.data rfl) i.toNat (by omega);refine cn.val hM hex (run b off l.length cap k i he hk h0 h3) (.dat _ _ (.pp _ b (off+i.toNat*1) (fun _=> .int .u8 (l.getD i.toNat 0).toNat) ?_ ?_) trivial)
   ·intro j hj
    obtain rfl:j=0:=by simpa using hj
    simpa using hg
   ·intro j hj
    obtain rfl:j=0:=by simpa using hj
    exact .u8 _
  ·rename_i sz' xs tk i hu hw
   rw[hu]at h1;obtain⟨k,hk⟩:=iL h2 hw;simp only[aq.injEq,bt.injEq]at hv;obtain⟨rfl,rfl⟩:=hv;obtain⟨h0,h3,rfl⟩:=hp;have hd1:=h1.data rfl;cases hXv:a.eval X with
   |slice ad len cap=>
    rw[hXv]at hd1;cases hd1 with
    |lstN=>simp at h3;omega
    |lstE=>simp at h3;omega
    |lst _ _ _ b off cap' n' vl hn' hc hl hg hh=>
     have hlt:i.toNat<len:=by omega
     have hlen:=hl _ hlt;refine cn.val hM hex (run b off len cap k i hXv hk h0 (by omega)) (.dat _ _ (.pp _ b (off+i.toNat*n) (fun j=>vl i.toNat j) ?_ ?_) trivial)
     ·intro j hj;exact hg _ _ hlt (by omega)
     ·intro j hj;exact hh _ _ hlt (by omega)
   |_=>rw[hXv]at hd1;cases hd1
  ·rename_i o' sz' off kk cp i hu hw
   rw[hu]at h1;obtain⟨k,hk⟩:=iL h2 hw;simp only[aq.injEq,bt.injEq]at hv;obtain⟨rfl,rfl⟩:=hv;obtain⟨h0,h3,rfl⟩:=hp;obtain⟨cp,hkc,_,off',he,hoff⟩:=h1.psl_inv;refine cn.val hM hex (run _ off' kk _ k i he hk h0 h3) ?_;rcases hoff with h'|rfl
   ·omega
   ·rw[<-bv]
    exact .ap o' n (off+i.toNat) 0
 ·rename_i kk e r q hd hra hrb
  split at hr<;>try (cases hr;done)
  rename_i n hn;cases hr;have h1:=aP hM hra;have h2:=aP hM hrb
  have run:∀(b:Nat)(off:Nat)(k:IntKind)(i:Int),a.eval X= .pointer (some ⟨b,off,none⟩)->a.eval Y= .int k i->0<=i->i<kk->(Instr.indexAt t (a.eval X) (a.eval Y)).run P w= .ok (.pointer (some ⟨b,off+i.toNat*n,none⟩)) w:=by intro b off k i he hf h0 h3;rw[he,hf];simp only[Instr.indexAt,asIntOf,Instr.sureAddr,az,aJ,aj,run_underlying hd,if_pos (And.intro h0 h3),b9 hn,di]
  simp only[val]at hv;split at hv<;>try (cases hv;done)
  ·rename_i o' off i hu hw
   rw[hu]at h1;obtain⟨k,hk⟩:=iL h2 hw;split at hv<;>try (cases hv;done)
   ·simp only[aq.injEq,bt.injEq]at hv;obtain⟨rfl,rfl⟩:=hv
    exact cn.val hM hex (run _ off k i h1.ptr_inv hk hp.1 hp.2) (.ptr o' _)
   ·split at hv<;>try (cases hv;done)
    rename_i h0;subst h0;simp only[aq.injEq,bt.injEq]at hv;obtain⟨rfl,rfl⟩:=hv;refine cn.val hM hex (run _ 0 k i h1.ptr_inv hk hp.1 hp.2) ?_;rw[bS];exact .ap o' n i.toNat 0
  ·rename_i cs i hu hw
   rw[hu]at h1;obtain⟨k,hk⟩:=iL h2 hw;simp only[aq.injEq,bt.injEq]at hv;obtain⟨rfl,rfl⟩:=hv;obtain⟨h0,h3,h4⟩:=hp;have hd1:=h1.data rfl;cases hXv:a.eval X with
   |pointer ad=>
    rw[hXv]at hd1;cases hd1 with
    |pp _ b off vl hg hh=>
     refine cn.val hM hex (run b off k i hXv hk h0 h3) (.dat _ _ (.pp _ b (off+i.toNat*n) (fun j=>vl (i.toNat*n+j)) ?_ ?_) trivial)
     ·intro j hj
      rw[aL]at hj;rw[ep];exact hg _ (by omega)
     ·intro j hj
      rw[aL]at hj;have:=hh (i.toNat*n+j) (by omega);simp only[aa,bi]at this ⊢;exact this
   |_=>rw[hXv]at hd1;cases hd1
theorem Ci(hM:aN C x s a w){t:TypeId}{X Y:Operand}(ho:o.op= .index t X Y)(hr:bz P o=some so)(hv:val s so=some (p,c))(hp:p):cn P C o a w (s.put o.dst c):=by
 have hex:execOp a.eval o=(do pure (.value (<-Instr.index t (a.eval X) (a.eval Y)))):=by simp only[execOp,ho]
 simp only[bz,ho]at hr;split at hr<;>try (cases hr;done)
 ·rename_i kk e r q hd hra hrb
  split at hr<;>try (cases hr;done)
  rename_i n ag hn hag;split at hr<;>try (cases hr;done)
  rename_i h1';cases hr;have h1:=aP hM hra;have h2:=aP hM hrb;simp only[val]at hv;split at hv<;>try (cases hv;done)
  rename_i cs i hu hw;rw[hu]at h1;obtain⟨k,hk⟩:=iL h2 hw;simp only[aq.injEq,bt.injEq]at hv;obtain⟨rfl,rfl⟩:=hv;obtain⟨h0,h3,h4⟩:=hp;obtain⟨vs,he,hl⟩:=h1.agg_inv;have hlt:i.toNat<kk:=by omega
  have hb:i.toNat*n+n<=cs.length:=by rw[h4];have:=aX n (Nat.succ_le_of_lt hlt);rw[dy]at this;exact this
  obtain⟨v,hrun,hc⟩:=vi (P:=P) (w:=w) hl hn hag h1' hb;refine cn.val hM hex ?_ hc;rw[he,hk];simp only[Instr.index,asIntOf,az,aJ,aj,run_underlying hd,if_pos (And.intro h0 h3),b9 hn];exact hrun
 ·rename_i r q hd hra hrb
  cases hr;have h1:=aP hM hra;have h2:=aP hM hrb;simp only[val]at hv;split at hv<;>try (cases hv;done)
  rename_i l i hu hw;rw[hu]at h1;obtain⟨k,hk⟩:=iL h2 hw;simp only[aq.injEq,bt.injEq]at hv;obtain⟨rfl,rfl⟩:=hv;refine cn.val hM hex (u:= .int .u8 (l.getD i.toNat 0).toNat) ?_ (nv _);rw[h1.str_inv,hk];have hlt:i.toNat<l.length:=by omega
  have hget:(ByteArray.mk ⟨l⟩)[i.toNat]? =some (l.getD i.toNat 0):=by rw[ByteArray.getElem?_lt' _ _ (by simpa[ByteArray.size]using hlt),aa,ac hlt];rfl
  simp only[Instr.index,asIntOf,az,aJ,aj,run_underlying hd,if_pos hp.1,hget]
end Go.Sy
namespace Go.Sy
variable [bf]
variable {P : Program} {C : Ctx} {x : Sit} {s : St} {a : Act} {w : World} {o : Oper} {so : SOp} {p : Prop} {c : SV}
theorem jC{k:IntKind}{i:Int}{y:Nat}{code:BoundsCode}(h0:0<=i)(h1:i<=y):(Instr.sliceBound (.int k i) y code).run P w= .ok i.toNat w:=by simp only[Instr.sliceBound,asIntOf,az,aJ,aj,if_pos (And.intro h0 h1)]
theorem rV{b:Bool}{len cp:Nat}{lo hi mx:Option Value}{i j m:Int}(h1:0<=i)(h2:i<=j)(h3:j<=m)(h4:m<=cp)
 (hlo:lo=none/\i=0\/∃k,lo=some (.int k i)) (hhi:hi=none/\j=len\/∃k,hi=some (.int k j)) (hmx:mx=none/\m=cp\/(∃k,mx=some (.int k m))/\hi≠none):
 (Instr.sliceBounds b len cp lo hi mx).run P w= .ok (i.toNat,j.toNat,m.toNat) w:=by
 rcases hmx with⟨rfl,rfl⟩|⟨⟨k,rfl⟩,hne⟩<;>rcases hhi with⟨rfl,rfl⟩|⟨k',rfl⟩<;>rcases hlo with⟨rfl,rfl⟩|⟨k'',rfl⟩
 all_goals try exact absurd rfl hne
 all_goals simp only[Instr.sliceBounds,az,aJ,aj]
 ·simp
 ·rw[jC h1 (by omega)];simp
 ·rw[jC (by omega) (by omega)];simp
 ·rw[jC (by omega) (by omega)];simp only[aj];rw[jC h1 (by omega)];simp
 ·rw[jC (by omega) (by omega)];simp only[aj];rw[jC (by omega) (by omega)];simp
 ·rw[jC (by omega) (by omega)];simp only[aj];rw[jC (by omega) (by omega)];simp only[aj];rw[jC h1 (by omega)];simp
theorem fN(hM:aN C x s a w){q:Option Operand}{r:Option Arg}{d i:Int}(hr:vk (bx P 0) q=some r)(h:iD s r d=some i):
 q.map a.eval=none/\i=d/\r=none\/(∃k,q.map a.eval=some (.int k i))/\r≠none:=by
 cases q with
 |none=>simp only[vk]at hr;cases hr;simp only[iD,aq.injEq]at h;exact .inl ⟨rfl,h.symm,rfl⟩
 |some q=>simp only[vk]at hr;obtain⟨r',hr',rfl⟩:=ae.1 hr;simp only[iD]at h;obtain⟨k,hk⟩:=iL (aP hM hr') h;exact .inr ⟨⟨k,by simp[hk]⟩,by simp⟩
theorem uN{sz:Nat}{base:Option Addr}{n cp:Nat}{i j m:Int}(h1:0<=i)(h2:i<=j)(h3:j<=m)(h4:m<=cp)(h5:j<=n){t:Tok}{hn mxs:Bool}
 (hsp:dt x sz t (.slice base n cp)) (hwhole:hn=true->mxs=false->j=n/\m=cp) (hclip:mxs=true->j=m):
 dt x sz (lm t hn mxs) (.slice (if m.toNat=i.toNat then base else base.map (·.add (i.toNat*sz))) (j.toNat-i.toNat) (m.toNat-i.toNat)):=by
 unfold lm;split
 ·rename_i hc
  exact⟨_,j.toNat-i.toNat,by rw[hclip hc]⟩
 ·rename_i hc
  split
  ·rename_i hh
   obtain⟨rfl,rfl⟩:=hwhole hh (by simpa using hc);cases t with
   |no=>trivial
   |clip=>obtain⟨b',n',he⟩:=hsp;simp only[Value.slice.injEq]at he;exact⟨_,_,by rw[he.2.1,he.2.2]⟩
   |id t=>
    obtain⟨b',n',cp',he,hh⟩:=hsp;simp only[Value.slice.injEq]at he;obtain⟨rfl,rfl,rfl⟩:=he;refine⟨_,_,_,rfl, ?_⟩;rcases hh with rfl|⟨bb,off,rfl,ht⟩
    ·exact .inl rfl
    ·by_cases hmi:cp=i.toNat
     ·left;omega
     ·right
      refine⟨bb,off+i.toNat*sz,by simp[hmi,di], ?_⟩;rw[ht];simp only[Int.toNat_natCast,bt.injEq,true_and];constructor
      ·rw[ep,<-bv];congr 2;omega
      ·rw[ep,<-bv];congr 2;omega
  ·trivial
theorem gO{α:Type}(l:List α)(i j k:Nat)(d:α)(h:k+i<j):((l.take j).drop i).getD k d=l.getD (i+k) d:=by simp only[aa,bi,bC];rw[if_pos (by omega)]
theorem ux(hM:aN C x s a w){t e:TypeId}{n:Nat}(hd:P.underlying t=some (.slice e))(hn:fd P e=some n){X:Operand}{lo hi mx:Option Operand}{lo' hi' mx':Option Arg}{r:Arg}
 (h1:Rep x (s.ev r) (a.eval X)) (hlo:vk (bx P 0) lo=some lo') (hhi:vk (bx P 0) hi=some hi') (hmx:vk (bx P 0) mx=some mx') (hmh:¬(mx'.isSome&&hi'.isNone)=true)
 (hv:jf s n (s.ev r) lo' hi' mx'=some (p,c)) (hp:p):∃v,(Instr.sliceAt t (a.eval X) (lo.map a.eval) (hi.map a.eval) (mx.map a.eval)).run P w= .ok v w/\Rep x c v:=by
 have run:∀(base:Option Addr)(len cp:Nat)(i j m:Int),a.eval X= .slice base len cp->0<=i->i<=j->j<=m->m<=cp->iD s lo' 0=some i->iD s hi' len=some j->
  (mx'=none->m=cp)->(mx'≠none->iD s mx' cp=some m)->
  (Instr.sliceAt t (a.eval X) (lo.map a.eval) (hi.map a.eval) (mx.map a.eval)).run P w= .ok (.slice (if m.toNat=i.toNat then base else base.map (·.add (i.toNat*n))) (j.toNat-i.toNat) (m.toNat-i.toNat)) w:=by
  intro base len cp i j m he h0 h2 h3 h4 hi1 hi2 hm1 hm2;rw[he];have e1:=fN hM hlo hi1;have e2:=fN hM hhi hi2
  have hb:(Instr.sliceBounds true len cp (lo.map a.eval) (hi.map a.eval) (mx.map a.eval)).run P w= .ok (i.toNat,j.toNat,m.toNat) w:=by
   refine rV h0 h2 h3 h4 ?_ ?_ ?_
   ·rcases e1 with⟨q1,q2,_⟩|⟨q1,_⟩
    ·exact .inl ⟨q1,q2⟩
    ·exact .inr q1
   ·rcases e2 with⟨q1,q2,_⟩|⟨q1,_⟩
    ·exact .inl ⟨q1,q2⟩
    ·exact .inr q1
   ·by_cases hmn:mx'=none
    ·subst hmn
     have:iD s none (cp:Int)=some (cp:Int):=rfl;rcases fN hM hmx this with⟨q1,q2,_⟩|⟨_,q2⟩
     ·exact .inl ⟨q1,hm1 rfl⟩
     ·exact absurd rfl q2
    ·rcases fN hM hmx (hm2 hmn)with⟨_,_,q⟩|⟨q1,_⟩
     ·exact absurd q hmn
     ·refine .inr ⟨q1, ?_⟩
      rcases e2 with⟨q1,_,q3⟩|⟨⟨k,q1⟩,_⟩
      ·exfalso;apply hmh;subst q3;cases mx' with
       |none=>exact absurd rfl hmn
       |some _=>rfl
      ·rw[q1];simp
  simp only[Instr.sliceAt,Instr.slice,az,run_underlying hd,aj,hb,b9 hn,aJ]
 cases hu:s.ev r with
 |byt l tk=>
  rw[hu]at hv h1;simp only[jf]at hv;split at hv<;>try (cases hv;done)
  rename_i i j m hi1 hi2 hi3;simp only[aq.injEq,bt.injEq]at hv;obtain⟨rfl,rfl⟩:=hv;obtain⟨q0,q1,q2,q3,rfl,q4⟩:=hp;obtain⟨base,cp,he,hc,hD,hsp⟩:=h1.byt_inv;rw[he]at hD hsp
  obtain⟨m',hm'1,hm'2,hm'3,hm'4⟩:∃m':Int,m'<=cp/\j<=m'/\(mx'=none->m'=cp)/\(mx'≠none->m'=m):=by
   by_cases hmn:mx'=none
   ·exact⟨cp,by omega,by omega,fun _=>rfl,fun h=>absurd hmn h⟩
   ·exact⟨m,by omega,q2,fun h=>absurd h hmn,fun _=>rfl⟩
  refine⟨_,run base l.length cp i j m' he q0 q1 hm'2 hm'1 hi1 hi2 hm'3 (fun h=> ?_), ?_⟩
  ·rw[hm'4 h];cases mx' with
   |none=>exact absurd rfl h
   |some q=>simpa only[iD]using hi3
  ·refine .dat _ _ ?_ ?_
   ·have hlen:((l.take j.toNat).drop i.toNat).length=j.toNat-i.toNat:=by rw[aL,ax,fi (by omega)]
    cases hD with
    |bytN=>
     have:i.toNat=0/\j.toNat=0/\m'.toNat=0:=by simp at q3;omega
     obtain⟨z1,z2,z3⟩:=this;simp only[z1,z2,z3,List.take_nil,List.drop_nil,Option.map_none,ite_self];exact .bytN _
    |bytE _ ad=>
     have:i.toNat=0/\j.toNat=0/\m'.toNat=0:=by simp at q3;omega
     obtain⟨z1,z2,z3⟩:=this;simp only[z1,z2,z3,List.take_nil,List.drop_nil,if_true];exact .bytE _ _
    |byt _ _ b off _ _ hn' hc' hg=>
     by_cases hmi:m'.toNat=i.toNat
     ·rw[if_pos hmi]
      exact .byt _ _ b off _ _ hlen.symm (by omega) (fun k hk=>by omega)
     ·rw[if_neg hmi,bp,di]
      refine .byt _ _ b (off+i.toNat*1) _ _ hlen.symm (by omega) (fun k hk=> ?_);rw[gO _ _ _ _ _ (by omega),iJ,ep];exact hg _ (by omega)
   ·refine uN q0 q1 hm'2 hm'1 (by omega) hsp ?_ ?_
    ·intro hh hx
     have hmn:mx'=none:=by cases mx' with|none=>rfl|some _=>simp at hx
     have hhn:hi'=none:=by cases hi' with|none=>rfl|some _=>simp at hh
     subst hhn;simp only[iD,aq.injEq]at hi2;exact⟨hi2.symm,hm'3 hmn⟩
    ·intro hx
     have hmn:mx'≠none:=by rintro rfl;simp at hx
     rw[hm'4 hmn];exact q4 hx
 |lst sz' l tk=>
  rw[hu]at hv h1;simp only[jf]at hv;split at hv<;>try (cases hv;done)
  rename_i i j m hi1 hi2 hi3;simp only[aq.injEq,bt.injEq]at hv;obtain⟨rfl,rfl⟩:=hv;obtain⟨q0,q1,q2,q3,rfl,q4⟩:=hp;obtain⟨base,cp,he,hc,hD,hsp⟩:=h1.lst_inv;rw[he]at hD hsp
  obtain⟨m',hm'1,hm'2,hm'3,hm'4⟩:∃m':Int,m'<=cp/\j<=m'/\(mx'=none->m'=cp)/\(mx'≠none->m'=m):=by
   by_cases hmn:mx'=none
   ·exact⟨cp,by omega,by omega,fun _=>rfl,fun h=>absurd hmn h⟩
   ·exact⟨m,by omega,q2,fun h=>absurd h hmn,fun _=>rfl⟩
  refine⟨_,run base l.length cp i j m' he q0 q1 hm'2 hm'1 hi1 hi2 hm'3 (fun h=> ?_), ?_⟩
  ·rw[hm'4 h];cases mx' with
   |none=>exact absurd rfl h
   |some q=>simpa only[iD]using hi3
  ·refine .dat _ _ ?_ ?_
   ·have hlen:((l.take j.toNat).drop i.toNat).length=j.toNat-i.toNat:=by rw[aL,ax,fi (by omega)]
    cases hD with
    |lstN=>
     have:i.toNat=0/\j.toNat=0/\m'.toNat=0:=by simp at q3;omega
     obtain⟨z1,z2,z3⟩:=this;simp only[z1,z2,z3,List.take_nil,List.drop_nil,Option.map_none,ite_self];exact .lstN _ _
    |lstE _ _ ad=>
     have:i.toNat=0/\j.toNat=0/\m'.toNat=0:=by simp at q3;omega
     obtain⟨z1,z2,z3⟩:=this;simp only[z1,z2,z3,List.take_nil,List.drop_nil,if_true];exact .lstE _ _ _
    |lst _ _ _ b off _ _ vl hn' hc' hl hg hh=>
     by_cases hmi:m'.toNat=i.toNat
     ·rw[if_pos hmi]
      exact .lst _ _ _ b off _ _ vl hlen.symm (by omega) (fun k hk=>by omega) (fun k j' hk hj=>by omega) (fun k j' hk hj=>by omega)
     ·rw[if_neg hmi,bp,di]
      refine .lst _ _ _ b (off+i.toNat*n) _ _ (fun k j'=>vl (i.toNat+k) j') hlen.symm (by omega) (fun k hk=> ?_) (fun k j' hk hj=> ?_) (fun k j' hk hj=> ?_)
      ·rw[gO _ _ _ _ _ (by omega)];exact hl _ (by omega)
      ·rw[show off+i.toNat*n+k*n+j'=off+(i.toNat+k)*n+j' from by rw[bv];omega]
       exact hg _ _ (by omega) hj
      ·rw[gO _ _ _ _ _ (by omega)];exact hh _ _ (by omega) hj
   ·refine uN q0 q1 hm'2 hm'1 (by omega) hsp ?_ ?_
    ·intro hh hx
     have hmn:mx'=none:=by cases mx' with|none=>rfl|some _=>simp at hx
     have hhn:hi'=none:=by cases hi' with|none=>rfl|some _=>simp at hh
     subst hhn;simp only[iD,aq.injEq]at hi2;exact⟨hi2.symm,hm'3 hmn⟩
    ·intro hx
     have hmn:mx'≠none:=by rintro rfl;simp at hx
     rw[hm'4 hmn];exact q4 hx
 |psl o' sz' off k cp0=>
  cases cp0 with
  |none=>
   rw[hu]at hv h1;simp only[jf]at hv;split at hv<;>try (cases hv;done)
   rename_i i j hi1 hi2;simp only[aq.injEq,bt.injEq]at hv;obtain⟨rfl,rfl⟩:=hv;obtain⟨q0,q1,q2,rfl⟩:=hp;obtain⟨cp,hkc,off',he,hoff,hkk⟩:=h1.psl_invK;refine⟨_,run _ k cp i j cp he q0 q1 (by omega) (by omega) hi1 hi2 (fun _=>rfl) (fun h=>absurd rfl h), ?_⟩
   by_cases hmi:(cp:Int).toNat=i.toNat
   ·rw[if_pos hmi]
    exact .psl o' n _ _ _ off' _ (.inl (by omega)) (by omega) (fun _ e=>by cases e) (fun _=> .inl (by omega))
   ·rw[if_neg hmi,bp,di]
    refine .psl o' n _ _ _ _ _ (.inr ?_) (by omega) (fun _ e=>by cases e) (fun _=>hkk.imp (fun h=>by omega) fun k1=> ?_)
    rotate_left
    ·have e2:i.toNat*n+((cp:Int).toNat-i.toNat)*n=cp*n:=by rw[<-bv];congr 1;omega
     omega
    rcases hoff with h'|rfl
    ·omega
    ·rw[bv]
  |some cp1=>
   rw[hu]at hv h1;simp only[jf]at hv;split at hv<;>try (cases hv;done)
   rename_i i j m hi1 hi2 hi3;simp only[aq.injEq,bt.injEq]at hv;obtain⟨rfl,rfl⟩:=hv;obtain⟨q0,q1,q2,q3,rfl⟩:=hp;obtain⟨cp,hkc,hcc,off',he,hoff⟩:=h1.psl_inv;obtain rfl:=hcc _ rfl;refine⟨_,run _ k cp1 i j m he q0 q1 q2 q3 hi1 hi2 (fun h=> ?_) (fun _=>hi3), ?_⟩
   ·subst h;simp only[iD,aq.injEq]at hi3;exact hi3.symm
   ·by_cases hmi:m.toNat=i.toNat
    ·rw[if_pos hmi]
     exact .psl o' n _ _ _ off' _ (.inl (by omega)) (by omega) (fun _ e=>by cases e;rfl) (fun e=>by cases e)
    ·rw[if_neg hmi,bp,di]
     refine .psl o' n _ _ _ _ _ (.inr ?_) (by omega) (fun _ e=>by cases e;rfl) (fun e=>by cases e);rcases hoff with h'|rfl
     ·omega
     ·rw[bv]
 |_=>rw[hu]at hv;simp[jf]at hv
end Go.Sy
namespace Go.Sy
variable [bf]
variable {P : Program} {C : Ctx} {x : Sit} {s : St} {a : Act} {w : World} {o : Oper} {so : SOp} {p : Prop} {c : SV}
theorem zU(l:List UInt8)(i j:Nat):(ByteArray.mk ⟨l⟩).extract i j=ByteArray.mk ⟨(l.take j).drop i⟩:=by apply ByteArray.ext;simp[ByteArray.data_extract,List.extract_eq_take_drop,List.drop_take]
theorem Ch(hM:aN C x s a w){t:TypeId}{X:Operand}{lo hi mx:Option Operand}(ho:o.op= .slice t X lo hi mx)(hr:bz P o=some so)(hv:val s so=some (p,c))(hp:p):cn P C o a w (s.put o.dst c):=by
 have hex:execOp a.eval o=(do pure (.value (<-Instr.sliceAt t (a.eval X) (lo.map a.eval) (hi.map a.eval) (mx.map a.eval)))):=by simp only[execOp,ho]
 simp only[bz,ho]at hr;split at hr<;>try (cases hr;done)
 rename_i lo' hi' mx' r hlo hhi hmx hX;split at hr
 ·cases hr
 rename_i hmh;split at hr<;>try (cases hr;done)
 ·rename_i hd
  split at hr<;>try (cases hr;done)
  rename_i hmn;cases hr;have h1:=aP hM hX;simp only[val]at hv;cases hu:s.ev r with
  |str l=>
   rw[hu]at hv h1;simp only[]at hv;split at hv<;>try (cases hv;done)
   rename_i i j hi1 hi2;simp only[aq.injEq,bt.injEq]at hv;obtain⟨rfl,rfl⟩:=hv;obtain⟨q0,q1,q2⟩:=hp;refine cn.val hM hex (u:= .string ⟨⟨(l.take j.toNat).drop i.toNat⟩⟩) ?_ (ku _);have e1:=fN hM hlo hi1;have e2:=fN hM hhi hi2
   have hmx':mx.map a.eval=none:=by
    cases mx with
    |none=>rfl
    |some q=>simp only[vk]at hmx;obtain⟨_,_,rfl⟩:=ae.1 hmx;simp at hmn
   have hb:(Instr.sliceBounds false l.length l.length (lo.map a.eval) (hi.map a.eval) none).run P w= .ok (i.toNat,j.toNat,(l.length:Int).toNat) w:=
    rV q0 q1 q2 (by omega) (e1.imp (fun h=>⟨h.1,h.2.1⟩) (fun h=>h.1)) (e2.imp (fun h=>⟨h.1,h.2.1⟩) (fun h=>h.1)) (.inl ⟨rfl,rfl⟩)
   rw[h1.str_inv,hmx'];have hsz:(ByteArray.mk ⟨l⟩).size=l.length:=by simp[ByteArray.size]
   simp only[Instr.sliceAt,Instr.slice,az,run_underlying hd,aj,hsz,hb,zU,Option.isSome_none,aO,if_false,aJ]
  |_=>rw[hu]at hv;simp at hv
 ·rename_i e hd
  split at hr<;>try (cases hr;done)
  rename_i n hn;cases hr;simp only[val]at hv;obtain⟨v,hrun,hc⟩:=ux hM hd hn (aP hM hX) hlo hhi hmx hmh hv hp;exact cn.val hM hex hrun hc
 ·rename_i k e hd
  split at hr<;>try (cases hr;done)
  rename_i n hn;cases hr;have h1:=aP hM hX;simp only[val]at hv;split at hv<;>try (cases hv;done)
  rename_i o' hu;rw[hu]at h1;simp only[jf]at hv;split at hv<;>try (cases hv;done)
  rename_i i j m hi1 hi2 hi3;simp only[aq.injEq,bt.injEq]at hv;obtain⟨rfl,rfl⟩:=hv;obtain⟨q0,q1,q2,q3,_⟩:=hp;have e1:=fN hM hlo hi1;have e2:=fN hM hhi hi2;have e3:=fN hM hmx hi3
  have hb:(Instr.sliceBounds false k k (lo.map a.eval) (hi.map a.eval) (mx.map a.eval)).run P w= .ok (i.toNat,j.toNat,m.toNat) w:=by
   refine rV q0 q1 q2 q3 (e1.imp (fun h=>⟨h.1,h.2.1⟩) (fun h=>h.1)) (e2.imp (fun h=>⟨h.1,h.2.1⟩) (fun h=>h.1)) ?_;rcases e3 with h|⟨h,h'⟩
   ·exact .inl ⟨h.1,h.2.1⟩
   ·refine .inr ⟨h, ?_⟩
    rcases e2 with⟨_,_,q⟩|⟨⟨_,q⟩,_⟩
    ·exfalso;apply hmh;subst q;cases mx' with
     |none=>exact absurd rfl h'
     |some _=>rfl
    ·rw[q];simp
  refine cn.val hM hex (u:= .slice (some (if m.toNat=i.toNat then⟨(x.bk o').1,0,none⟩else(⟨(x.bk o').1,0,none⟩:Addr).add (i.toNat*n))) (j.toNat-i.toNat) (m.toNat-i.toNat)) ?_ ?_
  ·rw[h1.ptr_inv]
   simp only[Instr.sliceAt,Instr.sureAddr,az,run_underlying hd,aj,hb,b9 hn,aJ]
  ·by_cases hmi:m.toNat=i.toNat
   ·rw[if_pos hmi]
    exact .psl o' n _ _ _ 0 _ (.inl (by omega)) (by omega) (fun _ e=>by cases e;rfl) (fun e=>by cases e)
   ·rw[if_neg hmi,di]
    exact .psl o' n _ _ _ _ _ (.inr (by rw[bS,bS])) (by omega) (fun _ e=>by cases e;rfl) (fun e=>by cases e)
theorem fH{cl:Call}{b:Builtin}(ho:o.op= .call cl)(hb:cl.callee= .builtin b)(m:Sem Value)
 (hm:builtin b cl.argTypes o.type (cl.args.map fun| .const _=>true|_=>false) (cl.args.map a.eval)=(do pure (.value (<-m)))):execOp a.eval o=(do pure (.value (<-m))):=by
 rw[<-hm];simp only[execOp,ho,resolve,hb];rfl
theorem O3(hM:aN C x s a w){cl:Call}(ho:o.op= .call cl)(hb:cl.callee= .builtin .cap)(hr:bz P o=some so)(hv:val s so=some (p,c)):cn P C o a w (s.put o.dst c):=by
 simp only[bz,ho,hb]at hr;split at hr<;>try (cases hr;done)
 rename_i X t hX ht;split at hr<;>try (cases hr;done)
 rename_i e r hd hra;cases hr;have h1:=aP hM hra;have ea:cl.args= #[X]:=by apply dY;simpa using hX
 have et:cl.argTypes= #[t]:=by apply dY;simpa using ht
 have run:∀(bs:Option Addr)(n cp:Nat),a.eval X= .slice bs n cp->(Builtin.cap_ cl.argTypes o.type (cl.args.map a.eval)).run P w= .ok (.int .i64 cp) w:=by intro bs n cp he;rw[ea,et];simp[Builtin.cap_,run_underlying hd,he,goInt]
 simp only[val]at hv;split at hv<;>try (cases hv;done)
 ·rename_i o' sz off n cp hu
  rw[hu]at h1;simp only[aq.injEq,bt.injEq]at hv;obtain⟨rfl,rfl⟩:=hv;obtain⟨cp,_,hcc,off',he,_⟩:=h1.psl_inv;obtain rfl:=hcc _ rfl;exact cn.val hM (fH ho hb _ rfl) (run _ _ _ he) (cO _ _)
 ·rename_i l hu
  rw[hu]at h1;simp only[aq.injEq,bt.injEq]at hv;obtain⟨rfl,rfl⟩:=hv;obtain⟨b',cp,he,_,_,b'',n'',hcl⟩:=h1.byt_inv;rw[he]at hcl;simp only[Value.slice.injEq]at hcl;rw[show cp=l.length from by omega]at he;exact cn.val hM (fH ho hb _ rfl) (run _ _ _ he) (cO _ _)
 ·rename_i sz l hu
  rw[hu]at h1;simp only[aq.injEq,bt.injEq]at hv;obtain⟨rfl,rfl⟩:=hv;obtain⟨b',cp,he,_,_,b'',n'',hcl⟩:=h1.lst_inv;rw[he]at hcl;simp only[Value.slice.injEq]at hcl;rw[show cp=l.length from by omega]at he;exact cn.val hM (fH ho hb _ rfl) (run _ _ _ he) (cO _ _)
theorem O1(hM:aN C x s a w){cl:Call}(ho:o.op= .call cl)(hb:cl.callee= .builtin .len)(hr:bz P o=some so)(hv:val s so=some (p,c)):cn P C o a w (s.put o.dst c):=by
 simp only[bz,ho,hb]at hr;split at hr<;>try (cases hr;done)
 rename_i X t hX ht;have ea:cl.args= #[X]:=by apply dY;simpa using hX
 have et:cl.argTypes= #[t]:=by apply dY;simpa using ht
 split at hr<;>try (cases hr;done)
 ·rename_i r hd hra
  cases hr;have h1:=aP hM hra;simp only[val]at hv;cases hu:s.ev r with
  |str l=>
   rw[hu]at hv h1;simp only[jE,if_true,aq.injEq,bt.injEq]at hv;obtain⟨_,rfl⟩:=hv;refine cn.val hM (fH ho hb _ rfl) (u:= .int .i64 l.length) ?_ (cO _ _);rw[ea,et];have hsz:(ByteArray.mk ⟨l⟩).size=l.length:=by simp[ByteArray.size]
   simp only[Builtin.len_,List.map_toArray,aF,bX,cU,List.getElem?_cons_zero,az,run_underlying hd,aj,h1.str_inv,hsz,goInt];rfl
  |_=>rw[hu]at hv;simp[jE]at hv
 ·rename_i e r hd hra
  cases hr;have h1:=aP hM hra;simp only[val]at hv
  have run:∀(bs:Option Addr)(n cp:Nat),a.eval X= .slice bs n cp->(Builtin.len_ cl.argTypes o.type (cl.args.map a.eval)).run P w= .ok (.int .i64 n) w:=by intro bs n cp he;rw[ea,et];simp only[Builtin.len_,List.map_toArray,aF,bX,cU,List.getElem?_cons_zero,az,run_underlying hd,aj,he,goInt];rfl
  cases hu:s.ev r with
  |byt l tk=>rw[hu]at hv h1;simp only[jE,aO,if_false,aq.injEq,bt.injEq]at hv;obtain⟨_,rfl⟩:=hv;obtain⟨b',cp,he,_⟩:=h1.byt_inv;exact cn.val hM (fH ho hb _ rfl) (run _ _ _ he) (cO _ _)
  |lst sz l tk=>rw[hu]at hv h1;simp only[jE,aO,if_false,aq.injEq,bt.injEq]at hv;obtain⟨_,rfl⟩:=hv;obtain⟨b',cp,he,_⟩:=h1.lst_inv;exact cn.val hM (fH ho hb _ rfl) (run _ _ _ he) (cO _ _)
  |psl o' sz off n cp=>rw[hu]at hv h1;simp only[jE,aO,if_false,aq.injEq,bt.injEq]at hv;obtain⟨_,rfl⟩:=hv;obtain⟨cp,_,hcc,off',he,_⟩:=h1.psl_inv;exact cn.val hM (fH ho hb _ rfl) (run _ _ _ he) (cO _ _)
  |_=>rw[hu]at hv;simp[jE]at hv
 ·rename_i n e r hd hra
  cases hr;simp only[val,aq.injEq,bt.injEq]at hv;obtain⟨_,rfl⟩:=hv;refine cn.val hM (fH ho hb _ rfl) (u:= .int .i64 n) ?_ (cO _ _);rw[ea,et];simp only[Builtin.len_,List.map_toArray,aF,bX,cU,List.getElem?_cons_zero,az,run_underlying hd,aj,goInt];rfl
 ·rename_i arr r hd hra
  split at hr<;>try (cases hr;done)
  rename_i n e hd2;cases hr;simp only[val,aq.injEq,bt.injEq]at hv;obtain⟨_,rfl⟩:=hv;refine cn.val hM (fH ho hb _ rfl) (u:= .int .i64 n) ?_ (cO _ _);rw[ea,et];simp only[Builtin.len_,List.map_toArray,aF,bX,cU,List.getElem?_cons_zero,az,run_underlying hd,run_underlying hd2,aj,goInt];rfl
theorem nM(hM:aN C x s a w){cl:Call}(ho:o.op= .call cl)(hb:cl.callee= .builtin .min\/cl.callee= .builtin .max)(hr:bz P o=some so)(hv:val s so=some (p,c)):cn P C o a w (s.put o.dst c):=by
 rcases hb with hb|hb
 all_goals
  simp only[bz,ho,hb]at hr;split at hr<;>try (cases hr;done)
  rename_i X Y t u hX ht;split at hr<;>try (cases hr;done)
  rename_i r q hra hrb;cases hr;have h1:=aP hM hra;have h2:=aP hM hrb;have ea:cl.args= #[X,Y]:=by apply dY;simpa using hX
  simp only[val]at hv;split at hv<;>try (cases hv;done)
  rename_i k m k' n hu hw;rw[hu]at h1;rw[hw]at h2;split at hv<;>try (cases hv;done)
  rename_i hk;subst hk;simp only[aq.injEq,bt.injEq]at hv;obtain⟨_,rfl⟩:=hv;refine cn.val hM (fH ho hb _ rfl) ?_ (cO _ _);rw[ea,show(#[X,Y].map a.eval)= #[.int k m,.int k n]from by simp[h1.int_inv,h2.int_inv]]
  first
   |exact run_min_int2 w _ _ _ _ _ _
   |rw[run_max_int2 w _ _ _ _ _ _]
end Go.Sy
namespace Go.Sy
variable [bf]
variable {P : Program} {C : Ctx} {x : Sit} {s : St} {a : Act} {w : World} {o : Oper} {so : SOp} {p : Prop} {c : SV}
theorem i6{e:TypeId}(h:lj P e=true):P.underlying e=some (.int .u8):=by
 unfold lj at h;split at h
 ·assumption
 ·cases h
theorem Pa(k:IntKind)(b:UInt8)(h1:k≠ .i8)(h2:k≠ .u8):k.wrap (b.toNat:Int)=b.toNat:=by have:=m6 b;cases k<;>simp[IntKind.wrap,IntKind.bits,IntKind.signed]at* <;>omega
theorem xz(ns:List UInt8):∀(s:ByteArray),(ns.map fun b=>(b.toNat:Int)).foldl (fun r n=>r.push (gw n.toNat)) s=⟨⟨s.data.toList++ns⟩⟩:=by
 induction ns with
 |nil=>intro s;simp
 |cons b r ih=>intro s;simp only[aF,dO];rw[ih];simp[ByteArray.push]
theorem Ab{bs:Value}{l:List UInt8}{src dst e:TypeId}(hs:P.underlying src=some (.slice e))(he:P.underlying e=some (.int .u8))(hd:P.underlying dst=some .string)
 (h:((∃a,bs= .slice a 0 0)/\l=[])\/∃b off cap,bs= .slice (some ⟨b,off,none⟩) l.length cap/\∀i,i<l.length->w.cell? ⟨b,off+i,none⟩=some (.int .u8 (l.getD i 0).toNat)):
 (convert src dst bs).run P w= .ok (.string ⟨⟨l⟩⟩) w:=by
 rcases h with⟨⟨a,rfl⟩,rfl⟩|⟨b,off,cap,rfl,hc⟩
 ·rw[run_convert_bytes_string w src dst e _ _ _ hs he hd];cases a<;>rfl
 ·rw[run_convert_bytes_string w src dst e _ _ _ hs he hd]
  have hl:(loadCells ⟨b,off,none⟩ l.length).run P w= .ok ((l.map fun b=>(b.toNat:Int)).map (Value.int .u8)).toArray w:=by
   rw[run_loadCells w _ _ (fun i=> .int .u8 (l.getD i 0).toNat) (fun j hj=>by rw[di];exact hc j hj)]
   congr 2
   apply List.ext_getElem?;intro i
   by_cases hi:i<l.length
   ·simp[hi,aa]
   ·simp[hi]
  rw[run_bytesToString w _ _ _ _ hl,xz];rfl
theorem gv(w:World)(cs:Array Value)(e:TypeId):((w.alloc (.cells cs e (0,0))).freeze ⟨w.heap.size,cs.size,none⟩ 1).heap=(w.alloc (.cells cs e (cs.size,cs.size+1))).heap:=by
 apply Array.ext_getElem?;intro i;simp only[World.freeze,Nat.one_ne_zero,if_false,World.alloc,Array.getElem?_modify,Array.getElem?_push]
 by_cases h:w.heap.size=i
 ·subst h;simp
 ·rw[if_neg h]
  have:¬i=w.heap.size:=fun e=>h e.symm
  simp[this]
theorem ez{b n:Nat}{e:TypeId}{off:Nat}(h:w.shape? b=some (e,n)):(markStringish ⟨b,off,none⟩).run P w= .ok () (w.freeze ⟨b,n,none⟩ 1):=by simp only[markStringish,az,run_shape,aj,h,run_freeze]
theorem uv(hM:aN C x s a w){src dst:TypeId}{X:Operand}(ho:o.op= .convert src dst X)(hr:bz P o=some so)(hv:val s so=some (p,c))(hp:p):cn P C o a w (s.put o.dst c):=by
 have hex:execOp a.eval o=(do pure (.value (<-convert src dst (a.eval X)))):=by simp only[execOp,ho]
 simp only[bz,ho]at hr;split at hr<;>try (cases hr;done)
 ·rename_i k0 k r hs hd hra
  cases hr;have h1:=aP hM hra;simp only[val]at hv;obtain⟨c',hc',he⟩:=ae.1 hv;simp only[bt.injEq]at he;obtain⟨_,rfl⟩:=he
  have run:∀k1 n,a.eval X= .int k1 n->(convert src dst (a.eval X)).run P w= .ok (.int k (k.wrap n)) w:=by intro k1 n he;rw[he];simp[convert,run_underlying hs,run_underlying hd,Conv.intToInt]
  cases hu:s.ev r with
  |int k1 n=>
   rw[hu]at hc' h1;refine cn.val hM hex (run k1 n h1.int_inv) ?_
   cases k<;>simp only[gT,aq.injEq]at hc'<;>subst hc'<;>first
    |exact cO _ _
    |(rw[fR,<-uB];exact nv _)
  |u8 b=>
   rw[hu]at hc' h1;refine cn.val hM hex (run .u8 b.toNat h1.u8_inv) ?_
   cases k<;>simp only[gT,aq.injEq,reduceCtorEq]at hc'<;>subst hc'<;>first
    |(rw[Pa _ _ (by decide) (by decide)];exact cO _ _)
    |(rw[fR,Int.emod_eq_of_lt (by omega) (by have:=m6 b;omega)];exact nv _)
  |_=>rw[hu]at hc';simp[gT]at hc'
 ·rename_i r hs hd hra
  cases hr;have h1:=aP hM hra;simp only[val]at hv;cases hu:s.ev r with
  |str l=>rw[hu]at hv h1;simp only[aq.injEq,bt.injEq]at hv;obtain⟨_,rfl⟩:=hv;refine cn.val hM hex (u:= .string ⟨⟨l⟩⟩) ?_ (ku _);rw[h1.str_inv];simp[convert,run_underlying hs,run_underlying hd]
  |_=>rw[hu]at hv;simp at hv
 ·rename_i e r hs hd hra
  split at hr<;>try (cases hr;done)
  rename_i h8;have he:=i6 h8;cases hr;have h1:=aP hM hra;simp only[val]at hv;cases hu:s.ev r with
  |byt l tk=>
   rw[hu]at hv h1;simp only[xO,aq.injEq,bt.injEq]at hv;obtain⟨_,rfl⟩:=hv;refine cn.val hM hex (Ab hs he hd ?_) (ku _);have hD:=h1.data rfl;cases hXv:a.eval X with
   |slice ad n cp=>
    rw[hXv]at hD;cases hD with
    |bytN=>exact .inl ⟨⟨_,rfl⟩,rfl⟩
    |bytE=>exact .inl ⟨⟨_,rfl⟩,rfl⟩
    |byt _ _ b off _ _ hn hc hg=>subst hn;exact .inr ⟨b,off,cp,rfl,fun i hi=>hM.heap.per _ _ _ (hg i hi)⟩
   |_=>rw[hXv]at hD;cases hD
  |psl o' sz off n cp=>
   rw[hu]at hv h1;simp only[xO]at hv;cases hl:s.look o' with
   |none=>simp[hl]at hv
   |some obj=>
    cases obj with
    |bar l=>
     simp only[hl,aq.injEq,bt.injEq]at hv;obtain⟨rfl,rfl⟩:=hv;obtain⟨hp0,hp1⟩:=hp;obtain⟨cp,hnc,_,off',he',hoff⟩:=h1.psl_inv;have hlen:((l.drop off).take n).length=n:=by simp;omega
     refine cn.val hM hex (Ab hs he hd (.inr ⟨(x.bk o').1,off',cp,by rw[hlen];exact he',fun i hi=> ?_⟩)) (ku _);rw[hlen]at hi
     have hoff':off'=off:=by
      rcases hoff with h|h
      ·omega
      ·rw[hp0,iJ]at h;exact h
     subst hoff';obtain⟨v,h2,h3⟩:=(eT hM hl).cell (k:=off'+i) (by simp only[aC.size];omega);rw[h2];have h4:co x.G (.u8 (l.getD (off'+i) 0)) v:=h3;cases h4;simp only[aa,bC,if_pos hi,bi]
    |_=>simp[hl]at hv
  |_=>rw[hu]at hv;simp[xO]at hv
 ·rename_i e r hs hd hra
  split at hr<;>try (cases hr;done)
  rename_i h8;have he:=i6 h8;cases hr;have h1:=aP hM hra;simp only[val]at hv;cases hu:s.ev r with
  |str l=>
   rw[hu]at hv h1;simp only[aq.injEq,bt.injEq]at hv;obtain⟨_,rfl⟩:=hv;have hf:(Question.appendCap (ByteArray.mk ⟨l⟩).size 0 e).forced=false:=rfl
   obtain⟨cp,hcp,hge⟩:∃cp,(Question.appendCap (ByteArray.mk ⟨l⟩).size 0 e).cut (w.tape w.drawn (Question.appendCap (ByteArray.mk ⟨l⟩).size 0 e))=cp/\l.length<=cp:=by
    refine⟨_,rfl, ?_⟩;simp only[Question.cut];have:(ByteArray.mk ⟨l⟩).size=l.length:=by simp[ByteArray.size]
    omega
   let cs:Array Value:=(ByteArray.mk ⟨l⟩).data.map (fun b=> .int .u8 b.toNat)++ei (cp-(ByteArray.mk ⟨l⟩).size) (.int .u8 0)
   have hsz:(ByteArray.mk ⟨l⟩).size=l.length:=by simp[ByteArray.size]
   have hcs:cs.size=cp:=by simp[cs,hsz];omega
   have hget:∀i,i<l.length->cs[i]? =some (.int .u8 (l.getD i 0).toNat):=by intro i hi;simp only[cs];rw[b8 (by simpa using hi)];simp[hi,aa]
   have hw:∀w0:World,((w0.alloc (.cells cs e (0,0))).freeze ⟨w0.heap.size,cs.size,none⟩ 1).heap=(w0.alloc (.cells cs e (cs.size,cs.size+1))).heap:=fun w0=>gv w0 cs e
   refine cn.grow (x':=x.newD w.heap.size cs l.length) (w':=((w.drew.alloc (.cells cs e (0,0))).freeze ⟨w.heap.size,cs.size,none⟩ 1)) hM hex (u:= .slice (some ⟨w.heap.size,0,none⟩) l.length cp) ?_ (hM.heap.newD_le cs l.length) rfl rfl ?_ ?_
   ·rw[h1.str_inv]
    simp only[convert,az,run_underlying hs,run_underlying hd,aj,run_underlying he,Conv.stringToBytes,run_choose_drew,hf,aO,if_false,hcp,newRow,run_newObj_alloc,aJ];rw[ez (e:=e) (n:=cs.size) (by simp only[World.shape?];rw[heap_alloc_new])];simp only[aj,hsz];rfl
   ·refine cX.congr (w:=(w.drew.alloc (.cells cs e (cs.size,cs.size+1)))) ?_ (hw w.drew) rfl rfl rfl
    exact hM.heap.drew.allocD l.length
   ·refine .dat _ _ (.byt l .no w.heap.size 0 cp l.length rfl hge fun i hi=> ?_) trivial
    simp only[Sit.newD];rw[if_pos ⟨trivial,by omega⟩,bS];exact hget i hi
  |_=>rw[hu]at hv;simp at hv
 ·split at hr<;>try (cases hr;done)
  cases hr;simp only[val]at hv;cases hv
end Go.Sy
namespace Go.Sy
variable [bf]
variable {P : Program} {C : Ctx} {x : Sit} {s : St} {a : Act} {w : World} {o : Oper} {so : SOp} {p : Prop} {c : SV}
theorem cS{t:TypeId}{vs:List Value}(h:fU P t=some vs):∃z:Value,z.cells.toList=vs/\∀w:World,(zeroValue t).run P w= .ok z w:=by
 unfold fU at h;cases hi:P.info? t with
 |none=>simp[hi]at h
 |some i=>simp only[hi,cY]at h;obtain⟨z,hz,rfl⟩:=ae.1 h;exact⟨z,rfl,fun w=>by simp[zeroValue,run_typeInfo w hi,hz]⟩
theorem Db{cs:List SV}{vs:List Value}(h:DW cs vs=true):cj x cs vs:=by unfold DW at h;simp only[aA,decide_eq_true_eq,aV,dJ]at h;exact⟨h.1,fun i hi=>o8 (h.2 i hi)⟩
theorem qI{t:TypeId}{cs:List SV}(h:m5 P t=some cs):∃vs,fU P t=some vs/\cj x cs vs:=by
 unfold m5 at h;cases hz:fU P t with
 |none=>simp[hz]at h
 |some vs=>
  simp only[hz,cY]at h;cases hc:DC P (mb P 30 t) vs with
  |none=>simp[hc]at h
  |some r=>
   simp only[hc,cY]at h;split at h
   ·rename_i ha;simp at h;subst h;exact⟨vs,rfl,Db ha⟩
   ·cases h
theorem jc{t:TypeId}{cs:List SV}(h:m5 P t=some cs):∃vs,fU P t=some vs/\cs.length=vs.length/\∀(G:GM) i,i<cs.length->co G (cs.getD i .undef) (vs.getD i Go.undef):=by
 unfold m5 at h;cases hz:fU P t with
 |none=>simp[hz]at h
 |some vs=>
  simp only[hz,cY]at h;cases hc:DC P (mb P 30 t) vs with
  |none=>simp[hc]at h
  |some r=>
   simp only[hc,cY]at h;split at h
   ·rename_i ha;simp at h;subst h
    unfold DW at ha;simp only[aA,decide_eq_true_eq,aV,dJ]at ha;exact⟨vs,rfl,ha.1,fun G i hi=>lC (ha.2 i hi)⟩
   ·cases h
theorem Rep.cells{v:SV}{u:Value}(h:Rep x v u)(hd:v.isDef=true):cj x v.cells u.cells.toList:=by
 have one:∀{v:SV}{u:Value},Rep x v u->v.cells=[v]->u.cells= #[u]->cj x v.cells u.cells.toList:=by
  intro v u h h1 h2;rw[h1,h2]
  exact⟨rfl,fun i hi=>by
   obtain rfl:i=0:=by simpa using hi
   exact h⟩
 cases h with
 |undef=>simp[SV.isDef]at hd
 |agg cs vs hl hh=>exact⟨hl,hh⟩
 |dat s v h ht=>exact one (.dat _ _ h ht) (by cases h<;>rfl) (by cases h<;>rfl)
 |ptr o off=>exact one (.ptr o off) rfl rfl
 |ap o sz i j=>exact one (.ap o sz i j) rfl rfl
 |psl o sz off n cap off' cap' h hn hc hk=>exact one (.psl o sz off n cap off' cap' h hn hc hk) rfl rfl
 |tup cs vs hl hh=>exact one (.tup cs vs hl hh) rfl rfl
 |fn f a b u v h1 h2 h3 h4=>exact one (.fn f a b u v h1 h2 h3 h4) rfl rfl
theorem fV{α:Type}(cs v:List α)(q i:Nat)(h:q+v.length<=cs.length):(cs.take q++v++cs.drop (q+v.length))[i]? =if q<=i/\i<q+v.length then v[i-q]? else cs[i]? :=by
 simp only[List.getElem?_append,af,ax,bC,bi];have e2:min q cs.length=q:=fi (by omega);rw[e2]
 by_cases h1:i<q
 ·rw[if_pos (by omega),if_pos h1,if_pos h1,if_neg (by omega)]
 ·by_cases h3:i<q+v.length
  ·rw[if_pos h3,if_neg h1,if_pos ⟨by omega,h3⟩]
  ·rw[if_neg h3,if_neg (by omega)];congr 1;omega
theorem Dg(off:Nat)(v:List Value):∀(cs:Array Value)(k i:Nat),off+k+v.length<=cs.size->
 ((v.zipIdx k).foldl (fun cs (c,j)=>cs.setIfInBounds (off+j) c) cs)[i]? =if off+k<=i/\i<off+k+v.length then v[i-(off+k)]? else cs[i]? :=by
 induction v with
 |nil=>intro cs k i hk;rw[if_neg (by simp only[aB];omega)];rfl
 |cons u r ih=>
  intro cs k i hk;simp only[am]at hk;simp only[List.zipIdx_cons,dO];rw[ih _ (k+1) i (by simp;omega)];simp only[am,Array.getElem?_setIfInBounds]
  by_cases h2:off+k=i
  ·subst h2
   rw[if_neg (by omega),if_pos rfl,if_pos (by omega),if_pos (by omega)];simp
  ·by_cases h3:off+(k+1)<=i/\i<off+(k+1)+r.length
   ·rw[if_pos h3,if_pos (by omega),show i-(off+k)=(i-(off+(k+1)))+1 from by omega]
    simp
   ·rw[if_neg h3,if_neg h2,if_neg (by omega)]
theorem ro(cs:Array Value)(off:Nat)(v:List Value)(h:off+v.length<=cs.size):
 (v.zipIdx.foldl (fun cs (c,j)=>cs.setIfInBounds (off+j) c) cs).toList=cs.toList.take off++v++cs.toList.drop (off+v.length):=by
 apply List.ext_getElem?;intro i;rw[fV _ _ _ _ (by simpa using h)];have:=Dg off v cs 0 i (by simpa using h);simpa using this
theorem cj.append{c1 c2:List SV}{v1 v2:List Value}(h1:cj x c1 v1)(h2:cj x c2 v2):cj x (c1++c2) (v1++v2):=by
 refine⟨by simp[h1.1,h2.1],fun i hi=> ?_⟩;simp only[aa,List.getElem?_append]
 by_cases h:i<c1.length
 ·rw[if_pos h,if_pos (by rw[<-h1.1];exact h)]
  simpa only[aa]using h1.2 i h
 ·rw[if_neg h,if_neg (by rw[<-h1.1];exact h),h1.1]
  have:=h2.get (i-v1.length);simpa only[aa]using this
theorem cj.take{c1:List SV}{v1:List Value}(h1:cj x c1 v1)(n:Nat):cj x (c1.take n) (v1.take n):=by
 refine⟨by simp[h1.1],fun i hi=> ?_⟩;have hi':i<n/\i<c1.length:=by simp only[ax]at hi;omega
 simp only[aa,bC,if_pos hi'.1];simpa only[aa]using h1.2 i hi'.2
theorem cj.drop{c1:List SV}{v1:List Value}(h1:cj x c1 v1)(n:Nat):cj x (c1.drop n) (v1.drop n):=by refine⟨by simp[h1.1],fun i hi=> ?_⟩;simp only[aa,bi];have:=h1.get (n+i);simpa only[aa]using this
theorem oL(hM:aN C x s a w)(place:Nat->Option (Nat×Nat)):∀(ps:List (Nat×Operand))(qs:List (Nat×Nat×Arg))(cs:List SV)(vs:Array Value)(r:List SV),cj x cs vs.toList->
 qs.length=ps.length->(∀i (h:i<ps.length) (h':i<qs.length),place ps[i].1=some (qs[i].1,qs[i].2.1)/\∃t,bx P t ps[i].2=some qs[i].2.2)->
 iH cs (qs.map fun(o,n,y)=>(o,n,s.ev y))=some r->∃us,Instr.fill place vs (ps.map fun(i,y)=>(i,a.eval y))=some us/\cj x r us.toList:=by
 intro ps;induction ps with
 |nil=>
  intro qs cs vs r h hl _ hf;have:qs=[]:=by simpa using hl
  subst this;simp only[bX,iH,aq.injEq]at hf;subst hf;exact⟨vs,rfl,h⟩
 |cons q ps ih=>
  intro qs cs vs r h hl hpl hf;cases qs with
  |nil=>simp at hl
  |cons q' qs=>
   obtain⟨qo,qn,qy⟩:=q';obtain⟨h0,t,ht⟩:=hpl 0 (by simp) (by simp);simp only[List.getElem_cons_zero]at h0 ht;have hrep:=aP hM ht;simp only[aF,iH]at hf;split at hf<;>try (cases hf;done)
   rename_i hc;obtain⟨hc0,hc1,hc2⟩:=hc;have hL:=hrep.cells hc0;have hsz:(a.eval q.2).cells.size=qn:=by rw[<-hc1,<-aS];exact hL.1.symm
   have hvs:vs.size=cs.length:=by rw[<-aS];exact h.1.symm
   simp only[aF,Instr.fill,h0];rw[if_neg (by simp[hsz];omega)];refine ih qs _ _ r ?_ (by simpa using hl) (fun i h h'=> ?_) hf
   ·rw[<-Array.foldl_toList,Array.toList_zipIdx,ro _ _ _ (by rw[aS];omega)]
    have e1:(a.eval q.2).cells.toList.length=qn:=by simpa using hsz
    rw[e1];exact((h.take _).append hL).append (h.drop _)
   ·have:=hpl (i+1) (by simpa using h) (by simpa using h')
    simpa using this
theorem eS{α β:Type}{f:α->Option β}:∀{l:List α}{r:List β},jm f l=some r->r.length=l.length/\∀i (h:i<l.length) (h':i<r.length),f l[i]=some r[i]:=by
 intro l;induction l with
 |nil=>intro r h;simp only[jm]at h;cases h;exact⟨rfl,fun i h=>by simp at h⟩
 |cons q l ih=>
  intro r h;simp only[jm]at h;split at h<;>try (cases h;done)
  rename_i b r' hb hr';cases h;obtain⟨h1,h2⟩:=ih hr';refine⟨by simp[h1],fun i h h'=> ?_⟩;cases i with
  |zero=>simpa using hb
  |succ i=>simpa using h2 i (by simpa using h) (by simpa using h')
theorem ng(fs:Array Field)(h:∀f∈fs.toList,(P.info? f.type).isSome=true)(w:World):
 (fs.mapM fun f=>do pure (f.offset,<-sizeOf f.type):Sem (Array (Nat×Nat))).run P w= .ok (fs.toList.map fun f=>(f.offset,(fd P f.type).getD 0)).toArray w:=by
 rw[Array.mapM_eq_mapM_toList]
 have:∀l:List Field,(∀f∈l,(P.info? f.type).isSome=true)->(l.mapM fun f=>do pure (f.offset,<-sizeOf f.type):Sem (List (Nat×Nat))).run P w= .ok (l.map fun f=>(f.offset,(fd P f.type).getD 0)) w:=by
  intro l;induction l with
  |nil=>intro _;rfl
  |cons f l ih=>
   intro h;have hf:=h f (by simp);obtain⟨i,hi⟩:=Option.isSome_iff_exists.1 hf;have hs:fd P f.type=some i.size:=by simp[fd,hi]
   simp only[List.mapM_cons,az,b9 hs,aj,aJ,ih (fun g hg=>h g (av _ hg)),aF,hs,aM]
 rw[Sem.run_map,this _ h];rfl
theorem Ck(hM:aN C x s a w){t:TypeId}{parts:Array (Nat×Operand)}(ho:o.op= .build t parts)(hr:bz P o=some so)(hv:val s so=some (p,c)):cn P C o a w (s.put o.dst c):=by
 have hex:execOp a.eval o=(do pure (.value (<-Instr.build t (parts.map fun(i,y)=>(i,a.eval y))))):=by simp only[execOp,ho]
 simp only[bz,ho]at hr;split at hr<;>try (cases hr;done)
 ·rename_i fs z hd hz
  split at hr<;>try (cases hr;done)
  rename_i hall;obtain⟨qs,hqs,rfl⟩:=ae.1 hr;obtain⟨vs,hzv,hL⟩:=qI hz;obtain⟨zv,hzc,hzr⟩:=cS hzv;obtain⟨hql,hqg⟩:=eS hqs;simp only[val]at hv;obtain⟨r,hf,he⟩:=ae.1 hv;simp only[bt.injEq]at he;obtain⟨_,rfl⟩:=he;have hall':∀f∈fs.toList,(P.info? f.type).isSome=true:=aV.1 hall
  obtain⟨us,hus,hur⟩:=oL hM (fun i=>(fs.toList.map fun f=>(f.offset,(fd P f.type).getD 0)).toArray[i]?) parts.toList qs z zv.cells r (by rw[hzc];exact hL) hql (by
   intro i h h';have:=hqg i h h';generalize parts.toList[i]=pi at*;generalize qs[i]=qi at*;cases hfi:fs[pi.1]? with
   |none=>simp[hfi]at this
   |some f=>
    simp only[hfi]at this;cases hn:fd P f.type with
    |none=>simp[hn]at this
    |some n=>
     cases har:bx P f.type pi.2 with
     |none=>simp[hn,har]at this
     |some ar=>
      simp only[hn,har,aq.injEq]at this;rw[<-this];refine⟨?_,f.type,har⟩;have hfi':fs.toList[pi.1]? =some f:=by simpa using hfi
      simp[hfi',hn]) hf
  refine cn.val hM hex (u:= .agg us) ?_ ?_
  ·have hpl:(parts.map fun(i,y)=>(i,a.eval y)).toList=parts.toList.map fun(i,y)=>(i,a.eval y):=by simp
   simp only[Instr.build,az,hzr,aj,run_underlying hd,ng fs hall',hpl];rw[hus];rfl
  ·obtain⟨us⟩:=us
   exact .agg _ _ hur.1 hur.2
 ·rename_i k e z hd hz
  split at hr<;>try (cases hr;done)
  rename_i n hn;obtain⟨qs,hqs,rfl⟩:=ae.1 hr;obtain⟨vs,hzv,hL⟩:=qI hz;obtain⟨zv,hzc,hzr⟩:=cS hzv;obtain⟨hql,hqg⟩:=eS hqs;simp only[val]at hv;obtain⟨r,hf,he⟩:=ae.1 hv;simp only[bt.injEq]at he;obtain⟨_,rfl⟩:=he
  obtain⟨us,hus,hur⟩:=oL hM (fun i=>some (i*n,n)) parts.toList qs z zv.cells r (by rw[hzc];exact hL) hql (fun i h h'=>by have:=hqg i h h';obtain⟨ar,har,he⟩:=ae.1 this;rw[<-he];exact⟨rfl,e,har⟩) hf
  refine cn.val hM hex (u:= .agg us) ?_ ?_
  ·have hpl:(parts.map fun(i,y)=>(i,a.eval y)).toList=parts.toList.map fun(i,y)=>(i,a.eval y):=by simp
   simp only[Instr.build,az,hzr,aj,run_underlying hd,b9 hn,hpl];rw[hus];rfl
  ·obtain⟨us⟩:=us
   exact .agg _ _ hur.1 hur.2
end Go.Sy
namespace Go.Sy
variable [bf]
variable {P : Program} {C : Ctx} {x : Sit} {s : St} {a : Act} {w : World} {o : Oper} {so : SOp} {p : Prop} {c : SV}
theorem mB(n:Nat):∀(us:List Value)(k:Nat)(vs:Array Value),(∀u∈us,u.cells.size=n)->(k+us.length)*n<=vs.size->
 ∃r,Instr.fill (fun i=>some (i*n,n)) vs ((us.zipIdx k).map fun q=>(q.2,q.1))=some r/\r.toList=vs.toList.take (k*n)++(us.flatMap fun u=>u.cells.toList)++vs.toList.drop ((k+us.length)*n):=by
 intro us;induction us with
 |nil=>intro k vs _ _;exact⟨vs,rfl,by simp⟩
 |cons u us ih=>
  intro k vs hu hs;have h0:=hu u (by simp);have e0:(k+(u::us).length)*n=k*n+n+us.length*n:=by simp only[am,bv,dy];omega
  have e1:(k+1)*n=k*n+n:=dy k n;rw[e0]at hs;have hput:=ro vs (k*n) u.cells.toList (by rw[aS,h0];omega);rw[aS,h0]at hput
  obtain⟨r,hr,hl⟩:=ih (k+1) (u.cells.toList.zipIdx.foldl (fun cs (c,j)=>cs.setIfInBounds (k*n+j) c) vs) (fun q hq=>hu q (av _ hq)) (by rw[<-aS,hput];simp only[af,ax,aL,aS,h0];rw[bv,e1];omega)
  refine⟨r, ?_, ?_⟩
  ·simp only[List.zipIdx_cons,aF,Instr.fill]
   rw[if_neg (by simp[h0];omega)];rw[<-Array.foldl_toList,Array.toList_zipIdx];exact hr
  ·rw[hl,hput,e1,e0]
   have e2:(k+1+us.length)*n=k*n+n+us.length*n:=by rw[bv,e1]
   rw[e2];have l1:(vs.toList.take (k*n)++u.cells.toList).length=k*n+n:=by simp[h0];omega
   rw[List.take_append_of_le_length (by rw[l1];exact aK _),bj (by rw[l1];exact aK _),List.drop_append,bD (by rw[l1];omega),l1,List.drop_drop];simp only[eo,aI,ay]
   congr 3
   congr 1;omega
theorem uY{n:Nat}:∀{vs:List SV}{r:List (List SV)},rows n vs=some r->r.length=vs.length/\∀i,i<vs.length->(vs.getD i .undef).isDef=true/\(vs.getD i .undef).cells.length=n/\
 (∀z∈(vs.getD i .undef).cells,z.isData=true)/\r.getD i []=(vs.getD i .undef).cells.map SV.data:=by
 intro vs;induction vs with
 |nil=>intro r h;simp only[rows,aq.injEq]at h;subst h;exact⟨rfl,fun i hi=>by simp at hi⟩
 |cons v vs ih=>
  intro r h;simp only[rows]at h;split at h<;>try (cases h;done)
  rename_i hc;obtain⟨r',hr',rfl⟩:=ae.1 h;obtain⟨h1,h2⟩:=ih hr';refine⟨by simp[h1],fun i hi=> ?_⟩;cases i with
  |zero=>exact⟨hc.1,hc.2.1,aV.1 hc.2.2,rfl⟩
  |succ i=>simpa using h2 i (by simpa using hi)
theorem rT:∀{vs:List SV}{r:List UInt8},toB vs=some r->vs=r.map .u8:=by
 intro vs;induction vs with
 |nil=>intro r h;simp only[toB,aq.injEq]at h;subst h;rfl
 |cons v vs ih=>intro r h;cases v<;>simp only[toB,reduceCtorEq]at h;obtain⟨r',hr',rfl⟩:=ae.1 h;rw[ih hr'];rfl
theorem jO{n:Nat}{us:List Value}(h:∀u∈us,u.cells.size=n){i j:Nat}(hi:i<us.length)(hj:j<n):
 (us.flatMap fun u=>u.cells.toList)[i*n+j]? =(us.getD i Go.undef).cells.toList[j]? :=by
 induction us generalizing i with
 |nil=>simp at hi
 |cons u us ih=>
  have h0:=h u (by simp);simp only[eo];cases i with
  |zero=>rw[bq (by simp[h0];omega)];simp
  |succ i=>rw[bB (by simp[h0,dy];omega)];have:=ih (fun q hq=>h q (av _ hq)) (i:=i) (by simpa using hi);rw[show(i+1)*n+j-u.cells.toList.length=i*n+j from by simp[h0,dy];omega];simpa using this
theorem nI(hM:aN C x s a w){t:TypeId}{len:Nat}{parts:Array (Nat×Operand)}(ho:o.op= .buildSlice t len parts)(hr:bz P o=some so)(hv:val s so=some (p,c)):cn P C o a w (s.put o.dst c):=by
 have hex:execOp a.eval o=(do pure (.value (<-dU t len (parts.map fun(i,y)=>(i,a.eval y))))):=by simp only[execOp,ho]
 simp only[bz,ho]at hr;split at hr<;>try (cases hr;done)
 rename_i e hd;split at hr<;>try (cases hr;done)
 rename_i n zv hn hzv;split at hr<;>try (cases hr;done)
 rename_i hcond;simp only[aA,decide_eq_true_eq]at hcond;obtain⟨⟨hidx,hbig⟩,hu1⟩:=hcond;obtain⟨qs,hqs,rfl⟩:=ae.1 hr;obtain⟨hql,hqg⟩:=eS hqs;obtain⟨z,hzc,hzr⟩:=cS hzv;have hlen:parts.toList.length=len:=by have:=congrArg List.length hidx;simpa using this
 obtain⟨us,hus⟩:∃us:List Value,us=parts.toList.map fun q=>a.eval q.2:=⟨_,rfl⟩
 have husl:us.length=len:=by rw[hus];simpa using hlen
 have hrep:cj x (qs.map s.ev) us:=by
  refine⟨by rw[hus];simp[hql],fun i hi=> ?_⟩;have hi':i<qs.length:=by simpa using hi
  have:=aP hM (hqg i (by omega) hi');rw[hus];simp only[aa,aR,ac hi',ac (show i<parts.toList.length from by omega),bp,aM];exact this
 have hpl:(parts.map fun(i,y)=>(i,a.eval y)).toList=(us.zipIdx 0).map fun q=>(q.2,q.1):=by
  rw[hus];apply List.ext_getElem
  ·simp
  ·intro i h1 h2
   simp only[Array.toList_map,aY,aS]at h1;have:(parts.toList.map (·.1))[i]? =(bA len)[i]? :=by rw[hidx]
   have hi:i<len:=by rw[<-hlen];simpa using h1
   simp only[aR,ch hi]at this;rw[ac (by simpa using h1)]at this;simp at this;simp[this]
 have main:(∀u∈us,u.cells.size=n)->∃r:Array Value,(∀i j,i<len->j<n->r[i*n+j]? =(us.getD i Go.undef).cells.toList[j]?)/\r.size=len*n/\
  (dU t len (parts.map fun(i,y)=>(i,a.eval y))).run P w= .ok (.slice (some ⟨w.heap.size,0,none⟩) len len) (w.alloc (.cells r e (0,0))):=by
  intro hcs
  have fin:∀zz:Array Value,∃r:Array Value,Instr.fill (fun i=>some (i*n,n)) ((Array.range (len*n)).map (fun i=>zz[i % zz.size]!)) (parts.map fun(i,y)=>(i,a.eval y)).toList=some r/\
   (∀i j,i<len->j<n->r[i*n+j]? =(us.getD i Go.undef).cells.toList[j]?)/\r.size=len*n:=by
   intro zz;obtain⟨r,hfr,hrl⟩:=mB n us 0 ((Array.range (len*n)).map (fun i=>zz[i % zz.size]!)) hcs (by simp[husl])
   have hrl':r.toList=us.flatMap fun u=>u.cells.toList:=by rw[hrl];simp[husl]
   refine⟨r,by rw[hpl];exact hfr,fun i j hi hj=> ?_, ?_⟩
   ·rw[<-cP,hrl',jO hcs (by omega) hj]
   ·rw[<-aS,hrl',List.length_flatMap]
    have:us.map (fun u=>u.cells.toList.length)=aH us.length n:=by
     apply List.ext_getElem
     ·simp
     ·intro i h1 h2
      simp;exact hcs _ (bo _)
    rw[this];simp[husl]
  by_cases h0:len*n=0
  ·obtain⟨r,hf,h1,h2⟩:=fin #[]
   refine⟨r,h1,h2, ?_⟩;simp only[dU,az,run_underlying hd,aj,b9 hn];rw[if_neg (by omega),if_pos h0];simp only[az,aJ,aj];rw[hf];rfl
  ·obtain⟨r,hf,h1,h2⟩:=fin z.cells
   refine⟨r,h1,h2, ?_⟩;simp only[dU,az,run_underlying hd,aj,b9 hn];rw[if_neg (by omega),if_neg h0];simp only[az,aJ,aj,hzr];rw[hf];rfl
 have hlt:∀i,i<len->i<(qs.map s.ev).length:=fun i hi=>by rw[hrep.1,husl];exact hi
 cases h8:lj P e with
 |true=>
  simp only[h8,if_true,val]at hv;obtain⟨l,hl,he⟩:=ae.1 hv;simp only[bt.injEq]at he;obtain⟨_,rfl⟩:=he;have hq:=rT hl;have hll:l.length=len:=by have:=congrArg List.length hq;simp only[aY]at this;rw[<-this,hql,hlen]
  have huv:∀i,i<len->us.getD i Go.undef= .int .u8 (l.getD i 0).toNat:=by
   intro i hi;have:=hrep.2 i (hlt i hi);rw[hq]at this
   have e1:(l.map SV.u8).getD i .undef= .u8 (l.getD i 0):=by simp only[aa,aR];rw[ac (by omega)];rfl
   rw[e1]at this;exact this.u8_inv
  have hn1:∀u∈us,u.cells.size=1:=by intro u hu;obtain⟨i,hi,rfl⟩:=bn hu;have:=huv i (by omega);rw[aa,ac hi]at this;simp only[aM]at this;rw[this];rfl
  have hn1':n=1:=by simpa[h8]using hu1
  subst hn1';obtain⟨r,hr1,hr2,hrun⟩:=main hn1;refine cn.grow (x':=x.newD w.heap.size r len) hM hex hrun (hM.heap.newD_le r len) rfl rfl (hM.heap.allocD len) ?_;refine .dat _ _ (.byt l _ w.heap.size 0 len len hll.symm (aK _) fun i hi=> ?_) ⟨_,len,rfl⟩;simp only[Sit.newD];rw[if_pos ⟨trivial,by omega⟩,bS];have:=hr1 i 0 hi (by omega);rw[iJ,gx]at this;rw[this,huv i hi];rfl
 |false=>
  simp only[h8,aO,if_false,val]at hv;obtain⟨rw_,hrw,he⟩:=ae.1 hv;simp only[bt.injEq]at he;obtain⟨_,rfl⟩:=he;obtain⟨hrl,hri⟩:=uY hrw;have hrl':rw_.length=len:=by rw[hrl,hrep.1,husl]
  have hcell:∀i,i<len->cj x (((qs.map s.ev).getD i .undef).cells) ((us.getD i Go.undef).cells.toList):=fun i hi=>(hrep.2 i (hlt i hi)).cells (hri i (hlt i hi)).1
  have hns:∀u∈us,u.cells.size=n:=by intro u hu;obtain⟨i,hi,rfl⟩:=bn hu;have h1:=hcell i (by omega);have h2:=(hri i (hlt i (by omega))).2.1;rw[show us.getD i Go.undef=us[i]from by rw[aa,ac hi];rfl]at h1;have:=h1.1;rw[h2]at this;simpa using this.symm
  obtain⟨r,hr1,hr2,hrun⟩:=main hns;refine cn.grow (x':=x.newD w.heap.size r (len*n)) hM hex hrun (hM.heap.newD_le r _) rfl rfl (hM.heap.allocD _) ?_;have hle:=hM.heap.newD_le r (len*n)
  have hcellv:∀i j,i<len->j<n->(x.newD w.heap.size r (len*n)).G w.heap.size (0+i*n+j)=some ((us.getD i Go.undef).cells.toList.getD j Go.undef):=by
   intro i j hi hj;simp only[Sit.newD]
   have hb:i*n+j<len*n:=by have:=aX n (Nat.succ_le_of_lt hi);rw[dy]at this;omega
   rw[if_pos ⟨trivial,by omega⟩,bS,hr1 i j hi hj]
   have:j<(us.getD i Go.undef).cells.toList.length:=by rw[<-(hcell i hi).1,(hri i (hlt i hi)).2.1];exact hj
   generalize (us.getD i Go.undef).cells.toList=q at*;rw[aa,ac this];rfl
  refine .dat _ _ (.lst n rw_ _ w.heap.size 0 len len (fun i j=>(us.getD i Go.undef).cells.toList.getD j Go.undef) hrl'.symm (aK _) (fun i hi=> ?_) hcellv (fun i j hi hj=> ?_)) ⟨_,len,rfl⟩
  ·rw[(hri i (hlt i hi)).2.2.2,aY];exact(hri i (hlt i hi)).2.1
  ·obtain⟨q1,q2,q3,q4⟩:=hri i (hlt i hi)
   rw[q4,gg];have hjl:j<((qs.map s.ev).getD i .undef).cells.length:=by rw[q2];exact hj
   have:=(hcell i hi).2 j hjl;refine(co.mono hle (this.data (q3 _ ?_))).toData;generalize ((qs.map s.ev).getD i .undef).cells=q at*;rw[aa,ac hjl];exact bo _
theorem wV(hM:aN C x s a w){t:TypeId}{len:Nat}{parts:Array (Nat×Operand)}(ho:o.op= .buildSlice t len parts){n0:Nat}{qs0:List Arg}(hr:bz P o=some (.lit n0 qs0)){rw_:List (List SV)}(hrw:rows n0 (qs0.map s.ev)=some rw_):
 ∃(r:Array Value)(e:TypeId),(execOp a.eval o).run P w= .ok (.value (.slice (some ⟨w.heap.size,0,none⟩) rw_.length rw_.length)) (w.alloc (.cells r e (0,0)))/\r.size=rw_.length*n0/\(∀y∈rw_,y.length=n0)/\
  ∀k,k<rw_.length*n0->co x.G ((rw_.getD (k/n0) []).getD (k % n0) .undef) (r.getD k Go.undef):=by
 have hex:execOp a.eval o=(do pure (.value (<-dU t len (parts.map fun(i,y)=>(i,a.eval y))))):=by simp only[execOp,ho]
 simp only[bz,ho]at hr;split at hr<;>try (cases hr;done)
 rename_i e hd;split at hr<;>try (cases hr;done)
 rename_i n zv hn hzv;split at hr<;>try (cases hr;done)
 rename_i hcond;simp only[aA,decide_eq_true_eq]at hcond;obtain⟨⟨hidx,hbig⟩,hu1⟩:=hcond;obtain⟨qs,hqs,hr2⟩:=ae.1 hr;obtain⟨hql,hqg⟩:=eS hqs;obtain⟨z,hzc,hzr⟩:=cS hzv;have hlen:parts.toList.length=len:=by have:=congrArg List.length hidx;simpa using this
 obtain⟨us,hus⟩:∃us:List Value,us=parts.toList.map fun q=>a.eval q.2:=⟨_,rfl⟩
 have husl:us.length=len:=by rw[hus];simpa using hlen
 have hrep:cj x (qs.map s.ev) us:=by
  refine⟨by rw[hus];simp[hql],fun i hi=> ?_⟩;have hi':i<qs.length:=by simpa using hi
  have:=aP hM (hqg i (by omega) hi');rw[hus];simp only[aa,aR,ac hi',ac (show i<parts.toList.length from by omega),bp,aM];exact this
 have hpl:(parts.map fun(i,y)=>(i,a.eval y)).toList=(us.zipIdx 0).map fun q=>(q.2,q.1):=by
  rw[hus];apply List.ext_getElem
  ·simp
  ·intro i h1 h2
   simp only[Array.toList_map,aY,aS]at h1;have:(parts.toList.map (·.1))[i]? =(bA len)[i]? :=by rw[hidx]
   have hi:i<len:=by rw[<-hlen];simpa using h1
   simp only[aR,ch hi]at this;rw[ac (by simpa using h1)]at this;simp at this;simp[this]
 have main:(∀u∈us,u.cells.size=n)->∃r:Array Value,(∀i j,i<len->j<n->r[i*n+j]? =(us.getD i Go.undef).cells.toList[j]?)/\r.size=len*n/\
  (dU t len (parts.map fun(i,y)=>(i,a.eval y))).run P w= .ok (.slice (some ⟨w.heap.size,0,none⟩) len len) (w.alloc (.cells r e (0,0))):=by
  intro hcs
  have fin:∀zz:Array Value,∃r:Array Value,Instr.fill (fun i=>some (i*n,n)) ((Array.range (len*n)).map (fun i=>zz[i % zz.size]!)) (parts.map fun(i,y)=>(i,a.eval y)).toList=some r/\
   (∀i j,i<len->j<n->r[i*n+j]? =(us.getD i Go.undef).cells.toList[j]?)/\r.size=len*n:=by
   intro zz;obtain⟨r,hfr,hrl⟩:=mB n us 0 ((Array.range (len*n)).map (fun i=>zz[i % zz.size]!)) hcs (by simp[husl])
   have hrl':r.toList=us.flatMap fun u=>u.cells.toList:=by rw[hrl];simp[husl]
   refine⟨r,by rw[hpl];exact hfr,fun i j hi hj=> ?_, ?_⟩
   ·rw[<-cP,hrl',jO hcs (by omega) hj]
   ·rw[<-aS,hrl',List.length_flatMap]
    have:us.map (fun u=>u.cells.toList.length)=aH us.length n:=by
     apply List.ext_getElem
     ·simp
     ·intro i h1 h2
      simp;exact hcs _ (bo _)
    rw[this];simp[husl]
  by_cases h0:len*n=0
  ·obtain⟨r,hf,h1,h2⟩:=fin #[]
   refine⟨r,h1,h2, ?_⟩;simp only[dU,az,run_underlying hd,aj,b9 hn];rw[if_neg (by omega),if_pos h0];simp only[az,aJ,aj];rw[hf];rfl
  ·obtain⟨r,hf,h1,h2⟩:=fin z.cells
   refine⟨r,h1,h2, ?_⟩;simp only[dU,az,run_underlying hd,aj,b9 hn];rw[if_neg (by omega),if_neg h0];simp only[az,aJ,aj,hzr];rw[hf];rfl
 have hlt:∀i,i<len->i<(qs.map s.ev).length:=fun i hi=>by rw[hrep.1,husl];exact hi
 obtain⟨h8,rfl,rfl⟩:lj P e=false/\n=n0/\qs=qs0:=by
  cases h8:lj P e with
  |true=>rw[h8]at hr2;simp at hr2
  |false=>rw[h8]at hr2;simp at hr2;exact⟨rfl,hr2.1,hr2.2⟩
 obtain⟨hrl,hri⟩:=uY hrw;have hrl':rw_.length=len:=by rw[hrl,hrep.1,husl]
 have hcell:∀i,i<len->cj x (((qs.map s.ev).getD i .undef).cells) ((us.getD i Go.undef).cells.toList):=fun i hi=>(hrep.2 i (hlt i hi)).cells (hri i (hlt i hi)).1
 have hns:∀u∈us,u.cells.size=n:=by intro u hu;obtain⟨i,hi,rfl⟩:=bn hu;have h1:=hcell i (by omega);have h2:=(hri i (hlt i (by omega))).2.1;rw[show us.getD i Go.undef=us[i]from by rw[aa,ac hi];rfl]at h1;have:=h1.1;rw[h2]at this;simpa using this.symm
 obtain⟨r,hr1,hr2,hrun⟩:=main hns
 have hrun':(execOp a.eval o).run P w= .ok (.value (.slice (some ⟨w.heap.size,0,none⟩) rw_.length rw_.length)) (w.alloc (.cells r e (0,0))):=by rw[hex,hrl'];simp[hrun]
 refine⟨r,e,hrun',by rw[hrl'];exact hr2,fun y hy=> ?_,fun k hk=> ?_⟩
 ·obtain⟨i,hi,rfl⟩:=bn hy
  have:=(hri i (hlt i (by omega))).2.2.2;rw[aa,ac hi]at this;simp only[aM]at this;rw[this,aY];exact(hri i (hlt i (by omega))).2.1
 ·have hsz:0<n:=by
   rcases gk n with h0|h0
   ·subst h0;omega
   ·exact h0
  have hi:k/n<len:=by rw[<-hrl'];exact Nat.div_lt_of_lt_mul (by rw[cB];exact hk)
  have hj:k % n<n:=Nat.mod_lt _ hsz;obtain⟨q1,q2,q3,q4⟩:=hri (k/n) (hlt _ hi);rw[q4,gg];have e1:k/n*n+k % n=k:=by rw[cB];exact Nat.div_add_mod k n
  have e2:=hr1 (k/n) (k % n) hi hj;rw[e1]at e2;have hjl:k % n<((qs.map s.ev).getD (k/n) .undef).cells.length:=by rw[q2];exact hj
  have:=(hcell _ hi).2 _ hjl;rw[aQ,e2,<-aa];refine(this.data (q3 _ ?_)).toData;generalize ((qs.map s.ev).getD (k/n) .undef).cells=q at*;rw[aa,ac hjl];exact bo _
theorem wW(hM:aN C x s a w){t:TypeId}{len:Nat}{parts:Array (Nat×Operand)}(ho:o.op= .buildSlice t len parts){qs0:List Arg}(hr:bz P o=some (.litB qs0)){l:List UInt8}(hl0:toB (qs0.map s.ev)=some l):
 ∃(r:Array Value)(e:TypeId),(execOp a.eval o).run P w= .ok (.value (.slice (some ⟨w.heap.size,0,none⟩) l.length l.length)) (w.alloc (.cells r e (0,0)))/\l.length<=r.size/\∀i,i<l.length->r.getD i Go.undef= .int .u8 (l.getD i 0).toNat:=by
 have hex:execOp a.eval o=(do pure (.value (<-dU t len (parts.map fun(i,y)=>(i,a.eval y))))):=by simp only[execOp,ho]
 simp only[bz,ho]at hr;split at hr<;>try (cases hr;done)
 rename_i e hd;split at hr<;>try (cases hr;done)
 rename_i n zv hn hzv;split at hr<;>try (cases hr;done)
 rename_i hcond;simp only[aA,decide_eq_true_eq]at hcond;obtain⟨⟨hidx,hbig⟩,hu1⟩:=hcond;obtain⟨qs,hqs,hr2⟩:=ae.1 hr;obtain⟨hql,hqg⟩:=eS hqs;obtain⟨z,hzc,hzr⟩:=cS hzv;have hlen:parts.toList.length=len:=by have:=congrArg List.length hidx;simpa using this
 obtain⟨us,hus⟩:∃us:List Value,us=parts.toList.map fun q=>a.eval q.2:=⟨_,rfl⟩
 have husl:us.length=len:=by rw[hus];simpa using hlen
 have hrep:cj x (qs.map s.ev) us:=by
  refine⟨by rw[hus];simp[hql],fun i hi=> ?_⟩;have hi':i<qs.length:=by simpa using hi
  have:=aP hM (hqg i (by omega) hi');rw[hus];simp only[aa,aR,ac hi',ac (show i<parts.toList.length from by omega),bp,aM];exact this
 have hpl:(parts.map fun(i,y)=>(i,a.eval y)).toList=(us.zipIdx 0).map fun q=>(q.2,q.1):=by
  rw[hus];apply List.ext_getElem
  ·simp
  ·intro i h1 h2
   simp only[Array.toList_map,aY,aS]at h1;have:(parts.toList.map (·.1))[i]? =(bA len)[i]? :=by rw[hidx]
   have hi:i<len:=by rw[<-hlen];simpa using h1
   simp only[aR,ch hi]at this;rw[ac (by simpa using h1)]at this;simp at this;simp[this]
 have main:(∀u∈us,u.cells.size=n)->∃r:Array Value,(∀i j,i<len->j<n->r[i*n+j]? =(us.getD i Go.undef).cells.toList[j]?)/\r.size=len*n/\
  (dU t len (parts.map fun(i,y)=>(i,a.eval y))).run P w= .ok (.slice (some ⟨w.heap.size,0,none⟩) len len) (w.alloc (.cells r e (0,0))):=by
  intro hcs
  have fin:∀zz:Array Value,∃r:Array Value,Instr.fill (fun i=>some (i*n,n)) ((Array.range (len*n)).map (fun i=>zz[i % zz.size]!)) (parts.map fun(i,y)=>(i,a.eval y)).toList=some r/\
   (∀i j,i<len->j<n->r[i*n+j]? =(us.getD i Go.undef).cells.toList[j]?)/\r.size=len*n:=by
   intro zz;obtain⟨r,hfr,hrl⟩:=mB n us 0 ((Array.range (len*n)).map (fun i=>zz[i % zz.size]!)) hcs (by simp[husl])
   have hrl':r.toList=us.flatMap fun u=>u.cells.toList:=by rw[hrl];simp[husl]
   refine⟨r,by rw[hpl];exact hfr,fun i j hi hj=> ?_, ?_⟩
   ·rw[<-cP,hrl',jO hcs (by omega) hj]
   ·rw[<-aS,hrl',List.length_flatMap]
    have:us.map (fun u=>u.cells.toList.length)=aH us.length n:=by
     apply List.ext_getElem
     ·simp
     ·intro i h1 h2
      simp;exact hcs _ (bo _)
    rw[this];simp[husl]
  by_cases h0:len*n=0
  ·obtain⟨r,hf,h1,h2⟩:=fin #[]
   refine⟨r,h1,h2, ?_⟩;simp only[dU,az,run_underlying hd,aj,b9 hn];rw[if_neg (by omega),if_pos h0];simp only[az,aJ,aj];rw[hf];rfl
  ·obtain⟨r,hf,h1,h2⟩:=fin z.cells
   refine⟨r,h1,h2, ?_⟩;simp only[dU,az,run_underlying hd,aj,b9 hn];rw[if_neg (by omega),if_neg h0];simp only[az,aJ,aj,hzr];rw[hf];rfl
 have hlt:∀i,i<len->i<(qs.map s.ev).length:=fun i hi=>by rw[hrep.1,husl];exact hi
 cases h8:lj P e with
 |true=>
  simp only[h8,if_true,SOp.litB.injEq]at hr2;subst hr2;have hl:=hl0;have hq:=rT hl;have hll:l.length=len:=by have:=congrArg List.length hq;simp only[aY]at this;rw[<-this,hql,hlen]
  have huv:∀i,i<len->us.getD i Go.undef= .int .u8 (l.getD i 0).toNat:=by
   intro i hi;have:=hrep.2 i (hlt i hi);rw[hq]at this
   have e1:(l.map SV.u8).getD i .undef= .u8 (l.getD i 0):=by simp only[aa,aR];rw[ac (by omega)];rfl
   rw[e1]at this;exact this.u8_inv
  have hn1:∀u∈us,u.cells.size=1:=by intro u hu;obtain⟨i,hi,rfl⟩:=bn hu;have:=huv i (by omega);rw[aa,ac hi]at this;simp only[aM]at this;rw[this];rfl
  have hn1':n=1:=by simpa[h8]using hu1
  subst hn1';obtain⟨r,hr1,hr2,hrun⟩:=main hn1;refine⟨r,e,by rw[hex,az,hrun];simp[hll],by rw[hr2];omega,fun i hi=> ?_⟩;have:=hr1 i 0 (by omega) (by omega);rw[iJ,gx]at this;rw[aQ,this,huv i (by omega)];rfl
 |false=>simp only[h8,aO,if_false]at hr2;cases hr2
theorem QJ{qs:List Arg}(hr:bz P o=some (.litB qs)):∃t len parts,o.op= .buildSlice t len parts:=by
 cases ho:o.op with
 |buildSlice t len parts=>exact⟨t,len,parts,rfl⟩
 |_=>exfalso;exact absurd hr (by
  intro hr;simp only[bz,ho]at hr
  first
   |(cases hr;done)
   |(obtain⟨_,_,h⟩:=ae.1 hr;cases h;done)
   |(repeat' split at hr)<;>first|(cases hr;done)|contradiction|(obtain⟨_,_,h⟩:=ae.1 hr;first|(cases h;done)|(split at h<;>cases h;done)))
end Go.Sy
