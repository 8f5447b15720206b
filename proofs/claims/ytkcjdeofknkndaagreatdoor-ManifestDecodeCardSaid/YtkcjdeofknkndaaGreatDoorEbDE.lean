/- A sound engine for Go code. No condition. -/
import Derived.Test.YtkcjdeofknkndaaGreatDoorEaDE
import Derived.LoopN
open Array renaming ext' -> dP, getD_eq_getD_getElem? -> bh, getElem?_eq_getElem -> gK, getElem?_toList -> cZ, length_toList -> aO, replicate -> dR
open Bool renaming and_eq_true -> az, false_eq_true -> aJ, not_eq_true' -> dv
open List renaming Nodup -> vJ, Pairwise -> eg, Sublist -> ni, all_cons -> iG, all_eq_true -> aT, cons -> jy, cons_append -> bf, contains_eq_mem -> eI, drop_eq_getElem_cons -> aM, drop_eq_nil_of_le -> bo, filter_cons -> kS, flatten_append -> b9, getD_cons_succ -> cz, getD_cons_zero -> bZ, getD_eq_getElem?_getD -> aa, getElem?_append_left -> bc, getElem?_append_right -> bq, getElem?_drop -> br, getElem?_eq_getElem -> ab, getElem?_eq_none -> kf, getElem?_map -> aP, getElem?_range -> cP, getElem?_set -> gu, getElem?_take -> bJ, getElem_mem -> bx, getElem_of_mem -> bY, length_append -> ac, length_cons -> aA, length_drop -> aI, length_eq_zero_iff -> cA, length_map -> aS, length_pos_iff -> mi, length_set -> cB, length_take -> aw, map_append -> cV, map_cons -> aE, mem_append -> ak, mem_cons -> al, mem_cons_of_mem -> am, mem_cons_self -> ax, mem_map -> aR, mem_map_of_mem -> ii, mem_of_mem_drop -> D1, mem_of_mem_take -> bD, mem_singleton -> aZ, nodup_cons -> dU, pairwise_cons -> bI, pairwise_map -> gr, range -> bU, replicate -> ao, take_append_drop -> ke, take_length -> bi, take_of_length_le -> bB
open Nat renaming add_assoc -> dH, add_mul -> bA, add_zero -> dL, div_eq_of_lt -> xx, le_max_right -> xw, le_refl -> aN, le_trans -> p6, lt_or_ge -> bO, min_eq_left -> gM, mod_eq_of_lt -> dp, mul_comm -> cm, mul_le_mul_right -> bv, mul_one -> db, succ_mul -> dJ, zero_add -> cj, zero_mul -> gz
open Go.Op renaming bytesLess -> bF
open Option renaming bind_some -> cS, getD_some -> bp, ite_none_right_eq_some -> aF, map_eq_some_iff -> ah, map_some -> bl, some -> aq
open Prod renaming fst -> cM
open Go.Result renaming andThen_ok -> aj
open Go.Sem renaming run_bind -> ay, run_pure -> aD
open UInt8 renaming ofNat -> gy
set_option linter.unusedVariables false
set_option linter.unusedSimpArgs false
set_option linter.unnecessarySimpa false
set_option linter.unusedSectionVars false
namespace Go.Sy
variable [aX]
structure CSt where
 tm:List (Nat×SV)
 ob:List (Nat×aC)
 tk:List Nat
abbrev LBa:=Option CSt
def eh:List (Nat×SV)->Nat->SV
 |[],_=> .undef
 |p::r,n=>if p.1=n then p.2 else eh r n
def jn:List (Nat×SV)->Nat->SV->List (Nat×SV)
 |[],n,v=> [(n,v)]
 |p::r,n,v=>if n<p.1 then(n,v)::p::r else if n=p.1 then(n,v)::r else p::jn r n v
def vy:List (Nat×SV)->LAb->List (Nat×SV)
 |[],_=> []
 |p::r,l=>if l.contains p.1 then vy r l else p::vy r l
def iD:List (Nat×aC)->Nat->Option aC
 |[],_=>none
 |p::r,n=>if p.1=n then some p.2 else iD r n
def iJ:List (Nat×aC)->Nat->aC->List (Nat×aC)
 |[],n,v=> [(n,v)]
 |p::r,n,v=>if n<p.1 then(n,v)::p::r else if n=p.1 then(n,v)::r else p::iJ r n v
def xfR:List (Nat×aC)->Nat->List (Nat×aC)
 |[],_=> []
 |p::r,n=>if p.1=n then xfR r n else p::xfR r n
def ml:LAb->Nat->LAb
 |[],n=> [n]
 |p::r,n=>if n<p then n::p::r else if n=p then p::r else p::ml r n
def de(lo hi:Nat):List (Nat×SV)->List (Nat×SV)
 |[]=> []
 |p::r=>(p.1,p.2.purge lo hi)::de lo hi r
def CSt.get(c:CSt)(n:Nat):SV:=eh c.tm n
def CSt.ev(c:CSt):Arg->SV
 | .t n=>c.get n
 | .c v=>v
 | .f g=> .fn g [] []
def evL(c:CSt):List Arg->LAa
 |[]=> []
 |a::r=>c.ev a::evL c r
def CSt.put(c:CSt)(d:LAc)(v:SV):CSt:=
 match d with
 |some d=>⟨jn c.tm d v,c.ob,c.tk⟩
 |none=>c
def CSt.look(c:CSt)(o:Nat):Option aC:=iD c.ob o
def CSt.purge(c:CSt)(lo hi:Nat):CSt:=⟨de lo hi c.tm,bz lo hi c.ob,cy lo hi c.tk⟩
def CSt.kill(c:CSt)(l:LAb):CSt:=
 match l with
 |[]=>c
 |l=>⟨vy c.tm l,c.ob,c.tk⟩
def gd{α:Type}(p:Prop)[Decidable p](v:α):Option α:=if p then some v else none
def wN(op:BinOp)(k:IntKind)(a b:Int):Option SV:=
 match op with
 | .add=>some (.int k (k.wrap (a+b)))
 | .sub=>some (.int k (k.wrap (a-b)))
 | .mul=>some (.int k (k.wrap (a*b)))
 | .quo=>gd (b≠0) (.int k (k.wrap (a.tdiv b)))
 | .rem=>gd (b≠0) (.int k (a.tmod b))
 | .and=>some (.int k (bt .and k a b))
 | .or=>some (.int k (bt .or k a b))
 | .xor=>some (.int k (bt .xor k a b))
 | .andNot=>some (.int k (bt .andNot k a b))
 | .shl=>gd (0<=b) (.int k (k.wrap (a*2^(min b.toNat k.bits))))
 | .shr=>gd (0<=b) (.int k (a.fdiv (2^(min b.toNat k.bits))))
 | .eql=>some (.bool (decide (a=b)))
 | .neq=>some (.bool (decide (a≠b)))
 | .lss=>some (.bool (decide (a<b)))
 | .leq=>some (.bool (decide (a<=b)))
 | .gtr=>some (.bool (decide (b<a)))
 | .geq=>some (.bool (decide (b<=a)))
def xA(op:BinOp)(a b:UInt8):Option SV:=
 match op with
 | .add=>some (.u8 (a+b))
 | .sub=>some (.u8 (a-b))
 | .mul=>some (.u8 (a*b))
 | .quo=>gd (b≠0) (.u8 (a/b))
 | .rem=>gd (b≠0) (.u8 (a % b))
 | .and=>some (.u8 (a&&&b))
 | .or=>some (.u8 (a|||b))
 | .xor=>some (.u8 (a^^^b))
 | .andNot=>some (.u8 (a&&& ~~~b))
 | .eql=>some (.bool (decide (a=b)))
 | .neq=>some (.bool (decide (a≠b)))
 | .lss=>some (.bool (decide (a<b)))
 | .leq=>some (.bool (decide (a<=b)))
 | .gtr=>some (.bool (decide (b<a)))
 | .geq=>some (.bool (decide (b<=a)))
 |_=>none
def O3(op:BinOp)(a:UInt8)(b:Int):Option SV:=
 match op with
 | .shl=>gd (0<=b) (.u8 (gy (a.toNat*2^(min b.toNat 8))))
 | .shr=>gd (0<=b) (.u8 (gy (a.toNat/2^(min b.toNat 8))))
 |_=>none
def O6(op:BinOp)(a b:t7):Option SV:=
 match op with
 | .add=>gd (a.length+b.length<=9223372036854775807) (.str (a++b))
 | .eql=>some (.bool (decide (a=b)))
 | .neq=>some (.bool (decide (a≠b)))
 | .lss=>some (.bool (bF a b))
 | .leq=>some (.bool (bF a b||decide (a=b)))
 | .gtr=>some (.bool (!(bF a b||decide (a=b))))
 | .geq=>some (.bool (!bF a b))
 |_=>none
def mu:BinOp->Bool
 | .shl| .shr=>true
 |_=>false
def EH(op:BinOp):SV->SV->Option SV
 | .int k a,.int k' b=>if mu op=true\/k=k' then wN op k a b else none
 | .u8 a,.int _ b=>O3 op a b
 | .u8 a,.u8 b=>xA op a b
 | .str a,.str b=>O6 op a b
 |_,_=>none
def l7(c:CSt)(n:Nat)(h:Bool):SV->Option SV
 | .pp cs=>gd (n<=cs.length) (dt h n (cs.map SV.data))
 | .ptr o off=>match c.look o with
  |some (.rc cs)=>gd (off+n<=cs.length) (dt h n (cs.drop off))
  |some (.arr _ xs)=>gd (off=0/\n<=xs.flatten.length) (dt h n (xs.flatten.map SV.data))
  |some (.bar l)=>gd (off=0/\n<=l.length) (dt h n (l.map .u8))
  |none=>none
 | .ap o y i j=>match c.look o with
  |some (.arr sz' xs)=>gd (y=sz'/\i<xs.length/\j+n<=y) (dt h n (((xs.getD i []).drop j).map SV.data))
  |some (.bar l)=>gd (y=1/\j=0/\n=1/\i<l.length) (dt h n [.u8 (l.getD i 0)])
  |_=>none
 |_=>none
def ko(c:CSt)(x:Option Arg)(h:Int):Option Int:=
 match x with
 |none=>some h
 |some a=>(c.ev a).num
def nR(c:CSt)(z:Nat)(x:SV)(lo hi y:Option Arg):Option SV:=
 match x with
 | .byt l t=>
  match ko c lo 0,ko c hi l.length,ko c y l.length with
  |some a,some b,some m=>gd (0<=a/\a<=b/\b<=m/\m<=l.length/\z=1/\(y.isSome=true->b=m)) (.byt ((l.take b.toNat).drop a.toNat) (lJ t hi.isNone y.isSome))
  |_,_,_=>none
 | .lst h l t=>
  match ko c lo 0,ko c hi l.length,ko c y l.length with
  |some a,some b,some m=>gd (0<=a/\a<=b/\b<=m/\m<=l.length/\z=h/\(y.isSome=true->b=m)) (.lst z ((l.take b.toNat).drop a.toNat) (lJ t hi.isNone y.isSome))
  |_,_,_=>none
 | .psl o h off n none=>
  match ko c lo 0,ko c hi n,y with
  |some a,some b,none=>gd (0<=a/\a<=b/\b<=n/\z=h) (.psl o z (off+a.toNat) (b.toNat-a.toNat) none)
  |_,_,_=>none
 | .psl o h off n (some cap)=>
  match ko c lo 0,ko c hi n,ko c y cap with
  |some a,some b,some m=>gd (0<=a/\a<=b/\b<=m/\m<=cap/\z=h) (.psl o z (off+a.toNat) (b.toNat-a.toNat) (some (m.toNat-a.toNat)))
  |_,_,_=>none
 |_=>none
def dN(c:CSt):SV->Option t7
 | .byt l _=>some l
 | .str l=>some l
 | .psl o h off n _=>match c.look o with
  |some (.bar l)=>gd (h=1/\off+n<=l.length) ((l.drop off).take n)
  |_=>none
 |_=>none
def fE(c:CSt)(z:Nat):SV->Option f8
 | .lst h y _=>gd (z=h) y
 | .psl o h off n _=>match c.look o with
  |some (.arr sz'' y)=>gd (z=h/\z=sz''/\off+n<=y.length) ((y.drop off).take n)
  |_=>none
 |_=>none
def psC(c:CSt):List (Nat×Nat×Arg)->List (Nat×Nat×SV)
 |[]=> []
 |(o,n,x)::r=>(o,n,c.ev x)::psC c r
def il(t:Bool)(a b:SV):SV:=if t=true then a else b
def cJ(c:CSt):SOp->Option SV
 | .mov x=>some (c.ev x)
 | .build z J=>(iF z (psC c J)).map .agg
 | .lit h E=>(rows h (evL c E)).map fun r=> .lst h r .clip
 | .litB E=>(toB (evL c E)).map fun r=> .byt r .clip
 | .load n F a=>l7 c n F (c.ev a)
 | .nchk x=>match c.ev x with
  | .ptr o off=>some (.ptr o off)
  | .ap o h i j=>some (.ap o h i j)
  | .pp cs=>some (.pp cs)
  | .fn f a b=>some (.fn f a b)
  |_=>none
 | .bin op x y=>EH op (c.ev x) (c.ev y)
 | .beq H x y=>match c.ev x,c.ev y with
  | .bool a,.bool b=>some (.bool (if H then decide (a≠b)else decide (a=b)))
  |_,_=>none
 | .eqS H L x y=>match c.ev x,c.ev y with
  | .agg cs,.agg ds=>(gH L cs ds).map fun b=> .bool (if H then !b else b)
  |_,_=>none
 | .un op x=>vK op (c.ev x)
 | .toInt k x=>gZ k (c.ev x)
 | .toStr x=>match c.ev x with| .str l=>some (.str l)|_=>none
 | .slid _=>none
 | .newB _=>none
 | .isni H x=>match c.ev x with| .nili=>some (.bool (!H))|_=>none
 | .s2b x=>match c.ev x with| .str l=>some (.byt l .no)|_=>none
 | .b2s x=>match c.ev x with
  | .str _=>none
  |v=>(dN c v).map .str
 | .mkfn f a b=>some (.fn f (evL c a) (evL c b))
 | .slcS x lo hi=>match c.ev x with
  | .str l=>match ko c lo 0,ko c hi l.length with
   |some a,some b=>gd (0<=a/\a<=b/\b<=l.length) (.str ((l.take b.toNat).drop a.toNat))
   |_,_=>none
  |_=>none
 | .slcL h x lo hi I=>nR c h (c.ev x) lo hi I
 | .slcA len h x lo hi I=>match c.ev x with
  | .ptr o off=>if off=0 then nR c h (.psl o h 0 len (some len)) lo hi I else none
  |_=>none
 | .faddr off x=>match c.ev x with
  | .ptr o k=>some (.ptr o (k+off))
  | .ap o h i j=>some (.ap o h i (j+off))
  | .pp cs=>some (.pp (cs.drop off))
  |_=>none
 | .fld off n F x=>match c.ev x with
  | .agg cs=>gd (off+n<=cs.length) (dt F n (cs.drop off))
  |_=>none
 | .iaddrL h x i=>match c.ev x,(c.ev i).num with
  | .byt l _,some n=>gd (0<=n/\n<l.length/\h=1) (.pp [.u8 (l.getD n.toNat 0)])
  | .lst sz' E _,some n=>gd (0<=n/\n<E.length/\h=sz') (.pp (E.getD n.toNat []))
  | .psl o sz' off k _,some n=>gd (0<=n/\n<k/\h=sz') (.ap o h (off+n.toNat) 0)
  |_,_=>none
 | .iaddrA len h x i=>match c.ev x,(c.ev i).num with
  | .ptr o off,some n=>match c.look o with
   |some (.rc _)=>gd (0<=n/\n<len) (.ptr o (off+n.toNat*h))
   |some _=>gd (off=0/\0<=n/\n<len) (.ap o h n.toNat 0)
   |none=>none
  | .pp cs,some n=>gd (0<=n/\n<len/\cs.length=len*h) (.pp (cs.drop (n.toNat*h)))
  |_,_=>none
 | .idxA len h F x i=>match c.ev x,(c.ev i).num with
  | .agg cs,some n=>gd (0<=n/\n<len/\cs.length=len*h) (dt F h (cs.drop (n.toNat*h)))
  |_,_=>none
 | .idxS x i=>match c.ev x,(c.ev i).num with
  | .str l,some n=>gd (0<=n/\n<l.length) (.u8 (l.getD n.toNat 0))
  |_,_=>none
 | .ext x i=>match c.ev x with
  | .tup vs=>gd (i<vs.length) (vs.getD i .undef)
  |_=>none
 | .len b x=>(jN b (c.ev x)).map fun n=> .int .i64 (n:Nat)
 | .lenC n=>some (.int .i64 n)
 | .cap x=>match c.ev x with
  | .psl _ _ _ _ (some m)=>some (.int .i64 m)
  | .byt l t=>if t= .clip then some (.int .i64 l.length)else none
  | .lst _ E t=>if t= .clip then some (.int .i64 E.length)else none
  |_=>none
 | .mini x y=>match c.ev x,c.ev y with
  | .int k a,.int k' b=>if k=k' then some (.int k (if b<a then b else a))else none
  |_,_=>none
 | .maxi x y=>match c.ev x,c.ev y with
  | .int k a,.int k' b=>if k=k' then some (.int k (if a<b then b else a))else none
  |_,_=>none
 |_=>none
structure nW where
 val:SV
 wr:List (Nat×aC):=[]
 new:Option aC:=none
 eat:Tok:= .no
 tok:Bool:=false
def Arg.isT:Arg->Bool
 | .t _=>true
 |_=>false
def aC.wf:aC->Bool
 | .arr y h=>h.all fun x=>decide (x.length=y)
 |_=>true
def kX(c:CSt)(n:Nat)(v:LAa):SV->Option nW
 | .ptr o off=>match c.look o with
  |some (.rc cs)=>gd (off+n<=cs.length/\v.length=n/\v.all SV.one=true) {val:= .undef,wr:=[(o,.rc (gA cs off v))]}
  |some (.arr h xs)=>gd (off=0/\n=xs.length*h/\v.length=n/\v.all SV.isData=true) {val:= .undef,wr:=[(o,.arr h (jw h xs.length (v.map SV.data)))]}
  |some (.bar l)=>match toB v with
   |some y=>gd (off=0/\n=l.length/\y.length=n) {val:= .undef,wr:=[(o,.bar y)]}
   |none=>none
  |_=>none
 | .ap o h i j=>match c.look o with
  |some (.arr sz' xs)=>gd (h=sz'/\i<xs.length/\j+n<=h/\v.length=n/\v.all SV.isData=true) {val:= .undef,wr:=[(o,.arr sz' (iz h xs i j n (v.map SV.data)))]}
  |some (.bar l)=>match v with
   |[.u8 b]=>gd (h=1/\j=0/\n=1/\i<l.length) {val:= .undef,wr:=[(o,.bar (l.set i b))]}
   |_=>none
  |_=>none
 |_=>none
def Tok.readyC(c:CSt):Tok->Bool
 | .no=>false
 | .clip=>true
 | .id t=>c.tk.contains t
def dQ(c:CSt)(d:LAc):SOp->Option nW
 | .new o=>match d with
  |some d=>gd (o.wf=true) {val:= .ptr (d+100) 0,new:=some o}
  |none=>none
 | .box x=>match d with
  |some d=>some {val:= .ptr (d+100) 0,new:=some (.rc (c.ev x).cells)}
  |none=>none
 | .mk z bytes n m=>match d,c.ev n,c.ev m with
  |some d,.int _ n,.int _ m=>gd (0<=n/\n<=m/\bytes*m<=140737488355328/\m<=9223372036854775807) {val:= .psl (d+100) z.length 0 n.toNat (some m.toNat),new:=some (.arr z.length (ao m.toNat z))}
  |_,_,_=>none
 | .mkB n m=>match d,c.ev n,c.ev m with
  |some d,.int _ n,.int _ m=>gd (0<=n/\n<=m/\m<=140737488355328) {val:= .psl (d+100) 1 0 n.toNat (some m.toNat),new:=some (.bar (ao m.toNat 0))}
  |_,_,_=>none
 | .store n a x=>if(c.ev x).isDef=true then kX c n (c.ev x).cells (c.ev a)else none
 | .app z bytes x y=>match d with
  |some d=>match c.ev x with
   | .byt l t=>(dN c (c.ev y)).bind fun h=>gd (z.length=1/\bytes=1/\t.readyC c=true/\l.length+h.length<=140737488355328) {val:= .byt (l++h) (.id (d+100)),eat:=t,tok:=true}
   | .lst E l t=>(fE c z.length (c.ev y)).bind fun h=>gd (z.length=E/\t.readyC c=true/\(l.length+h.length)*bytes<=140737488355328) {val:= .lst z.length (l++h) (.id (d+100)),eat:=t,tok:=true}
   |_=>none
  |none=>none
 | .clr z x=>match c.ev x with
  | .psl o E off n _=>match c.look o with
   |some (.arr sz'' F)=>gd (0<n/\z.length=E/\z.length=sz''/\off+n<=F.length) {val:= .tup [],wr:=[(o,.arr z.length (F.take off++ao n z++F.drop (off+n)))]}
   |_=>none
  |_=>none
 | .cpy H x y=>match c.ev x with
  | .psl o E off n _=>match c.look o with
   |some (.bar l)=>(dN c (c.ev y)).bind fun h=>gd (H=1/\E=1/\off+n<=l.length) {val:= .int .i64 (min h.length n:Nat),wr:=[(o,.bar (l.take off++h.take n++l.drop (off+(h.take n).length)))]}
   |some (.arr sz'' F)=>(fE c H (c.ev y)).bind fun h=>gd (y.isT=true/\H=E/\H=sz''/\off+n<=F.length) {val:= .int .i64 (min h.length n:Nat),wr:=[(o,.arr H (F.take off++h.take n++F.drop (off+(h.take n).length)))]}
   |_=>none
  |_=>none
 | .pick k a b=>match c.ev k with
  | .bool t=>some {val:=il t (c.ev a) (c.ev b)}
  |_=>none
 | .call _ _=>none
 | .isnil I x=>match c.ev x with
  | .byt l _=>gd (l≠ []) {val:= .bool I}
  | .lst _ F _=>gd (F≠ []) {val:= .bool I}
  | .psl _ _ _ _ _=>some {val:= .bool I}
  |_=>none
 |so=>match cJ c so with
  |some v=>some {val:=v}
  |none=>none
def CSt.wr(c:CSt):List (Nat×aC)->CSt
 |[]=>c
 |p::r=>CSt.wr ⟨c.tm,iJ c.ob p.1 p.2,c.tk⟩ r
def CSt.app(c:CSt)(d:LAc)(e:nW):CSt:=
 match e.new,e.tok with
 |some o,_=>CSt.put ⟨de (d.getD 0+100) (d.getD 0+101) c.tm,iJ (bz (d.getD 0+100) (d.getD 0+101) c.ob) (d.getD 0+100) (o.purge (d.getD 0+100) (d.getD 0+101)),cy (d.getD 0+100) (d.getD 0+101) c.tk⟩ d e.val
 |none,true=>CSt.put ⟨de (d.getD 0+100) (d.getD 0+101) c.tm,bz (d.getD 0+100) (d.getD 0+101) c.ob,ml (cy (d.getD 0+100) (d.getD 0+101) (e.eat.eat c.tk)) (d.getD 0+100)⟩ d e.val
 |none,false=>(c.wr e.wr).put d e.val
end Go.Sy
namespace Go.Sy
variable [aX]
mutual
def SV.bare:SV->SV
 | .byt l _=> .byt l .no
 | .lst y h _=> .lst y h .no
 | .agg cs=> .agg (SV.bareL cs)
 | .tup cs=> .tup (SV.bareL cs)
 | .fn f a b=> .fn f (SV.bareL a) (SV.bareL b)
 |v=>v
def SV.bareL:LAa->LAa
 |[]=> []
 |v::r=>v.bare::SV.bareL r
end
def wy(obj:aC)(y off n:Nat)(cap:LAc):SV:=
 match obj with
 | .arr h z=>if h=y/\off+n<=z.length then .lst y ((z.drop off).take n) (if cap=some n then .clip else .no)else .undef
 | .bar l=>if y=1/\off+n<=l.length then .byt ((l.drop off).take n) (if cap=some n then .clip else .no)else .undef
 | .rc _=> .undef
mutual
def SV.pub(o:Nat)(obj:aC):SV->SV
 | .psl h y off n cap=>if h=o then wy obj y off n cap else .psl h y off n cap
 | .ptr h off=>if h=o then .undef else .ptr h off
 | .ap h y i j=>if h=o then .undef else .ap h y i j
 | .agg cs=> .agg (SV.pubL o obj cs)
 | .tup cs=> .tup (SV.pubL o obj cs)
 | .fn f a b=> .fn f (SV.pubL o obj a) (SV.pubL o obj b)
 |v=>v
def SV.pubL(o:Nat)(obj:aC):LAa->LAa
 |[]=> []
 |v::r=>v.pub o obj::SV.pubL o obj r
end
def lB(o:Nat)(obj:aC):List (Nat×SV)->List (Nat×SV)
 |[]=> []
 |p::r=>(p.1,p.2.pub o obj)::lB o obj r
def nz(o:Nat)(obj:aC):aC->aC
 | .rc cs=> .rc (SV.pubL o obj cs)
 |ob=>ob
def lf(o:Nat)(obj:aC):List (Nat×aC)->List (Nat×aC)
 |[]=> []
 |p::r=>if p.1=o then lf o obj r else(p.1,nz o obj p.2)::lf o obj r
def CSt.publish(c:CSt)(o:Nat)(vs:LAa):CSt×LAa:=
 match c.look o with
 |some (.arr sz xs)=>(⟨lB o (.arr sz xs) c.tm,lf o (.arr sz xs) c.ob,c.tk⟩,SV.pubL o (.arr sz xs) vs)
 |some (.bar l)=>(⟨lB o (.bar l) c.tm,lf o (.bar l) c.ob,c.tk⟩,SV.pubL o (.bar l) vs)
 |_=>(c,vs)
def gN:SV->LAb
 | .psl o _ _ _ _=> [o]
 |_=> []
def tH:LAa->LAb
 |[]=> []
 |v::r=>gN v++tH r
def mj(raw:LAb)(i:Nat):SV->LAb
 | .psl o _ _ _ _=>if raw.contains i=true then []else [o]
 | .agg cs=>if raw.contains i=true then []else tH cs
 |_=> []
def iP(raw:LAb):Nat->LAa->LAb
 |_,[]=> []
 |i,v::r=>mj raw i v++iP raw (i+1) r
def eD(c:CSt)(vs:LAa):LAb->CSt×LAa
 |[]=>(c,vs)
 |o::r=>eD (c.publish o vs).1 (c.publish o vs).2 r
def Tok.kc:Tok->Bool->Tok
 | .clip,b=>if b=true then .clip else .no
 | .no,_=> .no
 | .id _,_=> .no
def SV.kclip:SV->SV
 | .lst y h t=> .lst y h (t.kc h.isEmpty)
 | .byt l t=> .byt l (t.kc l.isEmpty)
 |v=>v.bare
def jR(tk:LAb)(j:Nat):SV->SV×List LAc
 | .agg cs=>(.agg (cs.map SV.kclip),[])
 | .byt l .no=>(.byt l .no,[])
 | .byt l .clip=>(.byt l (.id j),[none])
 | .byt l (.id t)=>if tk.contains t=true then(.byt l (.id j),[some t])else(.byt l .no,[])
 | .lst sz xs .no=>(.lst sz xs .no,[])
 | .lst sz xs .clip=>(.lst sz xs (.id j),[none])
 | .lst sz xs (.id t)=>if tk.contains t=true then(.lst sz xs (.id j),[some t])else(.lst sz xs .no,[])
 |v=>(v.bare,[])
def tE(j h:Nat)(y:f8):Bool->SV×List LAc
 |true=>(.lst h y .clip,[])
 |false=>(.lst h y (.id j),[none])
def tD(tk:LAb)(j y:Nat)(h:f8):Tok->SV×List LAc
 | .clip=>tE j y h h.isEmpty
 | .no=>jR tk j (.lst y h .no)
 | .id t=>jR tk j (.lst y h (.id t))
def rf(tk:LAb)(j:Nat):SV->SV×List LAc
 | .lst y h t=>tD tk j y h t
 |v=>jR tk j v
def jS(tk:LAb)(own:LAb):Nat->Nat->LAa->LAa×List LAc
 |_,_,[]=>([],[])
 |j,i,v::r=>
  if own.contains i=true then
   ((rf tk j v).1::(jS tk own (j+(rf tk j v).2.length) (i+1) r).1,(rf tk j v).2++(jS tk own (j+(rf tk j v).2.length) (i+1) r).2)
  else(v.bare::(jS tk own j (i+1) r).1,(jS tk own j (i+1) r).2)
def sr(tk:LAb):Nat->LAa->LAa×List LAc
 |_,[]=>([],[])
 |j,v::r=>((jR tk j v).1::(sr tk (j+(jR tk j v).2.length) r).1,(jR tk j v).2++(sr tk (j+(jR tk j v).2.length) r).2)
def jG(tk:LAb)(j:Nat):aC->aC×List LAc
 | .rc cs=>(.rc (sr tk j cs).1,(sr tk j cs).2)
 |o=>(o,[])
def dT(tk:LAb):Nat->List aC->List aC×List LAc
 |_,[]=>([],[])
 |j,v::r=>((jG tk j v).1::(dT tk (j+(jG tk j v).2.length) r).1,(jG tk j v).2++(dT tk (j+(jG tk j v).2.length) r).2)
def cx:List LAc->LAb
 |[]=> []
 |none::r=>cx r
 |some t::r=>t::cx r
def dB(c:CSt):Nat->LAb->LAb->LAb
 |0,acc,_=>acc
 |_+1,acc,[]=>acc
 |
  f+1,acc,o::t=>if acc.contains o=true then dB c f acc t else
  match c.look o with
  |some ob=>dB c f (acc++ [o]) (t++ob.ids)
  |none=>dB c f acc t
def gw(c:CSt):LAb->Option (List aC)
 |[]=>some []
 |o::r=>match c.look o,gw c r with
  |some ob,some l=>some (ob::l)
  |_,_=>none
def gE:LAb->Nat->Nat
 |[],_=>0
 |p::r,o=>if p=o then 0 else gE r o+1
def fz:List aC->LAb
 |[]=> []
 |o::r=>o.ids++fz r
def dr:LAb->Bool
 |[]=>true
 |a::r=> !r.contains a&&dr r
def oe(a b:LAb):Bool:=a.all b.contains
def dX(mo mt:Nat->Nat):List aC->List aC
 |[]=> []
 |o::r=>o.ren mo mt::dX mo mt r
structure dZ where
 r:SV
 os:List (Nat×aC)
 tk:List Nat
structure Sig where
 own:List Nat:=[]
 raw:List Nat:=[]
def qV(ob:List (Nat×aC)):List (Nat×aC)->List (Nat×aC)
 |[]=>ob
 |p::r=>qV (iJ ob p.1 p.2) r
def qW(tk:LAb):LAb->LAb
 |[]=>tk
 |t::r=>qW (ml tk t) r
def mg(l:LAb):LAb->LAb
 |[]=> []
 |t::r=>if l.contains t=true then mg l r else t::mg l r
def qS(d:Nat):LAb->LAb
 |[]=> []
 |t::r=>kj d t::qS d r
def dZ.small(q:dZ):Bool:=q.os.all (fun p=>decide (p.1<1000)&&p.2.ids.all (fun k=>decide (k<1000))&&p.2.toks.all (fun k=>decide (k<1000)))&&q.r.ids.all (fun k=>decide (k<1000))&&q.r.toks.all (fun k=>decide (k<1000))&&q.tk.all (fun k=>decide (k<1000))
def jP(c:CSt)(d:LAc)(m mt:LAb)(q:dZ):CSt:=
 CSt.put ⟨de ((d.getD 0+1)*1000) ((d.getD 0+2)*1000) c.tm,
  qV (eY m (bz ((d.getD 0+1)*1000) ((d.getD 0+2)*1000) c.ob)) (ox (d.getD 0) m q.os),
  qW (mg mt (cy ((d.getD 0+1)*1000) ((d.getD 0+2)*1000) c.tk)) (qS (d.getD 0) q.tk)⟩ d (q.r.ren (iH (d.getD 0) m) (kj (d.getD 0)))
abbrev cW:=Nat->LAa->List aC->Nat->Option dZ
def dZ.bare(q:dZ):Bool:=q.os.isEmpty&&q.tk.isEmpty&&q.r.ids.isEmpty&&q.r.toks.isEmpty
def wV(c:CSt)(d:LAc)(q:dZ):Bool->LBa
 |true=>some (jP c d [] [] q)
 |false=>none
def nD(c:CSt)(d:LAc)(q:dZ):Bool->LBa
 |true=>some (c.put d q.r)
 |false=>wV c d q q.small
def mc(c:CSt)(d:LAc):Option dZ->LBa
 |some q=>nD c d q q.bare
 |none=>none
def vW(c:CSt)(d:LAc)(m mt:LAb)(q:dZ):Bool->LBa
 |true=>some (jP c d m mt q)
 |false=>none
def oq(c:CSt)(d:LAc)(m mt:LAb):Option dZ->LBa
 |some q=>vW c d m mt q q.small
 |none=>none
def nj(call:cW)(c:CSt)(d:LAc)(g:Nat)(a_:LAa)(y:List LAc)(m:LAb)(os:List aC)(h:List LAc):Bool->LBa
 |true=>oq c d m (cx (y++h)) (call g (SV.renL (gE m) id a_) (dX (gE m) id os) (y.length+h.length))
 |false=>none
def nl(call:cW)(c:CSt)(d:LAc)(g:Nat)(a_:LAa)(h:List LAc)(m:LAb):List aC×List LAc->LBa
 |(os,mt2)=>nj call c d g a_ h m os mt2 (oe (SV.idsL a_++fz os) m&&dr m&&dr (cx (h++mt2))&&decide (m.length<=40)&&m.all fun o=> !inR (d.getD 0) o)
def ls(call:cW)(c:CSt)(d:LAc)(g:Nat)(a_:LAa)(h:List LAc)(m:LAb):Option (List aC)->LBa
 |some os=>nl call c d g a_ h m (dT c.tk (50+h.length) os)
 |none=>none
def nm(call:cW)(c:CSt)(d:LAc)(g:Nat):LAa×List LAc->LBa
 |(a_,mt1)=>ls call c d g a_ mt1 (dB c 60 [] (SV.idsL a_)) (gw c (dB c 60 [] (SV.idsL a_)))
def jH(call:cW)(sg:Sig)(d:LAc)(g:Nat):CSt×LAa->LBa
 |(c,a_)=>nm call c d g (jS c.tk sg.own 50 0 a_)
def jO(call:cW)(sg:Sig)(c:CSt)(d:LAc)(g:Nat)(a_:LAa):Bool->LBa
 |true=>mc c d (call g (SV.bareL a_) [] 0)
 |false=>jH call sg d g (eD c a_ (iP sg.raw 0 a_))
def ig(call:cW)(sg:Sig)(c:CSt)(d:LAc)(g:Nat)(a_:LAa):LBa:=
 jO call sg c d g a_ ((SV.idsL a_).isEmpty&&sg.own.isEmpty)
inductive Dir where
 |kill (l:List Nat)
 |gc (l:List Nat)
 |gcr (lo hi:Nat)
 |pub (n:Nat)
 |pubo (o:Nat)
 |tok (n id:Nat)
 |obj (n id:Nat)
inductive RI where
 |op (i:SI) (dead:List Nat)
 |grp (g:Nat) (b:Bool) (l:List SI) (dead:List Nat)
 |own (i:SI) (dead:List Nat)
 |tks (i:SI) (dead:List Nat)
 |dir (d:Dir)
structure FI where
 n:Nat
 q:Bool
 i:SI
inductive RC where
 |skip
 |ops (l:List RI)
 |flt (b ds:List Nat) (l:List FI) (dead:List Nat)
 |fla (b ds:List Nat) (l:List FI) (ps:List (List Nat)) (dead:List Nat)
 |seq (a b:RC)
 |cond (c:Arg) (a b:RC)
 |block (id:Nat) (b:RC)
 |loop (b:RC)
 |exit (id:Nat)
 |ret
 |pre (ds:List Dir) (a:RC)
 |post (a:RC) (ds:List Dir)
 |bad
def erL:List RI->LAf
 |[]=> []
 | .op i _::r=>i::erL r
 | .grp _ _ l _::r=>l++erL r
 | .own i _::r=>i::erL r
 | .tks i _::r=>i::erL r
 | .dir _::r=>erL r
def SOp.er:SOp->SOp
 | .appO z b x y=> .app z b x y
 |o=>o
def SI.er(i:SI):SI:=⟨i.dst,i.g,i.op.er⟩
def Eu:List FI->Nat->SI
 |[],_=>⟨none,none,.lenC 0⟩
 |f::r,k=>if f.n=k then f.i.er else Eu r k
def unF(l:List FI):LAf:=(bU l.length).map (Eu l)
def RC.er:RC->fY
 | .skip=> .skip
 | .ops l=> .ops (erL l)
 | .flt b h l _=> .drw b h (unF l)
 | .fla b h l _ _=> .drw b h (unF l)
 | .seq a b=> .seq a.er b.er
 | .cond c a b=> .cond c a.er b.er
 | .block id b=> .block id b.er
 | .loop b=> .loop b.er
 | .exit id=> .exit id
 | .ret=> .ret
 | .pre _ a=>a.er
 | .post a _=>a.er
 | .bad=> .bad
def gcC(c:CSt):LAb->CSt
 |[]=>c
 |o::r=>gcC (c.purge o (o+1)) r
def Ed(c:CSt)(n id o:Nat)(obj:aC)(v:SV):CSt:=
 ⟨jn (de id (id+1) (lB o obj c.tm)) n v,bz id (id+1) (lf o obj c.ob),ml (cy id (id+1) c.tk) id⟩
def QA(c:CSt)(n id o h off k cp:Nat):Option aC->LBa
 |some (.bar l)=>if h=1/\off+cp<=l.length/\k<=cp then some (Ed c n id o (.bar (l.take (off+k))) (.byt ((l.drop off).take k) (.id id)))else some c
 |some (.arr sz' xs)=>if sz'=h/\off+cp<=xs.length/\k<=cp then some (Ed c n id o (.arr sz' (xs.take (off+k))) (.lst h ((xs.drop off).take k) (.id id)))else some c
 |_=>some c
def QB(c:CSt)(n id:Nat):SV->LBa
 | .byt l t=>match t with
  | .no=>some c
  | .clip=>some ⟨jn (de id (id+1) c.tm) n (.byt l (.id id)),bz id (id+1) c.ob,ml (cy id (id+1) c.tk) id⟩
  | .id t=>if t=id then some c else if c.tk.contains t=true then some ⟨jn (de id (id+1) c.tm) n (.byt l (.id id)),bz id (id+1) c.ob,ml (cy id (id+1) (cy t (t+1) c.tk)) id⟩else none
 | .lst h y t=>match t with
  | .no=>some c
  | .clip=>some ⟨jn (de id (id+1) c.tm) n (.lst h y (.id id)),bz id (id+1) c.ob,ml (cy id (id+1) c.tk) id⟩
  | .id t=>if t=id then some c else if c.tk.contains t=true then some ⟨jn (de id (id+1) c.tm) n (.lst h y (.id id)),bz id (id+1) c.ob,ml (cy id (id+1) (cy t (t+1) c.tk)) id⟩else none
 | .psl o h off k (some cp)=>QA c n id o h off k cp (c.look o)
 |_=>some c
def mvC(c:CSt)(n id o h off k:Nat)(cap:LAc)(obj:aC):CSt:=
 ⟨jn (de id (id+1) (de o (o+1) c.tm)) n (.psl id h off k cap),iJ (bz id (id+1) (bz o (o+1) c.ob)) id obj,cy id (id+1) (cy o (o+1) c.tk)⟩
def xk3(c:CSt)(n id o h off k:Nat)(cap:LAc):Option aC->LBa
 |some (.bar l)=>some (mvC c n id o h off k cap (.bar l))
 |some (.arr sz' xs)=>some (mvC c n id o h off k cap (.arr sz' xs))
 |_=>some c
def Z7(c:CSt)(n id:Nat):SV->LBa
 | .psl o h off k cap=>if o=id then some c else xk3 c n id o h off k cap (c.look o)
 |_=>some c
def qI(c:CSt):Dir->LBa
 | .kill l=>some (c.kill l)
 | .gc l=>some (gcC c l)
 | .gcr lo hi=>some (c.purge lo hi)
 | .pubo o=>some (c.publish o []).1
 | .pub n=>match c.get n with
  | .psl o _ _ _ _=>some (c.publish o []).1
  |_=>some c
 | .tok n id=>if id=99 then none else QB c n id (c.get n)
 | .obj n id=>if id<100 then none else Z7 c n id (c.get n)
def iu(c:CSt):List Dir->LBa
 |[]=>some c
 |d::r=>match qI c d with
  |some c'=>iu c' r
  |none=>none
inductive Ex where
 |n
 |x (id:Nat)
 |r
abbrev gJ:=Option (Ex×CSt)
def m7(c:CSt)(d:LAc):Option nW->LBa
 |some e=>some (c.app d e)
 |none=>none
def nA(c:CSt):LAc->Option t7->LBa
 |some k,some l=>some (c.app (some k) {val:= .psl (k+100) 1 0 l.length (some l.length),new:=some (.bar l)})
 |_,_=>none
def ot(c:CSt)(d:LAc)(o off n:Nat)(cap:LAc):Option aC->LBa
 |some (.bar l)=>if off+n<=l.length/\cap=some n then some (((c.publish o []).1).put d (.byt ((l.drop off).take n) .clip))else none
 |_=>none
def qQ(c:CSt)(d:LAc):SV->LBa
 | .psl o 1 off n cap=>ot c d o off n cap (c.look o)
 |_=>none
def RF(c:CSt):LAc->SV->LBa
 |some k,.str l=>some (c.app (some k) {val:= .psl (k+100) 1 0 l.length none,new:=some (.bar l)})
 |_,_=>none
def RE(c:CSt)(z:LAa)(bytes:Nat)(l:t7):LAc->Option t7->LBa
 |some k,some l'=>if z.length≠1 then none else if l'=[]then some (c.put (some k) (.byt l .clip))else if bytes=1/\l.length+l'.length<=140737488355328 then some (c.app (some k) {val:= .psl (k+100) 1 0 (l.length+l'.length) none,new:=some (.bar (l++l'))})else none
 |_,_=>none
def RD(c:CSt)(z:LAa)(bytes h:Nat)(l:f8):LAc->Option f8->LBa
 |some k,some l'=>if l'=[]then some (c.put (some k) (.lst h l .clip))else if z.length=h/\(l.length+l'.length)*bytes<=140737488355328 then some (c.app (some k) {val:= .psl (k+100) h 0 (l.length+l'.length) none,new:=some (.arr h (l++l'))})else none
 |_,_=>none
def OC(c:CSt)(z:LAa)(bytes o h n:Nat):LAc->Option f8->Option f8->Option t7->Option t7->LBa
 |some k,some R,some l',_,_=>if z.length=h/\R.length=n/\(n+l'.length)*bytes<=140737488355328 then some ((c.purge o (o+1)).app (some k) {val:= .psl (k+100) h 0 (n+l'.length) none,new:=some (.arr h (R++l'))})else none
 |some k,none,_,some R,some l'=>if z.length=1/\h=1/\R.length=n/\(n+l'.length)*bytes<=140737488355328 then some ((c.purge o (o+1)).app (some k) {val:= .psl (k+100) 1 0 (n+l'.length) none,new:=some (.bar (R++l'))})else none
 |_,_,_,_,_=>none
def rq(c:CSt)(d:LAc)(z:LAa)(bytes:Nat)(y:Arg):SV->LBa
 | .byt l t=>if t= .clip then RE c z bytes l d (dN c (c.ev y))else none
 | .lst h l t=>if t= .clip then RD c z bytes h l d (fE c z.length (c.ev y))else none
 | .psl o h 0 n none=>OC c z bytes o h n d (fE c z.length (.psl o h 0 n none)) (fE c z.length (c.ev y)) (dN c (.psl o h 0 n none)) (dN c (c.ev y))
 |_=>none
def opC(call:cW)(sg:Nat->Sig)(c:CSt)(d:LAc)(o:SOp):LBa:=
 match o with
 | .newB h=>nA c d (toB (evL c h))
 | .slid x=>qQ c d (c.ev x)
 | .appO z bytes x y=>rq c d z bytes y (c.ev x)
 | .call f a_=>match c.ev f with
  | .fn g a b=>ig call (sg g) c d g (a++evL c a_++b)
  |_=>none
 |o=>m7 c d (dQ c d o)
def dA(call:cW)(sg:Nat->Sig)(c:CSt)(i:SI):LBa:=
 match i.g with
 |none=>opC call sg c i.dst i.op
 |some (g,b)=>match c.get g with
  | .bool t=>if t=b then opC call sg c i.dst i.op else some (c.put i.dst (.tup []))
  | .tup []=>some (c.put i.dst (.tup []))
  |_=>none
mutual
def plC(call:cW)(sg:Nat->Sig):LAf->CSt->LBa
 |[],c=>some c
 |i::r,c=>nxP call sg r (opC call sg c i.dst i.op)
def nxP(call:cW)(sg:Nat->Sig):LAf->LBa->LBa
 |r,some c=>plC call sg r c
 |_,none=>none
end
def unL(c:CSt):LAf->CSt
 |[]=>c
 |i::r=>unL (c.put i.dst (.tup [])) r
def oX(call:cW)(sg:Nat->Sig)(b:Bool)(l:LAf)(c:CSt):SV->LBa
 | .bool t=>if t=b then plC call sg l c else some (unL c l)
 | .tup []=>some (unL c l)
 |_=>none
def RB(c:CSt)(h:Nat):LAc->Option f8->LBa
 |some k,some xs=>some (c.app (some k) {val:= .psl (k+100) h 0 xs.length (some xs.length),new:=some (.arr h xs)})
 |_,_=>none
def xk1(c:CSt)(d:LAc):SOp->LBa
 | .lit E h=>RB c E d (rows E (evL c h))
 | .litB h=>nA c d (toB (evL c h))
 | .s2b x=>RF c d (c.ev x)
 | .app z bytes x y=>rq c d z bytes y (c.ev x)
 |_=>none
def QE(c:CSt):LAc->SV->LBa
 |some k,.str l=>some (c.app (some k) {val:= .byt l (.id (k+100)),tok:=true})
 |_,_=>none
def xj7(c:CSt)(d:LAc):SOp->LBa
 | .s2b x=>QE c d (c.ev x)
 |_=>none
def zC(c:CSt)(i:SI):LBa:=match i.g with
 |none=>xj7 c i.dst i.op
 |some _=>none
def sI(c:CSt)(i:SI):LBa:=match i.g with
 |none=>xk1 c i.dst i.op
 |some _=>none
mutual
def fC(call:cW)(sg:Nat->Sig):List RI->CSt->LBa
 |[],c=>some c
 | .op i dead::r,c=>nxC call sg dead r (dA call sg c i)
 | .grp g b l dead::r,c=>nxC call sg dead r (oX call sg b l c (c.get g))
 | .own i dead::r,c=>nxC call sg dead r (sI c i)
 | .tks i dead::r,c=>nxC call sg dead r (zC c i)
 | .dir d::r,c=>nxC call sg [] r (qI c d)
def nxC(call:cW)(sg:Nat->Sig)(h:LAb):List RI->LBa->LBa
 |r,some c=>fC call sg r (c.kill h)
 |_,none=>none
end
def cX(c:CSt):SOp->Option SV
 | .pick k a b=>match c.ev k with
  | .bool t=>some (il t (c.ev a) (c.ev b))
  |_=>none
 |so=>cJ c so
def qg(c:CSt)(o:SOp)(b:Bool):SV->Option SV
 | .bool t=>if t=b then cX c o else some (.tup [])
 | .tup []=>some (.tup [])
 |_=>none
def qv(c:CSt)(i:SI):Option SV:=match i.g with
 |none=>cX c i.op
 |some (g,b)=>qg c i.op b (c.get g)
def sV(m:Nat)(c:CSt):List FI->Prop
 |[]=>True
 |p::r=>(m/2^p.n % 2=1\/qv c p.i=some (c.get (p.i.dst.getD 0)))/\sV m c r
open Classical in
noncomputable def gdP{α:Type}(p:Prop)(v:α):Option α:=if p then some v else none
mutual
noncomputable def eT(call:cW)(sg:Nat->Sig)(b:LAb):List FI->List FI->CSt->LBa
 |[],_,c=>some c
 |⟨n,true,i⟩::r,ps,c=>vj call sg b r (⟨n,true,i⟩::ps) c i.dst (qv c i)
 |⟨n,false,i⟩::r,ps,c=>qE call sg b r ps (b.getD n 0) (dA call sg c i)
noncomputable def vj(call:cW)(sg:Nat->Sig)(b:LAb):List FI->List FI->CSt->LAc->Option SV->LBa
 |r,ps,c,d,some v=>eT call sg b r ps (c.put d v)
 |_,_,_,_,none=>none
noncomputable def qE(call:cW)(sg:Nat->Sig)(b:LAb):List FI->List FI->Nat->LBa->LBa
 |r,ps,m,some c=>qF call sg b r ps (gdP (sV m c ps) c)
 |_,_,_,none=>none
noncomputable def qF(call:cW)(sg:Nat->Sig)(b:LAb):List FI->List FI->LBa->LBa
 |r,ps,some c=>eT call sg b r ps c
 |_,_,none=>none
end
def tQ:List FI->Nat->FI
 |[],k=>⟨k,false,⟨none,none,.lenC 0⟩⟩
 |f::r,k=>if f.n=k then f else tQ r k
def iA(l:List FI):LAb->List FI
 |[]=> []
 |k::r=>tQ l k::iA l r
noncomputable def nJ:LBa->LBa->LBa
 |some a,some b=>gdP (a=b) a
 |_,_=>none
noncomputable def iX(call:cW)(sg:Nat->Sig)(b:LAb)(l:List FI):List LAb->CSt->LBa
 |[],_=>none
 |[p],c=>eT call sg b (iA l p) [] c
 |p::q::r,c=>nJ (eT call sg b (iA l p) [] c) (iX call sg b l (q::r) c)
def nrm(h:LAb):LBa->gJ
 |some c=>some (.n,c.kill h)
 |none=>none
def sq(rn:RC->CSt->gJ)(b:RC):gJ->gJ
 |some (.n,c)=>rn b c
 |r=>r
def cnd(rn:RC->CSt->gJ)(a b:RC)(c:CSt):SV->gJ
 | .bool t=>if t=true then rn a c else rn b c
 |_=>none
def blk(id:Nat):gJ->gJ
 |some (.x id',c)=>if id'=id then some (.n,c)else some (.x id',c)
 |r=>r
def lp(rn:RC->CSt->gJ)(b:RC):gJ->gJ
 |some (.n,c)=>rn (.loop b) c
 |r=>r
def prD(rn:RC->CSt->gJ)(a:RC):LBa->gJ
 |some c=>rn a c
 |none=>none
def psD(h:List Dir):gJ->gJ
 |some (.n,c)=>match iu c h with
  |some c'=>some (.n,c')
  |none=>none
 |r=>r
noncomputable def dM(rn:RC->CSt->gJ)(call:cW)(sg:Nat->Sig):RC->CSt->gJ
 | .skip,c=>some (.n,c)
 | .ops l,c=>nrm [] (fC call sg l c)
 | .flt b _ l dead,c=>nrm dead (eT call sg b l [] c)
 | .fla b _ l ps dead,c=>nrm dead (iX call sg b l ps c)
 | .seq a b,c=>sq rn b (rn a c)
 | .cond k a b,c=>cnd rn a b c (c.ev k)
 | .block id b,c=>blk id (rn b c)
 | .loop b,c=>lp rn b (rn b c)
 | .exit id,c=>some (.x id,c)
 | .ret,c=>some (.r,c)
 | .pre ds a,c=>prD rn a (iu c ds)
 | .post a ds,c=>psD ds (rn a c)
 | .bad,_=>none
def SI.ok(N:Nat)(i:SI):Bool:=match i.dst with
 |some d=>decide (d<N)
 |none=>true
def SI.okG(N g:Nat)(b:Bool)(i:SI):Bool:=i.ok N&&(match i.g with|some (g',b')=>decide (g'=g)&&(b'==b)|none=>false)&&decide (i.dst≠some g)
def RI.ok(N:Nat):RI->Bool
 | .op i _=>i.ok N
 | .grp g b l _=>l.all (SI.okG N g b)
 | .own i _=>i.ok N
 | .tks i _=>i.ok N
 | .dir _=>true
def m6(b:LAb)(i j:Nat):Bool:=(b.getD j 0).testBit i
def nq(b:LAb):LAc->List FI->Bool
 |_,[]=>true
 |
  s,f::r=>if f.q then(match s with|some s=>m6 b s f.n|none=>true)&&nq b s r
  else(match s with|some s=>m6 b s f.n|none=>true)&&nq b (some f.n) r
def OB(b:LAb)(p q:FI):Bool:= !m6 b q.n p.n&&(p.q||q.q||m6 b p.n q.n)
def oJ(b:LAb):List FI->Bool
 |[]=>true
 |p::r=>r.all (OB b p)&&oJ b r
def SI.rds(i:SI):LAb:=i.op.args.filterMap (fun| .t n=>some n|_=>none)++(match i.g with|some (g,_)=> [g]|none=> [])
def Se(b:LAb)(l:List FI):Bool:=l.all fun q=> !q.q||(match q.i.dst with|some d=>l.all fun p=> !p.i.rds.contains d||(m6 b q.n p.n&&decide (p.n≠q.n))|none=>false)
def PN(b:LAb)(l:List FI):Bool:=nq b none l&&oJ b l&&Se b l&&decide ((l.map FI.n).Nodup)&&l.all (fun f=>decide (f.n<l.length))&&(bU l.length).all (l.map FI.n).contains
def wi(b:LAb):LAc->List FI->Bool
 |_,[]=>true
 |s,f::r=>if f.q then(match s with|some s=>m6 b s f.n|none=>true)&&wi b s r else wi b (some f.n) r
def tR(b:LAb):List FI->Bool
 |[]=>true
 |p::r=>r.all (fun q=> !m6 b q.n p.n)&&tR b r
def fo(l:List FI):LAb:=l.filterMap fun f=>if f.q then none else some f.n
def kN(b:LAb):Nat->List LAb->Bool
 |_,[]=>false
 |_,[]::_=>true
 |0,_=>false
 |k+1,A@((h::t)::_)=>(h::t).all fun g=>(h::t).any (fun x=>decide (x≠g)&&m6 b x g)||kN b k (A.filterMap fun p=>match p with|x::r=>if x=g then some r else none|[]=>none)
def P4(b:LAb)(l:List FI)(h:List LAb):Bool:=
 Se b l&&decide ((l.map FI.n).Nodup)&&l.all (fun f=>decide (f.n<l.length))&&(bU l.length).all (l.map FI.n).contains&&
 h.all (fun p=>decide p.Nodup&&p.all (l.map FI.n).contains&&(l.map FI.n).all p.contains&&wi b none (iA l p)&&tR b (iA l p))&&kN b l.length (h.map fun p=>fo (iA l p))
def RC.ok(N:Nat):RC->Bool
 | .ops l=>l.all (RI.ok N)
 | .flt b _ l _=>l.all (fun f=>f.i.ok N)&&PN b l
 | .fla b _ l h _=>l.all (fun f=>f.i.ok N)&&P4 b l h
 | .seq a b=>a.ok N&&b.ok N
 | .cond _ a b=>a.ok N&&b.ok N
 | .block _ b=>b.ok N
 | .loop b=>b.ok N
 | .pre _ a=>a.ok N
 | .post a _=>a.ok N
 |_=>true
inductive RV where
 |tmp (t:Nat)
 |cell (t n:Nat) (ag:Bool)
structure FnC where
 code:RC
 n:Nat
 rs:List RV
 keep:List Nat:=[]
 raw:List Nat:=[]
inductive FnB where
 |code (F:FnC)
 |prim (f:List SV->List aC->Nat->Option dZ)
structure ix where
 fn:Nat->Option FnB
 sg:Nat->Sig
def rm(c:CSt):List RV->Option LAa
 |[]=>some []
 | .tmp t::r=>match rm c r with
  |some vs=>some (c.get t::vs)
  |none=>none
 | .cell t n ag::r=>match (if ag=true\/n=1 then l7 c n ag (c.get t)else none),rm c r with
  |some v,some vs=>some (v::vs)
  |_,_=>none
def kU:Nat->LAb
 |0=> []
 |n+1=>kU n++ [n]
def fP(k:Nat):List aC->List (Nat×aC)
 |[]=> []
 |o::r=>(k,o)::fP (k+1) r
def gQ(k:Nat)(m:LAb)(o:Nat):Nat:=if o<k then o else 100+gE m o
def tks(b n:Nat):LAb:=(kU n).map (b+ ·)
def xag(k:Nat)(vs:LAa)(y:List LAc)(m:LAb)(os:List aC)(h:List LAc):Bool->Option dZ
 |true=>some ⟨(jo vs).ren (gQ k m) id,(fP 0 (dX (gQ k m) id (os.take k)))++(fP (100+k) (dX (gQ k m) id (os.drop k))),tks 60 (y.length+h.length)⟩
 |false=>none
def xah(k:Nat)(vs:LAa)(h:List LAc)(m:LAb):List aC×List LAc->Option dZ
 |(os,mt2)=>xag k vs h m os mt2 (oe (SV.idsL vs++fz os) m&&dr m&&dr (cx (h++mt2))&&decide (m.take k=kU k)&&(m.drop k).all fun o=>decide (k<=o))
def xai(k:Nat)(c:CSt)(vs:LAa)(h:List LAc)(m:LAb):Option (List aC)->Option dZ
 |some os=>xah k vs h m (dT c.tk (60+h.length) os)
 |none=>none
def xaj(k:Nat)(c:CSt):LAa×List LAc->Option dZ
 |(vs,mt1)=>xai k c vs mt1 (dB c 60 [] (kU k++SV.idsL vs)) (gw c (dB c 60 [] (kU k++SV.idsL vs)))
def ON(keep:LAb)(k:Nat)(c:CSt)(vs:LAa):Bool->Option dZ
 |true=>some ⟨jo (SV.bareL vs),[],[]⟩
 |false=>xaj k c (jS c.tk keep 60 0 vs)
def Si(keep:LAb)(k:Nat):CSt×LAa->Option dZ
 |(c,vs)=>ON keep k c vs (decide (k=0)&&(SV.idsL vs).isEmpty&&keep.isEmpty)
def OO(keep raw:LAb)(k:Nat)(c:CSt):Option LAa->Option dZ
 |some vs=>Si keep k (eD c vs (iP raw 0 vs))
 |none=>none
def EC(F:FnC)(k:Nat):gJ->Option dZ
 |some (.n,c)=>OO F.keep F.raw k c (rm c F.rs)
 |some (.r,c)=>OO F.keep F.raw k c (rm c F.rs)
 |_=>none
def nC:Nat->LAa->List (Nat×SV)
 |_,[]=> []
 |i,v::r=>(i,v)::nC (i+1) r
def qX(args:LAa)(os:List aC)(k:Nat):CSt:=⟨nC 0 args,fP 0 os,tks 50 k⟩
def EB(rn:RC->CSt->gJ)(F:FnC)(args:LAa)(os:List aC)(k:Nat):gJ:=if args.length<=F.n then rn F.code (qX args os k)else none
def nI(rn:RC->CSt->gJ):Option FnB->LAa->List aC->Nat->Option dZ
 |some (.code F),args,os,k=>EC F os.length (EB rn F args os k)
 |some (.prim f),args,os,k=>f args os k
 |none,_,_,_=>none
noncomputable def gB(T:ix):Nat->RC->CSt->gJ
 |0,_,_=>none
 |n+1,r,c=>dM (gB T n) (fun g args os k=>nI (gB T n) (T.fn g) args os k) T.sg r c
noncomputable def eQ(T:ix)(n:Nat):cW:=fun g args os k=>nI (gB T n) (T.fn g) args os k
noncomputable def lim{α:Type}(g:Nat->Option α):Option α:=open Classical in if h:∃n x,g n=some x then g (Classical.choose h)else none
noncomputable def run(T:ix)(r:RC)(c:CSt):gJ:=lim fun n=>gB T n r c
noncomputable def call(T:ix):cW:=fun g args os k=>lim fun n=>eQ T n g args os k
end Go.Sy
namespace Go.Sy
variable [aX]
def leR(f g:RC->CSt->gJ):Prop:=∀r c x,f r c=some x->g r c=some x
def leC(f g:cW):Prop:=∀a b o k x,f a b o k=some x->g a b o k=some x
theorem wU{c:CSt}{d:LAc}{x:CSt}{a b:Option dZ}(h:∀q,a=some q->b=some q)(k:mc c d a=some x):mc c d b=some x:=by
 cases a with
 |none=>cases k
 |some q=>rw[h q rfl];exact k
theorem vX{c:CSt}{d:LAc}{m mt:LAb}{x:CSt}{a b:Option dZ}(h:∀q,a=some q->b=some q)(k:oq c d m mt a=some x):oq c d m mt b=some x:=by
 cases a with
 |none=>cases k
 |some q=>rw[h q rfl];exact k
theorem vY{f g:cW}(h:leC f g){c:CSt}{d:LAc}{n:Nat}{a_:LAa}{y:List LAc}{m:LAb}{o:Option (List aC)}{x:CSt}
 (k:ls f c d n a_ y m o=some x):ls g c d n a_ y m o=some x:=by
 cases o with
 |none=>cases k
 |some os=>
  simp only[ls]at k ⊢;generalize dT c.tk (50+y.length) os=z at k ⊢;obtain⟨F,E⟩:=z;simp only[nl]at k ⊢;generalize (oe (SV.idsL a_++fz F) m&&dr m&&dr (cx (y++E))&&decide (m.length<=40)&&m.all fun o=> !inR (d.getD 0) o)=b at k ⊢;cases b with
  |false=>cases k
  |true=>simp only[nj]at k ⊢;exact vX (fun q H=>h _ _ _ _ _ H) k
theorem vV{f g:cW}(h:leC f g){sg:Sig}{d:LAc}{n:Nat}{p:CSt×LAa}{x:CSt}(k:jH f sg d n p=some x):jH g sg d n p=some x:=by obtain⟨c,a_⟩:=p;simp only[jH]at k ⊢;generalize jS c.tk sg.own 50 0 a_=z at k ⊢;obtain⟨y,E⟩:=z;simp only[nm]at k ⊢;exact vY h k
theorem xa{f g:cW}(h:leC f g){sg:Sig}{c:CSt}{d:LAc}{n:Nat}{a_:LAa}{x:CSt}(k:ig f sg c d n a_=some x):ig g sg c d n a_=some x:=by
 unfold ig at k ⊢;generalize ((SV.idsL a_).isEmpty&&sg.own.isEmpty)=b at k ⊢;cases b with
 |true=>exact wU (fun q y=>h _ _ _ _ _ y) k
 |false=>exact vV h k
theorem lZ{f g:cW}(h:leC f g){sg:Nat->Sig}{c:CSt}{d:LAc}{o:SOp}{x:CSt}(k:opC f sg c d o=some x):opC g sg c d o=some x:=by
 cases o with
 |call a a_=>simp only[opC]at k ⊢;split at k<;>first|exact xa h k|cases k
 |_=>exact k
theorem jh{f g:cW}(h:leC f g){sg:Nat->Sig}{c:CSt}{i:SI}{x:CSt}(k:dA f sg c i=some x):dA g sg c i=some x:=by
 unfold dA at k ⊢;split at k
 ·exact lZ h k
 ·split at k
  ·split at k
   ·rename_i y;rw[if_pos y];exact lZ h k
   ·rename_i y;rw[if_neg y];exact k
  ·exact k
  ·cases k
theorem uP{f g:cW}(h:leC f g){sg:Nat->Sig}:∀{l:LAf}{c x:CSt},plC f sg l c=some x->plC g sg l c=some x:=by
 intro l;induction l with
 |nil=>intro c x k;simpa[plC]using k
 |cons i r y=>
  intro c x k;simp only[plC]at k ⊢;cases hs:opC f sg c i.dst i.op with
  |none=>rw[hs]at k;simp[nxP]at k
  |some c1=>rw[hs]at k;rw[lZ h hs];simp only[nxP]at k ⊢;exact y k
theorem rE{f g:cW}(h:leC f g){sg:Nat->Sig}{b:Bool}{l:LAf}{c x:CSt}{v:SV}(k:oX f sg b l c v=some x):oX g sg b l c v=some x:=by
 unfold oX at k ⊢;split at k
 ·split at k
  ·rename_i y;rw[if_pos y];exact uP h k
  ·rename_i y;rw[if_neg y];exact k
 ·exact k
 ·cases k
theorem mK{f g:cW}(h:leC f g){sg:Nat->Sig}:∀{l:List RI}{c x:CSt},fC f sg l c=some x->fC g sg l c=some x:=by
 intro l;induction l with
 |nil=>intro c x k;simpa[fC]using k
 |cons i r z=>
  intro c x k;cases i with
  |op i y=>
   simp only[fC]at k ⊢;cases hs:dA f sg c i with
   |none=>rw[hs]at k;simp[nxC]at k
   |some c1=>rw[hs]at k;rw[jh h hs];simp only[nxC]at k ⊢;exact z k
  |grp q b l y=>
   simp only[fC]at k ⊢;cases hs:oX f sg b l c (c.get q)with
   |none=>rw[hs]at k;simp[nxC]at k
   |some c1=>rw[hs]at k;rw[rE h hs];simp only[nxC]at k ⊢;exact z k
  |own i y=>
   simp only[fC]at k ⊢;cases hs:sI c i with
   |none=>rw[hs]at k;simp[nxC]at k
   |some c1=>rw[hs]at k;simp only[nxC]at k ⊢;exact z k
  |tks i y=>
   simp only[fC]at k ⊢;cases hs:zC c i with
   |none=>rw[hs]at k;simp[nxC]at k
   |some c1=>rw[hs]at k;simp only[nxC]at k ⊢;exact z k
  |dir d=>
   simp only[fC]at k ⊢;cases hs:qI c d with
   |none=>rw[hs]at k;simp[nxC]at k
   |some c1=>rw[hs]at k;simp only[nxC]at k ⊢;exact z k
theorem iT{f g:cW}(h:leC f g){sg:Nat->Sig}{b:LAb}:∀{l y:List FI}{c x:CSt},eT f sg b l y c=some x->eT g sg b l y c=some x:=by
 intro l;induction l with
 |nil=>intro y c x k;simpa[eT]using k
 |cons i r z=>
  intro y c x k;obtain⟨n,q,i⟩:=i;cases q with
  |true=>
   simp only[eT]at k ⊢;cases hq:qv c i with
   |none=>rw[hq]at k;simp[vj]at k
   |some v=>rw[hq]at k;simp only[vj]at k ⊢;exact z k
  |false=>
   simp only[eT]at k ⊢;cases hs:dA f sg c i with
   |none=>rw[hs]at k;simp[qE]at k
   |some c1=>
    rw[hs]at k;rw[jh h hs];simp only[qE]at k ⊢;cases hg:gdP (sV (b.getD n 0) c1 y) c1 with
    |none=>rw[hg]at k;simp[qF]at k
    |some c2=>rw[hg]at k;simp only[qF]at k ⊢;exact z k
theorem mV{f g:cW}(h:leC f g){sg:Nat->Sig}{b:LAb}{l:List FI}:∀{E:List LAb}{c x:CSt},iX f sg b l E c=some x->iX g sg b l E c=some x
 |[],c,x,k=>by simp[iX]at k
 |[p],c,x,k=>iT h k
 |p::q::r,c,x,k=>by
  simp only[iX]at k ⊢;cases h1:eT f sg b (iA l p) [] c with
  |none=>rw[h1]at k;simp[nJ]at k
  |some y=>
   cases h2:iX f sg b l (q::r) c with
   |none=>rw[h1,h2]at k;simp[nJ]at k
   |some z=>rw[h1,h2]at k;rw[iT h h1,mV h h2];exact k
theorem oh{rn F:RC->CSt->gJ}{f g:cW}(E:leR rn F)(h:leC f g){sg:Nat->Sig}{r:RC}{c:CSt}{x:Ex×CSt}(k:dM rn f sg r c=some x):dM F g sg r c=some x:=by
 cases r with
 |skip=>exact k
 |ret=>exact k
 |exit id=>exact k
 |ops l=>
  simp only[dM]at k ⊢;cases hs:fC f sg l c with
  |none=>rw[hs]at k;cases k
  |some c1=>rw[hs]at k;rw[mK h hs];exact k
 |flt b I l H=>
  simp only[dM]at k ⊢;cases hs:eT f sg b l [] c with
  |none=>rw[hs]at k;simp[nrm]at k
  |some c1=>rw[hs]at k;rw[iT h hs];exact k
 |fla b I l L H=>
  simp only[dM]at k ⊢;cases hs:iX f sg b l L c with
  |none=>rw[hs]at k;simp[nrm]at k
  |some c1=>rw[hs]at k;rw[mV h hs];exact k
 |seq a b=>
  simp only[dM]at k ⊢;cases hs:rn a c with
  |none=>rw[hs]at k;cases k
  |some p=>
   rw[hs]at k;rw[E _ _ _ hs];obtain⟨e,c1⟩:=p;cases e with
   |n=>exact E _ _ _ k
   |x id=>exact k
   |r=>exact k
 |cond a y z=>
  simp only[dM]at k ⊢;unfold cnd at k ⊢;split at k
  ·split at k
   ·rename_i J;rw[if_pos J];exact E _ _ _ k
   ·rename_i J;rw[if_neg J];exact E _ _ _ k
  ·cases k
 |block id b=>
  simp only[dM]at k ⊢;cases hs:rn b c with
  |none=>rw[hs]at k;cases k
  |some p=>rw[hs]at k;rw[E _ _ _ hs];exact k
 |loop b=>
  simp only[dM]at k ⊢;cases hs:rn b c with
  |none=>rw[hs]at k;cases k
  |some p=>
   rw[hs]at k;rw[E _ _ _ hs];obtain⟨e,c1⟩:=p;cases e with
   |n=>exact E _ _ _ k
   |x id=>exact k
   |r=>exact k
 |pre I a=>
  simp only[dM]at k ⊢;cases hs:iu c I with
  |none=>rw[hs]at k;cases k
  |some c1=>rw[hs]at k;exact E _ _ _ k
 |bad=>cases k
 |post a I=>
  simp only[dM]at k ⊢;cases hs:rn a c with
  |none=>rw[hs]at k;cases k
  |some p=>rw[hs]at k;rw[E _ _ _ hs];exact k
theorem lw{rn y:RC->CSt->gJ}(z:leR rn y){o:Option FnB}{a:LAa}{os:List aC}{k:Nat}{x:dZ}(h:nI rn o a os k=some x):nI y o a os k=some x:=by
 cases o with
 |none=>cases h
 |some b=>
  cases b with
  |prim f=>exact h
  |code F=>
   simp only[nI,EB]at h ⊢;split at h
   ·rename_i E
    rw[if_pos E];cases hs:rn F.code (qX a os k)with
    |none=>rw[hs]at h;cases h
    |some p=>rw[hs]at h;rw[z _ _ _ hs];exact h
   ·cases h
variable {T : ix}
theorem rg:∀n,leR (gB T n) (gB T (n+1))
 |0=>fun r c x h=>by simp[gB]at h
 |n+1=>fun r c x h=>by have y:=rg n;rw[gB]at h ⊢;exact oh y (fun g a os k x h=>lw y h) h
theorem kE{n m:Nat}(h:n<=m):leR (gB T n) (gB T m):=by
 induction m with
 |zero=>
  have:n=0:=by omega
  subst this;exact fun _ _ _ h=>h
 |succ m E=>
  rcases bO n (m+1)with y|y
  ·exact fun r c x z=>rg m r c x (E (by omega) r c x z)
  ·have:n=m+1:=by omega
   subst this;exact fun _ _ _ h=>h
theorem dC{n m:Nat}(h:n<=m):leC (eQ T n) (eQ T m):=fun _ _ _ _ _ y=>lw (kE h) y
theorem vd{α:Type}{g:Nat->Option α}(F:∀n m x,n<=m->g n=some x->g m=some x){n:Nat}{x:α}(h:g n=some x):lim g=some x:=by have z:∃n x,g n=some x:=⟨n,x,h⟩;unfold lim;rw[dif_pos z];obtain⟨y,E⟩:=Classical.choose_spec z;have I:=F _ (max n (Classical.choose z)) _ (xw _ _) E;have H:=F _ (max n (Classical.choose z)) _ (Nat.le_max_left _ _) h;rw[E,<-I,H]
theorem OG{α:Type}{g:Nat->Option α}{x:α}(h:lim g=some x):∃n,g n=some x:=by
 unfold lim at h;split at h
 ·exact⟨_,h⟩
 ·cases h
theorem GP{n:Nat}{r:RC}{c:CSt}{x:Ex×CSt}(h:gB T n r c=some x):run T r c=some x:=vd (fun _ _ _ y h=>kE y _ _ _ h) h
theorem gL{r:RC}{c:CSt}{x:Ex×CSt}(h:run T r c=some x):∃n,gB T n r c=some x:=OG h
theorem s5{n:Nat}{g:Nat}{a:LAa}{os:List aC}{k:Nat}{x:dZ}(h:eQ T n g a os k=some x):call T g a os k=some x:=vd (fun _ _ _ y h=>dC y _ _ _ _ _ h) h
theorem oL{g:Nat}{a:LAa}{os:List aC}{k:Nat}{x:dZ}(h:call T g a os k=some x):∃n,eQ T n g a os k=some x:=OG h
theorem GQ(n:Nat):leR (gB T n) (run T):=fun _ _ _ h=>GP h
theorem S1(n:Nat):leC (eQ T n) (call T):=fun _ _ _ _ _ h=>s5 h
theorem xb{sg:Sig}{c:CSt}{d:LAc}{g:Nat}{a_:LAa}{x:CSt}(k:ig (call T) sg c d g a_=some x):∃n,ig (eQ T n) sg c d g a_=some x:=by
 unfold ig at k ⊢;generalize ((SV.idsL a_).isEmpty&&sg.own.isEmpty)=b at k ⊢;cases b with
 |true=>
  simp only[jO]at k ⊢;cases hq:call T g (SV.bareL a_) [] 0 with
  |none=>rw[hq]at k;cases k
  |some q=>obtain⟨n,hn⟩:=oL hq;exact⟨n,by rw[hn];rw[hq]at k;exact k⟩
 |false=>
  simp only[jO]at k ⊢;generalize eD c a_ (iP sg.raw 0 a_)=z at k ⊢;obtain⟨c1,H⟩:=z;simp only[jH]at k ⊢;generalize jS c1.tk sg.own 50 0 H=z at k ⊢;obtain⟨h,y⟩:=z;simp only[nm]at k ⊢;cases ho:gw c1 (dB c1 60 [] (SV.idsL h))with
  |none=>rw[ho]at k;cases k
  |some os=>
   rw[ho]at k;simp only[ls]at k ⊢;generalize dT c1.tk (50+y.length) os=z at k ⊢;obtain⟨F,E⟩:=z;simp only[nl]at k ⊢;generalize (oe (SV.idsL h++fz F) (dB c1 60 [] (SV.idsL h))&&dr (dB c1 60 [] (SV.idsL h))&&dr (cx (y++E))&&decide ((dB c1 60 [] (SV.idsL h)).length<=40)&&(dB c1 60 [] (SV.idsL h)).all fun o=> !inR (d.getD 0) o)=b at k ⊢;cases b with
   |false=>cases k
   |true=>
    simp only[nj]at k ⊢;cases hq:call T g (SV.renL (gE (dB c1 60 [] (SV.idsL h))) id h) (dX (gE (dB c1 60 [] (SV.idsL h))) id F) (y.length+E.length)with
    |none=>rw[hq]at k;cases k
    |some q=>obtain⟨n,hn⟩:=oL hq;exact⟨n,by rw[hn];rw[hq]at k;exact k⟩
theorem pA{sg:Nat->Sig}{c:CSt}{d:LAc}{o:SOp}{x:CSt}(k:opC (call T) sg c d o=some x):∃n,opC (eQ T n) sg c d o=some x:=by
 cases o with
 |call a a_=>simp only[opC]at k ⊢;split at k<;>first|exact xb k|cases k
 |_=>exact⟨0,k⟩
theorem oi{sg:Nat->Sig}{c:CSt}{i:SI}{x:CSt}(k:dA (call T) sg c i=some x):∃n,dA (eQ T n) sg c i=some x:=by
 unfold dA at k ⊢;split at k
 ·exact pA k
 ·split at k
  ·split at k
   ·rename_i h;simp only[if_pos h];exact pA k
   ·rename_i h;simp only[if_neg h];exact⟨0,k⟩
  ·exact⟨0,k⟩
  ·cases k
theorem FL{sg:Nat->Sig}:∀{l:LAf}{c x:CSt},plC (call T) sg l c=some x->∃n,plC (eQ T n) sg l c=some x:=by
 intro l;induction l with
 |nil=>intro c x k;exact⟨0,by simpa[plC]using k⟩
 |cons i r y=>
  intro c x k;simp only[plC]at k ⊢;cases hs:opC (call T) sg c i.dst i.op with
  |none=>rw[hs]at k;simp[nxP]at k
  |some c1=>rw[hs]at k;simp only[nxP]at k;obtain⟨n,hn⟩:=pA hs;obtain⟨m,h⟩:=y k;refine⟨max n m, ?_⟩;rw[lZ (dC (Nat.le_max_left n m)) hn];simp only[nxP];exact uP (dC (xw n m)) h
theorem DE{sg:Nat->Sig}{b:Bool}{l:LAf}{c x:CSt}{v:SV}(k:oX (call T) sg b l c v=some x):∃n,oX (eQ T n) sg b l c v=some x:=by
 unfold oX at k ⊢;split at k
 ·split at k
  ·rename_i h;simp only[if_pos h];exact FL k
  ·rename_i h;simp only[if_neg h];exact⟨0,k⟩
 ·exact⟨0,k⟩
 ·cases k
theorem Dp{sg:Nat->Sig}:∀{l:List RI}{c x:CSt},fC (call T) sg l c=some x->∃n,fC (eQ T n) sg l c=some x:=by
 intro l;induction l with
 |nil=>intro c x k;exact⟨0,by simpa[fC]using k⟩
 |cons i r y=>
  intro c x k;cases i with
  |op i h=>
   simp only[fC]at k ⊢;cases hs:dA (call T) sg c i with
   |none=>rw[hs]at k;simp[nxC]at k
   |some c1=>rw[hs]at k;simp only[nxC]at k;obtain⟨n,hn⟩:=oi hs;obtain⟨m,z⟩:=y k;refine⟨max n m, ?_⟩;rw[jh (dC (Nat.le_max_left n m)) hn];simp only[nxC];exact mK (dC (xw n m)) z
  |grp q b l h=>
   simp only[fC]at k ⊢;cases hs:oX (call T) sg b l c (c.get q)with
   |none=>rw[hs]at k;simp[nxC]at k
   |some c1=>rw[hs]at k;simp only[nxC]at k;obtain⟨n,hn⟩:=DE hs;obtain⟨m,z⟩:=y k;refine⟨max n m, ?_⟩;rw[rE (dC (Nat.le_max_left n m)) hn];simp only[nxC];exact mK (dC (xw n m)) z
  |own i h=>
   simp only[fC]at k ⊢;cases hs:sI c i with
   |none=>rw[hs]at k;simp[nxC]at k
   |some c1=>rw[hs]at k;simp only[nxC]at k ⊢;exact y k
  |tks i h=>
   simp only[fC]at k ⊢;cases hs:zC c i with
   |none=>rw[hs]at k;simp[nxC]at k
   |some c1=>rw[hs]at k;simp only[nxC]at k ⊢;exact y k
  |dir d=>
   simp only[fC]at k ⊢;cases hs:qI c d with
   |none=>rw[hs]at k;simp[nxC]at k
   |some c1=>rw[hs]at k;simp only[nxC]at k ⊢;exact y k
theorem mQ{sg:Nat->Sig}{b:LAb}:∀{l h:List FI}{c x:CSt},eT (call T) sg b l h c=some x->∃n,eT (eQ T n) sg b l h c=some x:=by
 intro l;induction l with
 |nil=>intro h c x k;exact⟨0,by simpa[eT]using k⟩
 |cons i r H=>
  intro h c x k;obtain⟨n,q,i⟩:=i;cases q with
  |true=>
   simp only[eT]at k ⊢;cases hq:qv c i with
   |none=>rw[hq]at k;simp[vj]at k
   |some v=>rw[hq]at k;simp only[vj]at k ⊢;exact H k
  |false=>
   simp only[eT]at k ⊢;cases hs:dA (call T) sg c i with
   |none=>rw[hs]at k;simp[qE]at k
   |some c1=>
    rw[hs]at k;simp only[qE]at k;cases hg:gdP (sV (b.getD n 0) c1 h) c1 with
    |none=>rw[hg]at k;simp[qF]at k
    |some c2=>rw[hg]at k;simp only[qF]at k;obtain⟨y,E⟩:=oi hs;obtain⟨z,F⟩:=H k;refine⟨max y z, ?_⟩;rw[jh (dC (Nat.le_max_left y z)) E];simp only[qE];rw[hg];simp only[qF];exact iT (dC (xw y z)) F
theorem rY{sg:Nat->Sig}{b:LAb}{l:List FI}:∀{h:List LAb}{c x:CSt},iX (call T) sg b l h c=some x->∃n,iX (eQ T n) sg b l h c=some x
 |[],c,x,k=>by simp[iX]at k
 |[p],c,x,k=>mQ k
 |p::q::r,c,x,k=>by
  simp only[iX]at k ⊢;cases h1:eT (call T) sg b (iA l p) [] c with
  |none=>rw[h1]at k;simp[nJ]at k
  |some y=>
   cases h2:iX (call T) sg b l (q::r) c with
   |none=>rw[h1,h2]at k;simp[nJ]at k
   |some z=>rw[h1,h2]at k;obtain⟨n,hn⟩:=mQ h1;obtain⟨m,E⟩:=rY h2;exact⟨max n m,by rw[iT (dC (Nat.le_max_left n m)) hn,mV (dC (xw n m)) E];exact k⟩
theorem two{r s:RC}{c d:CSt}{x y:Ex×CSt}(h:run T r c=some x)(k:run T s d=some y):∃n,gB T n r c=some x/\gB T n s d=some y:=by obtain⟨n,hn⟩:=gL h;obtain⟨m,z⟩:=gL k;exact⟨max n m,kE (Nat.le_max_left n m) _ _ _ hn,kE (xw n m) _ _ _ z⟩
theorem vS{r:RC}{c:CSt}{x:Ex×CSt}(k:dM (run T) (call T) T.sg r c=some x):∃n,dM (gB T n) (eQ T n) T.sg r c=some x:=by
 cases r with
 |skip=>exact⟨0,k⟩
 |ret=>exact⟨0,k⟩
 |exit id=>exact⟨0,k⟩
 |ops l=>
  simp only[dM]at k ⊢;cases hs:fC (call T) T.sg l c with
  |none=>rw[hs]at k;cases k
  |some c1=>obtain⟨n,hn⟩:=Dp hs;exact⟨n,by rw[hn];rw[hs]at k;exact k⟩
 |flt b E l h=>
  simp only[dM]at k ⊢;cases hs:eT (call T) T.sg b l [] c with
  |none=>rw[hs]at k;simp[nrm]at k
  |some c1=>obtain⟨n,hn⟩:=mQ hs;exact⟨n,by rw[hn];rw[hs]at k;exact k⟩
 |fla b E l J h=>
  simp only[dM]at k ⊢;cases hs:iX (call T) T.sg b l J c with
  |none=>rw[hs]at k;simp[nrm]at k
  |some c1=>obtain⟨n,hn⟩:=rY hs;exact⟨n,by rw[hn];rw[hs]at k;exact k⟩
 |seq a b=>
  simp only[dM]at k ⊢;cases hs:run T a c with
  |none=>rw[hs]at k;cases k
  |some p=>
   rw[hs]at k;obtain⟨e,c1⟩:=p;cases e with
   |n=>obtain⟨n,H,F⟩:=two hs k;exact⟨n,by rw[H];exact F⟩
   |x id=>obtain⟨n,hn⟩:=gL hs;exact⟨n,by rw[hn];exact k⟩
   |r=>obtain⟨n,hn⟩:=gL hs;exact⟨n,by rw[hn];exact k⟩
 |cond a y z=>
  simp only[dM]at k ⊢;unfold cnd at k ⊢;split at k
  ·split at k
   ·rename_i I;simp only[if_pos I];exact gL k
   ·rename_i I;simp only[if_neg I];exact gL k
  ·cases k
 |block id b=>
  simp only[dM]at k ⊢;cases hs:run T b c with
  |none=>rw[hs]at k;cases k
  |some p=>obtain⟨n,hn⟩:=gL hs;exact⟨n,by rw[hn];rw[hs]at k;exact k⟩
 |loop b=>
  simp only[dM]at k ⊢;cases hs:run T b c with
  |none=>rw[hs]at k;cases k
  |some p=>
   rw[hs]at k;obtain⟨e,c1⟩:=p;cases e with
   |n=>obtain⟨n,H,F⟩:=two hs k;exact⟨n,by rw[H];exact F⟩
   |x id=>obtain⟨n,hn⟩:=gL hs;exact⟨n,by rw[hn];exact k⟩
   |r=>obtain⟨n,hn⟩:=gL hs;exact⟨n,by rw[hn];exact k⟩
 |pre E a=>
  simp only[dM]at k ⊢;cases hs:iu c E with
  |none=>rw[hs]at k;cases k
  |some c1=>rw[hs]at k;exact gL k
 |bad=>cases k
 |post a E=>
  simp only[dM]at k ⊢;cases hs:run T a c with
  |none=>rw[hs]at k;cases k
  |some p=>obtain⟨n,hn⟩:=gL hs;exact⟨n,by rw[hn];rw[hs]at k;exact k⟩
theorem sL{α:Type}{a b:Option α}(h:∀x,a=some x->b=some x)(k:∀x,b=some x->a=some x):a=b:=by
 cases a with
 |none=>cases b with
  |none=>rfl
  |some x=>exact absurd (k x rfl) (by simp)
 |some x=>exact(h x rfl).symm
theorem gV(r:RC)(c:CSt):run T r c=dM (run T) (call T) T.sg r c:=by
 refine sL (fun x h=> ?_) (fun x h=> ?_)
 ·obtain⟨n,hn⟩:=gL h
  cases n with
  |zero=>simp[gB]at hn
  |succ n=>rw[gB]at hn;exact oh (GQ n) (S1 n) hn
 ·obtain⟨n,hn⟩:=vS h
  exact GP (n:=n+1) (by rw[gB];exact hn)
theorem s6(g:Nat)(a:LAa)(os:List aC)(k:Nat):call T g a os k=nI (run T) (T.fn g) a os k:=by
 refine sL (fun x h=> ?_) (fun x h=> ?_)
 ·obtain⟨n,hn⟩:=oL h
  exact lw (GQ n) hn
 ·cases hF:T.fn g with
  |none=>rw[hF]at h;cases h
  |some b=>
   cases b with
   |prim f=>exact s5 (n:=0) (by unfold eQ;rw[hF];rw[hF]at h;exact h)
   |code F=>
    rw[hF]at h;simp only[nI,EB]at h;split at h
    ·rename_i y
     cases hs:run T F.code (qX a os k)with
     |none=>rw[hs]at h;cases h
     |some p=>obtain⟨n,hn⟩:=gL hs;refine s5 (n:=n) ?_;unfold eQ;rw[hF];simp only[nI,EB,if_pos y];rw[hn];rw[hs]at h;exact h
    ·cases h
theorem Fo(c:CSt):run T .skip c=some (.n,c):=gV _ _
theorem QX(c:CSt):run T .ret c=some (.r,c):=gV _ _
theorem Fu(id:Nat)(c:CSt):run T (.exit id) c=some (.x id,c):=gV _ _
theorem QZ(l:List RI)(c:CSt):run T (.ops l) c=nrm [] (fC (call T) T.sg l c):=gV _ _
theorem Rb(b z:LAb)(l:List FI)(y:List LAb)(h:LAb)(c:CSt):run T (.fla b z l y h) c=nrm h (iX (call T) T.sg b l y c):=gV _ _
theorem Ra(b y:LAb)(l:List FI)(h:LAb)(c:CSt):run T (.flt b y l h) c=nrm h (eT (call T) T.sg b l [] c):=gV _ _
theorem QW(a b:RC)(c:CSt):run T (.seq a b) c=sq (run T) b (run T a c):=gV _ _
theorem Fv(k:Arg)(a b:RC)(c:CSt):run T (.cond k a b) c=cnd (run T) a b c (c.ev k):=gV _ _
theorem Dh(id:Nat)(b:RC)(c:CSt):run T (.block id b) c=blk id (run T b c):=gV _ _
theorem ai(b:RC)(c:CSt):run T (.loop b) c=lp (run T) b (run T b c):=gV _ _
theorem QY(h:List Dir)(a:RC)(c:CSt):run T (.pre h a) c=prD (run T) a (iu c h):=gV _ _
theorem Fq(a:RC)(h:List Dir)(c:CSt):run T (.post a h) c=psD h (run T a c):=gV _ _
theorem an{g:Nat}{F:FnC}(h:T.fn g=some (.code F))(a:LAa)(os:List aC)(k:Nat):call T g a os k=EC F os.length (EB (run T) F a os k):=by rw[s6,h];rfl
theorem iV{g:Nat}{f:LAa->List aC->Nat->Option dZ}(h:T.fn g=some (.prim f))(a:LAa)(os:List aC)(k:Nat):call T g a os k=f a os k:=by rw[s6,h];rfl
end Go.Sy
namespace Go.Sy
variable [aX]
variable {call : cW} {sg : Nat -> Sig} {c : CSt} {d : Option Nat} {k : Nat}
theorem xfa{α:Type}{p:Prop}[Decidable p]{v:α}(h:p):gd p v=some v:=if_pos h
def fy(c:CSt)(d:LAc):Option SV->LBa
 |some v=>some (c.put d v)
 |none=>none
theorem Dk(v:SV):fy c d (some v)=some (c.put d v):=rfl
theorem Dl:fy c d none=none:=rfl
theorem FD(l:List (Nat×SV))(o:List (Nat×aC))(t:LAb)(v:SV):CSt.put ⟨l,o,t⟩ (some k) v=⟨jn l k v,o,t⟩:=rfl
theorem FE(v:SV):CSt.put c none v=c:=rfl
theorem xe9(l:List (Nat×SV))(o:List (Nat×aC))(t:LAb)(n:Nat):CSt.get ⟨l,o,t⟩ n=eh l n:=rfl
theorem RW(l:List (Nat×SV))(o:List (Nat×aC))(t:LAb)(n:Nat):CSt.look ⟨l,o,t⟩ n=iD o n:=rfl
theorem xny(n:Nat):c.ev (.t n)=c.get n:=rfl
theorem xnA(v:SV):c.ev (.c v)=v:=rfl
theorem xnz(g:Nat):c.ev (.f g)= .fn g [] []:=rfl
theorem pI:c.kill []=c:=rfl
theorem Dv(l:List (Nat×SV))(o:List (Nat×aC))(t:LAb)(n:Nat)(r:LAb):CSt.kill ⟨l,o,t⟩ (n::r)=⟨vy l (n::r),o,t⟩:=rfl
def zx:Option SV->Option nW
 |some v=>some {val:=v}
 |none=>none
theorem CT(v:SV):zx (some v)=some {val:=v}:=rfl
theorem CU:zx none=none:=rfl
theorem pW{so:SOp}{o:Option SV}(h:dQ c d so=zx o):m7 c d (dQ c d so)=fy c d o:=by rw[h];cases o<;>rfl
theorem Qr(o:Option SV):(match o with|some v=>some {val:=v}|none=>none:Option nW)=zx o:=by cases o<;>rfl
def Eg:SV->Option SV
 | .ptr o off=>some (.ptr o off)
 | .ap o h i j=>some (.ap o h i j)
 | .pp cs=>some (.pp cs)
 | .fn f a b=>some (.fn f a b)
 |_=>none
def xaw(h:Bool):SV->SV->Option SV
 | .bool a,.bool b=>some (.bool (if h then decide (a≠b)else decide (a=b)))
 |_,_=>none
def xao(y:Bool)(h:LAb):SV->SV->Option SV
 | .agg cs,.agg ds=>(gH h cs ds).map fun b=> .bool (if y then !b else b)
 |_,_=>none
def tF:SV->Option SV
 | .str l=>some (.str l)
 |_=>none
def En(h:Bool):SV->Option SV
 | .nili=>some (.bool (!h))
 |_=>none
def Tq:SV->Option SV
 | .str l=>some (.byt l .no)
 |_=>none
def xaz(c:CSt):SV->Option SV
 | .str _=>none
 |v=>(dN c v).map .str
def GN(l:t7):Option Int->Option Int->Option SV
 |some a,some b=>gd (0<=a/\a<=b/\b<=l.length) (.str ((l.take b.toNat).drop a.toNat))
 |_,_=>none
def D5(c:CSt)(lo hi:Option Arg):SV->Option SV
 | .str l=>GN l (ko c lo 0) (ko c hi l.length)
 |_=>none
def D6(c:CSt)(len h:Nat)(lo hi y:Option Arg):SV->Option SV
 | .ptr o off=>if off=0 then nR c h (.psl o h 0 len (some len)) lo hi y else none
 |_=>none
def tU(off:Nat):SV->Option SV
 | .ptr o k=>some (.ptr o (k+off))
 | .ap o h i j=>some (.ap o h i (j+off))
 | .pp cs=>some (.pp (cs.drop off))
 |_=>none
def xaf(off n:Nat)(h:Bool):SV->Option SV
 | .agg cs=>gd (off+n<=cs.length) (dt h n (cs.drop off))
 |_=>none
def oV(h:Nat):SV->Option Int->Option SV
 | .byt l _,some n=>gd (0<=n/\n<l.length/\h=1) (.pp [.u8 (l.getD n.toNat 0)])
 | .lst sz' xs _,some n=>gd (0<=n/\n<xs.length/\h=sz') (.pp (xs.getD n.toNat []))
 | .psl o sz' off k _,some n=>gd (0<=n/\n<k/\h=sz') (.ap o h (off+n.toNat) 0)
 |_,_=>none
def pK(len h o off:Nat)(n:Int):Option aC->Option SV
 |some (.rc _)=>gd (0<=n/\n<len) (.ptr o (off+n.toNat*h))
 |some _=>gd (off=0/\0<=n/\n<len) (.ap o h n.toNat 0)
 |none=>none
def my(c:CSt)(len h:Nat):SV->Option Int->Option SV
 | .ptr o off,some n=>pK len h o off n (c.look o)
 | .pp cs,some n=>gd (0<=n/\n<len/\cs.length=len*h) (.pp (cs.drop (n.toNat*h)))
 |_,_=>none
def Er(len h:Nat)(y:Bool):SV->Option Int->Option SV
 | .agg cs,some n=>gd (0<=n/\n<len/\cs.length=len*h) (dt y h (cs.drop (n.toNat*h)))
 |_,_=>none
def Ep:SV->Option Int->Option SV
 | .str l,some n=>gd (0<=n/\n<l.length) (.u8 (l.getD n.toNat 0))
 |_,_=>none
def xan(i:Nat):SV->Option SV
 | .tup vs=>gd (i<vs.length) (vs.getD i .undef)
 |_=>none
def lenC:LAc->Option SV
 |some n=>some (.int .i64 (n:Nat))
 |none=>none
def xas:SV->Option SV
 | .psl _ _ _ _ (some m)=>some (.int .i64 m)
 | .byt l t=>if t= .clip then some (.int .i64 l.length)else none
 | .lst _ h t=>if t= .clip then some (.int .i64 h.length)else none
 |_=>none
def Ei:SV->SV->Option SV
 | .int k a,.int k' b=>if k=k' then some (.int k (if b<a then b else a))else none
 |_,_=>none
def Ej:SV->SV->Option SV
 | .int k a,.int k' b=>if k=k' then some (.int k (if a<b then b else a))else none
 |_,_=>none
def tX:Option LAa->Option SV
 |some l=>some (.agg l)
 |none=>none
def xaa(h:Nat):Option f8->Option SV
 |some r=>some (.lst h r .clip)
 |none=>none
def Ek:Option t7->Option SV
 |some r=>some (.byt r .clip)
 |none=>none
theorem xgh(x:Arg):cJ c (.mov x)=some (c.ev x):=rfl
theorem zA(z:LAa)(h:List (Nat×Nat×Arg)):cJ c (.build z h)=tX (iF z (psC c h)):=by simp only[cJ];cases iF z (psC c h)<;>rfl
theorem Tk(h:Nat)(y:List Arg):cJ c (.lit h y)=xaa h (rows h (evL c y)):=by simp only[cJ];cases rows h (evL c y)<;>rfl
theorem GK(h:List Arg):cJ c (.litB h)=Ek (toB (evL c h)):=by simp only[cJ];cases toB (evL c h)<;>rfl
theorem xct(n:Nat)(h:Bool)(a:Arg):cJ c (.load n h a)=l7 c n h (c.ev a):=rfl
theorem xcp(x:Arg):cJ c (.nchk x)=Eg (c.ev x):=rfl
theorem xgm(op:BinOp)(x y:Arg):cJ c (.bin op x y)=EH op (c.ev x) (c.ev y):=rfl
theorem xgn(h:Bool)(x y:Arg):cJ c (.beq h x y)=xaw h (c.ev x) (c.ev y):=rfl
theorem xgk(z:Bool)(h:LAb)(x y:Arg):cJ c (.eqS z h x y)=xao z h (c.ev x) (c.ev y):=rfl
theorem xlU(op:UnOp)(x:Arg):cJ c (.un op x)=vK op (c.ev x):=rfl
theorem Qu(q:IntKind)(x:Arg):cJ c (.toInt q x)=gZ q (c.ev x):=rfl
theorem Qt(x:Arg):cJ c (.toStr x)=tF (c.ev x):=rfl
theorem xcv(h:Bool)(x:Arg):cJ c (.isni h x)=En h (c.ev x):=rfl
theorem xgg(x:Arg):cJ c (.s2b x)=Tq (c.ev x):=rfl
theorem xgo(x:Arg):cJ c (.b2s x)=xaz c (c.ev x):=rfl
theorem xcq(f:Nat)(a b:List Arg):cJ c (.mkfn f a b)=some (.fn f (evL c a) (evL c b)):=rfl
theorem GJ(x:Arg)(lo hi:Option Arg):cJ c (.slcS x lo hi)=D5 c lo hi (c.ev x):=by simp only[cJ];cases c.ev x<;>rfl
theorem xcn(y:Nat)(x:Arg)(lo hi h:Option Arg):cJ c (.slcL y x lo hi h)=nR c y (c.ev x) lo hi h:=rfl
theorem xco(len y:Nat)(x:Arg)(lo hi h:Option Arg):cJ c (.slcA len y x lo hi h)=D6 c len y lo hi h (c.ev x):=rfl
theorem Qv(off:Nat)(x:Arg):cJ c (.faddr off x)=tU off (c.ev x):=rfl
theorem xgi(off n:Nat)(h:Bool)(x:Arg):cJ c (.fld off n h x)=xaf off n h (c.ev x):=rfl
theorem ET(h:Nat)(x i:Arg):cJ c (.iaddrL h x i)=oV h (c.ev x) (c.ev i).num:=rfl
theorem uv(len h:Nat)(x i:Arg):cJ c (.iaddrA len h x i)=my c len h (c.ev x) (c.ev i).num:=by simp only[cJ];unfold my pK;rfl
theorem xcx(len h:Nat)(y:Bool)(x i:Arg):cJ c (.idxA len h y x i)=Er len h y (c.ev x) (c.ev i).num:=rfl
theorem xcw(x i:Arg):cJ c (.idxS x i)=Ep (c.ev x) (c.ev i).num:=rfl
theorem xgj(x:Arg)(i:Nat):cJ c (.ext x i)=xan i (c.ev x):=rfl
theorem Tl(b:Bool)(x:Arg):cJ c (.len b x)=lenC (jN b (c.ev x)):=by simp only[cJ];cases jN b (c.ev x)<;>rfl
theorem xcu(n:Nat):cJ c (.lenC n)=some (.int .i64 n):=rfl
theorem xgl(x:Arg):cJ c (.cap x)=xas (c.ev x):=rfl
theorem xcr(x y:Arg):cJ c (.mini x y)=Ei (c.ev x) (c.ev y):=rfl
theorem xcs(x y:Arg):cJ c (.maxi x y)=Ej (c.ev x) (c.ev y):=rfl
def SOp.pure:SOp->Bool
 | .new _| .box _| .mk _ _ _ _| .mkB _ _| .store _ _ _| .app _ _ _ _| .cpy _ _ _| .pick _ _ _| .call _ _| .isnil _ _| .newB _| .slid _| .appO _ _ _ _| .clr _ _=>false
 |_=>true
theorem rQ{so:SOp}(h:so.pure=true):dQ c d so=zx (cJ c so):=by
 cases so<;>first|cases h;done|rfl|exact Qr _
theorem bT{so:SOp}(h:so.pure=true):opC call sg c d so=fy c d (cJ c so):=by
 have y:opC call sg c d so=m7 c d (dQ c d so):=by cases so<;>first|rfl|cases h
 rw[y];exact pW (rQ h)
theorem xh0(x:Arg):opC call sg c d (.mov x)=fy c d (some (c.ev x)):=bT rfl
theorem RQ(z:LAa)(h:List (Nat×Nat×Arg)):opC call sg c d (.build z h)=fy c d (tX (iF z (psC c h))):=(bT rfl).trans (by rw[zA])
theorem xh2(h:Nat)(y:List Arg):opC call sg c d (.lit h y)=fy c d (xaa h (rows h (evL c y))):=(bT rfl).trans (by rw[Tk])
theorem xeN(h:List Arg):opC call sg c d (.litB h)=fy c d (Ek (toB (evL c h))):=(bT rfl).trans (by rw[GK])
theorem xeM(n:Nat)(h:Bool)(a:Arg):opC call sg c d (.load n h a)=fy c d (l7 c n h (c.ev a)):=bT rfl
theorem xeI(x:Arg):opC call sg c d (.nchk x)=fy c d (Eg (c.ev x)):=bT rfl
theorem xib(op:BinOp)(x y:Arg):opC call sg c d (.bin op x y)=fy c d (EH op (c.ev x) (c.ev y)):=bT rfl
theorem xic(h:Bool)(x y:Arg):opC call sg c d (.beq h x y)=fy c d (xaw h (c.ev x) (c.ev y)):=bT rfl
theorem xh6(z:Bool)(h:LAb)(x y:Arg):opC call sg c d (.eqS z h x y)=fy c d (xao z h (c.ev x) (c.ev y)):=bT rfl
theorem xme(op:UnOp)(x:Arg):opC call sg c d (.un op x)=fy c d (vK op (c.ev x)):=bT rfl
theorem RM(q:IntKind)(x:Arg):opC call sg c d (.toInt q x)=fy c d (gZ q (c.ev x)):=bT rfl
theorem RL(x:Arg):opC call sg c d (.toStr x)=fy c d (tF (c.ev x)):=bT rfl
theorem xeH(h:List Arg):opC call sg c d (.newB h)=nA c d (toB (evL c h)):=rfl
theorem xeC(x:Arg):opC call sg c d (.slid x)=qQ c d (c.ev x):=rfl
theorem wF(k:Nat)(l:t7):nA c (some k) (some l)=some (CSt.app c (some k) {val:= .psl (k+100) 1 0 l.length (some l.length),new:=some (.bar l)}):=rfl
theorem C0(o off n:Nat)(cap:LAc):qQ c d (.psl o 1 off n cap)=ot c d o off n cap (c.look o):=rfl
theorem C1(o off n:Nat)(cap:LAc)(l:t7):ot c d o off n cap (some (.bar l))=if off+n<=l.length/\cap=some n then some (((c.publish o []).1).put d (.byt ((l.drop off).take n) .clip))else none:=rfl
theorem xeP(h:Bool)(x:Arg):opC call sg c d (.isni h x)=fy c d (En h (c.ev x)):=bT rfl
theorem xhY(x:Arg):opC call sg c d (.s2b x)=fy c d (Tq (c.ev x)):=bT rfl
theorem xid(x:Arg):opC call sg c d (.b2s x)=fy c d (xaz c (c.ev x)):=bT rfl
theorem xeJ(f:Nat)(a b:List Arg):opC call sg c d (.mkfn f a b)=fy c d (some (.fn f (evL c a) (evL c b))):=bT rfl
theorem xeD(x:Arg)(lo hi:Option Arg):opC call sg c d (.slcS x lo hi)=fy c d (D5 c lo hi (c.ev x)):=(bT rfl).trans (by rw[GJ])
theorem xeE(y:Nat)(x:Arg)(lo hi h:Option Arg):opC call sg c d (.slcL y x lo hi h)=fy c d (nR c y (c.ev x) lo hi h):=bT rfl
theorem xeF(len y:Nat)(x:Arg)(lo hi h:Option Arg):opC call sg c d (.slcA len y x lo hi h)=fy c d (D6 c len y lo hi h (c.ev x)):=bT rfl
theorem RP(off:Nat)(x:Arg):opC call sg c d (.faddr off x)=fy c d (tU off (c.ev x)):=bT rfl
theorem xh4(off n:Nat)(h:Bool)(x:Arg):opC call sg c d (.fld off n h x)=fy c d (xaf off n h (c.ev x)):=bT rfl
theorem FP(h:Nat)(x i:Arg):opC call sg c d (.iaddrL h x i)=fy c d (oV h (c.ev x) (c.ev i).num):=bT rfl
theorem FQ(len h:Nat)(x i:Arg):opC call sg c d (.iaddrA len h x i)=fy c d (my c len h (c.ev x) (c.ev i).num):=(bT rfl).trans (by rw[uv])
theorem xeR(len h:Nat)(y:Bool)(x i:Arg):opC call sg c d (.idxA len h y x i)=fy c d (Er len h y (c.ev x) (c.ev i).num):=bT rfl
theorem xeQ(x i:Arg):opC call sg c d (.idxS x i)=fy c d (Ep (c.ev x) (c.ev i).num):=bT rfl
theorem xh5(x:Arg)(i:Nat):opC call sg c d (.ext x i)=fy c d (xan i (c.ev x)):=bT rfl
theorem xh3(b:Bool)(x:Arg):opC call sg c d (.len b x)=fy c d (lenC (jN b (c.ev x))):=(bT rfl).trans (by rw[Tl])
theorem xeO(n:Nat):opC call sg c d (.lenC n)=fy c d (some (.int .i64 n)):=bT rfl
theorem xh9(x:Arg):opC call sg c d (.cap x)=fy c d (xas (c.ev x)):=bT rfl
theorem xeK(x y:Arg):opC call sg c d (.mini x y)=fy c d (Ei (c.ev x) (c.ev y)):=bT rfl
theorem xeL(x y:Arg):opC call sg c d (.maxi x y)=fy c d (Ej (c.ev x) (c.ev y)):=bT rfl
def Ee(a b:SV):SV->Option SV
 | .bool t=>some (il t a b)
 |_=>none
theorem xfy(q a b:Arg):dQ c d (.pick q a b)=zx (Ee (c.ev a) (c.ev b) (c.ev q)):=by simp only[dQ];cases c.ev q<;>rfl
theorem xeG(q a b:Arg):opC call sg c d (.pick q a b)=fy c d (Ee (c.ev a) (c.ev b) (c.ev q)):=pW (xfy q a b)
def tS(h:Bool):SV->Option SV
 | .byt l _=>gd (l≠ []) (.bool h)
 | .lst _ y _=>gd (y≠ []) (.bool h)
 | .psl _ _ _ _ _=>some (.bool h)
 |_=>none
theorem SK(h:Bool)(x:Arg):dQ c d (.isnil h x)=zx (tS h (c.ev x)):=by simp only[dQ];cases c.ev x<;>first|rfl|(simp only[tS];unfold gd;split<;>rfl)
theorem RO(h:Bool)(x:Arg):opC call sg c d (.isnil h x)=fy c d (tS h (c.ev x)):=pW (SK h x)
def CG(c:CSt)(k:Nat)(o:aC)(v:SV):CSt:=CSt.app c (some k) {val:=v,new:=some o}
theorem Tf(l:List (Nat×SV))(ob:List (Nat×aC))(t:LAb)(o:aC)(v:SV):
 CG ⟨l,ob,t⟩ k o v=⟨jn (de (k+100) (k+101) l) k v,iJ (bz (k+100) (k+101) ob) (k+100) (o.purge (k+100) (k+101)),cy (k+100) (k+101) t⟩:=rfl
def xlq(c:CSt)(k:Nat)(v:SV):Option aC->LBa
 |some o=>some (CG c k o v)
 |none=>none
theorem D0(v:SV)(o:aC):xlq c k v (some o)=some (CG c k o v):=rfl
theorem xhZ(o:aC):opC call sg c (some k) (.new o)=xlq c k (.ptr (k+100) 0) (gd (o.wf=true) o):=by show m7 c (some k) (gd _ _)=_;unfold gd;split<;>rfl
theorem xia(x:Arg):opC call sg c (some k) (.box x)=some (CG c k (.rc (c.ev x).cells) (.ptr (k+100) 0)):=rfl
def mkE(bytes:Nat):SV->SV->Option (Nat×Nat)
 | .int _ n,.int _ m=>gd (0<=n/\n<=m/\bytes*m<=140737488355328/\m<=9223372036854775807) (n.toNat,m.toNat)
 |_,_=>none
def mkS(c:CSt)(k:Nat)(z:LAa):Option (Nat×Nat)->LBa
 |some p=>some (CG c k (.arr z.length (ao p.2 z)) (.psl (k+100) z.length 0 p.1 (some p.2)))
 |none=>none
theorem xmf(z:LAa)(bytes:Nat)(n m:Arg):opC call sg c (some k) (.mk z bytes n m)=mkS c k z (mkE bytes (c.ev n) (c.ev m)):=by show m7 c (some k) (dQ c (some k) (.mk z bytes n m))=_;simp only[dQ];cases h1:c.ev n<;>cases h2:c.ev m<;>first|rfl|(simp only[mkE];unfold gd;split<;>rfl)
def xfM:SV->SV->Option (Nat×Nat)
 | .int _ n,.int _ m=>gd (0<=n/\n<=m/\m<=140737488355328) (n.toNat,m.toNat)
 |_,_=>none
def xk4(c:CSt)(k:Nat):Option (Nat×Nat)->LBa
 |some p=>some (CG c k (.bar (ao p.2 0)) (.psl (k+100) 1 0 p.1 (some p.2)))
 |none=>none
theorem xh1(n m:Arg):opC call sg c (some k) (.mkB n m)=xk4 c k (xfM (c.ev n) (c.ev m)):=by show m7 c (some k) (dQ c (some k) (.mkB n m))=_;simp only[dQ];cases h1:c.ev n<;>cases h2:c.ev m<;>first|rfl|(simp only[xfM];unfold gd;split<;>rfl)
def stC(c:CSt)(n:Nat)(v:LAa):SV->Option (Nat×aC)
 | .ptr o off=>match c.look o with
  |some (.rc cs)=>gd (off+n<=cs.length/\v.length=n/\v.all SV.one=true) (o,.rc (gA cs off v))
  |some (.arr h xs)=>gd (off=0/\n=xs.length*h/\v.length=n/\v.all SV.isData=true) (o,.arr h (jw h xs.length (v.map SV.data)))
  |some (.bar l)=>match toB v with
   |some y=>gd (off=0/\n=l.length/\y.length=n) (o,.bar y)
   |none=>none
  |_=>none
 | .ap o h i j=>match c.look o with
  |some (.arr sz' xs)=>gd (h=sz'/\i<xs.length/\j+n<=h/\v.length=n/\v.all SV.isData=true) (o,.arr sz' (iz h xs i j n (v.map SV.data)))
  |some (.bar l)=>match v with
   |[.u8 b]=>gd (h=1/\j=0/\n=1/\i<l.length) (o,.bar (l.set i b))
   |_=>none
  |_=>none
 |_=>none
def stS(c:CSt):Option (Nat×aC)->LBa
 |some p=>some ⟨c.tm,iJ c.ob p.1 p.2,c.tk⟩
 |none=>none
theorem EZ(l:List (Nat×SV))(ob:List (Nat×aC))(t:LAb)(p:Nat×aC):stS ⟨l,ob,t⟩ (some p)=some ⟨l,iJ ob p.1 p.2,t⟩:=rfl
theorem CY(n:Nat)(v:LAa)(a:SV):kX c n v a=(stC c n v a).map fun p=> {val:= .undef,wr:=[p]}:=by
 cases a with
 |ptr o off=>
  simp only[kX,stC];cases c.look o with
  |none=>rfl
  |some ob=>
   cases ob with
   |rc cs=>simp only;unfold gd;split<;>rfl
   |arr h y=>simp only;unfold gd;split<;>rfl
   |bar l=>simp only;cases toB v<;>first|rfl|(simp only;unfold gd;split<;>rfl)
 |ap o z i j=>
  simp only[kX,stC];cases c.look o with
  |none=>rfl
  |some ob=>
   cases ob with
   |rc cs=>rfl
   |arr h y=>simp only;unfold gd;split<;>rfl
   |bar l=>
    rcases v with _|⟨u,_|⟨u2,r⟩⟩
    ·rfl
    ·cases u<;>first|rfl|(simp only;unfold gd;split<;>rfl)
    ·cases u<;>rfl
 |_=>rfl
theorem RN(n:Nat)(a x:Arg):opC call sg c none (.store n a x)=if(c.ev x).isDef=true then stS c (stC c n (c.ev x).cells (c.ev a))else none:=by
 show m7 c none (dQ c none (.store n a x))=_;simp only[dQ];split
 ·rw[CY];cases stC c n (c.ev x).cells (c.ev a)<;>rfl
 ·rfl
def apB(c:CSt)(k:Nat)(l:t7)(t:Tok)(z:LAa)(bytes:Nat):Option t7->LBa
 |some h=>if z.length=1/\bytes=1/\t.readyC c=true/\l.length+h.length<=140737488355328 then some (CSt.app c (some k) {val:= .byt (l++h) (.id (k+100)),eat:=t,tok:=true})else none
 |none=>none
def apL(c:CSt)(k:Nat)(h:Nat)(l:f8)(t:Tok)(z:LAa)(bytes:Nat):Option f8->LBa
 |some y=>if z.length=h/\t.readyC c=true/\(l.length+y.length)*bytes<=140737488355328 then some (CSt.app c (some k) {val:= .lst z.length (l++y) (.id (k+100)),eat:=t,tok:=true})else none
 |none=>none
theorem Te(l:List (Nat×SV))(ob:List (Nat×aC))(t:LAb)(v:SV)(e:Tok):
 CSt.app ⟨l,ob,t⟩ (some k) {val:=v,eat:=e,tok:=true}=⟨jn (de (k+100) (k+101) l) k v,bz (k+100) (k+101) ob,ml (cy (k+100) (k+101) (e.eat t)) (k+100)⟩:=rfl
def apS(c:CSt)(k:Nat)(z:LAa)(bytes:Nat)(y:SV):SV->LBa
 | .byt l t=>apB c k l t z bytes (dN c y)
 | .lst h l t=>apL c k h l t z bytes (fE c z.length y)
 |_=>none
theorem xie(z:LAa)(bytes:Nat)(x y:Arg):opC call sg c (some k) (.app z bytes x y)=apS c k z bytes (c.ev y) (c.ev x):=by
 show m7 c (some k) (dQ c (some k) (.app z bytes x y))=_;simp only[dQ];cases c.ev x<;>try rfl
 ·simp only[apS]
  cases dN c (c.ev y)with
  |none=>rfl
  |some h=>simp only[cS,apB];unfold gd;split<;>rfl
 ·simp only[apS]
  cases fE c z.length (c.ev y)with
  |none=>rfl
  |some h=>simp only[cS,apL];unfold gd;split<;>rfl
def cpB(o off n:Nat)(z h:Nat)(l:t7):Option t7->Option (SV×Nat×aC)
 |some y=>gd (z=1/\h=1/\off+n<=l.length) (.int .i64 (min y.length n:Nat),o,.bar (l.take off++y.take n++l.drop (off+(y.take n).length)))
 |none=>none
def cpL(b:Bool)(o off n:Nat)(F z h:Nat)(y:f8):Option f8->Option (SV×Nat×aC)
 |some E=>gd (b=true/\F=z/\F=h/\off+n<=y.length) (.int .i64 (min E.length n:Nat),o,.arr F (y.take off++E.take n++y.drop (off+(E.take n).length)))
 |none=>none
def cp2(b:Bool)(c:CSt)(z o h off n:Nat)(y:SV):Option aC->Option (SV×Nat×aC)
 |some (.bar l)=>cpB o off n z h l (dN c y)
 |some (.arr sz'' xs)=>cpL b o off n z h sz'' xs (fE c z y)
 |_=>none
def cpC(b:Bool)(c:CSt)(z:Nat)(y:SV):SV->Option (SV×Nat×aC)
 | .psl o h off n _=>cp2 b c z o h off n y (c.look o)
 |_=>none
def cpS(c:CSt)(d:LAc):Option (SV×Nat×aC)->LBa
 |some p=>some (CSt.put ⟨c.tm,iJ c.ob p.2.1 p.2.2,c.tk⟩ d p.1)
 |none=>none
theorem xeT(z:LAa)(b:Nat)(x y:Arg):opC call sg c d (.appO z b x y)=rq c d z b y (c.ev x):=rfl
def clA(o off n:Nat)(z:LAa)(E h:Nat)(y:f8):Option (SV×Nat×aC):=gd (0<n/\z.length=E/\z.length=h/\off+n<=y.length) (.tup [],o,.arr z.length (y.take off++ao n z++y.drop (off+n)))
def cl2(z:LAa)(o h off n:Nat):Option aC->Option (SV×Nat×aC)
 |some (.arr sz'' xs)=>clA o off n z h sz'' xs
 |_=>none
def clC(c:CSt)(z:LAa):SV->Option (SV×Nat×aC)
 | .psl o h off n _=>cl2 z o h off n (c.look o)
 |_=>none
theorem xh8(z:LAa)(x:Arg):opC call sg c d (.clr z x)=cpS c d (clC c z (c.ev x)):=by
 show m7 c d (dQ c d (.clr z x))=_;simp only[dQ];cases c.ev x<;>try rfl
 rename_i o y off n cap;simp only[clC];cases c.look o with
 |none=>rfl
 |some ob=>
  cases ob with
  |rc cs=>rfl
  |bar l=>rfl
  |arr h E=>simp only[cl2,clA];unfold gd;split<;>rfl
theorem xh7(h:Nat)(x y:Arg):opC call sg c d (.cpy h x y)=cpS c d (cpC y.isT c h (c.ev y) (c.ev x)):=by
 show m7 c d (dQ c d (.cpy h x y))=_;simp only[dQ];cases c.ev x<;>try rfl
 rename_i o E off n cap;simp only[cpC];cases c.look o with
 |none=>rfl
 |some ob=>
  cases ob with
  |rc cs=>rfl
  |bar l=>
   simp only[cp2];cases dN c (c.ev y)with
   |none=>rfl
   |some F=>simp only[cS,cpB];unfold gd;split<;>rfl
  |arr z H=>
   simp only[cp2];cases fE c h (c.ev y)with
   |none=>rfl
   |some F=>simp only[cS,cpL];unfold gd;split<;>rfl
def PQ(call:cW)(sg:Nat->Sig)(c:CSt)(d:LAc)(a_:LAa):SV->LBa
 | .fn g a b=>ig call (sg g) c d g (a++a_++b)
 |_=>none
theorem xeS(f:Arg)(a_:List Arg):opC call sg c d (.call f a_)=PQ call sg c d (evL c a_) (c.ev f):=by simp only[opC];unfold PQ;rfl
theorem xcH(o:SOp):dA call sg c ⟨d,none,o⟩=opC call sg c d o:=rfl
theorem xdH(g:Option (Nat×Bool))(o:SOp)(r:LAf):plC call sg (⟨d,g,o⟩::r) c=nxP call sg r (opC call sg c d o):=by rw[plC]
theorem Cj:fC call sg [] c=some c:=by rw[fC]
theorem OD(i:SI)(h:LAb)(r:List RI):fC call sg (.op i h::r) c=nxC call sg h r (dA call sg c i):=by rw[fC]
theorem Ck(g:Nat)(b:Bool)(l:LAf)(h:LAb)(r:List RI):fC call sg (.grp g b l h::r) c=nxC call sg h r (oX call sg b l c (c.get g)):=by rw[fC]
theorem Ch(i:SI)(h:LAb)(r:List RI):fC call sg (.tks i h::r) c=nxC call sg h r (zC c i):=by rw[fC]
theorem QD(d:LAc)(x:Arg):zC c ⟨d,none,.s2b x⟩=QE c d (c.ev x):=rfl
theorem xcA(k:Nat)(l:t7):QE c (some k) (.str l)=some (CSt.app c (some k) {val:= .byt l (.id (k+100)),tok:=true}):=rfl
theorem Ci(i:SI)(h:LAb)(r:List RI):fC call sg (.own i h::r) c=nxC call sg h r (sI c i):=by rw[fC]
theorem Ry(d:LAc)(x:Arg):sI c ⟨d,none,.s2b x⟩=RF c d (c.ev x):=rfl
theorem Rz(d:LAc)(h:Nat)(y:List Arg):sI c ⟨d,none,.lit h y⟩=RB c h d (rows h (evL c y)):=rfl
theorem FN(d:LAc)(h:List Arg):sI c ⟨d,none,.litB h⟩=nA c d (toB (evL c h)):=rfl
theorem RA(d:LAc)(z:LAa)(b:Nat)(x y:Arg):sI c ⟨d,none,.app z b x y⟩=rq c d z b y (c.ev x):=rfl
theorem Cl(q:Dir)(r:List RI):fC call sg (.dir q::r) c=nxC call sg [] r (qI c q):=by rw[fC]
theorem lg(h:LAb)(r:List RI):nxC call sg h r (some c)=fC call sg r (c.kill h):=by rw[nxC]
theorem lh(h:LAb)(r:List RI):nxC call sg h r none=none:=by rw[nxC]
theorem OA:plC call sg [] c=some c:=by rw[plC]
theorem Cn(r:LAf):nxP call sg r (some c)=plC call sg r c:=by rw[nxP]
theorem Co(r:LAf):nxP call sg r none=none:=by rw[nxP]
theorem xcy:unL c []=c:=rfl
theorem Qw(g:Option (Nat×Bool))(o:SOp)(r:LAf):unL c (⟨d,g,o⟩::r)=unL (c.put d (.tup [])) r:=rfl
theorem xiz(b:Bool)(l:LAf):oX call sg b l c (.tup [])=some (unL c l):=rfl
theorem xiA(b t:Bool)(l:LAf):oX call sg b l c (.bool t)=if t=b then plC call sg l c else some (unL c l):=rfl
theorem xeU(h:LAb)(r:List RI)(p:Prop)[Decidable p](a b:LBa):nxC call sg h r (if p then a else b)=if p then nxC call sg h r a else nxC call sg h r b:=by split<;>rfl
theorem xe3(p:Prop)[Decidable p](l h:List (Nat×SV))(o:List (Nat×aC))(t:LAb):(if p then some (CSt.mk l o t)else some (CSt.mk h o t))=some (CSt.mk (if p then l else h) o t):=by split<;>rfl
theorem xe2(p:Prop)[Decidable p](n:Nat)(v w:SV)(l h:List (Nat×SV)):(if p then(n,v)::l else(n,w)::h)=(n,if p then v else w)::(if p then l else h):=by split<;>rfl
theorem R3(p:Prop)[Decidable p]:(if p then([]:List (Nat×SV))else [])=[]:=by split<;>rfl
theorem F3{α:Type}(p:Prop)[Decidable p](a:α):(if p then a else a)=a:=by split<;>rfl
theorem F2(p:Prop)[Decidable p](q:IntKind)(a b:Int):(if p then SV.int q a else SV.int q b)= .int q (if p then a else b):=by split<;>rfl
theorem DA(p:Prop)[Decidable p](a b:Bool):(if p then SV.bool a else SV.bool b)= .bool (if p then a else b):=by split<;>rfl
theorem R2(p:Prop)[Decidable p](a b:UInt8):(if p then SV.u8 a else SV.u8 b)= .u8 (if p then a else b):=by split<;>rfl
theorem DC(t a b:Bool):il t (.bool a) (.bool b)= .bool (if t=true then a else b):=by cases t<;>rfl
theorem F4(t:Bool)(q:IntKind)(a b:Int):il t (.int q a) (.int q b)= .int q (if t=true then a else b):=by cases t<;>rfl
theorem R4(t:Bool)(a b:UInt8):il t (.u8 a) (.u8 b)= .u8 (if t=true then a else b):=by cases t<;>rfl
theorem DB(a b:SV):il true a b=a:=rfl
theorem wM(a b:SV):il false a b=b:=rfl
variable {rn : RC -> CSt -> gJ}
theorem FR(h:LAb):nrm h (some c)=some (.n,c.kill h):=rfl
theorem FS(h:LAb):nrm h none=none:=rfl
theorem RS(h:LAb)(p:Prop)[Decidable p](a b:LBa):nrm h (if p then a else b)=if p then nrm h a else nrm h b:=by split<;>rfl
theorem xlY(b:RC):sq rn b (some (.n,c))=rn b c:=rfl
theorem xlW(b:RC)(id:Nat):sq rn b (some (.x id,c))=some (.x id,c):=rfl
theorem xlX(b:RC):sq rn b (some (.r,c))=some (.r,c):=rfl
theorem QH(b:RC):sq rn b none=none:=rfl
theorem xcC(b:RC)(p:Prop)[Decidable p](x y:gJ):sq rn b (if p then x else y)=if p then sq rn b x else sq rn b y:=by split<;>rfl
theorem xiL(a b:RC)(t:Bool):cnd rn a b c (.bool t)=if t=true then rn a c else rn b c:=rfl
theorem xiO(id:Nat):blk id (some (.n,c))=some (.n,c):=rfl
theorem xiN(id:Nat):blk id (some (.r,c))=some (.r,c):=rfl
theorem xiM(id h:Nat):blk id (some (.x h,c))=if h=id then some (.n,c)else some (.x h,c):=rfl
theorem GC(id:Nat):blk id none=none:=rfl
theorem S5(id:Nat)(p:Prop)[Decidable p](x y:gJ):blk id (if p then x else y)=if p then blk id x else blk id y:=by split<;>rfl
theorem xmm(b:RC):lp rn b (some (.n,c))=rn (.loop b) c:=rfl
theorem xmk(b:RC)(id:Nat):lp rn b (some (.x id,c))=some (.x id,c):=rfl
theorem xml(b:RC):lp rn b (some (.r,c))=some (.r,c):=rfl
theorem RU(b:RC):lp rn b none=none:=rfl
theorem xeX(b:RC)(p:Prop)[Decidable p](x y:gJ):lp rn b (if p then x else y)=if p then lp rn b x else lp rn b y:=by split<;>rfl
theorem FJ(a:RC):prD rn a (some c)=rn a c:=rfl
theorem xgL(h:List Dir):psD h (some (.n,c))=prD (fun _ c=>some (.n,c)) .skip (iu c h):=by simp only[psD];cases iu c h<;>rfl
theorem xgJ(h:List Dir)(id:Nat):psD h (some (.x id,c))=some (.x id,c):=rfl
theorem xgK(h:List Dir):psD h (some (.r,c))=some (.r,c):=rfl
theorem FH(h:List Dir):psD h none=none:=rfl
theorem Rw(h:List Dir)(p:Prop)[Decidable p](x y:gJ):psD h (if p then x else y)=if p then psD h x else psD h y:=by split<;>rfl
theorem Gp:iu c []=some c:=rfl
def xlm(h:List Dir):LBa->LBa
 |some c=>iu c h
 |none=>none
theorem DU(q:Dir)(h:List Dir):iu c (q::h)=xlm h (qI c q):=by simp only[iu];cases qI c q<;>rfl
theorem DV(h:List Dir):xlm h (some c)=iu c h:=rfl
theorem xiC(F:FnC)(n:Nat):EC F n (some (.n,c))=OO F.keep F.raw n c (rm c F.rs):=rfl
theorem xiB(F:FnC)(n:Nat):EC F n (some (.r,c))=OO F.keep F.raw n c (rm c F.rs):=rfl
theorem Sh(F:FnC)(n:Nat)(p:Prop)[Decidable p](x y:gJ):EC F n (if p then x else y)=if p then EC F n x else EC F n y:=by split<;>rfl
theorem Gz(sg:Sig)(g:Nat)(a_:LAa):ig call sg c d g a_=jO call sg c d g a_ ((SV.idsL a_).isEmpty&&sg.own.isEmpty):=rfl
theorem S2(sg:Sig)(g:Nat)(a_:LAa):jO call sg c d g a_ true=mc c d (call g (SV.bareL a_) [] 0):=rfl
theorem S3(sg:Sig)(g:Nat)(a_:LAa):jO call sg c d g a_ false=jH call sg d g (eD c a_ (iP sg.raw 0 a_)):=rfl
theorem Sj(q:dZ):mc c d (some q)=nD c d q q.bare:=rfl
theorem Sl(q:dZ):nD c d q true=some (c.put d q.r):=rfl
theorem Sm(q:dZ):nD c d q false=wV c d q q.small:=rfl
theorem Sk(q:dZ):wV c d q true=some (jP c d [] [] q):=rfl
theorem S9(r:SV)(os:List (Nat×aC))(tk:LAb):(dZ.mk r os tk).bare=(os.isEmpty&&tk.isEmpty&&r.ids.isEmpty&&r.toks.isEmpty):=rfl
theorem E1(r:SV)(os:List (Nat×aC))(tk:LAb):(dZ.mk r os tk).small=(os.all (fun p=>decide (p.1<1000)&&p.2.ids.all (fun k=>decide (k<1000))&&p.2.toks.all (fun k=>decide (k<1000)))&&r.ids.all (fun k=>decide (k<1000))&&r.toks.all (fun k=>decide (k<1000))&&tk.all (fun k=>decide (k<1000))):=rfl
theorem QJ(sg:Sig)(g:Nat)(a_:LAa):jH call sg d g (c,a_)=nm call c d g (jS c.tk sg.own 50 0 a_):=rfl
theorem QP(g:Nat)(a_:LAa)(h:List LAc):nm call c d g (a_,h)=ls call c d g a_ h (dB c 60 [] (SV.idsL a_)) (gw c (dB c 60 [] (SV.idsL a_))):=rfl
theorem QO(g:Nat)(a_:LAa)(h:List LAc)(m:LAb)(os:List aC):ls call c d g a_ h m (some os)=nl call c d g a_ h m (dT c.tk (50+h.length) os):=rfl
theorem QN(g:Nat)(a_:LAa)(y:List LAc)(m:LAb)(os:List aC)(h:List LAc):nl call c d g a_ y m (os,h)=
 nj call c d g a_ y m os h (oe (SV.idsL a_++fz os) m&&dr m&&dr (cx (y++h))&&decide (m.length<=40)&&m.all fun o=> !inR (d.getD 0) o):=rfl
theorem QM(g:Nat)(a_:LAa)(y:List LAc)(m:LAb)(os:List aC)(h:List LAc):nj call c d g a_ y m os h true=
 oq c d m (cx (y++h)) (call g (SV.renL (gE m) id a_) (dX (gE m) id os) (y.length+h.length)):=rfl
theorem QL(m mt:LAb)(q:dZ):oq c d m mt (some q)=vW c d m mt q q.small:=rfl
theorem QK(m mt:LAb)(q:dZ):vW c d m mt q true=some (jP c d m mt q):=rfl
theorem xfk(keep raw:LAb)(vs:LAa):OO keep raw k c (some vs)=Si keep k (eD c vs (iP raw 0 vs)):=rfl
theorem xfd(keep:LAb)(vs:LAa):Si keep k (c,vs)=ON keep k c vs (decide (k=0)&&(SV.idsL vs).isEmpty&&keep.isEmpty):=rfl
theorem xfi(keep:LAb)(vs:LAa):ON keep k c vs true=some ⟨jo (SV.bareL vs),[],[]⟩:=rfl
theorem xfj(keep:LAb)(vs:LAa):ON keep k c vs false=xaj k c (jS c.tk keep 60 0 vs):=rfl
theorem xfh(vs:LAa)(h:List LAc):xaj k c (vs,h)=xai k c vs h (dB c 60 [] (kU k++SV.idsL vs)) (gw c (dB c 60 [] (kU k++SV.idsL vs))):=rfl
theorem xfg(vs:LAa)(h:List LAc)(m:LAb)(os:List aC):xai k c vs h m (some os)=xah k vs h m (dT c.tk (60+h.length) os):=rfl
theorem xff(vs:LAa)(y:List LAc)(m:LAb)(os:List aC)(h:List LAc):xah k vs y m (os,h)=
 xag k vs y m os h (oe (SV.idsL vs++fz os) m&&dr m&&dr (cx (y++h))&&decide (m.take k=kU k)&&(m.drop k).all fun o=>decide (k<=o)):=rfl
theorem xfe(vs:LAa)(y:List LAc)(m:LAb)(os:List aC)(h:List LAc):xag k vs y m os h true=
 some ⟨(jo vs).ren (gQ k m) id,(fP 0 (dX (gQ k m) id (os.take k)))++(fP (100+k) (dX (gQ k m) id (os.drop k))),tks 60 (y.length+h.length)⟩:=rfl
theorem RJ(v:SV):jo [v]=v:=rfl
theorem RH(v w:SV)(r:LAa):jo (v::w::r)= .tup (v::w::r):=rfl
theorem RK:jo []= .tup []:=rfl
theorem E8(raw:LAb)(i:Nat)(q:IntKind)(n:Int):mj raw i (.int q n)=[]:=rfl
theorem C4(raw:LAb)(i:Nat)(b:Bool):mj raw i (.bool b)=[]:=rfl
theorem QS(raw:LAb)(i:Nat)(b:UInt8):mj raw i (.u8 b)=[]:=rfl
theorem E4(raw:LAb)(i:Nat)(l:t7):mj raw i (.str l)=[]:=rfl
theorem E9(raw:LAb)(i:Nat)(l:t7)(t:Tok):mj raw i (.byt l t)=[]:=rfl
theorem E7(raw:LAb)(i h:Nat)(l:f8)(t:Tok):mj raw i (.lst h l t)=[]:=rfl
theorem C2(raw:LAb)(i:Nat):mj raw i .nilp=[]:=rfl
theorem C3(raw:LAb)(i:Nat):mj raw i .nili=[]:=rfl
theorem wa(raw:LAb)(i:Nat):mj raw i .undef=[]:=rfl
theorem QT(raw:LAb)(i:Nat)(l:LAa):mj raw i (.pp l)=[]:=rfl
theorem E5(raw:LAb)(i o off:Nat):mj raw i (.ptr o off)=[]:=rfl
theorem QV(raw:LAb)(i o h a b:Nat):mj raw i (.ap o h a b)=[]:=rfl
theorem Fb(raw:LAb)(i:Nat)(l:LAa):mj raw i (.agg l)=if raw.contains i=true then []else tH l:=rfl
theorem Dd:tH []=[]:=rfl
theorem wh(v:SV)(r:LAa):tH (v::r)=gN v++tH r:=rfl
theorem Da(q:IntKind)(n:Int):gN (.int q n)=[]:=rfl
theorem wg(b:Bool):gN (.bool b)=[]:=rfl
theorem Fc(b:UInt8):gN (.u8 b)=[]:=rfl
theorem C6(l:t7):gN (.str l)=[]:=rfl
theorem Db(l:t7)(t:Tok):gN (.byt l t)=[]:=rfl
theorem C9(h:Nat)(l:f8)(t:Tok):gN (.lst h l t)=[]:=rfl
theorem wb:gN .nilp=[]:=rfl
theorem we:gN .nili=[]:=rfl
theorem ul:gN .undef=[]:=rfl
theorem Fe(l:LAa):gN (.pp l)=[]:=rfl
theorem C7(o off:Nat):gN (.ptr o off)=[]:=rfl
theorem Fg(o h a b:Nat):gN (.ap o h a b)=[]:=rfl
theorem Dc(l:LAa):gN (.agg l)=[]:=rfl
theorem C5(l:LAa):gN (.tup l)=[]:=rfl
theorem Ff(f:Nat)(a b:LAa):gN (.fn f a b)=[]:=rfl
theorem C8(o h off n:Nat)(m:LAc):gN (.psl o h off n m)=[o]:=rfl
theorem E3(raw:LAb)(i:Nat)(l:LAa):mj raw i (.tup l)=[]:=rfl
theorem QU(raw:LAb)(i f:Nat)(a b:LAa):mj raw i (.fn f a b)=[]:=rfl
theorem E6(raw:LAb)(i o h off n:Nat)(m:LAc):mj raw i (.psl o h off n m)=if raw.contains i=true then []else [o]:=rfl
theorem Sa(p:Prop)[Decidable p](a b v:SV):il (decide p) (if p then a else b) v=il (decide p) a v:=by by_cases h:p<;>simp[il,h]
theorem R9(p:Prop)[Decidable p](a b v:SV):il (decide p) v (if ¬p then a else b)=il (decide p) v a:=by by_cases h:p<;>simp[il,h]
theorem R6(t:Bool)(a b v:SV):il t (if t=true then a else b) v=il t a v:=by cases t<;>simp[il]
theorem R5(t:Bool)(a b v:SV):il t v (if t=false then a else b)=il t v a:=by cases t<;>simp[il]
theorem R8(t:Bool)(a b v:SV):il (!t) (if t=false then a else b) v=il (!t) a v:=by cases t<;>simp[il]
theorem R7(t:Bool)(a b v:SV):il (!t) v (if t=true then a else b)=il (!t) v a:=by cases t<;>simp[il]
theorem S8(p q:Prop)[Decidable p][Decidable q]:(if p then decide q else false)=decide (p/\q):=by by_cases h:p<;>simp[h]
theorem xfI(p q:Prop)[Decidable p][Decidable q]:(if p then true else decide q)=decide (p\/q):=by by_cases h:p<;>simp[h]
theorem Tb(v:SV):c.app d {val:=v}=c.put d v:=rfl
theorem Tc(l:List (Nat×SV))(ob:List (Nat×aC))(t:LAb)(o:aC)(v:SV):
 CSt.app ⟨l,ob,t⟩ (some k) {val:=v,new:=some o}=⟨jn (de (k+100) (k+101) l) k v,iJ (bz (k+100) (k+101) ob) (k+100) (o.purge (k+100) (k+101)),cy (k+100) (k+101) t⟩:=rfl
theorem xfJ(l:List (Nat×SV))(ob:List (Nat×aC))(t:LAb)(v:SV)(p:Nat×aC):CSt.app ⟨l,ob,t⟩ d {val:=v,wr:=[p]}=CSt.put ⟨l,iJ ob p.1 p.2,t⟩ d v:=rfl
theorem Gu(l:List (Nat×SV))(ob:List (Nat×aC))(t:LAb)(p:SV×Nat×aC):cpS ⟨l,ob,t⟩ d (some p)=some (CSt.put ⟨l,iJ ob p.2.1 p.2.2,t⟩ d p.1):=rfl
theorem FV(z:LAa)(p:Nat×Nat):mkS c k z (some p)=some (CG c k (.arr z.length (ao p.2 z)) (.psl (k+100) z.length 0 p.1 (some p.2))):=rfl
theorem Dt(p:Nat×Nat):xk4 c k (some p)=some (CG c k (.bar (ao p.2 0)) (.psl (k+100) 1 0 p.1 (some p.2))):=rfl
theorem xf4(x:Arg):cX c (.mov x)=some (c.ev x):=by simp only[cX];rw[xgh]
theorem Qn(z:LAa)(h:List (Nat×Nat×Arg)):cX c (.build z h)=tX (iF z (psC c h)):=by simp only[cX];rw[zA]
theorem xf5(h:Nat)(y:List Arg):cX c (.lit h y)=xaa h (rows h (evL c y)):=by simp only[cX];rw[Tk]
theorem xcg(h:List Arg):cX c (.litB h)=Ek (toB (evL c h)):=by simp only[cX];rw[GK]
theorem xcf(n:Nat)(h:Bool)(a:Arg):cX c (.load n h a)=l7 c n h (c.ev a):=by simp only[cX];rw[xct]
theorem xcb(x:Arg):cX c (.nchk x)=Eg (c.ev x):=by simp only[cX];rw[xcp]
theorem xgb(op:BinOp)(x y:Arg):cX c (.bin op x y)=EH op (c.ev x) (c.ev y):=by simp only[cX];rw[xgm]
theorem xgc(h:Bool)(x y:Arg):cX c (.beq h x y)=xaw h (c.ev x) (c.ev y):=by simp only[cX];rw[xgn]
theorem xf9(z:Bool)(h:LAb)(x y:Arg):cX c (.eqS z h x y)=xao z h (c.ev x) (c.ev y):=by simp only[cX];rw[xgk]
theorem xlO(op:UnOp)(x:Arg):cX c (.un op x)=vK op (c.ev x):=by simp only[cX];rw[xlU]
theorem Ql(q:IntKind)(x:Arg):cX c (.toInt q x)=gZ q (c.ev x):=by simp only[cX];rw[Qu]
theorem P9(x:Arg):cX c (.toStr x)=tF (c.ev x):=by simp only[cX];rw[Qt]
theorem xci(h:Bool)(x:Arg):cX c (.isni h x)=En h (c.ev x):=by simp only[cX];rw[xcv]
theorem xf3(x:Arg):cX c (.s2b x)=Tq (c.ev x):=by simp only[cX];rw[xgg]
theorem xgd(x:Arg):cX c (.b2s x)=xaz c (c.ev x):=by simp only[cX];rw[xgo]
theorem xcc(f:Nat)(a b:List Arg):cX c (.mkfn f a b)=some (.fn f (evL c a) (evL c b)):=by simp only[cX];rw[xcq]
theorem xb7(x:Arg)(lo hi:Option Arg):cX c (.slcS x lo hi)=D5 c lo hi (c.ev x):=by simp only[cX];rw[GJ]
theorem xb8(y:Nat)(x:Arg)(lo hi h:Option Arg):cX c (.slcL y x lo hi h)=nR c y (c.ev x) lo hi h:=by simp only[cX];rw[xcn]
theorem xb9(len y:Nat)(x:Arg)(lo hi h:Option Arg):cX c (.slcA len y x lo hi h)=D6 c len y lo hi h (c.ev x):=by simp only[cX];rw[xco]
theorem Qm(off:Nat)(x:Arg):cX c (.faddr off x)=tU off (c.ev x):=by simp only[cX];rw[Qv]
theorem xf7(off n:Nat)(h:Bool)(x:Arg):cX c (.fld off n h x)=xaf off n h (c.ev x):=by simp only[cX];rw[xgi]
theorem EO(h:Nat)(x i:Arg):cX c (.iaddrL h x i)=oV h (c.ev x) (c.ev i).num:=by simp only[cX];rw[ET]
theorem EP(len h:Nat)(x i:Arg):cX c (.iaddrA len h x i)=my c len h (c.ev x) (c.ev i).num:=by simp only[cX];rw[uv]
theorem xck(len h:Nat)(y:Bool)(x i:Arg):cX c (.idxA len h y x i)=Er len h y (c.ev x) (c.ev i).num:=by simp only[cX];rw[xcx]
theorem xcj(x i:Arg):cX c (.idxS x i)=Ep (c.ev x) (c.ev i).num:=by simp only[cX];rw[xcw]
theorem xf8(x:Arg)(i:Nat):cX c (.ext x i)=xan i (c.ev x):=by simp only[cX];rw[xgj]
theorem xf6(b:Bool)(x:Arg):cX c (.len b x)=lenC (jN b (c.ev x)):=by simp only[cX];rw[Tl]
theorem xch(n:Nat):cX c (.lenC n)=some (.int .i64 n):=by simp only[cX];rw[xcu]
theorem xga(x:Arg):cX c (.cap x)=xas (c.ev x):=by simp only[cX];rw[xgl]
theorem xcd(x y:Arg):cX c (.mini x y)=Ei (c.ev x) (c.ev y):=by simp only[cX];rw[xcr]
theorem xce(x y:Arg):cX c (.maxi x y)=Ej (c.ev x) (c.ev y):=by simp only[cX];rw[xcs]
theorem xca(q a b:Arg):cX c (.pick q a b)=Ee (c.ev a) (c.ev b) (c.ev q):=by simp only[cX];cases c.ev q<;>rfl
theorem xmb(o:SOp):qv c ⟨d,none,o⟩=cX c o:=rfl
theorem xma(g:Nat)(b:Bool)(o:SOp):qv c ⟨d,some (g,b),o⟩=qg c o b (c.get g):=rfl
theorem xmd(b t:Bool)(o:SOp):qg c o b (.bool t)=if t=b then cX c o else some (.tup []):=rfl
theorem xmc(b:Bool)(o:SOp):qg c o b (.tup [])=some (.tup []):=rfl
def stG(call:cW)(sg:Nat->Sig)(c:CSt)(d:LAc)(o:SOp)(b:Bool):SV->LBa
 | .bool t=>if t=b then opC call sg c d o else some (c.put d (.tup []))
 | .tup []=>some (c.put d (.tup []))
 |_=>none
theorem xcG(g:Nat)(b:Bool)(o:SOp):dA call sg c ⟨d,some (g,b),o⟩=stG call sg c d o b (c.get g):=by unfold dA stG;rfl
theorem xgr(b t:Bool)(o:SOp):stG call sg c d o b (.bool t)=if t=b then opC call sg c d o else some (c.put d (.tup [])):=rfl
theorem xgq(b:Bool)(o:SOp):stG call sg c d o b (.tup [])=some (c.put d (.tup [])):=rfl
theorem xfb(b:LAb)(h:List FI):eT call sg b [] h c=some c:=by rw[eT]
theorem xmT(b:LAb)(n:Nat)(i:SI)(r h:List FI):eT call sg b (⟨n,true,i⟩::r) h c=vj call sg b r (⟨n,true,i⟩::h) c i.dst (qv c i):=by rw[eT]
theorem xmU(b:LAb)(n:Nat)(i:SI)(r h:List FI):eT call sg b (⟨n,false,i⟩::r) h c=qE call sg b r h (b.getD n 0) (dA call sg c i):=by rw[eT]
theorem xmR(b:LAb)(r h:List FI)(v:SV):vj call sg b r h c d (some v)=eT call sg b r h (c.put d v):=by rw[vj]
theorem xmS(b:LAb)(r h:List FI)(m:Nat):qE call sg b r h m (some c)=qF call sg b r h (gdP (sV m c h) c):=by rw[qE]
theorem xmV(b:LAb)(r h:List FI):qF call sg b r h (some c)=eT call sg b r h c:=by rw[qF]
theorem Sd{α:Type}{p:Prop}(v:α)(h:p):gdP p v=some v:=by unfold gdP;exact if_pos h
theorem xiQ(b:LAb)(l:List FI)(p:LAb):iX call sg b l [p] c=eT call sg b (iA l p) [] c:=by rw[iX]
theorem xiP(b:LAb)(l:List FI)(p q:LAb)(r:List LAb):iX call sg b l (p::q::r) c=nJ (eT call sg b (iA l p) [] c) (iX call sg b l (q::r) c):=by rw[iX]
theorem xnG(a h:CSt):nJ (some a) (some h)=gdP (a=h) a:=rfl
theorem xfc(m:Nat):sV m c []=True:=rfl
theorem Sg(m:Nat)(p:FI)(r:List FI):sV m c (p::r)=((m/2^p.n % 2=1\/qv c p.i=some (c.get (p.i.dst.getD 0)))/\sV m c r):=rfl
end Go.Sy
namespace Go.Sy
variable [aX]
theorem rF{n:Nat}:∀{l:List (Nat×SV)},(∀p∈l,p.1≠n)->eh l n= .undef
 |[],_=>rfl
 |p::r,h=>by simp only[eh];rw[if_neg (h p (ax ..))];exact rF fun q y=>h q (am _ y)
theorem mb(n:Nat)(v:SV)(m:Nat):∀l:List (Nat×SV),eh (jn l n v) m=if m=n then v else eh l m
 |[]=>by simp only[jn,eh];by_cases h:n=m<;>simp[h,eq_comm]
 |p::r=>by
  simp only[jn];split
  ·simp only[eh]
   by_cases h:n=m
   ·simp[h]
   ·rw[if_neg h,if_neg (Ne.symm h)]
  ·split
   ·rename_i z y
    simp only[eh]
    by_cases h:n=m
    ·simp[h]
    ·rw[if_neg h,if_neg (Ne.symm h),if_neg (by omega)]
   ·rename_i z y
    simp only[eh,mb n v m r]
    by_cases h:p.1=m
    ·rw[if_pos h,if_pos h,if_neg (by omega)]
    ·rw[if_neg h,if_neg h]
theorem l6{n:Nat}{v:SV}{p:Nat×SV}:∀{l:List (Nat×SV)},p∈jn l n v->p=(n,v)\/p∈l
 |[],h=>by simpa[jn]using h
 |q::r,h=>by
  simp only[jn]at h;split at h
  ·rcases al.1 h with h|h
   ·exact .inl h
   ·exact .inr h
  ·split at h
   ·rcases al.1 h with h|h
    ·exact .inl h
    ·exact .inr (am _ h)
   ·rcases al.1 h with h|h
    ·exact .inr (h ▸ ax ..)
    ·rcases l6 h with h|h
     ·exact .inl h
     ·exact .inr (am _ h)
theorem fW(lo hi n:Nat):∀l:List (Nat×SV),eh (de lo hi l) n=(eh l n).purge lo hi
 |[]=>by simp[de,eh,SV.purge]
 |p::r=>by
  simp only[de,eh];split
  ·rfl
  ·exact fW lo hi n r
theorem jq{lo hi:Nat}{p:Nat×SV}:∀{l:List (Nat×SV)},p∈de lo hi l->∃q∈l,p.1=q.1
 |q::r,h=>by
  simp only[de]at h;rcases al.1 h with h|h
  ·exact⟨q,ax ..,by rw[h]⟩
  ·obtain⟨u,z,y⟩:=jq h
   exact⟨u,am _ z,y⟩
theorem pD{k:LAb}{p:Nat×SV}:∀{l:List (Nat×SV)},p∈vy l k->p∈l
 |q::r,h=>by
  simp only[vy]at h;split at h
  ·exact am _ (pD h)
  ·rcases al.1 h with h|h
   ·exact h ▸ ax ..
   ·exact am _ (pD h)
theorem pM(k:LAb)(n:Nat):∀l:List (Nat×SV),eh (vy l k) n=if k.contains n=true then .undef else eh l n
 |[]=>by simp[vy,eh]
 |p::r=>by
  simp only[vy,eh];split
  ·rename_i h
   rw[pM k n r]
   by_cases y:p.1=n
   ·subst y;rw[if_pos h,if_pos h]
   ·rw[if_neg y]
  ·rename_i h
   simp only[eh,pM k n r]
   by_cases y:p.1=n
   ·subst y;rw[if_pos rfl,if_neg h,if_pos rfl]
   ·rw[if_neg y,if_neg y]
theorem pN(n:Nat)(v:aC)(m:Nat):∀l:List (Nat×aC),iD (iJ l n v) m=if m=n then some v else iD l m
 |[]=>by simp only[iJ,iD];by_cases h:n=m<;>simp[h,eq_comm]
 |p::r=>by
  simp only[iJ];split
  ·simp only[iD]
   by_cases h:n=m
   ·simp[h]
   ·rw[if_neg h,if_neg (Ne.symm h)]
  ·split
   ·rename_i z y
    simp only[iD]
    by_cases h:n=m
    ·simp[h]
    ·rw[if_neg h,if_neg (Ne.symm h),if_neg (by omega)]
   ·rename_i z y
    simp only[iD,pN n v m r]
    by_cases h:p.1=m
    ·rw[if_pos h,if_pos h,if_neg (by omega)]
    ·rw[if_neg h,if_neg h]
theorem kq{n:Nat}{v:aC}{p:Nat×aC}:∀{l:List (Nat×aC)},p∈iJ l n v->p=(n,v)\/p∈l
 |[],h=>by simpa[iJ]using h
 |q::r,h=>by
  simp only[iJ]at h;split at h
  ·rcases al.1 h with h|h
   ·exact .inl h
   ·exact .inr h
  ·split at h
   ·rcases al.1 h with h|h
    ·exact .inl h
    ·exact .inr (am _ h)
   ·rcases al.1 h with h|h
    ·exact .inr (h ▸ ax ..)
    ·rcases kq h with h|h
     ·exact .inl h
     ·exact .inr (am _ h)
theorem tG{n:Nat}{v:aC}:∀{l:List (Nat×aC)},(l.map cM).Pairwise (· < ·)->((iJ l n v).map cM).Pairwise (· < ·)
 |[],_=>by simp[iJ]
 |p::r,h=>by
  have H:=h;simp only[aE,bI]at h;simp only[iJ];split
  ·rename_i z
   rw[aE,bI];refine⟨fun k y=> ?_,H⟩;rw[aE]at y;rcases al.1 y with e|e
   ·omega
   ·have:=h.1 k e;omega
  ·split
   ·rename_i z F
    rw[aE,bI];exact⟨fun k y=>by have:=h.1 k y;omega,h.2⟩
   ·rename_i z F
    rw[aE,bI];refine⟨fun k y=> ?_,tG h.2⟩;obtain⟨q,E,rfl⟩:=aR.1 y;rcases kq E with e|e
    ·rw[e];show p.1<n;omega
    ·exact h.1 _ (ii e)
theorem jb{l:List (Nat×aC)}{n:Nat}{v:aC}(h:iD l n=some v):(n,v)∈l:=by
 induction l with
 |nil=>cases h
 |cons p r y=>
  simp only[iD]at h;split at h
  ·rename_i z
   cases h;subst z;exact ax ..
  ·exact am _ (y h)
theorem i6:∀{l:List (Nat×aC)},(l.map cM).Nodup->∀{p:Nat×aC},p∈l->iD l p.1=some p.2
 |q::r,hn,p,h=>by
  simp only[aE,dU]at hn;simp only[iD];rcases al.1 h with e|e
  ·subst e;rw[if_pos rfl]
  ·rw[if_neg (fun y=>hn.1 (by rw[y];exact ii e))]
   exact i6 hn.2 e
theorem iZ{l:List (Nat×aC)}(h:(l.map cM).Pairwise (· < ·)):(l.map cM).Nodup:=h.imp fun h=>Nat.ne_of_lt h
theorem ir(o:Nat):∀l:List (Nat×aC),l.lookup o=iD l o
 |[]=>rfl
 |p::r=>by
  simp only[List.lookup,iD]
  by_cases h:o=p.1
  ·rw[if_pos h.symm];simp[h]
  ·have:(o==p.1)=false:=by simpa using h
   rw[this,if_neg (Ne.symm h)];exact ir o r
theorem jt(lo hi o:Nat):∀l:List (Nat×aC),iD (bz lo hi l) o=if lo<=o/\o<hi then none else(iD l o).map (aC.purge lo hi)
 |[]=>by simp[bz,iD]
 |p::r=>by
  simp only[bz,iD];split
  ·rename_i y
   rw[jt lo hi o r]
   by_cases h:p.1=o
   ·subst h;rw[if_pos y,if_pos y]
   ·rw[if_neg h]
  ·rename_i y
   simp only[iD,jt lo hi o r]
   by_cases h:p.1=o
   ·subst h;rw[if_pos rfl,if_neg y,if_pos rfl];rfl
   ·rw[if_neg h,if_neg h]
theorem uz{lo hi:Nat}{l:List (Nat×aC)}(h:(l.map cM).Pairwise (· < ·)):((bz lo hi l).map cM).Pairwise (· < ·):=by rw[eC];exact h.filter _
theorem kr{n t:Nat}:∀{l:LAb},t∈ml l n↔t=n\/t∈l
 |[]=>by simp[ml]
 |p::r=>by
  simp only[ml];split
  ·simp
  ·split
   ·rename_i h;subst h;simp
   ·simp only[al,kr]
    constructor
    ·rintro(h|h|h)
     ·exact .inr (.inl h)
     ·exact .inl h
     ·exact .inr (.inr h)
    ·rintro(h|h|h)
     ·exact .inr (.inl h)
     ·exact .inl h
     ·exact .inr (.inr h)
theorem pw{lo hi:Nat}{o:aC}(h:o.wf=true):(o.purge lo hi).wf=true:=by cases o<;>simpa[aC.purge,aC.wf]using h
def CSt.st(N:Nat)(c:CSt):St:=⟨(bU N).map c.get,c.ob,c.tk⟩
structure Inv(N:Nat)(c:CSt):Prop where
 dom:∀p∈c.tm,p.1<N
 so:(c.ob.map cM).Pairwise (· < ·)
 wf:∀p∈c.ob,p.2.wf=true
structure Sim(N:Nat)(c:CSt)(s:St):Prop where
 inv:Inv N c
 tm:s.tm=(bU N).map c.get
 look:∀o,s.look o=c.look o
 tk:∀t,t∈s.tk↔t∈c.tk
variable {N : Nat} {c : CSt} {s : St}
theorem Inv.get(h:Inv N c){n:Nat}(hn:N<=n):c.get n= .undef:=rF fun p y e=>by have:=h.dom p y;omega
theorem Sim.of(h:Inv N c):Sim N c (c.st N):=⟨h,rfl,fun o=>ir o c.ob,fun _=>Iff.rfl⟩
theorem Sim.get(h:Sim N c s)(n:Nat):s.get n=c.get n:=by
 unfold St.get;rw[h.tm,aa,aP];rcases bO n N with hn|hn
 ·rw[cP hn];rfl
 ·rw[kf (by simpa using hn),h.inv.get hn];rfl
theorem Sim.ev(h:Sim N c s)(a:Arg):s.ev a=c.ev a:=by
 cases a with
 |t n=>exact h.get n
 |c v=>rfl
 |f g=>rfl
theorem Sim.evL(h:Sim N c s)(l:List Arg):Sy.evL c l=l.map s.ev:=by
 induction l with
 |nil=>rfl
 |cons a r y=>simp only[Sy.evL,aE,y,h.ev]
theorem Sim.lookmem(h:Sim N c s){o:Nat}{ob:aC}(y:c.look o=some ob):ob.wf=true:=h.inv.wf _ (jb y)
theorem Sim.rows(h:Sim N c s){o z:Nat}{y:f8}(E:c.look o=some (.arr z y)):∀x∈y,x.length=z:=by have:=h.lookmem E;simpa[aC.wf]using this
theorem Inv.put(h:Inv N c){d:LAc}(hd:∀k,d=some k->k<N)(v:SV):Inv N (c.put d v):=by
 cases d with
 |none=>exact h
 |some k=>
  refine⟨fun p y=> ?_,h.so,h.wf⟩;rcases l6 y with e|e
  ·rw[e];exact hd k rfl
  ·exact h.dom p e
theorem gI(c:CSt)(k:Nat)(v:SV)(n:Nat):(c.put (some k) v).get n=if n=k then v else c.get n:=mb k v n c.tm
theorem Sim.put(h:Sim N c s){d:LAc}(hd:∀k,d=some k->k<N)(v:SV):Sim N (c.put d v) (s.put d v):=by
 cases d with
 |none=>exact h
 |some k=>
  refine⟨h.inv.put hd v, ?_,h.look,h.tk⟩;show s.tm.set k v=_;rw[h.tm];apply List.ext_getElem?;intro i;rw[gu,aP,aP];rcases bO i N with hi|hi
  ·rw[cP hi]
   simp only[bl,gI,aS,List.length_range]
   by_cases y:k=i
   ·rw[if_pos y,if_pos (by omega),if_pos y.symm]
   ·rw[if_neg y,if_neg (Ne.symm y)]
  ·rw[kf (l:=bU N) (by simpa using hi)]
   have:=hd k rfl;rw[if_neg (by omega)];rfl
theorem bG{α:Type}{p:Prop}[Decidable p]{v u:α}(h:gd p v=some u):p/\v=u:=by
 unfold gd at h;split at h
 ·rename_i y;cases h;exact⟨y,rfl⟩
 ·cases h
theorem F7{op:BinOp}{k:IntKind}{a b:Int}{v:SV}(h:wN op k a b=some v)(y:mu op=false):∃p,Sb op k a b=some (p,v)/\p:=by
 cases op<;>simp only[wN]at h<;>first
  |(cases y;done)
  |(obtain⟨z,rfl⟩:=bG h;exact⟨_,rfl,z⟩)
  |(cases h;exact⟨True,rfl,trivial⟩)
theorem S7{op:BinOp}{a b v:SV}(h:EH op a b=some v):∃p,xc op a b=some (p,v)/\p:=by
 unfold EH at h;split at h
 ·rename_i k a J b
  split at h
  ·rename_i H
   by_cases E:mu op=true
   ·cases op<;>first
     |(cases E;done)
     |(simp only[wN]at h;obtain⟨y,rfl⟩:=bG h;exact⟨_,rfl,y⟩)
   ·have z:mu op=false:=by simpa using E
    have I:k=J:=H.resolve_left E;obtain⟨p,y,F⟩:=F7 h z;refine⟨p, ?_,F⟩;subst I;cases op<;>first|(cases z;done)|(simp only[xc,if_true];exact y)
  ·cases h
 ·rename_i a k b
  show ∃p,Tn op a b=some (p,v)/\p
  cases op<;>simp only[O3]at h<;>first
   |(cases h;done)
   |(obtain⟨y,rfl⟩:=bG h;exact⟨_,rfl,y⟩)
 ·rename_i a b
  show ∃p,D3 op a b=some (p,v)/\p
  cases op<;>simp only[xA]at h<;>first
   |(cases h;done)
   |(obtain⟨y,rfl⟩:=bG h;exact⟨_,rfl,y⟩)
   |(cases h;exact⟨True,rfl,trivial⟩)
 ·rename_i a b
  show ∃p,Tp op a b=some (p,v)/\p
  cases op<;>simp only[O6]at h<;>first
   |(cases h;done)
   |(obtain⟨y,rfl⟩:=bG h;exact⟨_,rfl,y⟩)
   |(cases h;exact⟨True,rfl,trivial⟩)
 ·cases h
theorem vb(F:Sim N c s){n:Nat}{H:Bool}{u v:SV}(h:l7 c n H u=some v):∃p,iC s n H u=some (p,v)/\p:=by
 cases u with
 |pp cs=>obtain⟨y,rfl⟩:=bG h;exact⟨_,rfl,y⟩
 |ptr o off=>
  simp only[l7]at h;simp only[iC,F.look];split at h
  ·rename_i cs z;rw[z];obtain⟨y,rfl⟩:=bG h;exact⟨_,rfl,y⟩
  ·rename_i O I z;rw[z];obtain⟨⟨y,E⟩,rfl⟩:=bG h;subst y;exact⟨_,rfl,E,F.rows z⟩
  ·rename_i l z;rw[z];obtain⟨⟨y,E⟩,rfl⟩:=bG h;subst y;exact⟨_,rfl,E⟩
  ·cases h
 |ap o O i j=>
  simp only[l7]at h;simp only[iC,F.look];split at h
  ·rename_i J I z
   rw[z];obtain⟨⟨y,E,L⟩,rfl⟩:=bG h;refine⟨_,rfl,y,E,L, ?_⟩;rw[aa,ab E,y];exact F.rows z _ (bx _)
  ·rename_i l z;rw[z];obtain⟨y,rfl⟩:=bG h;exact⟨_,rfl,y⟩
  ·cases h
 |_=>cases h
theorem mn(h:Sim N c s)(x:Option Arg)(n:Int):iB s x n=ko c x n:=by
 cases x with
 |none=>rfl
 |some a=>simp only[iB,ko,h.ev]
theorem zM(H:Sim N c s){L:Nat}{u v:SV}{lo hi J:Option Arg}(h:nR c L u lo hi J=some v):∃p,jl s L u lo hi J=some (p,v)/\p:=by
 cases u with
 |byt l t=>
  simp only[nR]at h;simp only[jl,mn H];split at h<;>try (cases h;done)
  rename_i a b m z y F;rw[z,y,F];obtain⟨E,rfl⟩:=bG h;exact⟨_,rfl,E⟩
 |lst I l t=>
  simp only[nR]at h;simp only[jl,mn H];split at h<;>try (cases h;done)
  rename_i a b m z y F;rw[z,y,F];obtain⟨E,rfl⟩:=bG h;exact⟨_,rfl,E⟩
 |psl o I off n cap=>
  cases cap with
  |none=>
   simp only[nR]at h;simp only[jl,mn H];split at h<;>try (cases h;done)
   rename_i a b z y;rw[z,y];obtain⟨E,rfl⟩:=bG h;exact⟨_,rfl,E⟩
  |some cap=>
   simp only[nR]at h;simp only[jl,mn H];split at h<;>try (cases h;done)
   rename_i a b m z y F;rw[z,y,F];obtain⟨E,rfl⟩:=bG h;exact⟨_,rfl,E⟩
 |_=>cases h
theorem iW(z:Sim N c s){u:SV}{l:t7}(h:dN c u=some l):∃p,bytesOf s u=some (p,l)/\p:=by
 cases u with
 |byt l t=>cases h;exact⟨True,rfl,trivial⟩
 |str l=>cases h;exact⟨True,rfl,trivial⟩
 |psl o H off n cap=>
  simp only[dN]at h;simp only[bytesOf,z.look];split at h
  ·rename_i F E;rw[E];obtain⟨y,rfl⟩:=bG h;exact⟨_,rfl,y⟩
  ·cases h
 |_=>cases h
theorem ki(F:Sim N c s){u:SV}{I:Nat}{l:f8}(h:fE c I u=some l):∃p,jJ s I u=some (p,l)/\p:=by
 cases u with
 |lst z l t=>obtain⟨y,rfl⟩:=bG h;exact⟨_,rfl,y⟩
 |psl o z off n cap=>
  simp only[fE]at h;simp only[jJ,F.look];split at h
  ·rename_i J O H
   rw[H];obtain⟨⟨y,E,L⟩,rfl⟩:=bG h;exact⟨_,rfl,y,E,L,by rw[E];exact F.rows H⟩
  ·cases h
 |_=>cases h
theorem xdG(z:Sim N c s)(h:List (Nat×Nat×Arg)):psC c h=h.map fun(o,n,x)=>(o,n,s.ev x):=by
 induction h with
 |nil=>rfl
 |cons p r y=>obtain⟨o,n,x⟩:=p;simp only[psC,aE,y,z.ev]
theorem Qs(F:Sim N c s){so:SOp}{v:SV}(h:cJ c so=some v):∃p,val s so=some (p,v)/\p:=by
 cases so with
 |mov x=>cases h;exact⟨True,by simp only[val,F.ev],trivial⟩
 |build z ps=>simp only[cJ,xdG F]at h;obtain⟨l,E,rfl⟩:=ah.1 h;exact⟨True,by simp only[val,E,bl],trivial⟩
 |lit L xs=>simp only[cJ,F.evL]at h;obtain⟨l,E,rfl⟩:=ah.1 h;exact⟨True,by simp only[val,E,bl],trivial⟩
 |litB xs=>simp only[cJ,F.evL]at h;obtain⟨l,E,rfl⟩:=ah.1 h;exact⟨True,by simp only[val,E,bl],trivial⟩
 |load n ag a=>simp only[val,F.ev];exact vb F h
 |nchk x=>simp only[cJ]at h;simp only[val,F.ev];cases I:c.ev x<;>rw[I]at h<;>first|(cases h;done)|(cases h;exact⟨True,rfl,trivial⟩)
 |bin op x y=>simp only[val,F.ev];exact S7 h
 |beq Z x y=>
  simp only[cJ]at h;simp only[val,F.ev];split at h<;>try (cases h;done)
  rename_i a b E H;cases h;rw[E,H];exact⟨True,rfl,trivial⟩
 |eqS Z ts x y=>
  simp only[cJ]at h;simp only[val,F.ev];split at h<;>try (cases h;done)
  rename_i a b E H;obtain⟨l,h3,rfl⟩:=ah.1 h;rw[E,H];exact⟨True,by simp only[h3,bl],trivial⟩
 |un op x=>simp only[cJ]at h;exact⟨True,by simp only[val,F.ev,h,bl],trivial⟩
 |toInt k x=>simp only[cJ]at h;exact⟨True,by simp only[val,F.ev,h,bl],trivial⟩
 |toStr x=>
  simp only[cJ]at h;simp only[val,F.ev];split at h<;>try (cases h;done)
  all_goals
   rename_i E;cases h;rw[E];exact⟨True,rfl,trivial⟩
 |slid x=>simp only[cJ]at h;cases h
 |newB x=>simp only[cJ]at h;cases h
 |isni Z x=>
  simp only[cJ]at h;simp only[val,F.ev];split at h<;>try (cases h;done)
  rename_i E;cases h;rw[E];exact⟨True,rfl,trivial⟩
 |s2b x=>
  simp only[cJ]at h;simp only[val,F.ev];split at h<;>try (cases h;done)
  rename_i l E;cases h;rw[E];exact⟨True,rfl,trivial⟩
 |b2s x=>
  simp only[cJ]at h;simp only[val,F.ev];cases I:c.ev x with
  |byt l t=>rw[I]at h;cases h;exact⟨True,rfl,trivial⟩
  |psl o L off n cap=>
   rw[I]at h;simp only[dN]at h;simp only[xd,F.look];obtain⟨l,E,rfl⟩:=ah.1 h;split at E
   ·rename_i l' O;rw[O];obtain⟨H,rfl⟩:=bG E;exact⟨_,rfl,H⟩
   ·cases E
  |_=>rw[I]at h;cases h
 |mkfn f a b=>simp only[cJ,F.evL]at h;cases h;exact⟨True,rfl,trivial⟩
 |slcS x lo hi=>
  simp only[cJ]at h;simp only[val,F.ev];split at h<;>try (cases h;done)
  rename_i l I;rw[I];simp only[mn F];split at h<;>try (cases h;done)
  rename_i a b E H;rw[E,H];obtain⟨J,rfl⟩:=bG h;exact⟨_,rfl,J⟩
 |slcL L x lo hi mx=>simp only[val,F.ev];exact zM F h
 |slcA len L x lo hi mx=>
  simp only[cJ]at h;simp only[val,F.ev];split at h<;>try (cases h;done)
  rename_i o off I;split at h<;>try (cases h;done)
  rename_i ho;subst ho;rw[I];exact zM F h
 |faddr off x=>simp only[cJ]at h;simp only[val,F.ev];cases I:c.ev x<;>rw[I]at h<;>first|(cases h;done)|(cases h;exact⟨True,rfl,trivial⟩)
 |fld off n ag x=>
  simp only[cJ]at h;simp only[val,F.ev];split at h<;>try (cases h;done)
  rename_i cs I;rw[I];obtain⟨J,rfl⟩:=bG h;exact⟨_,rfl,J⟩
 |iaddrL L x i=>
  simp only[cJ]at h;simp only[val,F.ev];split at h<;>try (cases h;done)
  all_goals
   rename_i E H;rw[E,H];obtain⟨J,rfl⟩:=bG h;exact⟨_,rfl,J⟩
 |iaddrA len L x i=>
  simp only[cJ]at h;simp only[val,F.ev,F.look];split at h<;>try (cases h;done)
  ·rename_i o off n E H
   rw[E,H];simp only;split at h<;>try (cases h;done)
   ·rename_i cs O
    rw[O];obtain⟨J,rfl⟩:=bG h;exact⟨_,rfl,J⟩
   ·rename_i ob U O
    rw[O];obtain⟨⟨J,h5⟩,rfl⟩:=bG h;cases ob with
    |rc cs=>exact absurd rfl (U cs)
    |_=>simp only[J,if_true];exact⟨_,rfl,h5⟩
  ·rename_i cs n E H
   rw[E,H];obtain⟨J,rfl⟩:=bG h;exact⟨_,rfl,J⟩
 |idxA len L ag x i=>
  simp only[cJ]at h;simp only[val,F.ev];split at h<;>try (cases h;done)
  rename_i E H;rw[E,H];obtain⟨J,rfl⟩:=bG h;exact⟨_,rfl,J⟩
 |idxS x i=>
  simp only[cJ]at h;simp only[val,F.ev];split at h<;>try (cases h;done)
  rename_i E H;rw[E,H];obtain⟨J,rfl⟩:=bG h;exact⟨_,rfl,J⟩
 |ext x i=>
  simp only[cJ]at h;simp only[val,F.ev];split at h<;>try (cases h;done)
  rename_i vs I;rw[I];obtain⟨J,rfl⟩:=bG h;exact⟨_,rfl,J⟩
 |len b x=>simp only[cJ]at h;obtain⟨n,E,rfl⟩:=ah.1 h;exact⟨True,by simp only[val,F.ev,E],trivial⟩
 |lenC n=>cases h;exact⟨True,rfl,trivial⟩
 |cap x=>
  simp only[cJ]at h;simp only[val,F.ev];cases I:c.ev x with
  |psl o L off n m=>cases m<;>rw[I]at h<;>cases h;exact⟨True,rfl,trivial⟩
  |byt l t=>rw[I]at h;simp only at h;split at h<;>cases h;rename_i W;subst W;exact⟨True,rfl,trivial⟩
  |lst L l t=>rw[I]at h;simp only at h;split at h<;>cases h;rename_i W;subst W;exact⟨True,rfl,trivial⟩
  |_=>rw[I]at h;cases h
 |mini x y=>
  simp only[cJ]at h;simp only[val,F.ev];split at h<;>try (cases h;done)
  rename_i E H;rw[E,H];simp only;split at h<;>cases h;rename_i Q;exact⟨True,by rw[if_pos Q],trivial⟩
 |maxi x y=>
  simp only[cJ]at h;simp only[val,F.ev];split at h<;>try (cases h;done)
  rename_i E H;rw[E,H];simp only;split at h<;>cases h;rename_i Q;exact⟨True,by rw[if_pos Q],trivial⟩
 |_=>cases h
end Go.Sy
namespace Go.Sy
variable [aX]
variable {P : Program} {C : Ctx} {x : Sit} {a : Act} {w : World} {o : Oper} {so : SOp} {N : Nat} {c c' : CSt} {s : St} {d : Option Nat}
def M(C:Ctx)(N:Nat)(c:CSt):LBc:=EA C (Sim N c)
theorem Sim.purge(h:Sim N c s)(lo hi:Nat):Sim N (c.purge lo hi) (s.purge lo hi):=by
 refine⟨⟨fun p y=> ?_,uz h.inv.so,fun p y=> ?_⟩, ?_,fun o=> ?_,fun t=> ?_⟩
 ·obtain⟨q,z,e⟩:=jq y
  rw[e];exact h.inv.dom q z
 ·obtain⟨_,ob,F,E⟩:=cw y
  rw[E];exact pw (h.inv.wf _ F)
 ·show SV.purgeL lo hi s.tm=_
  rw[h.tm,dm,List.map_map];apply List.map_congr_left;intro i _;exact(fW lo hi i c.tm).symm
 ·show(bz lo hi s.ob).lookup o=iD (bz lo hi c.ob) o
  have:=h.look o;unfold St.look CSt.look at this;rw[ir]at this ⊢;rw[jt,jt,this]
 ·show t∈cy lo hi s.tk↔t∈cy lo hi c.tk
  rw[bC,bC,h.tk]
theorem Sim.addO(h:Sim N c s)(k:Nat){ob:aC}(z:ob.wf=true):Sim N ⟨c.tm,iJ c.ob k ob,c.tk⟩ (s.addO k ob):=by
 refine⟨⟨h.inv.dom,tG h.inv.so,fun p E=> ?_⟩,h.tm,fun o=> ?_,h.tk⟩
 ·rcases kq E with e|e
  ·rw[e];exact z
  ·exact h.inv.wf p e
 ·show((k,ob)::s.ob).lookup o=iD (iJ c.ob k ob) o
  have:=h.look o;unfold St.look CSt.look at this;rw[pN];simp only[List.lookup]
  by_cases y:o=k
  ·subst y;simp
  ·have:(o==k)=false:=by simpa using y
   rw[this,if_neg y];exact h.look o
theorem iq(k:Nat)(ob:aC)(o:Nat):∀l:List (Nat×aC),(Sy.setO k ob l).lookup o=if o=k/\(l.lookup k).isSome=true then some ob else l.lookup o
 |[]=>by simp[Sy.setO]
 |p::r=>by
  simp only[Sy.setO]
  by_cases y:p.1=k
  ·rw[if_pos y]
   subst y;simp only[List.lookup]
   by_cases h:o=p.1
   ·subst h;simp
   ·have:(o==p.1)=false:=by simpa using h
    simp[this,h]
  ·rw[if_neg y]
   have z:(k==p.1)=false:=by simpa using Ne.symm y
   simp only[List.lookup,z,iq k ob o r]
   by_cases h:o=p.1
   ·subst h;simp[y]
   ·have:(o==p.1)=false:=by simpa using h
    simp[this]
theorem Sim.setO(h:Sim N c s){k:Nat}{ob:aC}(F:(c.look k).isSome=true)(E:ob.wf=true):Sim N ⟨c.tm,iJ c.ob k ob,c.tk⟩ (s.setO k ob):=by
 refine⟨⟨h.inv.dom,tG h.inv.so,fun p H=> ?_⟩,h.tm,fun o=> ?_,h.tk⟩
 ·rcases kq H with e|e
  ·rw[e];exact E
  ·exact h.inv.wf p e
 ·show(Sy.setO k ob s.ob).lookup o=iD (iJ c.ob k ob) o
  rw[pN,iq]
  have z:(s.ob.lookup k).isSome=true:=by have:=h.look k;unfold St.look at this;rw[this];exact F
  by_cases y:o=k
  ·rw[if_pos ⟨y,z⟩,if_pos y]
  ·rw[if_neg (fun e=>y e.1),if_neg y];exact h.look o
theorem Sim.tks(h:Sim N c s){l k:LAb}(y:∀t,t∈l↔t∈k):Sim N ⟨c.tm,c.ob,k⟩ ⟨s.tm,s.ob,l⟩:=⟨⟨h.inv.dom,h.inv.so,h.inv.wf⟩,h.tm,h.look,y⟩
theorem FX{t:Tok}{l k:LAb}(h:∀t,t∈l↔t∈k)(n:Nat):n∈t.eat l↔n∈t.eat k:=by
 cases t with
 |id t=>simp only[Tok.eat,bC,h]
 |_=>exact h n
structure EJ(e:nW)(f:Eff):Prop where
 val:f.val=e.val
 wr:f.wr=e.wr
 new:f.new=e.new
 eat:f.eat=e.eat
 tok:f.tok=e.tok
structure EN(c:CSt)(e:nW):Prop where
 new:∀ob,e.new=some ob->ob.wf=true
 wr:e.wr=[]\/∃k ob,e.wr=[(k,ob)]/\(c.look k).isSome=true/\ob.wf=true
theorem Sim.app(h:Sim N c s)(hd:∀k,d=some k->k<N){e:nW}{f:Eff}(y:EJ e f)(E:EN c e):Sim N (c.app d e) (s.app d f):=by
 unfold CSt.app St.app;rw[y.new,y.tok,y.val,y.wr,y.eat];cases hn:e.new with
 |some ob=>exact((h.purge _ _).addO _ (pw (E.new ob hn))).put hd _
 |none=>
  cases ht:e.tok with
  |true=>refine Sim.put (c:=⟨_,_,_⟩) ?_ hd _;refine((h.purge (d.getD 0+100) (d.getD 0+100+1)).tks (fun t=> ?_));rw[kr,al,bC,bC,FX h.tk]
  |false=>
   rcases E.wr with z|⟨k,ob,z,h1,h2⟩
   ·rw[z];exact h.put hd _
   ·rw[z];exact(h.setO h1 h2).put hd _
theorem EJ.v(v:SV)(p:Prop):EJ {val:=v} {pre:=p,val:=v}:=⟨rfl,rfl,rfl,rfl,rfl⟩
theorem EN.v(v:SV):EN c {val:=v}:=⟨fun ob h=>(by cases h),.inl rfl⟩
theorem xb5(n:Nat)(z:LAa):(aC.arr z.length (ao n z)).wf=true:=by simp only[aC.wf,aT,decide_eq_true_eq];intro y h;rw[(List.mem_replicate.1 h).2]
theorem iY{z:Nat}{h:f8}:(aC.arr z h).wf=true↔∀y∈h,y.length=z:=by simp only[aC.wf,aT,decide_eq_true_eq]
theorem vC(z:Nat):∀(m:Nat)(v:LAa),v.length=m*z->∀y∈jw z m v,y.length=z
 |0,_,_,y,hy=>by cases hy
 |m+1,v,h,y,hy=>by
  rw[dJ]at h;simp only[jw]at hy;rcases al.1 hy with rfl|hy
  ·rw[aw];omega
  ·exact vC z m (v.drop z) (by rw[aI];omega) y hy
theorem De{E:Nat}{F:f8}{i j n:Nat}{v:LAa}(h:∀y∈F,y.length=E)(hi:i<F.length)(L:j+n<=E)(I:v.length=n):∀y∈iz E F i j n v,y.length=E:=by
 intro y H;unfold iz at H;split at H
 ·rename_i J
  rcases List.mem_or_eq_of_mem_set H with z|z
  ·exact h y z
  ·rw[z,I];exact J.2
 ·rcases List.mem_or_eq_of_mem_set H with z|z
  ·exact h y z
  ·have:(F.getD i []).length=E:=by
    rw[aa,ab hi];exact h _ (bx _)
   rw[z];simp only[ac,aw,aI,this,I];omega
theorem rp(h:Sim N c s){t:Tok}(y:t.readyC c=true):t.ready s=true:=by
 cases t with
 |no=>cases y
 |clip=>rfl
 |id t=>simp only[Tok.readyC,eI,decide_eq_true_eq]at y;simp only[Tok.ready,eI,decide_eq_true_eq];exact(h.tk t).2 y
theorem QQ(hM:aL C x s a w){y:Arg}(h:y.isT=true):Rep x (s.ev y) (match y with| .t n=>a.tmps.getD n undef|_=>undef):=by
 cases y with
 |t n=>exact hM.slot n
 |_=>cases h
theorem Gl(h:Sim N c s){e:nW}(E:dQ c d so=some e)(hp:∀q y z,so≠ .pick q y z)(hn:∀ne q,so≠ .isnil ne q)(a3:∀sz q y,so≠ .cpy sz q y):∃f,eff s d so=some f/\f.pre/\EJ e f/\EN c e:=by
 have a0:∀{so:SOp},dQ c d so=zx (cJ c so)->(eff s d so=match val s so with|some (p,v)=>some {pre:=p,val:=v}|none=>none)->dQ c d so=some e->∃f,eff s d so=some f/\f.pre/\EJ e f/\EN c e:=by
  intro so F L O;rw[F]at O;cases Z:cJ c so with
  |none=>rw[Z]at O;cases O
  |some v=>rw[Z]at O;cases O;obtain⟨p,Q,h5⟩:=Qs h Z;exact⟨{pre:=p,val:=v},by rw[L,Q],h5,EJ.v v p,EN.v v⟩
 cases so with
 |pick q y z=>exact absurd rfl (hp q y z)
 |isnil ne q=>exact absurd rfl (hn ne q)
 |call _ _=>cases E
 |newB _=>cases E
 |slid _=>cases E
 |new ob=>
  simp only[dQ]at E;split at E<;>try (cases E;done)
  obtain⟨F,rfl⟩:=bG E;exact⟨_,rfl,trivial,⟨rfl,rfl,rfl,rfl,rfl⟩,⟨fun H e=>(by cases e;exact F),.inl rfl⟩⟩
 |box q=>simp only[dQ]at E;split at E<;>cases E;exact⟨_,rfl,trivial,⟨rfl,rfl,by simp only[h.ev],rfl,rfl⟩,⟨fun H e=>(by cases e;rfl),.inl rfl⟩⟩
 |mk z bytes n m=>
  simp only[dQ]at E;simp only[eff,h.ev];split at E<;>try (cases E;done)
  rename_i F L;rw[F,L];obtain⟨F,rfl⟩:=bG E;exact⟨_,rfl,F,⟨rfl,rfl,rfl,rfl,rfl⟩,⟨fun H e=>(by cases e;exact xb5 _ z),.inl rfl⟩⟩
 |mkB n m=>
  simp only[dQ]at E;simp only[eff,h.ev];split at E<;>try (cases E;done)
  rename_i F L;rw[F,L];obtain⟨F,rfl⟩:=bG E;exact⟨_,rfl,F,⟨rfl,rfl,rfl,rfl,rfl⟩,⟨fun H e=>(by cases e;rfl),.inl rfl⟩⟩
 |store n q y=>
  simp only[dQ]at E;simp only[eff,h.ev];split at E<;>try (cases E;done)
  rename_i a2;rw[a2];simp only;unfold kX at E;unfold qa;split at E
  ·rename_i o' off U
   rw[U];simp only[h.look];split at E<;>try (cases E;done)
   ·rename_i cs I
    rw[I];obtain⟨F,rfl⟩:=bG E;exact⟨_,rfl,F,⟨rfl,rfl,rfl,rfl,rfl⟩,⟨fun H e=>(by cases e),.inr ⟨_,_,rfl,by rw[I];rfl,rfl⟩⟩⟩
   ·rename_i sz xs I
    rw[I];obtain⟨⟨F,L,O,Q⟩,rfl⟩:=bG E
    exact⟨_,rfl,⟨F,L,O,Q⟩,⟨rfl,rfl,rfl,rfl,rfl⟩,
     ⟨fun H e=>(by cases e),.inr ⟨_,_,rfl,by rw[I];rfl,iY.2 (vC sz _ _ (by rw[aS];omega))⟩⟩⟩
   ·rename_i l I
    rw[I];simp only at E ⊢;split at E<;>try (cases E;done)
    rename_i l' Z;rw[Z];obtain⟨F,rfl⟩:=bG E;exact⟨_,rfl,F,⟨rfl,rfl,rfl,rfl,rfl⟩,⟨fun H e=>(by cases e),.inr ⟨_,_,rfl,by rw[I];rfl,rfl⟩⟩⟩
  ·rename_i o' sz i j U
   rw[U];simp only[h.look];split at E<;>try (cases E;done)
   ·rename_i a1 xs I
    rw[I];obtain⟨⟨F,L,O,Q,h5⟩,rfl⟩:=bG E
    exact⟨_,rfl,⟨F,L,O,Q,by rw[F];exact h.rows I,h5⟩,⟨rfl,rfl,rfl,rfl,rfl⟩,
     ⟨fun H e=>(by cases e),.inr ⟨_,_,rfl,by rw[I];rfl,iY.2 (by subst F;exact De (h.rows I) L O (by simpa using Q))⟩⟩⟩
   ·rename_i l I
    rw[I];simp only at E ⊢;split at E<;>try (cases E;done)
    rename_i b Z;rw[Z];obtain⟨F,rfl⟩:=bG E;exact⟨_,rfl,F,⟨rfl,rfl,rfl,rfl,rfl⟩,⟨fun H e=>(by cases e),.inr ⟨_,_,rfl,by rw[I];rfl,rfl⟩⟩⟩
  ·cases E
 |app z bytes q y=>
  simp only[dQ]at E;simp only[eff,h.ev];split at E<;>try (cases E;done)
  split at E<;>try (cases E;done)
  ·rename_i l t U
   rw[U];obtain⟨l',F,L⟩:=Option.bind_eq_some_iff.1 E;obtain⟨p,O,Q⟩:=iW h F;obtain⟨⟨g1,g2,g3,g4⟩,rfl⟩:=bG L;simp only[O];exact⟨_,rfl,⟨Q,g1,g2,rp h g3,g4⟩,⟨rfl,rfl,rfl,rfl,rfl⟩,⟨fun H e=>(by cases e),.inl rfl⟩⟩
  ·rename_i a1 l t U
   rw[U];obtain⟨l',F,L⟩:=Option.bind_eq_some_iff.1 E;obtain⟨p,O,Q⟩:=ki h F;obtain⟨⟨g1,g3,g4⟩,rfl⟩:=bG L;simp only[O];exact⟨_,rfl,⟨Q,g1,rp h g3,g4⟩,⟨rfl,rfl,rfl,rfl,rfl⟩,⟨fun H e=>(by cases e),.inl rfl⟩⟩
 |cpy sz q y=>exact absurd rfl (a3 sz q y)
 |appO z bytes q y=>cases E
 |clr z q=>
  simp only[dQ]at E;simp only[eff,h.ev];split at E<;>try (cases E;done)
  rename_i o' a1 off n cap U;rw[U];simp only[h.look];split at E<;>try (cases E;done)
  rename_i a4 xs I;rw[I];obtain⟨⟨g0,g1,g2,g3⟩,rfl⟩:=bG E;have J:=h.rows I;refine⟨_,rfl,⟨g0,g1,g2,g3,by rw[g2];exact J⟩,⟨rfl,rfl,rfl,rfl,rfl⟩,⟨fun H e=>(by cases e),.inr ⟨_,_,rfl,by rw[I];rfl,iY.2 ?_⟩⟩⟩;intro r W;rcases ak.1 W with W|W
  ·rcases ak.1 W with W|W
   ·rw[g2];exact J r (bD W)
   ·rw[(List.mem_replicate.1 W).2]
  ·rw[g2];exact J r (D1 W)
 |appM z bytes q y=>cases E
 |ovl q y=>cases E
 |_=>exact a0 (rQ rfl) rfl E
theorem SF(P:Program)(h:Sim N c s)(hM:aL C x s a w){e:nW}(H:dQ c d so=some e)(hp:∀q y z,so≠ .pick q y z)(hn:∀ne q,so≠ .isnil ne q):∃f,eff s d so=some f/\f.pre/\EJ e f/\EN c e:=by
 by_cases L:∃Q q y,so= .cpy Q q y
 ·obtain⟨Q,q,y,rfl⟩:=L
  simp only[dQ]at H;simp only[eff,h.ev];split at H<;>try (cases H;done)
  rename_i o' a3 off n cap hq;rw[hq];simp only[h.look];split at H<;>try (cases H;done)
  ·rename_i l I
   rw[I];obtain⟨l',h1,W⟩:=Option.bind_eq_some_iff.1 H;obtain⟨p,U,O⟩:=iW h h1;obtain⟨⟨g1,J,Z⟩,rfl⟩:=bG W;simp only[U];exact⟨_,rfl,⟨O,g1,J,Z⟩,⟨rfl,rfl,rfl,rfl,rfl⟩,⟨fun a1 e=>(by cases e),.inr ⟨_,_,rfl,by rw[I];rfl,rfl⟩⟩⟩
  ·rename_i a2 xs I
   rw[I];obtain⟨l',h1,W⟩:=Option.bind_eq_some_iff.1 H;obtain⟨p,U,O⟩:=ki h h1;obtain⟨⟨g0,g1,J,Z⟩,rfl⟩:=bG W;simp only[U];have E:=h.rows I;obtain⟨_,a0,_⟩:=py (P:=P) hM (QQ hM g0) (by rw[h.ev];exact U) O;refine⟨_,rfl,⟨O,g1,J,Z,by rw[J];exact E⟩,⟨rfl,rfl,rfl,rfl,rfl⟩,⟨fun a1 e=>(by cases e),.inr ⟨_,_,rfl,by rw[I];rfl,iY.2 ?_⟩⟩⟩;intro r F;rcases ak.1 F with F|F
   ·rcases ak.1 F with F|F
    ·rw[J];exact E r (bD F)
    ·exact a0 r (bD F)
   ·rw[J];exact E r (D1 F)
 ·exact Gl h H hp hn (fun Q q y e=>L ⟨Q,q,y,e⟩)
theorem xgM(h:M C N c a w)(W:bn P o=some so)(hd:∀k,o.dst=some k->k<N)(O:m7 c o.dst (dQ c o.dst so)=some c'){K:LBc}{Q:LBb}(hK:∀a w,M C N c' a w->K a w):o.wp P a w K Q:=by
 obtain⟨x,s,hM,F⟩:=h;cases he:dQ c o.dst so with
 |none=>rw[he]at O;cases O
 |some e=>
  rw[he]at O;simp only[m7,aq.injEq]at O;subst O
  by_cases hp:∃q y z,so= .pick q y z
  ·obtain⟨q,y,z,rfl⟩:=hp
   simp only[dQ]at he;split at he<;>cases he;rename_i t ht;have H:=DT hM W (t:=t) (by rw[F.ev];exact ht);refine cU H (k:=Sim N (c.app o.dst {val:=il t (c.ev y) (c.ev z)})) ?_ hK;have:(if t=true then s.ev y else s.ev z)=il t (c.ev y) (c.ev z):=by rw[F.ev,F.ev];rfl
   rw[this];exact F.put hd _
  ·by_cases hn:∃E q,so= .isnil E q
   ·obtain⟨E,q,rfl⟩:=hn
    have U:∃b,b=E/\cg P C o a w (s.put o.dst (.bool b)):=by
     refine wY hM W (K:=fun b=>b=E) ?_;rw[F.ev];simp only[dQ]at he;split at he<;>try (cases he;done)
     ·rename_i l t J
      obtain⟨L,_⟩:=bG he
      try rw[J]
      intro b Z;cases b
      ·cases E<;>rfl
      ·exact absurd (Z rfl) L
     ·rename_i sz l t J
      obtain⟨L,_⟩:=bG he
      try rw[J]
      intro b Z;cases b
      ·cases E<;>rfl
      ·exact absurd (Z rfl) L
     ·rename_i J
      first
       |rw[J]
       |rfl
    obtain⟨b,rfl,H⟩:=U;refine cU H (k:=Sim N (c.app o.dst e)) ?_ hK
    have:e= {val:= .bool b}:=by
     simp only[dQ]at he;split at he
     ·obtain⟨_,I⟩:=bG he;exact I.symm
     ·obtain⟨_,I⟩:=bG he;exact I.symm
     ·exact(aq.inj he).symm
     ·cases he
    rw[this];exact F.put hd _
   ·obtain⟨f,L,I,h3,h4⟩:=SF P F hM he (fun q y z e=>hp ⟨q,y,z,e⟩) (fun E q e=>hn ⟨E,q,e⟩)
    exact cU (SD hM W L I) (k:=Sim N (c.app o.dst e)) (F.app hd h3 h4) hK
end Go.Sy
namespace Go.Sy
variable [aX]
variable {P : Program} {C : Ctx} {x : Sit} {a : Act} {w : World} {N : Nat} {c c' : CSt} {s : St}
theorem Sim.exact(h:Sim N c s)(hM:aL C x s a w):aL C x (c.st N) a w:=
 ⟨by show cD x ((bU N).map c.get) _;rw[<-h.tm];exact hM.tm,hM.defers,hM.heap.only (fun p y=>by have E:=i6 (iZ h.inv.so) y;have z:s.look p.1=some p.2:=(h.look p.1).trans E;exact cR z) (iZ h.inv.so) (fun t F=>(h.tk t).2 F)⟩
theorem M.slots(h:M C N c a w)(hi:Inv N c')(F:c'.ob=c.ob)(J:c'.tk=c.tk)(H:∀i,c'.get i=c.get i\/c'.get i= .undef):M C N c' a w:=by
 obtain⟨x,s,hM,I⟩:=h;have hE:=I.exact hM;refine⟨x,c'.st N,⟨⟨?_,fun i y=> ?_⟩,hM.defers, ?_⟩,Sim.of hi⟩
 ·have:=hE.tm.1;simpa[CSt.st]using this
 ·have E:=hE.tm.2 i (by simpa[CSt.st]using y)
  have z:i<N:=by simpa[CSt.st]using y
  simp only[CSt.st,aa,aP,cP z,bl,bp]at E ⊢;rcases H i with e|e
  ·rw[e];exact E
  ·rw[e];exact .undef _
 ·show cY C x c'.ob c'.tk w
  rw[F,J];exact hE.heap
theorem Inv.kill(h:Inv N c)(l:LAb):Inv N (c.kill l):=by
 cases l with
 |nil=>exact h
 |cons n r=>exact⟨fun p y=>h.dom p (pD y),h.so,h.wf⟩
theorem M.kill(h:M C N c a w)(l:LAb):M C N (c.kill l) a w:=by
 have hi:Inv N c:=by obtain⟨x,s,_,z⟩:=h;exact z.inv
 cases l with
 |nil=>exact h
 |cons n r=>
  refine h.slots (hi.kill _) rfl rfl fun i=> ?_
  have e:=pM (n::r) i c.tm
  by_cases y:(n::r).contains i=true
  ·exact .inr (e.trans (if_pos y))
  ·exact .inl (e.trans (if_neg y))
theorem M.purge(h:M C N c a w)(lo hi:Nat):M C N (c.purge lo hi) a w:=by obtain⟨x,s,hM,y⟩:=h;exact⟨x,_,hM.purge lo hi,y.purge lo hi⟩
theorem M.gc:∀{l:LAb}{c:CSt},M C N c a w->M C N (gcC c l) a w
 |[],_,h=>h
 |o::r,c,h=>by show M C N (gcC (c.purge o (o+1)) r) a w;exact M.gc (h.purge o (o+1))
theorem lP{o:Nat}{obj:aC}(cs:LAa):SV.pubL o obj cs=cs.map (SV.pub o obj):=by
 induction cs with
 |nil=>rfl
 |cons c r h=>simp only[SV.pubL,aE,h]
theorem Rep.pub{x x':Sit}{o:Nat}{obj:aC}(Z:x'.bk=x.bk)(hτ:x'.τ=x.τ)(hG:∀b i u,x.G b i=some u->x'.G b i=some u)
 (z:∀k,k<obj.size->∃u,x'.G ((x.bk o).1) k=some u/\cL x'.G (obj.cell k) u) (a2:obj.wf=true) {sv:SV} {v:Value} (h:Rep x sv v):Rep x' (sv.pub o obj) v:=by
 induction h with
 |undef v=>exact .undef v
 |dat s v h ht=>
  have:s.pub o obj=s:=by cases h<;>rfl
  rw[this];exact(Rep.dat s v h ht).grow hG Z hτ
 |ptr J off=>
  simp only[SV.pub];split
  ·exact .undef _
  ·rw[<-Z];exact .ptr J off
 |ap J sz i j=>
  simp only[SV.pub];split
  ·exact .undef _
  ·rw[<-Z];exact .ap J sz i j
 |psl J sz off n cap y F I hn H O=>
  simp only[SV.pub];split
  ·rename_i ho
   subst ho;cases obj with
   |rc cs=>exact .undef _
   |arr W xs=>
    simp only[wy];split
    ·rename_i hc
     obtain⟨rfl,hb⟩:=hc;have L:=iY.1 a2;have h1:=leP.psl (o:=J) (cap:=cap) hb L x x' _ Z hτ hG (fun k hk=>z k hk) (.psl J W off n cap y F I hn H O);split
     ·rename_i E
      have Q:=H _ E;obtain⟨b,cq,he,_,hD,_⟩:=h1.lst_inv;exact .dat _ _ (hD.tok (.lst W ((xs.drop off).take n) .clip) (.inr ⟨W,_,_,_,rfl,rfl⟩)) ⟨_,n,by rw[<-Q]⟩
     ·exact h1
    ·exact .undef _
   |bar l=>
    simp only[wy];split
    ·rename_i hc
     obtain⟨rfl,hb⟩:=hc;have a0:((l.drop off).take n).length=n:=by simp;omega
     have hD:∀t,cL x'.G (.byt ((l.drop off).take n) t) (.slice (some ⟨(x.bk J).1,y,none⟩) n F):=by
      intro t;refine .byt _ t _ _ _ _ a0.symm hn fun i hi=> ?_
      have U:y=off:=by omega
      obtain⟨u,hu,hr⟩:=z (off+i) (by simp only[aC.size];omega);rw[U,hu];simp only[aC.cell]at hr
      have e:((l.drop off).take n).getD i 0=l.getD (off+i) 0:=by simp only[aa,bJ,if_pos hi,br]
      rw[e];cases hr with
      |u8 b=>rfl
     split
     ·rename_i E
      have Q:=H _ E;exact .dat _ _ (hD .clip) ⟨_,n,by rw[<-Q]⟩
     ·exact .dat _ _ (hD .no) trivial
    ·exact .undef _
  ·rw[<-Z]at O ⊢;exact .psl J sz off n cap y F I hn H O
 |agg cs vs hl _ ih=>simp only[SV.pub,lP];exact .agg _ _ (by simpa using hl) fun i hi=>by rw[aU _ (by rfl)];exact ih i (by simpa using hi)
 |tup cs vs hl _ ih=>simp only[SV.pub,lP];exact .tup _ _ (by simpa using hl) fun i hi=>by rw[aU _ (by rfl)];exact ih i (by simpa using hi)
 |fn f c1 c2 v1 v2 a1 _ a5 _ a3 a4=>simp only[SV.pub,lP];exact .fn _ _ _ _ _ (by simpa using a1) (fun i hi=>by rw[aU _ (by rfl)];exact a3 i (by simpa using hi)) (by simpa using a5) (fun i hi=>by rw[aU _ (by rfl)];exact a4 i (by simpa using hi))
theorem ks{o:Nat}{obj:aC}{p:Nat×aC}:∀{l:List (Nat×aC)},p∈lf o obj l->p.1≠o/\∃q,(p.1,q)∈l/\p.2=nz o obj q
 |q::r,h=>by
  simp only[lf]at h;split at h
  ·obtain⟨z,u,y,E⟩:=ks h
   exact⟨z,u,am _ y,E⟩
  ·rename_i F
   rcases al.1 h with e|e
   ·rw[e];exact⟨F,q.2,ax ..,rfl⟩
   ·obtain⟨z,u,y,E⟩:=ks e
    exact⟨z,u,am _ y,E⟩
theorem pQ{o:Nat}{obj:aC}:∀l:List (Nat×aC),(lf o obj l).map cM=(l.map cM).filter fun k=>decide (k≠o)
 |[]=>rfl
 |p::r=>by
  simp only[lf,aE,kS]
  by_cases h:p.1=o
  ·rw[if_pos h,pQ r];simp[h]
  ·rw[if_neg h,aE,pQ r];simp[h]
theorem pC{o:Nat}{obj:aC}{p:Nat×SV}:∀{l:List (Nat×SV)},p∈lB o obj l->∃q∈l,p.1=q.1
 |q::r,h=>by
  simp only[lB]at h;rcases al.1 h with e|e
  ·exact⟨q,ax ..,by rw[e]⟩
  ·obtain⟨u,z,y⟩:=pC e
   exact⟨u,am _ z,y⟩
theorem ku{o:Nat}{obj:aC}(n:Nat):∀l:List (Nat×SV),eh (lB o obj l) n=(eh l n).pub o obj
 |[]=>rfl
 |p::r=>by
  simp only[lB,eh];split
  ·rfl
  ·exact ku n r
theorem xb6{o:Nat}{obj q:aC}(h:q.wf=true):(nz o obj q).wf=true:=by cases q<;>simpa[nz,aC.wf]using h
theorem oF{o:Nat}{y obj:aC}(hl:c.look o=some y)(c3:∀cs,obj≠ .rc cs)(a6:∀cs,y≠ .rc cs)(c4:obj.size<=y.size)(b8:∀k,k<obj.size->obj.cell k=y.cell k)(b5:obj.wf=true)(hM:aL C x s a w)(H:Sim N c s):
 ∃x',(x'.bk=x.bk/\x'.τ=x.τ/\(∀b i u,x.G b i=some u->x'.G b i=some u)/\(∀i,obj.size<=i->x'.G ((x.bk o).1) i=none)/\(∀k,k<obj.size->∃u,x'.G ((x.bk o).1) k=some u/\cL x'.G (obj.cell k) u))/\(∀sv v,Rep x sv v->Rep x' (sv.pub o obj) v)/\∃s',aL C x' s' a w/\Sim N ⟨lB o obj c.tm,lf o obj c.ob,c.tk⟩ s'/\(∀p∈s'.ob,(x.bk o).1≠(x'.bk p.1).1):=by
 have U:s.look o=some y:=(H.look o).trans hl;obtain⟨cc,e,fl,fh,hO,c6,hr⟩:=ei hM U;have a1:=hM.heap.obs _ (cR U)
 let x':Sit:= {x with G:=fun b i=>if b=(x.bk o).1/\i<obj.size then some (cc.getD i undef)else x.G b i}
 have hG:∀b i u,x.G b i=some u->x'.G b i=some u:=by intro b i u hu;show(if _ then _ else _)=_;rw[if_neg];exact hu;rintro⟨rfl,_⟩;have h0:=a1.2.2 i;simp only at h0;rw[h0]at hu;cases hu
 have L:∀k,k<obj.size->∃u,x'.G ((x.bk o).1) k=some u/\cL x'.G (obj.cell k) u:=by
  intro k hk;refine⟨cc.getD k undef,if_pos ⟨rfl,hk⟩,cL.mono hG ?_⟩;have:=hr k (by omega);rw[b8 k hk];cases y with
  |rc cs=>exact absurd rfl (a6 cs)
  |arr sz xs=>exact this
  |bar l=>exact this
 have O:∀sv v,Rep x sv v->Rep x' (sv.pub o obj) v:=fun sv v h=>Rep.pub (x:=x) (x':=x') rfl rfl hG L b5 h
 have z:=hM.heap
 have W:Inv N ⟨lB o obj c.tm,lf o obj c.ob,c.tk⟩:=by
  refine⟨fun p F=> ?_, ?_,fun p F=> ?_⟩
  ·obtain⟨q,hq,e⟩:=pC F;rw[e];exact H.inv.dom q hq
  ·show((lf o obj c.ob).map cM).Pairwise _
   rw[pQ];exact H.inv.so.filter _
  ·obtain⟨_,q,J,h3⟩:=ks F;rw[h3];exact xb6 (H.inv.wf _ J)
 have E:∀p∈lf o obj c.ob,p.1≠o/\∃q,(p.1,q)∈s.ob/\p.2=nz o obj q:=by intro p F;obtain⟨Q,q,J,h3⟩:=ks F;have h4:=i6 (iZ H.inv.so) J;exact⟨Q,q,cR ((H.look p.1).trans h4),h3⟩
 have a5:∀p∈lf o obj c.ob,(x.bk p.1).1≠(x.bk o).1:=fun p F e=>by obtain⟨Q,q,J,_⟩:=E p F;exact Q (z.inj (p.1,q) J _ (cR U) e)
 refine⟨x',⟨rfl,rfl,hG,fun i hi=> ?_,L⟩,O,_,⟨⟨?_,fun i hi=> ?_⟩,hM.defers, ?_⟩,Sim.of W,fun p F=>(a5 p F).symm⟩
 ·show(if _ then _ else _)=_
  rw[if_neg (by rintro⟨_,h⟩;omega)];exact a1.2.2 i
 ·have:=hM.tm.1;rw[H.tm]at this;simpa[CSt.st]using this
 ·have a3:i<N:=by simpa[CSt.st]using hi
  have Q:=hM.tm.2 i (by rw[H.tm];simpa using a3);rw[H.tm]at Q;simp only[CSt.st,aa,aP,cP a3,bl,bp]at Q ⊢;have:(CSt.mk (lB o obj c.tm) (lf o obj c.ob) c.tk).get i=(c.get i).pub o obj:=ku i c.tm;rw[this];exact O _ _ Q
 ·refine⟨
   ?_,fun b i v I=>hG _ _ _ (z.g0 b i v I), ?_,z.new, ?_,iZ W.so, ?_, ?_,fun n hn p F=> ?_,fun n hn m hm=>z.tkd n ((H.tk n).2 hn) m ((H.tk m).2 hm),z.os,z.tape,z.output,z.size,z.ext,z.pin,z.lay⟩
  ·intro b i v I
   replace I:(if b=(x.bk o).1/\i<obj.size then some (cc.getD i undef)else x.G b i)=some v:=I;split at I
   ·rename_i a2
    obtain⟨rfl,hi⟩:=a2;cases I;rw[hO.cell,bh,gK (by omega)];rfl
   ·exact z.per b i v I
  ·intro b i v I
   replace I:(if b=(x.bk o).1/\i<obj.size then some (cc.getD i undef)else x.G b i)=some v:=I;split at I
   ·rename_i a2
    exact .inr (a2.1 ▸ a1.2.1)
   ·exact z.gm b i v I
  ·intro p F
   obtain⟨Q,q,J,h3⟩:=E p F;obtain⟨g1,g2,g3⟩:=z.obs _ J;refine⟨?_,g2,fun off=> ?_⟩
   ·obtain⟨c',e',b7,b3,b2,Z,a0⟩:=g1
    rw[h3];refine⟨c',e',b7,b3,b2, ?_,fun k hk=> ?_⟩
    ·cases q<;>first|exact Z|exact⟨by simpa[nz,aC.size,lP]using Z.1,Z.2.1,fun h=>by cases h⟩
    ·cases q with
     |rc cs=>
      have a8:k<cs.length:=by simpa[nz,aC.size,lP]using hk
      have:=a0 k a8;simp only[nz,co,lP]at this ⊢;rw[aU _ (by rfl)];exact O _ _ this
     |arr sz xs=>exact cL.mono hG (a0 k hk)
     |bar l=>exact cL.mono hG (a0 k hk)
   ·show(if _ then _ else _)=_
    rw[if_neg (fun h=>a5 p F h.1)];exact g3 off
  ·intro p F q hq b4
   obtain⟨_,p',a7,_⟩:=E p F;obtain⟨_,q',a9,_⟩:=E q hq;exact z.inj (p.1,p') a7 (q.1,q') a9 b4
  ·intro n b6
   have hn:=(H.tk n).2 b6;rcases z.tks n hn with h|⟨Q,J,h3⟩
   ·exact .inl h
   ·by_cases a4:(x.τ n).2.1=(x.τ n).2.2
    ·exact .inl a4
    ·refine .inr ⟨Q,J,fun off h4 h5=> ?_⟩
     show(if _ then _ else _)=_;rw[if_neg (fun h=>(z.tko n hn _ (cR U)).elim (fun hb=>hb h.1) a4)];exact h3 off h4 h5
  ·obtain⟨_,q,J,_⟩:=E p F
   exact z.tko n ((H.tk n).2 hn) (p.1,q) J
theorem oG{o:Nat}{obj:aC}(F:c.look o=some obj)(h:∀cs,obj≠ .rc cs)(hM:aL C x s a w)(E:Sim N c s):
 ∃x',(x'.bk=x.bk/\x'.τ=x.τ)/\(∀sv v,Rep x sv v->Rep x' (sv.pub o obj) v)/\∃y,aL C x' y a w/\Sim N ⟨lB o obj c.tm,lf o obj c.ob,c.tk⟩ y:=by
 obtain⟨x',z,H,y,I,J,_⟩:=oF F h h (aN _) (fun _ _=>rfl) (E.lookmem F) hM E;exact⟨x',⟨z.1,z.2.1⟩,H,y,I,J⟩
theorem Dm{o:Nat}{obj:aC}(F:c.look o=some obj)(y:∀cs,obj≠ .rc cs)(hM:aL C x s a w)(E:Sim N c s):
 ∃x',(∀sv v,Rep x sv v->Rep x' (sv.pub o obj) v)/\∃z,aL C x' z a w/\Sim N ⟨lB o obj c.tm,lf o obj c.ob,c.tk⟩ z:=by
 obtain⟨x',_,h⟩:=oG F y hM E;exact⟨x',h⟩
theorem ld{vs:LAa}{us:LAd}{o:Nat}(hM:aL C x s a w)(F:Sim N c s)(z:cD x vs us):
 ∃x' h,aL C x' h a w/\Sim N (c.publish o vs).1 h/\cD x' (c.publish o vs).2 us:=by
 unfold CSt.publish
 have H:∀{obj:aC},c.look o=some obj->(∀cs,obj≠ .rc cs)->∃x' h,aL C x' h a w/\Sim N ⟨lB o obj c.tm,lf o obj c.ob,c.tk⟩ h/\cD x' (SV.pubL o obj vs) us:=by intro obj y E;obtain⟨x',L,h,J,I⟩:=Dm y E hM F;refine⟨x',h,J,I, ?_⟩;rw[lP];refine⟨by simpa using z.1,fun i hi=> ?_⟩;rw[aU _ (by rfl)];exact L _ _ (z.2 i (by simpa using hi))
 split
 ·rename_i Q O y;exact H y (fun cs e=>by cases e)
 ·rename_i l y;exact H y (fun cs e=>by cases e)
 ·exact⟨x,s,hM,F,z⟩
theorem jf{us:LAd}:∀{l:LAb}{c:CSt}{s:St}{x:Sit}{vs:LAa},aL C x s a w->Sim N c s->cD x vs us->
 ∃x' h,aL C x' h a w/\Sim N (eD c vs l).1 h/\cD x' (eD c vs l).2 us
 |[],_,_,_,_,hM,hS,hv=>⟨_,_,hM,hS,hv⟩
 |o::r,c,s,x,vs,hM,hS,hv=>by obtain⟨x1,F,z,y,E⟩:=ld (o:=o) hM hS hv;simp only[eD];exact jf z y E
theorem M.pub(h:M C N c a w)(o:Nat):M C N (c.publish o []).1 a w:=by obtain⟨x,s,hM,E⟩:=h;obtain⟨x',F,z,y,_⟩:=ld (o:=o) (vs:=[]) (us:=[]) hM E ⟨rfl,fun i hi=>by simp at hi⟩;exact⟨x',F,z,y⟩
theorem Qy(hM:aL C x s a w)(L:Sim N c s)(id b lo hi:Nat)(O:lo=hi\/((∃c e fl fh,eS w b c e fl fh/\hi<=c.size)/\C.mine b/\∀o,lo<=o->o<hi->x.G b o=none))
 (H:∀p∈s.ob,b≠(x.bk p.1).1) (I:∀u∈s.tk,ln (b,lo,hi) (x.τ u)\/(x.τ u).2.1=(x.τ u).2.2) {n:Nat} (hn:n<N) {v:SV}
 (z:Rep (x.newT id b lo hi) v (a.tmps.toList.getD n undef)):
 M C N ⟨jn (de id (id+1) c.tm) n v,bz id (id+1) c.ob,ml (cy id (id+1) c.tk) id⟩ a w:=by
 have F:cY C (x.newT id b lo hi) (bz id (id+1) s.ob) (id::cy id (id+1) s.tk) w:=
  hM.heap.addT id b lo hi O (.inr fun p Q _=>H p Q) (.inr fun u hu _=>I u hu)
 have y:aL C (x.newT id b lo hi) ⟨SV.purgeL id (id+1) s.tm,bz id (id+1) s.ob,id::cy id (id+1) s.tk⟩ a w:=
  ⟨cD.mono (x:=x) (x':=x.newT id b lo hi) (lo:=id) (hi:=id+1) (fun _ _ _ h=>h) (fun _ _=>rfl) (Sit.newT_ne x id _ _ _) hM.tm,hM.defers,F⟩
 have J:Sim N ⟨de id (id+1) c.tm,bz id (id+1) c.ob,ml (cy id (id+1) c.tk) id⟩ ⟨SV.purgeL id (id+1) s.tm,bz id (id+1) s.ob,id::cy id (id+1) s.tk⟩:=
  (L.purge id (id+1)).tks (fun u=>by rw[kr,al,bC,bC,L.tk])
 refine⟨x.newT id b lo hi,_, ?_,J.put (d:=some n) (fun k e=>by cases e;exact hn) v⟩;refine⟨⟨?_,fun i hi=> ?_⟩,y.defers,y.heap⟩
 ·have:=y.tm.1;simpa[St.put]using this
 ·simp only[St.put,cB]at hi
  simp only[St.put,aa,gu]
  by_cases E:n=i
  ·subst E
   rw[if_pos rfl,if_pos hi];rw[<-aa];exact z
  ·rw[if_neg E]
   have:=y.tm.2 i hi;simp only[aa]at this;exact this
theorem vN(h:M C N c a w){n id o Q off k cp:Nat}(hg:c.get n= .psl o Q off k (some cp))(Z:QA c n id o Q off k cp (c.look o)=some c')(hn:n<N):M C N c' a w:=by
 cases hl:c.look o with
 |none=>rw[hl]at Z;cases Z;exact h
 |some H=>
  rw[hl]at Z
  have a1:∀(obj:aC)(v:SV),(∀cs,obj≠ .rc cs)->(∀cs,H≠ .rc cs)->obj.size=(off+k)*Q->(off+cp)*Q<=H.size->k<=cp->(∀k,k<obj.size->obj.cell k=H.cell k)->obj.wf=true->
   (∀(x':Sit)(z:Nat),(cp=0\/z=off*Q)->(∀k,k<obj.size->∃u,x'.G ((x'.bk o).1) k=some u/\cL x'.G (obj.cell k) u)->cL x'.G v (.slice (some ⟨(x'.bk o).1,z,none⟩) k cp))->
   (∀x v',O4 x v v'=dk x Q (.id id) v')->
   M C N (Ed c n id o obj v) a w:=by
   intro obj v c3 a8 d6 d4 hk a0 c4 hD b2;obtain⟨x,s,hM,hS⟩:=h;have a9:obj.size<=H.size:=by rw[d6];exact p6 (bv _ (by omega)) d4
   obtain⟨x',⟨hβ,hτ,hG,a2,F⟩,d9,s',c6,a6,b6⟩:=oF hl c3 a8 a9 a0 c4 hM hS;have a3:s.look o=some H:=(hS.look o).trans hl;obtain⟨cc,e,fl,fh,hO,d7,_⟩:=ei hM a3;have d5:=hM.heap.obs _ (cR a3);have W:=hM.slot n;rw[hS.get,hg]at W;obtain⟨e0,e3,c7,z,he,I⟩:=W.psl_inv;obtain rfl:=c7 _ rfl
   have a4:a.tmps.toList.getD n undef= .slice (some ⟨(x.bk o).1,z,none⟩) k cp:=by rw[<-he];simp[bh,aa]
   refine Qy c6 a6 id ((x.bk o).1) ((off+k)*Q) ((off+cp)*Q) (.inr ⟨⟨cc,e,fl,fh,hO,by omega⟩,d5.2.1,fun i h1 h2=>a2 i (by omega)⟩) (fun p hp=>b6 p hp) (fun u hu=> ?_) hn ?_
   ·have b4:=(a6.tk u).1 hu
    have b5:=(hS.tk u).2 b4;rw[hτ];exact(hM.heap.tko u b5 _ (cR a3)).imp (fun h e=>h e.symm) (fun h=>h)
   ·rw[a4]
    have h1:=hD (x'.newT id ((x.bk o).1) ((off+k)*Q) ((off+cp)*Q)) z I (by show ∀k,k<obj.size->∃u,x'.G ((x'.bk o).1) k=some u/\cL x'.G (obj.cell k) u;rw[hβ];exact F)
    have e1:(x'.newT id ((x.bk o).1) ((off+k)*Q) ((off+cp)*Q)).bk o=x.bk o:=by show x'.bk o=_;rw[hβ]
    rw[e1]at h1;refine .dat _ _ h1 ?_;rw[b2];refine⟨_,k,cp,rfl, ?_⟩
    by_cases d3:cp=0
    ·exact .inl (by omega)
    ·refine .inr ⟨_,z,rfl, ?_⟩
     rw[Sit.newT_eq,I.resolve_left d3,bA,bA]
  cases H with
  |rc cs=>cases Z;exact h
  |bar l=>
   simp only[QA]at Z;split at Z<;>cases Z
   ·rename_i L
    obtain⟨rfl,h2,h3⟩:=L;refine a1 (.bar (l.take (off+k))) (.byt ((l.drop off).take k) (.id id)) (fun cs e=>by cases e) (fun cs e=>by cases e) (by simp only[aC.size,aw];omega) (by simp only[aC.size];omega) h3 (fun i hi=> ?_) rfl (fun x' z I F=> ?_) (fun _ _=>rfl)
    ·simp only[aC.size,aw]at hi
     simp only[aC.cell,aa,bJ,if_pos (show i<off+k by omega)]
    ·have U:((l.drop off).take k).length=k:=by simp;omega
     refine .byt _ _ _ _ _ _ U.symm h3 fun i hi=> ?_
     have J:z=off:=by omega
     obtain⟨u,hu,hr⟩:=F (off+i) (by simp only[aC.size,aw];omega);rw[J,hu];simp only[aC.cell]at hr
     have e1:((l.drop off).take k).getD i 0=(l.take (off+k)).getD (off+i) 0:=by simp only[aa,bJ,if_pos hi,br,if_pos (show off+i<off+k by omega)]
     rw[e1];cases hr with
     |u8 b=>rfl
   ·exact h
  |arr E O=>
   simp only[QA]at Z;split at Z<;>cases Z
   ·rename_i L
    obtain⟨rfl,h2,h3⟩:=L;have a7:∀y∈O,y.length=E:=by obtain⟨x,s,hM,hS⟩:=h;exact iY.1 (hS.lookmem hl)
    have b3:∀y∈O.take (off+k),y.length=E:=fun y hy=>a7 y (bD hy)
    have d8:(O.drop off).take k=(O.take (off+k)).drop off:=by rw[List.drop_take,Nat.add_sub_cancel_left]
    refine a1 (.arr E (O.take (off+k))) (.lst E ((O.drop off).take k) (.id id)) (fun cs e=>by cases e) (fun cs e=>by cases e) (by simp only[aC.size,aw];congr 1;omega) (by simp only[aC.size];exact bv _ h2) h3 (fun i hi=> ?_) (iY.2 b3) (fun x' z I F=> ?_) (fun _ _=>rfl)
    ·simp only[aC.size,aw]at hi
     simp only[aC.cell,aa,bJ];have hd:i/E<off+k:=Nat.div_lt_of_lt_mul (by rw[cm];exact Nat.lt_of_lt_of_le hi (bv _ (Nat.min_le_left _ _)));rw[if_pos hd]
    ·have U:((O.drop off).take k).length=k:=by simp;omega
     have a5:∀i,i<k->((O.drop off).take k).getD i []=(O.take (off+k)).getD (off+i) []:=fun i hi=>by simp only[aa,bJ,if_pos hi,br,if_pos (show off+i<off+k by omega)]
     have b7:∀i,i<k->((O.drop off).take k).getD i []∈O.take (off+k):=fun i hi=>by rw[a5 i hi,aa,ab (show off+i<(O.take (off+k)).length by rw[aw];omega)];exact bx _
     have a0:∀i j,i<k->j<E->∃u,x'.G ((x'.bk o).1) (z+i*E+j)=some u/\cL x'.G ((((O.drop off).take k).getD i []).getD j .undef) u:=by
      intro i j hi hj;have J:z=off*E:=I.resolve_left (by omega)
      have b8:(off+i)*E+j<(off+k)*E:=by have:=bv E (show off+i+1<=off+k by omega);rw[bA,Nat.one_mul]at this;omega
      obtain⟨u,hu,hr⟩:=F ((off+i)*E+j) (by simp only[aC.size,aw];rw[gM (by omega)];exact b8);refine⟨u,by rw[J,<-bA];exact hu, ?_⟩;simp only[aC.cell]at hr;have e1:((off+i)*E+j)/E=off+i:=by rw[cm,Nat.mul_add_div (by omega),xx hj,dL]
      have e2:((off+i)*E+j) % E=j:=by rw[cm,Nat.mul_add_mod,dp hj]
      rw[e1,e2]at hr;rw[a5 i hi];exact hr
     refine .lst _ _ _ _ _ _ _ (fun i j=>(x'.G ((x'.bk o).1) (z+i*E+j)).getD undef) U.symm h3 (fun i hi=>b3 _ (b7 i hi)) (fun i j hi hj=> ?_) (fun i j hi hj=> ?_)
     ·obtain⟨u,hu,_⟩:=a0 i j hi hj
      rw[hu];rfl
     ·obtain⟨u,hu,hr⟩:=a0 i j hi hj
      rw[hu];exact hr
   ·exact h
theorem kA(hM:aL C x s a w)(z:Sim N c s)(id:Nat)(t:LAc)(Q:∀k,t=some k->k∈c.tk){n:Nat}(hn:n<N){v:SV}
 (hv:∀u,Rep x (c.get n) u->Rep (x.newT id ((t.elim (0,0,0) x.τ)).1 ((t.elim (0,0,0) x.τ)).2.1 ((t.elim (0,0,0) x.τ)).2.2) v u):
 M C N ⟨jn (de id (id+1) c.tm) n v,bz id (id+1) c.ob,ml (cy id (id+1) (t.elim c.tk fun k=>cy k (k+1) c.tk)) id⟩ a w:=by
 generalize hT:t.elim (0,0,0) x.τ=T at hv;generalize hL:(t.elim c.tk fun k=>cy k (k+1) c.tk)=L;have J:=hM.heap
 have I:∀u∈L,u∈s.tk/\∀k,t=some k->u≠k:=by
  intro u hu;rw[<-hL]at hu;cases t with
  |none=>exact⟨(z.tk u).2 hu,fun k e=>by cases e⟩
  |some k=>obtain⟨O,Z⟩:=bC.1 hu;exact⟨(z.tk u).2 O,fun k' e=>by cases e;omega⟩
 have H:cY C (x.newT id T.1 T.2.1 T.2.2) (bz id (id+1) s.ob) (id::cy id (id+1) L) w:=by
  refine(J.sub (tk':=L) (ni.refl _) (fun u hu=>(I u hu).1)).addT id T.1 T.2.1 T.2.2 ?_ ?_ ?_
  ·cases t with
   |none=>subst hT;exact .inl rfl
   |some k=>have:=J.tks k ((z.tk k).2 (Q k rfl));unfold gY at this;subst hT;exact this
  ·cases t with
   |none=>subst hT;exact .inl rfl
   |some k=>
    by_cases E:(x.τ k).2.1=(x.τ k).2.2
    ·subst hT;exact .inl E
    ·subst hT
     exact .inr fun p hp _=>(J.tko k ((z.tk k).2 (Q k rfl)) p hp).resolve_right E
  ·cases t with
   |none=>subst hT;exact .inl rfl
   |some k=>
    by_cases E:(x.τ k).2.1=(x.τ k).2.2
    ·subst hT;exact .inl E
    ·subst hT
     refine .inr fun u hu _=> ?_
     obtain⟨O,Z⟩:=I u hu;rcases J.tkd k ((z.tk k).2 (Q k rfl)) u O (fun e=>Z k rfl e.symm)with h|h|h
     ·exact .inl h
     ·exact absurd h E
     ·exact .inr h
 have y:aL C (x.newT id T.1 T.2.1 T.2.2) ⟨SV.purgeL id (id+1) s.tm,bz id (id+1) s.ob,id::cy id (id+1) L⟩ a w:=
  ⟨cD.mono (x:=x) (x':=x.newT id T.1 T.2.1 T.2.2) (lo:=id) (hi:=id+1) (fun _ _ _ h=>h) (fun _ _=>rfl) (Sit.newT_ne x id _ _ _) hM.tm,hM.defers,H⟩
 have W:Sim N ⟨de id (id+1) c.tm,bz id (id+1) c.ob,ml (cy id (id+1) L) id⟩ ⟨SV.purgeL id (id+1) s.tm,bz id (id+1) s.ob,id::cy id (id+1) L⟩:=
  (z.purge id (id+1)).tks (fun u=>by rw[kr,al])
 refine⟨x.newT id T.1 T.2.1 T.2.2,_, ?_,W.put (d:=some n) (fun k e=>by cases e;exact hn) v⟩;have U:n<s.tm.length:=by rw[z.tm];simpa using hn
 refine⟨⟨?_,fun i hi=> ?_⟩,y.defers,y.heap⟩
 ·have:=y.tm.1;simpa[St.put]using this
 ·simp only[St.put,cB]at hi
  simp only[St.put,aa,gu]
  by_cases F:n=i
  ·subst F
   rw[if_pos rfl,if_pos hi];refine hv _ ?_;have:=hM.tm.2 n U;have e:s.tm.getD n .undef=c.get n:=z.get n;rw[e]at this;rw[<-aa];exact this
  ·rw[if_neg F,<-aa,<-aa]
   exact y.tm.2 i hi
theorem vO(h:M C N c a w){n id:Nat}(y:QB c n id (c.get n)=some c'):M C N c' a w:=by
 have H:c.get n≠ .undef->n<N:=by
  obtain⟨x,s,hM,E⟩:=h;intro a0;rcases bO n N with J|J
  ·exact J
  ·exact absurd (E.inv.get J) a0
 cases hg:c.get n with
 |byt l t=>
  rw[hg]at y;have hN:=H (by rw[hg];exact fun e=>by cases e);cases t with
  |no=>cases y;exact h
  |clip=>
   cases y;obtain⟨x,s,hM,E⟩:=h;refine kA hM E id none (fun k e=>by cases e) hN fun u hu=> ?_
   rw[hg]at hu;exact leT.byt id l x u hu
  |id t=>
   simp only[QB]at y;split at y
   ·cases y;exact h
   ·split at y<;>cases y
    rename_i J Q;obtain⟨x,s,hM,E⟩:=h;refine kA hM E id (some t) (fun k e=>by cases e;simpa using Q) hN fun u hu=> ?_
    rw[hg]at hu;obtain⟨b,cap,he,_,hD,F⟩:=hu.byt_inv;refine .dat _ _ (hD.tok (.byt l (.id id)) (.inl ⟨l,_,_,rfl,rfl⟩)) ?_;obtain⟨W,n',z,I,O⟩:=F;refine⟨W,n',z,I,O.imp (fun h=>h) ?_⟩;rintro⟨b,off,h3,U⟩;exact⟨b,off,h3,by rw[Sit.newT_eq];exact U⟩
 |lst L Z t=>
  rw[hg]at y;have hN:=H (by rw[hg];exact fun e=>by cases e);cases t with
  |no=>cases y;exact h
  |clip=>
   cases y;obtain⟨x,s,hM,E⟩:=h;refine kA hM E id none (fun k e=>by cases e) hN fun u hu=> ?_
   rw[hg]at hu;exact leT.lst id L Z x u hu
  |id t=>
   simp only[QB]at y;split at y
   ·cases y;exact h
   ·split at y<;>cases y
    rename_i J Q;obtain⟨x,s,hM,E⟩:=h;refine kA hM E id (some t) (fun k e=>by cases e;simpa using Q) hN fun u hu=> ?_
    rw[hg]at hu;obtain⟨b,cap,he,_,hD,F⟩:=hu.lst_inv;refine .dat _ _ (hD.tok (.lst L Z (.id id)) (.inr ⟨L,Z,_,_,rfl,rfl⟩)) ?_;obtain⟨W,n',z,I,O⟩:=F;refine⟨W,n',z,I,O.imp (fun h=>h) ?_⟩;rintro⟨b,off,h3,U⟩;exact⟨b,off,h3,by rw[Sit.newT_eq];exact U⟩
 |psl o L off k cp=>
  rw[hg]at y;have hN:=H (by rw[hg];exact fun e=>by cases e);cases cp with
  |none=>cases y;exact h
  |some cp=>exact vN h hg y hN
 |_=>rw[hg]at y;cases y;exact h
theorem aL.retag(hM:aL C x s a w)(n:Nat){v:SV}(h:Rep x v (a.tmps.toList.getD n undef)):aL C x (s.put (some n) v) a w:=by
 refine⟨⟨?_,fun i hi=> ?_⟩,hM.defers,hM.heap⟩
 ·have:=hM.tm.1;simpa[St.put]using this
 ·simp only[St.put,cB]at hi
  simp only[St.put,aa,gu]
  by_cases y:n=i
  ·subst y
   rw[if_pos rfl,if_pos hi];rw[<-aa];exact h
  ·rw[if_neg y]
   have:=hM.tm.2 i hi;simp only[aa]at this;exact this
theorem cY.move{ob:List (Nat×aC)}{tk:LAb}(h:cY C x ob tk w){o d:Nat}(a0:100<=d){obj:aC}(ho:(o,obj)∈ob)(a2:∀cs,obj≠ .rc cs):
 cY C (x.newO d (x.bk o).1 (x.bk o).2) ((d,obj)::bz d (d+1) (bz o (o+1) ob)) (cy d (d+1) (cy o (o+1) tk)) w:=by
 have hβ:=Sit.newO_ne x d (x.bk o).1 (k:=(x.bk o).2);obtain⟨⟨c,e,fl,fh,hO,hs,hr⟩,hm,hg⟩:=h.obs _ ho;have y:(x.newO d (x.bk o).1 (x.bk o).2).bk d=x.bk o:=if_pos rfl
 have F:∀p∈bz d (d+1) (bz o (o+1) ob),(x.newO d (x.bk o).1 (x.bk o).2).bk p.1=x.bk p.1/\∃q,(p.1,q)∈ob/\p.1≠o/\¬(d<=p.1/\p.1<d+1)/\p.2=(q.purge o (o+1)).purge d (d+1):=by intro p z;obtain⟨H,q,L,h3⟩:=cw z;obtain⟨h4,Q,h5,W⟩:=cw L;simp only at h4 h5 W;exact⟨hβ _ H,Q,h5,by omega,H,by rw[h3,W]⟩
 have I:∀t∈cy d (d+1) (cy o (o+1) tk),t∈tk:=fun t O=>(bC.1 (bC.1 O).1).1
 refine⟨h.per,h.g0,h.gm,h.new, ?_, ?_, ?_,fun t O=>h.tks t (I t O), ?_,fun t O u hu=>h.tkd t (I t O) u (I u hu),h.os,h.tape,h.output,h.size,h.ext,fun i hi=>by rw[hβ i (by omega)];exact h.pin i hi,h.lay⟩
 ·intro p z
  rcases al.1 z with rfl|z
  ·refine⟨⟨c,e,fl,fh,by rw[y];exact hO,by rw[y];exact hs,fun k hk=> ?_⟩,by rw[y];exact hm,fun off=>by rw[y];exact hg off⟩
   have:=hr k hk;cases obj with
   |rc cs=>exact absurd rfl (a2 cs)
   |arr sz xs=>exact this
   |bar l=>exact this
  ·obtain⟨J,q,H,L,h3,h4⟩:=F p z
   obtain⟨h5,W,h7⟩:=h.obs _ H;refine⟨?_,by rw[J];exact W,fun off=>by rw[J];exact h7 off⟩;have e1:=h5.of_heap (x':=x) (w':=w) (lo:=o) (hi:=o+1) rfl (fun _ _ _ h=>h) (fun _ _=>rfl) (fun _ _=>rfl) (by omega);have e2:=e1.of_heap (x':=x.newO d (x.bk o).1 (x.bk o).2) (w':=w) (lo:=d) (hi:=d+1) rfl (fun _ _ _ h=>h) hβ (fun _ _=>rfl) h3;rw[h4];exact e2
 ·rw[aE,dU,eC,eC]
  refine⟨fun U=> ?_,(h.nd.filter _).filter _⟩;have:=(List.mem_filter.1 U).2;simp at this
 ·intro p z q Z E
  rcases al.1 z with rfl|z<;>rcases al.1 Z with rfl|Z
  ·rfl
  ·obtain⟨J,Q,H,L,_⟩:=F q Z
   rw[y,J]at E;exact absurd (h.inj (o,obj) ho (q.1,Q) H E).symm L
  ·obtain⟨J,Q,H,L,_⟩:=F p z
   rw[y,J]at E;exact absurd (h.inj (p.1,Q) H (o,obj) ho E) L
  ·obtain⟨J,q1,H,_⟩:=F p z
   obtain⟨a1,q2,L,_⟩:=F q Z;rw[J,a1]at E;exact h.inj (p.1,q1) H (q.1,q2) L E
 ·intro t O p z
  rcases al.1 z with rfl|z
  ·show(x.τ t).1≠((x.newO d (x.bk o).1 (x.bk o).2).bk d).1\/_
   rw[y];exact h.tko t (I t O) (o,obj) ho
  ·obtain⟨J,q,H,_⟩:=F p z
   show(x.τ t).1≠((x.newO d (x.bk o).1 (x.bk o).2).bk p.1).1\/_;rw[J];exact h.tko t (I t O) (p.1,q) H
theorem aL.move(hM:aL C x s a w){o d:Nat}(y:100<=d){obj:aC}(E:s.look o=some obj)(z:∀cs,obj≠ .rc cs):
 aL C (x.newO d (x.bk o).1 (x.bk o).2) (((s.purge o (o+1)).purge d (d+1)).addO d obj) a w:=
 ⟨cD.mono (x:=x) (x':=x.newO d (x.bk o).1 (x.bk o).2) (lo:=d) (hi:=d+1) (fun _ _ _ h=>h) (Sit.newO_ne x d _) (fun _ _=>rfl) (hM.purge o (o+1)).tm,hM.defers,hM.heap.move y (cR E) z⟩
theorem uW{n id o F off k:Nat}{cap:LAc}{obj:aC}(hM:aL C x s a w)(h:Sim N c s)(hn:n<N)(I:100<=id)(hg:c.get n= .psl o F off k cap)(O:c.look o=some obj)(J:∀cs,obj≠ .rc cs):
 M C N (mvC c n id o F off k cap obj) a w:=by
 have H:=hM.move I (by rw[h.look];exact O) J;have L:=(((h.purge o (o+1)).purge id (id+1)).addO id (h.lookmem O)).put (d:=some n) (fun k e=>by cases e;exact hn) (.psl id F off k cap);refine⟨x.newO id (x.bk o).1 (x.bk o).2,_, ?_,L⟩
 have hv:Rep x (.psl o F off k cap) (a.tmps.toList.getD n undef):=by have:=hM.tm.2 n (by rw[h.tm];simpa using hn);rw[show s.tm.getD n .undef=c.get n from h.get n,hg]at this;exact this
 obtain⟨z,U,Q,E,Z,h3,W⟩:=hv.psl_invA;refine H.retag n ?_;rw[Z];have y:(x.newO id (x.bk o).1 (x.bk o).2).bk id=x.bk o:=if_pos rfl;have:=Rep.psl (x:=x.newO id (x.bk o).1 (x.bk o).2) id F off k cap E z h3 U Q (by rw[y];exact W);rw[y]at this;exact this
theorem wE(h:M C N c a w){n id:Nat}(E:100<=id)(y:Z7 c n id (c.get n)=some c'):M C N c' a w:=by
 obtain⟨x,s,hM,z⟩:=h;cases hg:c.get n with
 |psl o I off k cap=>
  rw[hg]at y
  have hn:n<N:=by
   rcases bO n N with h|h
   ·exact h
   ·rw[z.inv.get h]at hg;cases hg
  simp only[Z7]at y;split at y
  ·cases y;exact⟨x,s,hM,z⟩
  ·cases hl:c.look o with
   |none=>rw[hl]at y;cases y;exact⟨x,s,hM,z⟩
   |some obj=>
    rw[hl]at y;cases obj with
    |rc cs=>cases y;exact⟨x,s,hM,z⟩
    |arr F H=>cases y;exact uW hM z hn E hg hl (fun cs e=>by cases e)
    |bar l=>cases y;exact uW hM z hn E hg hl (fun cs e=>by cases e)
 |_=>rw[hg]at y;cases y;exact⟨x,s,hM,z⟩
theorem o6(h:M C N c a w){q:Dir}(y:qI c q=some c'):M C N c' a w:=by
 cases q with
 |kill l=>cases y;exact h.kill l
 |gc l=>cases y;exact h.gc
 |gcr lo hi=>cases y;exact h.purge lo hi
 |pubo o=>cases y;exact h.pub _
 |pub n=>
  simp only[qI]at y;split at y<;>cases y
  ·exact h.pub _
  ·exact h
 |tok n id=>
  simp only[qI]at y;split at y
  ·cases y
  ·exact vO h y
 |obj n id=>
  simp only[qI]at y;split at y
  ·cases y
  ·exact wE h (by omega) y
theorem ka:∀{l:List Dir}{c:CSt},M C N c a w->iu c l=some c'->M C N c' a w
 |[],_,h,hc=>by cases hc;exact h
 |q::r,c,h,hc=>by
  simp only[iu]at hc;split at hc
  ·rename_i c1 y;exact ka (o6 h y) hc
  ·cases hc
end Go.Sy
namespace Go.Sy
variable [aX]
variable {P : Program} {C : Ctx} {x : Sit} {a : Act} {w : World} {N : Nat} {c c' : CSt} {s : St}
def lz(P:Program)(f:Nat)(args:LAa)(os:List aC)(k:Nat)(R:dZ->Prop):Prop:=
 ej P f=true/\∀(C:Ctx)(x:Sit)(w:World)(vs:LAd),C.w0=w->C.G0=x.G->
  (∀b,C.mine b->w.heap.size<=b\/(∃i,i<os.length/\(x.bk i).1=b)\/(∃t,50<=t/\t<50+k/\(x.τ t).2.1≠(x.τ t).2.2/\(x.τ t).1=b))->os.length<=40->
  (∀o∈os,o.wf=true)->cY C x (idx os) (tks 50 k) w->cD x args vs->
  Calls P f ⟨vs⟩ w fun e w'=>∃v x' q,e= .returned v/\R q/\Rep x' q.r v/\cY C x' q.os q.tk w'/\(∀p∈q.os,p.2.wf=true)/\∀i,i<os.length->x'.bk i=x.bk i
theorem kx(cs:LAa):SV.bareL cs=cs.map SV.bare:=by
 induction cs with
 |nil=>rfl
 |cons c r h=>simp only[SV.bareL,aE,h]
theorem Rep.bare{x x':Sit}(Z:x'.G=x.G)(I:x'.bk=x.bk){sv:SV}{v:Value}(h:Rep x sv v):Rep x' sv.bare v:=by
 induction h with
 |undef v=>exact .undef v
 |dat s v h ht=>
  have y:=h.toData;rw[<-Z]at y;cases s with
  |byt l t=>exact .dat _ _ y trivial
  |lst z xs t=>exact .dat _ _ y trivial
  |undef=>exact .undef v
  |bool b=>exact .dat _ _ y trivial
  |int k n=>exact .dat _ _ y trivial
  |u8 b=>exact .dat _ _ y trivial
  |str l=>exact .dat _ _ y trivial
  |nilp=>exact .dat _ _ y trivial
  |nili=>exact .dat _ _ y trivial
  |pp cs=>exact .dat _ _ y trivial
  |ptr o off=>cases h
  |ap o z i j=>cases h
  |psl o z off n cap=>cases h
  |agg cs=>cases h
  |tup cs=>cases h
  |fn f a b=>cases h
 |ptr o off=>simp only[SV.bare];rw[<-I];exact .ptr o off
 |ap o z i j=>simp only[SV.bare];rw[<-I];exact .ap o z i j
 |psl o z off n cap E F h hn hc W=>simp only[SV.bare];rw[<-I]at W ⊢;exact .psl o z off n cap E F h hn hc W
 |agg cs vs J _ O=>simp only[SV.bare,kx];exact .agg _ _ (by simpa using J) fun i hi=>by rw[aU _ (by rfl)];exact O i (by simpa using hi)
 |tup cs vs J _ O=>simp only[SV.bare,kx];exact .tup _ _ (by simpa using J) fun i hi=>by rw[aU _ (by rfl)];exact O i (by simpa using hi)
 |fn f c1 c2 v1 v2 H _ U _ L Q=>simp only[SV.bare,kx];exact .fn _ _ _ _ _ (by simpa using H) (fun i hi=>by rw[aU _ (by rfl)];exact L i (by simpa using hi)) (by simpa using U) (fun i hi=>by rw[aU _ (by rfl)];exact Q i (by simpa using hi))
def O5(x:Sit):LAc->Nat×Nat×Nat
 |none=>(0,0,0)
 |some t=>x.τ t
def nV(x x1:Sit)(j:Nat)(l:List LAc):Prop:=∀k,k<l.length->x1.τ (j+k)=O5 x (l.getD k none)
theorem nV.left{x x1:Sit}{j:Nat}{l r:List LAc}(h:nV x x1 j (l++r)):nV x x1 j l:=fun k y=>by have:=h k (by simp;omega);rwa[aa,bc y,<-aa]at this
theorem nV.right{x x1:Sit}{j:Nat}{l r:List LAc}(h:nV x x1 j (l++r)):nV x x1 (j+l.length) r:=fun k y=>by have:=h (l.length+k) (by simp;omega);rw[aa,bq (by omega),<-aa]at this;rw[dH,this];congr 2;omega
theorem kI{t:Nat}:∀{l:List LAc},t∈cx l↔some t∈l
 |[]=>by simp[cx]
 |none::r=>by simp[cx,kI]
 |some u::r=>by simp[cx,kI]
theorem fx(l r:List LAc):cx (l++r)=cx l++cx r:=by
 induction l with
 |nil=>rfl
 |cons o l h=>cases o<;>simp[cx,h]
theorem Dz{x x1:Sit}(L:x1.G=x.G)(O:x1.bk=x.bk){v:SV}{u:Value}(h:Rep x v u):Rep x1 v.kclip u:=by
 have F:=h.bare L O;cases v with
 |lst W U t=>
  cases t with
  |no=>exact F
  |id u=>exact F
  |clip=>
   cases U with
   |cons y r=>exact F
   |nil=>obtain⟨b,cap,Q,_,H,z⟩:=h.lst_inv;obtain⟨J,I,E⟩:=z;rw[<-L]at H;exact .dat _ _ (H.tok (.lst _ [] .clip) (.inr ⟨_,[],_,_,rfl,rfl⟩)) ⟨J,I,E⟩
 |byt l t=>
  cases t with
  |no=>exact F
  |id u=>exact F
  |clip=>
   cases l with
   |cons y r=>exact F
   |nil=>obtain⟨b,cap,Q,_,H,z⟩:=h.byt_inv;obtain⟨J,I,E⟩:=z;rw[<-L]at H;exact .dat _ _ (H.tok (.byt [] .clip) (.inl ⟨[],_,_,rfl,rfl⟩)) ⟨J,I,E⟩
 |_=>exact F
theorem wL{x x1:Sit}(z:x1.G=x.G)(E:x1.bk=x.bk){cs:LAa}{u:Value}(h:Rep x (.agg cs) u):Rep x1 (.agg (cs.map SV.kclip)) u:=by
 cases h with
 |dat _ _ h _=>cases h
 |agg _ vs F h=>
  refine .agg _ vs (by rw[aS];exact F) fun i hi=> ?_
  rw[aS]at hi;have y:=Dz z E (h i hi);rw[aa,ab hi,bp]at y;rw[aa,aP,ab hi,bl,bp];exact y
theorem kh{x x1:Sit}(L:x1.G=x.G)(hβ:x1.bk=x.bk){tk:LAb}{j:Nat}{v:SV}{u:Value}(h:Rep x v u)(ht:nV x x1 j (jR tk j v).2):Rep x1 (jR tk j v).1 u:=by
 have O:=h.bare L hβ;cases v with
 |byt l t=>
  cases t with
  |no=>exact O
  |clip=>have e:=ht 0 (by simp[jR]);obtain⟨b,cap,he,_,E,y⟩:=h.byt_inv;obtain⟨I,H,z⟩:=y;rw[<-L]at E;exact .dat _ _ (E.tok (.byt l (.id j)) (.inl ⟨l,_,_,rfl,rfl⟩)) ⟨I,H,H,z,.inl rfl⟩
  |id t=>
   by_cases J:tk.contains t=true
   ·have e:=ht 0 (by simp only[jR,J,if_true,aA];omega)
    simp only[jR,J,if_true]at e ⊢;obtain⟨b,cap,he,_,E,y⟩:=h.byt_inv;obtain⟨I,H,F,z,W⟩:=y;rw[<-L]at E;refine .dat _ _ (E.tok (.byt l (.id j)) (.inl ⟨l,_,_,rfl,rfl⟩)) ⟨I,H,F,z,W.imp id ?_⟩;rintro⟨b,off,h1,Z⟩;exact⟨b,off,h1,by rw[dL]at e;rw[e];exact Z⟩
   ·simp only[jR,J,if_false];exact O
 |lst U Q t=>
  cases t with
  |no=>exact O
  |clip=>obtain⟨b,cap,he,_,E,y⟩:=h.lst_inv;obtain⟨I,H,z⟩:=y;rw[<-L]at E;exact .dat _ _ (E.tok (.lst U Q (.id j)) (.inr ⟨U,Q,_,_,rfl,rfl⟩)) ⟨I,H,H,z,.inl rfl⟩
  |id t=>
   by_cases J:tk.contains t=true
   ·have e:=ht 0 (by simp only[jR,J,if_true,aA];omega)
    simp only[jR,J,if_true]at e ⊢;obtain⟨b,cap,he,_,E,y⟩:=h.lst_inv;obtain⟨I,H,F,z,W⟩:=y;rw[<-L]at E;refine .dat _ _ (E.tok (.lst U Q (.id j)) (.inr ⟨U,Q,_,_,rfl,rfl⟩)) ⟨I,H,F,z,W.imp id ?_⟩;rintro⟨b,off,h1,Z⟩;exact⟨b,off,h1,by rw[dL]at e;rw[e];exact Z⟩
   ·simp only[jR,J,if_false];exact O
 |agg cs=>exact wL L hβ h
 |_=>exact O
theorem oa{tk:LAb}{j:Nat}{v:SV}:∀t∈cx (jR tk j v).2,t∈tk:=by
 intro t h;cases v with
 |byt l q=>
  cases q with
  |id u=>
   by_cases y:tk.contains u=true
   ·simp only[jR,y,if_true,cx,aZ]at h;subst h;simpa using y
   ·simp only[jR,y,if_false,cx]at h;cases h
  |_=>cases h
 |lst E z q=>
  cases q with
  |id u=>
   by_cases y:tk.contains u=true
   ·simp only[jR,y,if_true,cx,aZ]at h;subst h;simpa using y
   ·simp only[jR,y,if_false,cx]at h;cases h
  |_=>cases h
 |_=>cases h
theorem eM{x:Sit}{v:SV}{u:Value}{cs:LAa}{us:LAd}:cD x (v::cs) (u::us)↔Rep x v u/\cD x cs us:=by
 constructor
 ·intro h
  exact⟨h.2 0 (by simp),by simpa using h.1,fun i hi=>by simpa using h.2 (i+1) (by simpa using hi)⟩
 ·rintro⟨z,y⟩
  exact⟨by simp[y.1],fun i hi=>by
   cases i with
   |zero=>exact z
   |succ i=>simpa using y.2 i (by simpa using hi)⟩
theorem EV{x x1:Sit}(y:x1.G=x.G)(E:x1.bk=x.bk){tk:LAb}{j:Nat}{v:SV}{u:Value}(h:Rep x v u)(z:nV x x1 j (rf tk j v).2):Rep x1 (rf tk j v).1 u:=by
 cases v with
 |lst L I t=>
  cases t with
  |clip=>
   cases hx:I.isEmpty with
   |true=>simp only[rf,tD,hx,tE];obtain⟨b,cap,J,_,H,F⟩:=h.lst_inv;rw[<-y]at H;exact .dat _ _ H F
   |false=>simp only[rf,tD,hx,tE]at z ⊢;exact kh (tk:=tk) y E h z
  |no=>exact kh y E h z
  |id t=>exact kh y E h z
 |_=>exact kh y E h z
theorem Qz{tk:LAb}{j:Nat}{v:SV}:∀t∈cx (rf tk j v).2,t∈tk:=by
 cases v with
 |lst z y t=>
  cases t with
  |clip=>
   cases hx:y.isEmpty with
   |true=>intro t h;simp[rf,tD,hx,tE,cx]at h
   |false=>intro t h;simp[rf,tD,hx,tE,cx]at h
  |no=>exact oa
  |id t=>exact oa
 |_=>exact oa
theorem lT{x x1:Sit}(y:x1.G=x.G)(z:x1.bk=x.bk){tk own:LAb}:∀{cs:LAa}{us:LAd}{j i:Nat},cD x cs us->nV x x1 j (jS tk own j i cs).2->cD x1 (jS tk own j i cs).1 us
 |[],[],_,_,_,_=>⟨rfl,fun i hi=>by simp[jS]at hi⟩
 |[],_::_,_,_,h,_=>absurd h.1 (by simp)
 |_::_,[],_,_,h,_=>absurd h.1 (by simp)
 |v::r,u::us,j,i,h,ht=>by
  obtain⟨H,F⟩:=eM.1 h;simp only[jS]at ht ⊢;split
  ·rename_i E
   rw[if_pos E]at ht;exact eM.2 ⟨EV y z H ht.left,lT y z F ht.right⟩
  ·rename_i E
   rw[if_neg E]at ht;exact eM.2 ⟨H.bare y z,lT y z F ht⟩
theorem oc{tk own:LAb}:∀{cs:LAa}{j i:Nat},∀t∈cx (jS tk own j i cs).2,t∈tk
 |[],_,_,t,ht=>by cases ht
 |v::r,j,i,t,ht=>by
  simp only[jS]at ht;split at ht
  ·rw[fx,ak]at ht
   exact ht.elim (Qz t) (oc t)
  ·exact oc t ht
theorem uw{x x1:Sit}(z:x1.G=x.G)(E:x1.bk=x.bk){tk:LAb}:∀{cs:LAa}{j:Nat}{f:Nat->Value},(∀k,k<cs.length->Rep x (cs.getD k .undef) (f k))->nV x x1 j (sr tk j cs).2->
 (sr tk j cs).1.length=cs.length/\∀k,k<cs.length->Rep x1 ((sr tk j cs).1.getD k .undef) (f k)
 |[],_,_,_,_=>⟨rfl,fun i hi=>by simp at hi⟩
 |v::r,j,f,h,ht=>by
  simp only[sr]at ht ⊢;obtain⟨H,F⟩:=uw (f:=fun k=>f (k+1)) z E (fun k y=>by simpa using h (k+1) (by simpa using y)) ht.right;refine⟨by simp[H],fun k y=> ?_⟩;cases k with
  |zero=>exact kh z E (h 0 (by simp)) ht.left
  |succ k=>simpa using F k (by simpa using y)
theorem zB{tk:LAb}:∀{cs:LAa}{j:Nat},∀t∈cx (sr tk j cs).2,t∈tk
 |[],_,t,ht=>by cases ht
 |v::r,j,t,ht=>by simp only[sr]at ht;rw[fx,ak]at ht;exact ht.elim (oa t) (zB t)
theorem CW{x x1:Sit}(J:x1.G=x.G)(y:x1.bk=x.bk){tk:LAb}{j o:Nat}{ob:aC}(h:dO x w o ob)(Q:nV x x1 j (jG tk j ob).2):dO x1 w o (jG tk j ob).1:=by
 obtain⟨F,e,fl,fh,I,E,H⟩:=h;cases ob with
 |rc cs=>obtain⟨L,O⟩:=uw (f:=fun k=>F.getD k undef) J y H Q;exact⟨F,e,fl,fh,by rw[y];exact I,by rw[y];simp only[jG,aC.size,L]at E ⊢;exact E,fun k z=>O k (by simpa only[jG,aC.size,L]using z)⟩
 |arr W U=>exact⟨F,e,fl,fh,by rw[y];exact I,by rw[y];exact E,fun k z=>by have:=H k z;simp only[jG,co]at this ⊢;rw[J];exact this⟩
 |bar l=>exact⟨F,e,fl,fh,by rw[y];exact I,by rw[y];exact E,fun k z=>by have:=H k z;simp only[jG,co]at this ⊢;rw[J];exact this⟩
theorem EW{tk:LAb}{j:Nat}{ob:aC}(h:ob.wf=true):(jG tk j ob).1.wf=true:=by cases ob<;>first|rfl|exact h
theorem EX{tk:LAb}{j:Nat}{ob:aC}:∀t∈cx (jG tk j ob).2,t∈tk:=by
 intro t h;cases ob with
 |rc cs=>exact zB t h
 |_=>cases h
theorem lr{x x1:Sit}(z:x1.G=x.G)(E:x1.bk=x.bk){tk:LAb}:∀{obs:List aC}{j:Nat}{f:Nat->Nat},(∀k,k<obs.length->dO x w (f k) (obs.getD k (.rc [])))->nV x x1 j (dT tk j obs).2->
 (dT tk j obs).1.length=obs.length/\∀k,k<obs.length->dO x1 w (f k) ((dT tk j obs).1.getD k (.rc []))
 |[],_,_,_,_=>⟨rfl,fun i hi=>by simp at hi⟩
 |v::r,j,f,h,ht=>by
  simp only[dT]at ht ⊢;obtain⟨H,F⟩:=lr (f:=fun k=>f (k+1)) z E (fun k y=>by simpa using h (k+1) (by simpa using y)) ht.right;refine⟨by simp[H],fun k y=> ?_⟩;cases k with
  |zero=>exact CW z E (h 0 (by simp)) ht.left
  |succ k=>simpa using F k (by simpa using y)
theorem mI{tk:LAb}:∀{obs:List aC}{j:Nat},∀t∈cx (dT tk j obs).2,t∈tk
 |[],_,t,ht=>by cases ht
 |v::r,j,t,ht=>by simp only[dT]at ht;rw[fx,ak]at ht;exact ht.elim (EX t) (mI t)
theorem mH{tk:LAb}:∀{obs:List aC}{j:Nat},(∀o∈obs,o.wf=true)->∀o∈(dT tk j obs).1,o.wf=true
 |[],_,_,o,ho=>by cases ho
 |v::r,j,h,o,ho=>by
  simp only[dT]at ho;rcases al.1 ho with e|e
  ·rw[e];exact EW (h v (ax ..))
  ·exact mH (fun o y=>h o (am _ y)) o e
theorem mr{m:LAb}{o:Nat}(h:o∈m):gE m o<m.length/\m.getD (gE m o) 0=o:=by
 induction m with
 |nil=>cases h
 |cons p r F=>
  simp only[gE];split
  ·rename_i y;subst y;simp
  ·rename_i y
   obtain⟨E,z⟩:=F ((al.1 h).resolve_left (Ne.symm y));exact⟨by simpa using E,by simpa using z⟩
theorem jp{l:LAb}(h:dr l=true):l.Nodup:=by
 induction l with
 |nil=>exact List.nodup_nil
 |cons p r y=>simp only[dr,az,dv,eI,decide_eq_false_iff_not]at h;exact dU.2 ⟨h.1,y h.2⟩
theorem ux{l r:LAb}(h:oe l r=true):∀o∈l,o∈r:=by intro o y;simp only[oe,aT,eI,decide_eq_true_eq]at h;exact h o y
theorem pH:∀{m:LAb}{os:List aC},gw c m=some os->os.length=m.length/\∀i,i<m.length->c.look (m.getD i 0)=some (os.getD i (.rc []))
 |[],os,h=>by cases h;exact⟨rfl,fun i hi=>by simp at hi⟩
 |o::r,os,h=>by
  simp only[gw]at h;split at h<;>cases h;rename_i ob l z y;obtain⟨E,F⟩:=pH y;refine⟨by simp[E],fun i hi=> ?_⟩;cases i with
  |zero=>exact z
  |succ i=>simpa using F i (by simpa using hi)
theorem gg(mo mt:Nat->Nat)(l:List aC):dX mo mt l=l.map fun o=>o.ren mo mt:=by
 induction l with
 |nil=>rfl
 |cons p r h=>simp only[dX,aE,h]
theorem oM{l:List aC}{o:aC}(h:o∈l):∀k∈o.ids,k∈fz l:=by
 induction l with
 |nil=>cases h
 |cons p r z=>
  intro k y;simp only[fz,ak];rcases al.1 h with e|e
  ·subst e;exact .inl y
  ·exact .inr (z e k y)
theorem m0{l:List LAc}(h:(cx l).Nodup):∀{i j:Nat}{t u:Nat},i≠j->l.getD i none=some t->l.getD j none=some u->t≠u:=by
 have H:∀{l:List LAc},(cx l).Nodup->∀{i j:Nat}{t u:Nat},i<j->l.getD i none=some t->l.getD j none=some u->t≠u:=by
  intro l;induction l with
  |nil=>intro _ i j t u _ z;simp at z
  |cons o r J=>
   intro hn i j t u F z y
   have I:(cx r).Nodup:=by cases o with
    |none=>exact hn
    |some q=>exact(dU.1 hn).2
   cases j with
   |zero=>omega
   |succ j=>
    rw[cz]at y;cases i with
    |zero=>
     rw[bZ]at z;subst z
     have E:some u∈r:=by
      rw[aa]at y;cases hj:r[j]? with
      |none=>rw[hj]at y;cases y
      |some q=>rw[hj]at y;cases y;exact List.mem_of_getElem? hj
     intro e;subst e;exact(dU.1 hn).1 (kI.2 E)
    |succ i=>rw[cz]at z;exact J I (by omega) z y
 intro i j t u F z y;rcases Nat.lt_or_gt_of_ne F with E|E
 ·exact H h E z y
 ·exact(H h E y z).symm
theorem jA{b n t:Nat}:t∈tks b n↔b<=t/\t<b+n:=by
 unfold tks
 have:∀n k,k∈kU n↔k<n:=by
  intro n;induction n with
  |zero=>intro k;simp[kU]
  |succ n y=>intro k;simp only[kU,ak,y,aZ];omega
 simp only[aR,this];constructor
 ·rintro⟨k,h,rfl⟩;omega
 ·rintro⟨E,z⟩;exact⟨t-b,by omega,by omega⟩
structure EI(x x2:Sit)(c:CSt)(m:List Nat)(mt:List (Option Nat)):Prop where
 G:x2.G=x.G
 bk:∀i,i<m.length->x2.bk i=x.bk (m.getD i 0)
 τ:nV x x2 50 mt
 nd:m.Nodup
 ob:∀i,i<m.length->∃ob,(m.getD i 0,ob)∈c.ob
 tnd:(cx mt).Nodup
 tk:∀t∈cx mt,t∈c.tk
def Ctx.took(x2:Sit)(w:World)(n k:Nat):Ctx:=
 ⟨w,x2.G,fun b=>w.heap.size<=b\/(∃i,i<n/\(x2.bk i).1=b)\/(∃t,50<=t/\t<50+k/\(x2.τ t).2.1≠(x2.τ t).2.2/\(x2.τ t).1=b),x2.bk⟩
theorem fH{m:LAb}{i:Nat}(h:i<m.length):m.getD i 0∈m:=by rw[aa,ab h];exact bx _
theorem lu{m:LAb}(h:m.Nodup){i j:Nat}(hi:i<m.length)(y:j<m.length)(e:m.getD i 0=m.getD j 0):i=j:=by rw[aa,aa,ab hi,ab y]at e;exact ru h hi y e
theorem iE{l:List LAc}{i t:Nat}(h:l.getD i none=some t):t∈cx l:=by
 rw[aa]at h;cases hj:l[i]? with
 |none=>rw[hj]at h;cases h
 |some q=>rw[hj]at h;cases h;exact kI.2 (List.mem_of_getElem? hj)
theorem EI.tok{x2:Sit}{m:LAb}{mt:List LAc}(h:EI x x2 c m mt){t:Nat}(z:50<=t)(y:t<50+mt.length):
 (x2.τ t).2.1=(x2.τ t).2.2\/∃u,mt.getD (t-50) none=some u/\x2.τ t=x.τ u/\u∈c.tk/\u∈cx mt:=by
 have e:=h.τ (t-50) (by omega);rw[show 50+(t-50)=t by omega]at e;cases hu:mt.getD (t-50) none with
 |none=>rw[hu]at e;rw[e];exact .inl rfl
 |some u=>rw[hu]at e;exact .inr ⟨u,rfl,e,h.tk u (iE hu),iE hu⟩
theorem re{x2:Sit}{m:LAb}{mt:List LAc}(H:cY C x c.ob c.tk w)(h:EI x x2 c m mt){z:List aC}(hl:z.length=m.length)
 (ho:∀i,i<m.length->dO x2 w i (z.getD i (.rc []))):cY (Ctx.took x2 w m.length mt.length) x2 (idx z) (tks 50 mt.length) w:=by
 refine⟨fun b o v L=>H.per b o v (by rw[<-h.G];exact L),fun _ _ _ L=>L,fun _ _ _ L=> .inl L,fun b hb=> .inl hb, ?_,mL z, ?_, ?_, ?_, ?_,rfl,rfl,rfl,aN _,fun _ _=>rfl,fun _ _=>rfl,H.lay.mono (fun b o v L=>by show x2.G b o=some v;rw[h.G];exact H.g0 b o v L)⟩
 ·intro p U
  obtain⟨y,E⟩:=iL.1 U;rw[hl]at y;obtain⟨ob,O⟩:=h.ob p.1 y;refine⟨by rw[E];exact ho p.1 y,.inr (.inl ⟨p.1,y,rfl⟩),fun off=> ?_⟩;rw[h.G,h.bk _ y];exact(H.obs _ O).2.2 off
 ·intro p U q hq Q
  obtain⟨y,_⟩:=iL.1 U;obtain⟨E,_⟩:=iL.1 hq;rw[hl]at y E;rw[h.bk _ y,h.bk _ E]at Q;obtain⟨o1,I⟩:=h.ob _ y;obtain⟨o2,Z⟩:=h.ob _ E;exact lu h.nd y E (H.inj _ I _ Z Q)
 ·intro t W
  obtain⟨y,E⟩:=jA.1 W;rcases h.tok y E with O|⟨u,_,J,h5,_⟩
  ·exact .inl O
  ·by_cases F:(x2.τ t).2.1=(x2.τ t).2.2
   ·exact .inl F
   ·have:=H.tks u h5
    unfold gY at this ⊢;rw[J]at F ⊢;rcases this with g|⟨I,Z,g3⟩
    ·exact absurd g F
    ·exact .inr ⟨I,.inr (.inr ⟨t,y,E,by rw[J];exact F,by rw[J]⟩),by rw[h.G];exact g3⟩
 ·intro t W p U
  obtain⟨y,E⟩:=jA.1 W;obtain⟨h6,_⟩:=iL.1 U;rw[hl]at h6;rcases h.tok y E with O|⟨u,_,J,h5,_⟩
  ·exact .inr O
  ·obtain⟨o1,I⟩:=h.ob _ h6
   rw[J,h.bk _ h6];exact H.tko u h5 _ I
 ·intro t W u hu a0
  obtain⟨y,E⟩:=jA.1 W;obtain⟨O,J⟩:=jA.1 hu;rcases h.tok y E with g|⟨t',I,Z,g3,_⟩
  ·exact .inr (.inl g)
  ·rcases h.tok O J with k|⟨u',k1,k2,k3,_⟩
   ·exact .inr (.inr k)
   ·rw[Z,k2]
    exact H.tkd t' g3 u' k3 (m0 h.tnd (by omega) I k1)
end Go.Sy
namespace Go.Sy
variable [aX]
variable {P : Program} {C : Ctx} {x : Sit} {a : Act} {w : World} {N : Nat} {c c' : CSt} {s : St}
theorem FC(d:Nat)(l:LAb):qS d l=l.map (kj d):=by
 induction l with
 |nil=>rfl
 |cons p r h=>simp only[qS,aE,h]
theorem mN{k:LAb}{t:Nat}:∀{l:LAb},t∈mg k l↔t∈l/\t∉k
 |[]=>by simp[mg]
 |p::r=>by
  simp only[mg];split
  ·rename_i z
   have E:p∈k:=by simpa using z
   rw[mN,al];constructor
   ·rintro⟨h,y⟩;exact⟨.inr h,y⟩
   ·rintro⟨h|h,y⟩
    ·exact absurd (h ▸ E) y
    ·exact⟨h,y⟩
  ·rename_i z
   have E:p∉k:=by simpa using z
   rw[al,mN,al];constructor
   ·rintro(h|⟨h,y⟩)
    ·exact⟨.inl h,h ▸ E⟩
    ·exact⟨.inr h,y⟩
   ·rintro⟨h|h,y⟩
    ·exact .inl h
    ·exact .inr ⟨h,y⟩
theorem rx{t:Nat}:∀{r l:LAb},t∈qW l r↔t∈r\/t∈l
 |[],l=>by simp[qW]
 |p::r,l=>by
  simp only[qW];rw[rx,kr,al];constructor
  ·rintro(h|h|h)
   ·exact .inl (.inr h)
   ·exact .inl (.inl h)
   ·exact .inr h
  ·rintro((h|h)|h)
   ·exact .inr (.inl h)
   ·exact .inl h
   ·exact .inr (.inr h)
theorem mM{p:Nat×aC}:∀{r l:List (Nat×aC)},p∈qV l r->p∈r\/p∈l
 |[],l,h=> .inr h
 |q::r,l,h=>by
  simp only[qV]at h;rcases mM h with e|e
  ·exact .inl (am _ e)
  ·rcases kq e with e|e
   ·exact .inl (e ▸ ax ..)
   ·exact .inr e
theorem zK:∀{r l:List (Nat×aC)},(l.map cM).Pairwise (· < ·)->((qV l r).map cM).Pairwise (· < ·)
 |[],_,h=>h
 |_::r,_,h=>zK (r:=r) (tG h)
theorem xE{mo mt:Nat->Nat}{o:aC}(h:o.wf=true):(o.ren mo mt).wf=true:=by cases o<;>first|rfl|exact h
theorem vL{x2:Sit}{m:LAb}{mt:List LAc}(z:cY C x c.ob c.tk w)(h:EI x x2 c m mt){x':Sit}{w':World}{q:dZ}(hH:cY (Ctx.took x2 w m.length mt.length) x' q.os q.tk w'){D:Nat}
 (hm:∀o∈m,inR D o=false) (a1:∀p∈q.os,p.1<1000/\(∀k∈p.2.ids,k<1000)/\∀k∈p.2.toks,k<1000) (a7:∀t∈q.tk,t<1000) (hg:∀i,i<m.length->x'.bk i=x2.bk i):
 ∃x3:Sit,x3.G=x'.G/\(∀b o v,x.G b o=some v->x3.G b o=some v)/\(∀k,k<1000->x3.bk (iH D m k)=x'.bk k)/\(∀k,k<1000->x3.τ (kj D k)=x'.τ k)/\
  (∀k,¬((D+1)*1000<=k/\k<(D+2)*1000)->x3.bk k=x.bk k)/\(∀k,¬((D+1)*1000<=k/\k<(D+2)*1000)->x3.τ k=x.τ k)/\
  cY C x3 (ox D m q.os++eY m (bz ((D+1)*1000) ((D+2)*1000) c.ob)) (qS D q.tk++mg (cx mt) (cy ((D+1)*1000) ((D+2)*1000) c.tk)) w':=by
 let lo:=(D+1)*1000
 let hi:=(D+2)*1000
 have e4:lo=(D+1)*1000:=rfl;have e3:hi=(D+2)*1000:=rfl
 let β2:Nat->Nat×Nat:=fun k=>if inR D k then x'.bk (k-lo)else x.bk k
 let τ2:Nat->Nat×Nat×Nat:=fun k=>if inR D k then x'.τ (k-lo)else x.τ k
 have d3:∀k,k<1000->inR D (lo+k)=true:=by intro k hk;simp only[inR,az,decide_eq_true_eq];omega
 have b5:∀k,¬(lo<=k/\k<hi)->inR D k=false:=by intro k hk;rw[Bool.eq_false_iff];intro h;simp only[inR,az,decide_eq_true_eq]at h;exact hk h
 have a3:∀k,¬(lo<=k/\k<hi)->β2 k=x.bk k:=fun k hk=>by simp only[β2];rw[b5 k hk];rfl
 have a6:∀k,¬(lo<=k/\k<hi)->τ2 k=x.τ k:=fun k hk=>by simp only[τ2];rw[b5 k hk];rfl
 have E:∀k,k<1000->β2 (iH D m k)=x'.bk k:=by
  intro k hk
  by_cases b2:k<m.length
  ·have y:iH D m k=m.getD k 0:=if_pos b2
   simp only[β2];rw[y,hm _ (fH b2),hg k b2,h.bk k b2];rfl
  ·have y:iH D m k=lo+k:=if_neg b2
   simp only[β2];rw[y,d3 k hk,if_pos rfl];congr 1;omega
 have F:∀k,k<1000->τ2 (kj D k)=x'.τ k:=by intro k hk;have y:kj D k=lo+k:=rfl;simp only[τ2];rw[y,d3 k hk,if_pos rfl];congr 1;omega
 have hG:∀b o v,x.G b o=some v->x'.G b o=some v:=fun b o v hv=>hH.g0 b o v (by show x2.G b o=_;rw[h.G];exact hv)
 refine⟨⟨x'.G,β2,τ2⟩,rfl,hG,E,F,a3,a6, ?_⟩;rw[uO,FC]
 have a4:∀b,(Ctx.took x2 w m.length mt.length).mine b->C.mine b:=by
  rintro b (y|⟨i,hi,rfl⟩|⟨t,y,I,H,rfl⟩)
  ·exact z.new b (p6 z.size y)
  ·obtain⟨ob,c7⟩:=h.ob i hi
   rw[h.bk i hi];exact(z.obs _ c7).2.1
  ·rcases h.tok y I with g|⟨u,_,g1,g2,_⟩
   ·exact absurd g H
   ·rw[g1]at H ⊢
    rcases z.tks u g2 with k|⟨_,k,_⟩
    ·exact absurd k H
    ·exact k
 have a8:∀b,b<w.heap.size->(∀i,i<m.length->(x.bk (m.getD i 0)).1≠b)->(∀u∈cx mt,(x.τ u).2.1=(x.τ u).2.2\/(x.τ u).1≠b)->w'.heap[b]? =w.heap[b]? /\((∀off,x.G b off=none)->∀off,x'.G b off=none)/\
  (∀off,x.G b off=none->x'.G b off=none):=by
  intro b hb b8 c4
  have b4:¬(Ctx.took x2 w m.length mt.length).mine b:=by
   rintro(y|⟨i,hi,y⟩|⟨t,y,I,H,h4⟩)
   ·omega
   ·rw[h.bk i hi]at y;exact b8 i hi y
   ·rcases h.tok y I with g|⟨u,_,g1,_,g3⟩
    ·exact H g
    ·rw[g1]at H h4
     rcases c4 u g3 with k|k
     ·exact H k
     ·exact k h4
  have one:∀off,x.G b off=none->x'.G b off=none:=by
   intro off ho;cases hg:x'.G b off with
   |none=>rfl
   |some v=>
    rcases hH.gm b off v hg with y|y
    ·change x2.G b off=some v at y;rw[h.G,ho]at y;cases y
    ·exact absurd y b4
  exact⟨hH.ext b b4,fun h off=>one off (h off),one⟩
 have Z:∀p∈eY m (bz lo hi c.ob),∃ob,(p.1,ob)∈c.ob/\p.2=ob.purge lo hi/\¬(lo<=p.1/\p.1<hi)/\p.1∉m/\(∀i,i<m.length->(x.bk (m.getD i 0)).1≠(x.bk p.1).1)/\(∀u∈cx mt,(x.τ u).2.1=(x.τ u).2.2\/(x.τ u).1≠(x.bk p.1).1)/\(x.bk p.1).1<w.heap.size:=by
  intro p O;obtain⟨y,I⟩:=jr.1 O;obtain⟨H,ob,h4,h5⟩:=cw y;refine⟨ob,h4,h5,H,I,fun i hi e=> ?_,fun u hu=> ?_, ?_⟩
  ·obtain⟨d4,d6⟩:=h.ob i hi
   have:=z.inj _ d6 _ h4 e;simp only at this;apply I;rw[<-this];exact fH hi
  ·exact(z.tko u (h.tk u hu) _ h4).symm
  ·obtain⟨⟨c,e,fl,fh,hO,_⟩,_⟩:=z.obs _ h4
   exact hO.lt
 have a2:∀p∈q.os.map (fun p=>(iH D m p.1,p.2.ren (iH D m) (kj D))),∃r∈q.os,p=(iH D m r.1,r.2.ren (iH D m) (kj D))/\β2 p.1=x'.bk r.1:=by intro p O;obtain⟨r,Q,rfl⟩:=aR.1 O;exact⟨r,Q,rfl,E _ (a1 r Q).1⟩
 have W:∀r∈q.os,w.heap.size<=(x'.bk r.1).1\/(∃i,i<m.length/\(x.bk (m.getD i 0)).1=(x'.bk r.1).1)\/(∃u∈cx mt,(x.τ u).2.1≠(x.τ u).2.2/\(x.τ u).1=(x'.bk r.1).1):=by
  intro r Q;rcases (hH.obs r Q).2.1 with y|⟨i,hi,y⟩|⟨t,y,I,H,h4⟩
  ·exact .inl y
  ·exact .inr (.inl ⟨i,hi,by rw[<-h.bk i hi];exact y⟩)
  ·rcases h.tok y I with g|⟨u,_,g1,_,g3⟩
   ·exact absurd g H
   ·rw[g1]at H h4;exact .inr (.inr ⟨u,g3,H,h4⟩)
 have a5:∀t∈q.tk,(x'.τ t).2.1=(x'.τ t).2.2\/w.heap.size<=(x'.τ t).1\/(∃i,i<m.length/\(x.bk (m.getD i 0)).1=(x'.τ t).1)\/(∃u∈cx mt,(x.τ u).2.1≠(x.τ u).2.2/\(x.τ u).1=(x'.τ t).1):=by
  intro t L;rcases hH.tks t L with k|⟨_,k,_⟩
  ·exact .inl k
  ·right
   rcases k with y|⟨i,hi,y⟩|⟨t',y,I,H,h4⟩
   ·exact .inl y
   ·exact .inr (.inl ⟨i,hi,by rw[<-h.bk i hi];exact y⟩)
   ·rcases h.tok y I with g|⟨u,_,g1,_,g3⟩
    ·exact absurd g H
    ·rw[g1]at H h4;exact .inr (.inr ⟨u,g3,H,h4⟩)
 have J:∀t∈mg (cx mt) (cy lo hi c.tk),t∈c.tk/\¬(lo<=t/\t<hi)/\t∉cx mt:=fun t L=>by obtain⟨y,I⟩:=mN.1 L;obtain⟨H,h4⟩:=bC.1 y;exact⟨H,h4,I⟩
 have U:∀t∈c.tk,t∉cx mt->(x.τ t).2.1=(x.τ t).2.2\/((x.τ t).1<w.heap.size/\(∀i,i<m.length->(x.bk (m.getD i 0)).1≠(x.τ t).1)/\(∀u∈cx mt,(x.τ u).2.1=(x.τ u).2.2\/(x.τ u).1≠(x.τ t).1)):=by
  intro t L c4;rcases z.tks t L with y|⟨⟨c,e,fl,fh,hO,_⟩,_⟩
  ·exact .inl y
  ·by_cases he:(x.τ t).2.1=(x.τ t).2.2
   ·exact .inl he
   ·refine .inr ⟨hO.lt,fun i hi e'=> ?_,fun u hu=> ?_⟩
    ·obtain⟨ob,c7⟩:=h.ob i hi
     rcases z.tko t L _ c7 with y|y
     ·exact y e'.symm
     ·exact he y
    ·rcases z.tkd u (h.tk u hu) t L (fun e=>c4 (e ▸ hu))with k|k|k
     ·exact .inr k
     ·exact .inl k
     ·exact absurd k he
 refine⟨hH.per,fun b o v hv=>hG _ _ _ (z.g0 b o v hv), ?_,z.new, ?_, ?_, ?_, ?_, ?_, ?_,hH.os.trans z.os,hH.tape.trans z.tape,hH.output.trans z.output,p6 z.size hH.size, ?_,fun i hi=>(a3 i (by omega)).trans (z.pin i hi),z.lay⟩
 ·intro b o v hv
  rcases hH.gm b o v hv with y|y
  ·exact z.gm b o v (by rw[<-h.G];exact y)
  ·exact .inr (a4 b y)
 ·intro p O
  rcases ak.1 O with O|O
  ·obtain⟨r,Q,rfl,hb⟩:=a2 p O
   obtain⟨y,I,H⟩:=hH.obs r Q;refine⟨y.renF (x2:=⟨x'.G,β2,τ2⟩) (fun _ _ _ h=>h) (E _ (a1 r Q).1) (fun k hk=>E k ((a1 r Q).2.1 k hk)) (fun t L=>F t ((a1 r Q).2.2 t L)), ?_,fun off=> ?_⟩
   ·show C.mine (β2 (iH D m r.1)).1;rw[E _ (a1 r Q).1];exact a4 _ I
   ·show x'.G (β2 (iH D m r.1)).1 off=none;rw[E _ (a1 r Q).1];exact H off
  ·obtain⟨ob,y,I,H,h4,h5,h6,h7⟩:=Z p O
   obtain⟨g1,g2,g3⟩:=z.obs _ y;obtain⟨k1,k2,_⟩:=a8 _ h7 h5 h6;have hb:β2 p.1=x.bk p.1:=a3 _ H;refine⟨?_,by show C.mine (β2 p.1).1;rw[hb];exact g2,fun off=>by show x'.G (β2 p.1).1 off=none;rw[hb];exact k2 g3 off⟩;rw[I];exact dO.of_heap (x':=⟨x'.G,β2,τ2⟩) g1 k1 hG a3 a6 H
 ·rw[cV,List.nodup_append]
  refine⟨?_, ?_, ?_⟩
  ·rw[List.map_map]
   have d7:=gr.1 hH.nd;refine gr.2 (eg.imp_of_mem (fun{p r} O Q b8=> ?_) d7);intro e;simp only[Function.comp]at e;have:(x'.bk p.1).1=(x'.bk r.1).1:=by rw[<-E _ (a1 p O).1,<-E _ (a1 r Q).1,e]
   exact b8 (hH.inj p O r Q this)
  ·have y:(eY m (bz lo hi c.ob)).Sublist (bz lo hi c.ob):=gT _ _
   refine vJ.sublist (y.map cM) ?_;rw[eC];exact z.nd.filter _
  ·intro o1 y o2 I e
   subst e;obtain⟨p,O,rfl⟩:=aR.1 y;obtain⟨r,Q,c6⟩:=aR.1 I;obtain⟨u,hu,rfl⟩:=aR.1 O;obtain⟨ob,k1,k2,k3,k4,_⟩:=Z r Q;simp only at c6
   by_cases b6:u.1<m.length
   ·apply k4;rw[c6];show iH D m u.1∈m;unfold iH;rw[if_pos b6];exact fH b6
   ·apply k3;rw[c6];show lo<=iH D m u.1/\iH D m u.1<hi
    unfold iH;rw[if_neg b6];have:=(a1 u hu).1;omega
 ·intro p O r Q a0
  change (β2 p.1).1=(β2 r.1).1 at a0;rcases ak.1 O with O|O<;>rcases ak.1 Q with Q|Q
  ·obtain⟨p',b7,rfl,hb⟩:=a2 p O
   obtain⟨r',c3,rfl,d8⟩:=a2 r Q;rw[hb,d8]at a0;have:=hH.inj p' b7 r' c3 a0;simp only;rw[this]
  ·obtain⟨p',b7,rfl,hb⟩:=a2 p O
   obtain⟨ob,k1,k2,k3,k4,k5,k6,k7⟩:=Z r Q;rw[hb,a3 _ k3]at a0;rcases W p' b7 with y|⟨i,hi,y⟩|⟨u,hu,y,I⟩
   ·omega
   ·exact absurd (y.trans a0) (k5 i hi)
   ·rcases k6 u hu with g|g
    ·exact absurd g y
    ·exact absurd (I.trans a0) g
  ·obtain⟨r',c3,rfl,hb⟩:=a2 r Q
   obtain⟨ob,k1,k2,k3,k4,k5,k6,k7⟩:=Z p O;rw[hb,a3 _ k3]at a0;rcases W r' c3 with y|⟨i,hi,y⟩|⟨u,hu,y,I⟩
   ·omega
   ·exact absurd (y.trans a0.symm) (k5 i hi)
   ·rcases k6 u hu with g|g
    ·exact absurd g y
    ·exact absurd (I.trans a0.symm) g
  ·obtain⟨ob,k1,k2,k3,_⟩:=Z p O
   obtain⟨d4,e2,e5,e0,_⟩:=Z r Q;rw[a3 _ k3,a3 _ e0]at a0;exact z.inj (p.1,ob) k1 (r.1,d4) e2 a0
 ·intro t L
  rcases ak.1 L with L|L
  ·obtain⟨u,hu,rfl⟩:=aR.1 L
   have:=hH.tks u hu;unfold gY at this ⊢;simp only[F u (a7 u hu)];exact this.imp id fun⟨y,I,H⟩=>⟨y,a4 _ I,H⟩
  ·obtain⟨y,I,H⟩:=J t L
   have:=z.tks t y;unfold gY at this ⊢;simp only[a6 t I];rcases this with g|⟨⟨c,e,fl,fh,hO,hc⟩,h4,h5⟩
   ·exact .inl g
   ·rcases U t y H with g|⟨k1,k2,k3⟩
    ·exact .inl g
    ·obtain⟨g1,_,g2⟩:=a8 _ k1 k2 k3
     exact .inr ⟨⟨c,e,fl,fh,hO.of_heap g1,hc⟩,h4,fun o e1 d9=>g2 o (h5 o e1 d9)⟩
 ·intro t L p O
  rcases ak.1 L with L|L<;>rcases ak.1 O with O|O
  ·obtain⟨u,hu,rfl⟩:=aR.1 L
   obtain⟨r,Q,rfl,hb⟩:=a2 p O;show(τ2 (kj D u)).1≠(β2 (iH D m r.1)).1\/(τ2 (kj D u)).2.1=(τ2 (kj D u)).2.2;rw[F u (a7 u hu),E _ (a1 r Q).1];exact hH.tko u hu r Q
  ·obtain⟨u,hu,rfl⟩:=aR.1 L
   obtain⟨ob,k1,k2,k3,k4,k5,k6,k7⟩:=Z p O;show(τ2 (kj D u)).1≠(β2 p.1).1\/(τ2 (kj D u)).2.1=(τ2 (kj D u)).2.2;rw[F u (a7 u hu),a3 _ k3];rcases a5 u hu with g|g|⟨i,hi,g⟩|⟨v,hv,g1,g2⟩
   ·exact .inr g
   ·left;intro e;omega
   ·left;intro e;exact k5 i hi (g.trans e)
   ·left;intro e
    rcases k6 v hv with k|k
    ·exact g1 k
    ·exact k (g2.trans e)
  ·obtain⟨y,I,H⟩:=J t L
   obtain⟨r,Q,rfl,hb⟩:=a2 p O;show(τ2 t).1≠(β2 (iH D m r.1)).1\/(τ2 t).2.1=(τ2 t).2.2;rw[a6 t I,E _ (a1 r Q).1];rcases U t y H with g|⟨k1,k2,k3⟩
   ·exact .inr g
   ·left;intro e
    rcases W r Q with g|⟨i,hi,g⟩|⟨v,hv,g1,g2⟩
    ·omega
    ·exact k2 i hi (g.trans e.symm)
    ·rcases k3 v hv with k|k
     ·exact g1 k
     ·exact k (g2.trans e.symm)
  ·obtain⟨y,I,H⟩:=J t L
   obtain⟨ob,k1,k2,k3,_⟩:=Z p O;show(τ2 t).1≠(β2 p.1).1\/(τ2 t).2.1=(τ2 t).2.2;rw[a6 t I,a3 _ k3];exact z.tko t y (p.1,ob) k1
 ·intro t L u hu d5
  show ln (τ2 t) (τ2 u)\/(τ2 t).2.1=(τ2 t).2.2\/(τ2 u).2.1=(τ2 u).2.2;rcases ak.1 L with L|L<;>rcases ak.1 hu with hu|hu
  ·obtain⟨t',b3,rfl⟩:=aR.1 L
   obtain⟨u',a9,rfl⟩:=aR.1 hu;rw[F t' (a7 t' b3),F u' (a7 u' a9)];exact hH.tkd t' b3 u' a9 (fun e=>d5 (by rw[e]))
  ·obtain⟨t',b3,rfl⟩:=aR.1 L
   obtain⟨y,I,H⟩:=J u hu;rw[F t' (a7 t' b3),a6 u I];rcases U u y H with k|⟨k1,k2,k3⟩
   ·exact .inr (.inr k)
   ·rcases a5 t' b3 with g|g|⟨i,hi,g⟩|⟨v,hv,g1,g2⟩
    ·exact .inr (.inl g)
    ·exact .inl fun e=>by omega
    ·exact .inl fun e=>k2 i hi (g.trans e)
    ·refine .inl fun e=> ?_
     rcases k3 v hv with k|k
     ·exact g1 k
     ·exact k (g2.trans e)
  ·obtain⟨u',a9,rfl⟩:=aR.1 hu
   obtain⟨y,I,H⟩:=J t L;rw[F u' (a7 u' a9),a6 t I];rcases U t y H with k|⟨k1,k2,k3⟩
   ·exact .inr (.inl k)
   ·rcases a5 u' a9 with g|g|⟨i,hi,g⟩|⟨v,hv,g1,g2⟩
    ·exact .inr (.inr g)
    ·exact .inl fun e=>by omega
    ·exact .inl fun e=>k2 i hi (g.trans e.symm)
    ·refine .inl fun e=> ?_
     rcases k3 v hv with k|k
     ·exact g1 k
     ·exact k (g2.trans e.symm)
  ·obtain⟨y,I,_⟩:=J t L
   obtain⟨H,h4,_⟩:=J u hu;rw[a6 t I,a6 u h4];exact z.tkd t y u H d5
 ·intro b hb
  have b4:¬(Ctx.took x2 w m.length mt.length).mine b:=fun h=>hb (a4 b h)
  exact(hH.ext b b4).trans (z.ext b hb)
end Go.Sy
namespace Go.Sy
variable [aX]
variable {P : Program} {C : Ctx} {x : Sit} {a : Act} {w : World} {N : Nat} {c c' : CSt} {s : St}
theorem vM(t:Tok):t.ren (fun k=>k)=t:=by cases t<;>rfl
theorem xcR(sv:SV):sv.ren (fun k=>k) (fun k=>k)=sv:=by
 refine SV.rec (motive_1:=fun sv=>sv.ren (fun k=>k) (fun k=>k)=sv) (motive_2:=fun _=>True) (motive_3:=fun l=>SV.renL (fun k=>k) (fun k=>k) l=l)
  ?_ ?_ ?_ ?_ ?_ ?_ ?_ ?_ ?_ ?_ ?_ ?_ ?_ ?_ ?_ ?_ ?_ ?_ ?_ ?_ sv
 all_goals intros
 all_goals first
  |trivial
  |rfl
  |(simp only[SV.ren,SV.renL,vM];done)
  |(simp only[SV.ren,SV.renL, *])
theorem xcD{q:dZ}(h:q.small=true):(∀p∈q.os,p.1<1000/\(∀k∈p.2.ids,k<1000)/\∀k∈p.2.toks,k<1000)/\(∀k∈q.r.ids,k<1000)/\(∀k∈q.r.toks,k<1000)/\∀k∈q.tk,k<1000:=by simp only[dZ.small,az,aT,decide_eq_true_eq]at h;obtain⟨⟨⟨y,E⟩,F⟩,H⟩:=h;exact⟨fun p z=>⟨(y p z).1.1,(y p z).1.2,(y p z).2⟩,E,F,H⟩
theorem nf{d:LAc}{m:LAb}{mt:List LAc}{q:dZ}{x2 x':Sit}{w':World}{v:Value}(hM:aL C x s a w)(I:Sim N c s)(hd:∀k,d=some k->k<N)(h:EI x x2 c m mt)
 (hH:cY (Ctx.took x2 w m.length mt.length) x' q.os q.tk w') (z:Rep x' q.r v) (J:∀p∈q.os,p.2.wf=true) (hg:∀i,i<m.length->x'.bk i=x2.bk i) (hm:∀o∈m,inR (d.getD 0) o=false) (hs:q.small=true):
 M C N (jP c d m (cx mt) q) (a.put d v) w':=by
 obtain⟨s1,s2,s3,s4⟩:=xcD hs;have hE:=I.exact hM;obtain⟨F,g1,g2,Z,g4,g5,g6,g7⟩:=vL hE.heap h hH hm s1 s4 hg
 let Q:CSt:=⟨de ((d.getD 0+1)*1000) ((d.getD 0+2)*1000) c.tm,qV (eY m (bz ((d.getD 0+1)*1000) ((d.getD 0+2)*1000) c.ob)) (ox (d.getD 0) m q.os),
  qW (mg (cx mt) (cy ((d.getD 0+1)*1000) ((d.getD 0+2)*1000) c.tk)) (qS (d.getD 0) q.tk)⟩
 have U:Inv N Q:=by
  refine⟨fun p E=> ?_,zK ?_,fun p E=> ?_⟩
  ·obtain⟨r,z,e⟩:=jq E
   rw[e];exact I.inv.dom r z
  ·exact eg.sublist ((gT _ _).map cM) (uz I.inv.so)
  ·rcases mM E with e|e
   ·rw[uO]at e
    obtain⟨r,z,rfl⟩:=aR.1 e;exact xE (J r z)
   ·obtain⟨_,ob,H,W⟩:=cw (jr.1 e).1
    rw[W];exact pw (I.inv.wf _ H)
 have L:aL C F (Q.st N) a w':=by
  refine⟨⟨?_,fun i hi=> ?_⟩,hM.defers,g7.only (fun p E=> ?_) (iZ U.so) (fun t O=> ?_)⟩
  ·have:=hE.tm.1;simpa[CSt.st]using this
  ·have y:i<N:=by simpa[CSt.st]using hi
   have H:=hE.tm.2 i (by simpa[CSt.st]using y);simp only[CSt.st,aa,aP,cP y,bl,bp]at H ⊢;have e:Q.get i=(c.get i).purge ((d.getD 0+1)*1000) ((d.getD 0+2)*1000):=fW _ _ i c.tm;rw[e];exact H.mono (x':=F) g2 g5 g6
  ·rcases mM E with e|e
   ·exact ak.2 (.inl e)
   ·exact ak.2 (.inr e)
  ·rcases rx.1 O with e|e
   ·exact ak.2 (.inl e)
   ·exact ak.2 (.inr e)
 refine⟨F,_,L.put d (c:=q.r.ren (iH (d.getD 0) m) (kj (d.getD 0))) ?_,(Sim.of U).put hd _⟩;exact Rep.renF (x:=x') (x2:=F) (fun b o v hv=>by rw[g1];exact hv) z (fun k hk=>Z k (s2 k hk)) (fun t O=>g4 t (s3 t O))
theorem wT{call:cW}{g:Nat}{d:LAc}{a_:LAa}{vs:LAd}(hM:aL C x s a w)(hS:Sim N c s)(hd:∀k,d=some k->k<N)(U:∀a_ os k q,call g a_ os k=some q->lz P g a_ os k (· =q))
 (E:mc c d (call g (SV.bareL a_) [] 0)=some c') (O:cD x a_ vs):Calls P g ⟨vs⟩ w fun en w'=>∃v,en= .returned v/\M C N c' (a.put d v) w':=by
 cases hq:call g (SV.bareL a_) [] 0 with
 |none=>rw[hq]at E;cases E
 |some q=>
  rw[hq]at E
  have hb:cD x (SV.bareL a_) vs:=by rw[kx];refine⟨by simpa using O.1,fun i hi=> ?_⟩;rw[aU _ (by rfl)];exact(O.2 i (by simpa using hi)).bare rfl rfl
  obtain⟨_,L⟩:=U _ _ _ _ hq
  by_cases y:q.bare=true
  ·simp only[mc,y,nD,aq.injEq]at E
   subst E;have I:=uq (m:=[]) (os:=[]) (mo:=fun k=>k) (mt:=fun k=>k) hM (fun i hi=>by simp at hi) rfl (by simp) (fun i hi=>by simp at hi);refine(L (Ctx.callee x w [] (x.back (fun k=>k) (fun k=>k)).bk) x w vs rfl rfl ?_ (by simp) (by simp) I hb).mono ?_
   ·rintro b (h|⟨i,hi,_⟩)
    ·exact .inl h
    ·simp at hi
   ·rintro en w' ⟨v,x',q',rfl,H,hr,W,J,_⟩
    subst H;simp only[dZ.bare,az,List.isEmpty_iff]at y;obtain⟨⟨⟨b1,b2⟩,b3⟩,b4⟩:=y
    obtain⟨hG,hA⟩:=wO (m:=[]) (os:=[]) (mo:=fun k=>k) (mt:=fun k=>k) (lo:=0) (hi:=0) (β2:=x.bk) (τ2:=x.τ) hM rfl (fun i hi=>by simp at hi) W (fun i hi=>by simp at hi) (fun i hi=>by omega) (fun _ _=>rfl) (fun _ _=>rfl)
     (fun p z=>by rw[b1]at z;cases z) (fun p z=>by rw[b1]at z;cases z) (fun p z=>by rw[b1]at z;cases z) (fun p z=>by rw[b1]at z;cases z) (fun t F=>by rw[b2]at F;cases F)
    have a0:cY C ⟨x'.G,x.bk,x.τ⟩ s.ob s.tk w':=by
     refine hA.only (fun p z=> ?_) hM.heap.nd (fun t F=> ?_)
     ·exact ak.2 (.inr (jr.2 ⟨by rw[FF];exact z,by simp⟩))
     ·exact ak.2 (.inr (bC.2 ⟨F,by omega⟩))
    refine⟨v,rfl,⟨x'.G,x.bk,x.τ⟩,_, ?_,hS.put hd q'.r⟩;refine aL.put ⟨cD.grow (x:=x) (x':=⟨x'.G,x.bk,x.τ⟩) hG rfl rfl hM.tm,hM.defers,a0⟩ d ?_;have:=Rep.renF (x:=x') (x2:=⟨x'.G,x.bk,x.τ⟩) (mo:=fun k=>k) (mt:=fun k=>k) (fun _ _ _ h=>h) hr (fun k Q=>by rw[b3]at Q;cases Q) (fun t F=>by rw[b4]at F;cases F);rwa[xcR]at this
  ·have Z:q.bare=false:=by simpa using y
   simp only[mc,Z,nD]at E;cases hsm:q.small with
   |false=>rw[hsm]at E;cases E
   |true=>
    rw[hsm]at E;simp only[wV,aq.injEq]at E;subst E;have hE:=hS.exact hM;have hT:EI x x c [] []:=⟨rfl,fun i hi=>by simp at hi,fun k Q=>by simp at Q,by simp,fun i hi=>by simp at hi,by simp[cx],fun t F=>by simp[cx]at F⟩;refine(L (Ctx.took x w 0 0) x w vs rfl rfl ?_ (by simp) (by simp) (re hE.heap hT rfl (fun i hi=>by simp at hi)) hb).mono ?_
    ·rintro b h;exact h
    ·rintro en w' ⟨v,x',q',rfl,H,hr,W,J,_⟩
     subst H;exact⟨v,rfl,nf hM hS hd hT W hr J (fun i hi=>by simp at hi) (fun o ho=>by simp at ho) hsm⟩
theorem vU{call:cW}{sg:Sig}{g:Nat}{d:LAc}{a_:LAa}{vs:LAd}(hM:aL C x s a w)(hS:Sim N c s)(hd:∀k,d=some k->k<N)(b3:∀a_ os k q,call g a_ os k=some q->lz P g a_ os k (· =q))
 (F:jH call sg d g (c,a_)=some c') (b6:cD x a_ vs):Calls P g ⟨vs⟩ w fun en w'=>∃v,en= .returned v/\M C N c' (a.put d v) w':=by
 simp only[jH]at F;generalize hz:jS c.tk sg.own 50 0 a_=z at F;obtain⟨I,E⟩:=z;simp only[nm]at F;generalize dB c 60 [] (SV.idsL I)=m at F;cases ho:gw c m with
 |none=>rw[ho]at F;cases F
 |some J=>
  rw[ho]at F;simp only[ls]at F;generalize W:dT c.tk (50+E.length) J=z2 at F;obtain⟨os,H⟩:=z2;simp only[nl]at F;cases hb:(oe (SV.idsL I++fz os) m&&dr m&&dr (cx (E++H))&&decide (m.length<=40)&&m.all fun o=> !inR (d.getD 0) o)with
  |false=>rw[hb]at F;cases F
  |true=>
   rw[hb]at F;simp only[nj]at F;simp only[az,decide_eq_true_eq,aT,dv]at hb;obtain⟨⟨⟨⟨a7,c6⟩,c4⟩,d3⟩,b4⟩:=hb;cases hq:call g (SV.renL (gE m) id I) (dX (gE m) id os) (E.length+H.length)with
   |none=>rw[hq]at F;cases F
   |some q=>
    rw[hq]at F;simp only[oq]at F;cases hsm:q.small with
    |false=>rw[hsm]at F;cases F
    |true=>
     rw[hsm]at F;simp only[vW,aq.injEq]at F;subst F;have hE:=hS.exact hM;obtain⟨d4,b7⟩:=pH ho
     let τ2:Nat->Nat×Nat×Nat:=fun t=>if 50<=t/\t<50+(E++H).length then O5 x ((E++H).getD (t-50) none)else(0,0,0)
     let x1:Sit:=⟨x.G,x.bk,τ2⟩
     let x2:Sit:=⟨x.G,fun i=>x.bk (m.getD i 0),τ2⟩
     have hτ:∀y:Sit,y.τ=τ2->nV x y 50 (E++H):=by
      intro y hy k hk;rw[hy];show(if _ then _ else _)=_;rw[if_pos ⟨by omega,by omega⟩]
      congr 2;omega
     have Q:∀i,i<m.length->(m.getD i 0,J.getD i (.rc []))∈c.ob:=fun i hi=>jb (b7 i hi)
     have L:=ux a7;have a0:=jp c6
     have hT:EI x x2 c m (E++H):=by
      refine⟨rfl,fun _ _=>rfl,hτ x2 rfl,a0,fun i hi=>⟨_,Q i hi⟩,jp c4,fun t ht=> ?_⟩;rw[fx,ak]at ht;rcases ht with ht|ht
      ·have:=oc (tk:=c.tk) (own:=sg.own) (cs:=a_) (j:=50) (i:=0) t (by rw[hz];exact ht)
       exact this
      ·have:=mI (tk:=c.tk) (obs:=J) (j:=50+E.length) t (by rw[W];exact ht)
       exact this
     have Z:=hτ x1 rfl
     have a8:cD x1 I vs:=by have:=lT (x:=x) (x1:=x1) rfl rfl (tk:=c.tk) (own:=sg.own) (j:=50) (i:=0) b6 (by rw[hz];exact Z.left);rwa[hz]at this
     have hβ:∀o∈m,x2.bk (gE m o)=x.bk o:=fun o ho=>by show x.bk (m.getD (gE m o) 0)=_;rw[(mr ho).2]
     have b5:cD x2 (SV.renL (gE m) id I) vs:=by
      rw[eV];refine⟨by simpa using a8.1,fun i hi=> ?_⟩;have a3:i<I.length:=by simpa using hi
      rw[aU _ (by rfl)];exact Rep.renF (x:=x1) (x2:=x2) (fun _ _ _ h=>h) (a8.2 i a3) (fun k hk=>hβ k (L k (ak.2 (.inl (li a3 k hk))))) (fun t _=>rfl)
     obtain⟨a1,O⟩:=lr (x:=x) (x1:=x1) (w:=w) rfl rfl (tk:=c.tk) (obs:=J) (j:=50+E.length) (f:=fun i=>m.getD i 0)
      (fun i hi=>(hE.heap.obs _ (Q i (by omega))).1) (by rw[W];exact Z.right)
     rw[W]at a1 O;simp only at a1 O
     have a5:∀i,i<m.length->dO x2 w i ((dX (gE m) id os).getD i (.rc [])):=by
      intro i hi;have h1:=O i (by omega);have b2:i<os.length:=by omega
      have e:(dX (gE m) id os).getD i (.rc [])=(os.getD i (.rc [])).ren (gE m) id:=by rw[gg,aa,aa,aP,ab b2];rfl
      rw[e];have a2:=fH (m:=m) hi;have c7:os.getD i (.rc [])∈os:=by rw[aa,ab b2];exact bx _
      have h2:=h1.renF (x2:=x2) (mo:=gE m) (mt:=id) (fun _ _ _ h=>h) (hβ _ a2) (fun k hk=>hβ k (L k (ak.2 (.inr (oM c7 k hk))))) (fun t _=>rfl);have e2:gE m (m.getD i 0)=i:=lu a0 (mr a2).1 hi (mr a2).2;rwa[e2]at h2
     have a6:(dX (gE m) id os).length=m.length:=by rw[gg,aS];omega
     obtain⟨_,a4⟩:=b3 _ _ _ _ hq;have a9:E.length+H.length=(E++H).length:=by simp
     rw[a9]at a4;refine(a4 (Ctx.took x2 w m.length (E++H).length) x2 w vs rfl rfl ?_ (by omega) ?_ (re hE.heap hT a6 a5) b5).mono ?_
     ·rintro b h;rw[a6];exact h
     ·intro o U
      rw[gg]at U;obtain⟨r,hr,rfl⟩:=aR.1 U;refine xE ?_
      have:=mH (tk:=c.tk) (obs:=J) (j:=50+E.length) (fun o h'=>by obtain⟨i,hi,rfl⟩:=bY h';have:=hS.inv.wf _ (Q i (by omega));simpa[aa,ab hi]using this) r (by rw[W];exact hr)
      exact this
     ·rintro en w' ⟨v,x',q',rfl,b8,hr,hH,c3,hg⟩
      subst b8;exact⟨v,rfl,nf hM hS hd hT hH hr c3 (fun i hi=>hg i (by omega)) (fun o U=>b4 o U) hsm⟩
theorem ut{call:cW}{sg:Sig}{g:Nat}{d:LAc}{a_:LAa}{vs:LAd}(hM:aL C x s a w)(E:Sim N c s)(hd:∀k,d=some k->k<N)(h:∀a_ os k q,call g a_ os k=some q->lz P g a_ os k (· =q))
 (z:ig call sg c d g a_=some c') (y:cD x a_ vs):Calls P g ⟨vs⟩ w fun en w'=>∃v,en= .returned v/\M C N c' (a.put d v) w':=by
 unfold ig at z;generalize ((SV.idsL a_).isEmpty&&sg.own.isEmpty)=b at z;cases b with
 |true=>exact wT hM E hd h z y
 |false=>simp only[jO]at z;obtain⟨x1,J,H,F,I⟩:=jf (l:=iP sg.raw 0 a_) hM E y;exact vU H F hd h z I
end Go.Sy
namespace Go.Sy
variable [aX]
variable {P : Program} {C : Ctx} {x : Sit} {a : Act} {w : World} {N : Nat} {c c' : CSt} {s : St} {call : cW} {sg : Nat -> Sig}
def fZ(P:Program)(call:cW):Prop:=∀g a_ os k q,call g a_ os k=some q->lz P g a_ os k (· =q)
theorem w9{sg:Sig}{d:LAc}{g:Nat}{a_:LAa}(h:ig call sg c d g a_=some c'):∃H os k q,call g H os k=some q:=by
 unfold ig at h;generalize ((SV.idsL a_).isEmpty&&sg.own.isEmpty)=b at h;cases b with
 |true=>
  simp only[jO]at h;cases hq:call g (SV.bareL a_) [] 0 with
  |none=>rw[hq]at h;cases h
  |some q=>exact⟨_,_,_,q,hq⟩
 |false=>
  simp only[jO]at h;generalize eD c a_ (iP sg.raw 0 a_)=z at h;obtain⟨c1,J⟩:=z;simp only[jH]at h;generalize jS c1.tk sg.own 50 0 J=z at h;obtain⟨y,E⟩:=z;simp only[nm]at h;cases ho:gw c1 (dB c1 60 [] (SV.idsL y))with
  |none=>rw[ho]at h;cases h
  |some I=>
   rw[ho]at h;simp only[ls]at h;generalize dT c1.tk (50+E.length) I=z at h;obtain⟨os,F⟩:=z;simp only[nl]at h;generalize (oe (SV.idsL y++fz os) (dB c1 60 [] (SV.idsL y))&&dr (dB c1 60 [] (SV.idsL y))&&dr (cx (E++F))&&decide ((dB c1 60 [] (SV.idsL y)).length<=40)&&(dB c1 60 [] (SV.idsL y)).all fun o=> !inR (d.getD 0) o)=b at h;cases b with
   |false=>cases h
   |true=>
    simp only[nj]at h;cases hq:call g (SV.renL (gE (dB c1 60 [] (SV.idsL y))) id y) (dX (gE (dB c1 60 [] (SV.idsL y))) id os) (E.length+F.length)with
    |none=>rw[hq]at h;cases h
    |some q=>exact⟨_,_,_,q,hq⟩
theorem cY.freeze{ob:List (Nat×aC)}{tk:LAb}(h:cY C x ob tk w){b:Nat}(hb:C.mine b)(ho:∀p∈ob,(x.bk p.1).1≠b)(ht:∀t∈tk,(x.τ t).1≠b\/(x.τ t).2.1=(x.τ t).2.2)(off n:Nat):
 cY C x ob tk (w.freeze ⟨b,off,none⟩ n):=by
 have z:∀y,y≠b->(w.freeze ⟨b,off,none⟩ n).heap[y]? =w.heap[y]? :=by
  intro y J;unfold World.freeze;split
  ·rfl
  ·simp only[Array.getElem?_modify,if_neg (Ne.symm J)]
 have F:∀y i,(w.freeze ⟨b,off,none⟩ n).cell? ⟨y,i,none⟩=w.cell? ⟨y,i,none⟩:=by
  intro y i
  by_cases J:y=b
  ·subst J
   unfold World.freeze;split
   ·rfl
   ·simp only[World.cell?,Array.getElem?_modify,if_true]
    cases hw:w.heap[y]? with
    |none=>rfl
    |some q=>cases q<;>rfl
  ·exact dh (z y J)
 have U:(w.freeze ⟨b,off,none⟩ n).heap.size=w.heap.size:=by unfold World.freeze;split<;>simp
 have E:(w.freeze ⟨b,off,none⟩ n).os=w.os/\(w.freeze ⟨b,off,none⟩ n).tape=w.tape/\(w.freeze ⟨b,off,none⟩ n).output=w.output:=by unfold World.freeze;split<;>exact⟨rfl,rfl,rfl⟩
 refine⟨fun y i v hv=>by rw[F];exact h.per y i v hv,h.g0,h.gm,h.new,fun p W=> ?_,h.nd,h.inj,fun t I=> ?_,h.tko,h.tkd,E.1.trans h.os,E.2.1.trans h.tape,E.2.2.trans h.output,by rw[U];exact h.size,fun y H=> ?_,h.pin,h.lay⟩
 ·obtain⟨⟨Q,e,fl,fh,L,r⟩,q⟩:=h.obs p W
  exact⟨⟨Q,e,fl,fh,L.of_heap (z _ (ho p W)),r⟩,q⟩
 ·rcases h.tks t I with Z|⟨⟨Q,e,fl,fh,L,h2⟩,h3⟩
  ·exact .inl Z
  ·rcases ht t I with O|O
   ·exact .inr ⟨⟨Q,e,fl,fh,L.of_heap (z _ O),h2⟩,h3⟩
   ·exact .inl O
 ·rw[z y (fun e=>H (e ▸ hb))];exact h.ext y H
theorem QR{o:Oper}{q:Arg}(y:bn P o=some (.slid q)):∃z X e,o.op= .convert z z X/\P.underlying z=some (.slice e)/\lF P e=true/\bm P z X=some q:=by
 cases ho:o.op with
 |convert z dst X=>
  simp only[bn,ho]at y;split at y<;>try (cases y;done)
  ·split at y<;>cases y
  ·split at y<;>cases y
  ·rename_i e I H hd hX
   split at y<;>try (cases y;done)
   rename_i E;simp only[az,decide_eq_true_eq]at E;obtain⟨rfl,F⟩:=E;cases y;exact⟨z,X,e,rfl,hd,F,hX⟩
 |_=>exfalso;exact absurd y (by
  intro y;simp only[bn,ho]at y
  first
   |(cases y;done)
   |(obtain⟨_,_,h⟩:=ah.1 y;cases h;done)
   |(repeat' split at y)<;>first|(cases y;done)|contradiction|(obtain⟨_,_,h⟩:=ah.1 y;first|(cases h;done)|(split at h<;>cases h;done)))
theorem FA{o:Oper}{E:List Arg}(y:bn P o=some (.newB E)):False:=by
 cases ho:o.op with
 |buildSlice t len z=>
  simp only[bn,ho]at y;split at y<;>try (cases y;done)
  split at y<;>try (cases y;done)
  split at y<;>try (cases y;done)
  obtain⟨_,_,h⟩:=ah.1 y;split at h<;>cases h
 |_=>
  simp only[bn,ho]at y
  first
   |(cases y;done)
   |(obtain⟨_,_,h⟩:=ah.1 y;cases h;done)
   |(repeat' split at y)<;>first|(cases y;done)|contradiction|(obtain⟨_,_,h⟩:=ah.1 y;first|(cases h;done)|(split at h<;>cases h;done))
theorem Dj{o:Oper}{z:LAa}{b:Nat}{q y:Arg}(E:bn P o=some (.appO z b q y)):False:=by
 cases ho:o.op with
 |buildSlice t len F=>
  simp only[bn,ho]at E;split at E<;>try (cases E;done)
  split at E<;>try (cases E;done)
  split at E<;>try (cases E;done)
  obtain⟨_,_,h⟩:=ah.1 E;split at h<;>cases h
 |_=>
  simp only[bn,ho]at E
  first
   |(cases E;done)
   |(obtain⟨_,_,h⟩:=ah.1 E;cases h;done)
   |(repeat' split at E)<;>first|(cases E;done)|contradiction|(obtain⟨_,_,h⟩:=ah.1 E;first|(cases h;done)|(split at h<;>cases h;done))
theorem xiK{ops:Array Oper}{o:Oper}{i:SI}(h:fT P ops o=some i):i.er=i:=by
 obtain⟨E,_,_⟩:=kG h;obtain⟨d,g,op⟩:=i
 have:op.er=op:=by
  cases op with
  |appO z b q y=>
   rcases E with E|⟨xs,e,_⟩
   ·exact(Dj E).elim
   ·cases e
  |_=>rfl
 show SI.mk d g op.er=_;rw[this]
theorem vZ{o:Oper}{q:Arg}(h:M C N c a w)(hr:bn P o=some (.slid q))(hd:∀k,o.dst=some k->k<N)(F:qQ c o.dst (c.ev q)=some c'){K:LBc}{Q:LBb}(hK:∀a w,M C N c' a w->K a w):o.wp P a w K Q:=by
 obtain⟨x,s,hM,L⟩:=h;unfold qQ at F;split at F<;>try (cases F;done)
 rename_i y off n cap hq;unfold ot at F;split at F<;>try (cases F;done)
 rename_i l hl;split at F<;>try (cases F;done)
 rename_i J;obtain⟨hb,rfl⟩:=J;cases F;obtain⟨a6,X,e,ho,hu,h8,hX⟩:=QR hr;have hv:=aK hM hX;rw[L.ev,hq]at hv;obtain⟨cp,a4,a5,W,O,a3⟩:=hv.psl_inv;have E:s.look y=some (.bar l):=(L.look y).trans hl;obtain⟨cc,e',fl,fh,hO,a7,_⟩:=ei hM E;have a2:=hM.heap.obs _ (cR E);obtain⟨x',⟨hβ,hτ⟩,hp,s',z,I⟩:=oG hl (fun cs e=>by cases e) hM L
 have H:Rep x' (.byt ((l.drop off).take n) .clip) (a.eval X):=by have:=hp _ _ hv;simpa only[SV.pub,if_true,wy,true_and,if_pos hb]using this
 have h1:∀p∈s'.ob,(x'.bk p.1).1≠(x.bk y).1:=by intro p a0 e;rw[hβ]at e;have Z:s'.look p.1=some p.2:=wH z.heap.nd a0;rw[I.look]at Z;obtain⟨h3,q',h4,_⟩:=ks (jb Z);have h5:=i6 (iZ L.inv.so) h4;exact h3 (hM.heap.inj (p.1,q') (cR ((L.look p.1).trans h5)) _ (cR E) e)
 have Z:∀t∈s'.tk,(x'.τ t).1≠(x.bk y).1\/(x'.τ t).2.1=(x'.τ t).2.2:=by intro t ht;rw[hτ];exact hM.heap.tko t ((L.tk t).2 ((I.tk t).1 ht)) _ (cR E)
 have a1:aL C x' s' a (w.freeze ⟨(x.bk y).1,cc.size,none⟩ 1):=⟨z.tm,z.defers,z.heap.freeze a2.2.1 h1 Z _ _⟩
 have U:(execOp a.eval o).run P w= .ok (.value (a.eval X)) (w.freeze ⟨(x.bk y).1,cc.size,none⟩ 1):=by have hm:(markStringish ⟨(x.bk y).1,W,none⟩).run P w= .ok () (w.freeze ⟨(x.bk y).1,cc.size,none⟩ 1):=ee (e:=e') (by simp only[World.shape?,hO.1]);simp only[execOp,ho,O,convert,ay,run_underlying hu,aj,beq_self_eq_true,run_underlying (ja h8),hm,aD]
 refine cU ⟨a.eval X,_,x',_,U,.inl rfl,a1.put o.dst H⟩ (k:=Sim N _) ?_ hK;have e1:(c.publish y []).1=⟨lB y (.bar l) c.tm,lf y (.bar l) c.ob,c.tk⟩:=by unfold CSt.publish;rw[hl]
 rw[e1];exact I.put hd _
theorem oO{o:Oper}{O:List Arg}(h:M C N c a w)(J:bn P o=some (.litB O))(hd:∀k,o.dst=some k->k<N)(E:nA c o.dst (toB (evL c O))=some c'){K:LBc}{Q:LBb}(hK:∀a w,M C N c' a w->K a w):o.wp P a w K Q:=by
 obtain⟨x,s,hM,L⟩:=h;rw[L.evL]at E;unfold nA at E;split at E<;>try (cases E;done)
 rename_i k l Z U;cases E;obtain⟨t,len,H,ho⟩:=RX J;obtain⟨r,e,z,I,y⟩:=wk hM ho J U
 have F:=hM.newObj (d:=k+100) o.dst (by omega) (.bar l) (val:= .psl (k+100) 1 0 l.length (some l.length)) (u:= .slice (some ⟨w.heap.size,0,none⟩) l.length l.length) (t:=e) I (fun i hi=>by
  show cL x.G (.u8 (l.getD i 0)) _;rw[y i hi];exact .u8 _) (by
  have:=Rep.psl (x:=x.newO (k+100) w.heap.size) (k+100) 1 0 l.length (some l.length) 0 l.length (.inr rfl) (aN _) (fun _ e=>by cases e;rfl) (fun e=>by cases e);rwa[i5]at this)
 refine cU ⟨_,_,_,_,z,.inl rfl,F⟩ (k:=Sim N _) ?_ hK;have:=L.app hd (e:= {val:= .psl (k+100) 1 0 l.length (some l.length),new:=some (.bar l)}) (f:= {pre:=True,val:= .psl (k+100) 1 0 l.length (some l.length),new:=some (.bar l)}) ⟨rfl,rfl,rfl,rfl,rfl⟩ ⟨fun ob W=>by cases W;rfl,.inl rfl⟩;rw[Z]at this ⊢;exact this
theorem Gb(hM:aL C x s a w)(y:Sim N c s){g:Nat}{t:Bool}(h:c.get g= .bool t):a.tmps[g]? =some (.bool t):=(Gd hM (by rw[y.get];exact h)).2.1
theorem uf{ops:Array Oper}{o:Oper}{j g:Nat}{b:Bool}(h:o.guard=some (j,b))(E:(ops[j]?).bind (·.dst)=some g)(z:∀t,a.tmps[g]? ≠some (.bool t)):Region.wanted o (yielded ops a.tmps)=false:=by
 have y:yielded ops a.tmps j=none:=by
  unfold yielded;rw[E,cS];cases hv:a.tmps[g]? with
  |none=>rfl
  |some v=>
   cases v with
   |bool t=>exact absurd hv (z t)
   |_=>rfl
 simp only[Region.wanted,h,y];rfl
theorem uN{x:Sit}:Rep x (.tup []) undef:= .tup [] [] rfl fun i hi=>by simp at hi
theorem Gc(hM:aL C x s a w)(E:Sim N c s){g:Nat}(h:c.get g= .tup []):∀t,a.tmps[g]? ≠some (.bool t):=by
 intro t F;have y:=hM.slot g;rw[E.get,h]at y
 have z:a.tmps.getD g undef= .bool t:=by rw[bh,F];rfl
 replace y:Rep x (.tup []) (a.tmps.getD g undef):=y;rw[z]at y;cases y with
 |dat _ _ h _=>cases h
theorem GO{o:Oper}{q:Arg}(y:bn P o=some (.s2b q)):∃z dst X e,o.op= .convert z dst X/\P.underlying z=some .string/\P.underlying dst=some (.slice e)/\lF P e=true/\bm P z X=some q:=by
 cases ho:o.op with
 |convert z dst X=>
  simp only[bn,ho]at y;split at y<;>try (cases y;done)
  ·split at y<;>cases y
  ·rename_i e H E hd hX
   split at y<;>try (cases y;done)
   rename_i F;cases y;exact⟨z,dst,X,e,rfl,E,hd,F,hX⟩
  ·split at y<;>cases y
 |_=>exfalso;exact absurd y (by
  intro y;simp only[bn,ho]at y
  first
   |(cases y;done)
   |(obtain⟨_,_,h⟩:=ah.1 y;cases h;done)
   |(repeat' split at y)<;>first|(cases y;done)|contradiction|(obtain⟨_,_,h⟩:=ah.1 y;first|(cases h;done)|(split at h<;>cases h;done)))
theorem xfK{o:Oper}{z:LAa}{b:Nat}{q r:Arg}(y:bn P o=some (.app z b q r)):∃E,o.op= .call E/\E.callee= .builtin .append:=by
 cases ho:o.op with
 |call E=>
  refine⟨E,rfl, ?_⟩;cases hb:E.callee with
  |builtin F=>
   cases F with
   |append=>rfl
   |_=>
    exfalso;simp only[bn,ho,hb]at y
    first
     |(cases y;done)
     |(repeat' split at y)<;>first|(cases y;done)|contradiction
  |_=>
   exfalso;simp only[bn,ho,hb]at y
   first
    |(cases y;done)
    |(repeat' split at y)<;>first|(cases y;done)|contradiction
 |_=>exfalso;exact absurd y (by
  intro y;simp only[bn,ho]at y
  first
   |(cases y;done)
   |(obtain⟨_,_,h⟩:=ah.1 y;cases h;done)
   |(repeat' split at y)<;>first|(cases y;done)|contradiction|(obtain⟨_,_,h⟩:=ah.1 y;first|(cases h;done)|(split at h<;>cases h;done)))
theorem aL.newObjF(hM:aL C x s a w){d:Nat}(E:LAc)(y:100<=d){cv:LAe}{t:TypeId}{fl fh:Nat}(obj:aC){val:SV}{u:Value}(U:∀i,i<cv.size->¬(fl<=i/\i<fh))(L:obj.size<=cv.size)(F:∀k,k<obj.size->co x obj k (cv.getD k undef))
 (z:obj.arrB=true->¬(fl<=cv.size/\cv.size<fh)) (J:Rep (x.newO d w.heap.size cv.size) val u) {w':World} (O:w'.heap=(w.alloc (.cells cv t (fl,fh))).heap) (I:w'.os=w.os) (H:w'.tape=w.tape) (Q:w'.output=w.output):
 aL C (x.newO d w.heap.size cv.size) (((s.purge d (d+1)).addO d (obj.purge d (d+1))).put E val) (a.put E u) w':=by
 refine aL.put ⟨?_,hM.defers, ?_⟩ E J
 ·exact cD.mono (x:=x) (x':=x.newO d w.heap.size cv.size) (lo:=d) (hi:=d+1) (fun _ _ _ h=>h) (Sit.newO_ne x d _) (fun _ _=>rfl) hM.tm
 ·exact cY.congr (w:=w.alloc (.cells cv t (fl,fh))) (hM.heap.allocO d y obj U L F (aN _) z) O I H Q
theorem aL.drew(hM:aL C x s a w):aL C x s a w.drew:=⟨hM.tm,hM.defers,hM.heap.drew⟩
theorem wC{o:Oper}{q:Arg}(h:M C N c a w)(hr:bn P o=some (.s2b q))(hd:∀k,o.dst=some k->k<N)(F:RF c o.dst (c.ev q)=some c'){K:LBc}{Q:LBb}(hK:∀a w,M C N c' a w->K a w):o.wp P a w K Q:=by
 obtain⟨x,s,hM,Z⟩:=h;unfold RF at F;split at F<;>try (cases F;done)
 rename_i k l hk hl;cases F;obtain⟨a0,dst,X,e,ho,hs,H,h8,hX⟩:=GO hr;have J:=ja h8;have W:=aK hM hX;rw[Z.ev,hl]at W;have hf:(Question.appendCap (ByteArray.mk ⟨l⟩).size 0 e).forced=false:=rfl
 obtain⟨cp,O,L⟩:∃cp,(Question.appendCap (ByteArray.mk ⟨l⟩).size 0 e).cut (w.tape w.drawn (Question.appendCap (ByteArray.mk ⟨l⟩).size 0 e))=cp/\l.length<=cp:=by
  refine⟨_,rfl, ?_⟩;simp only[Question.cut];have:(ByteArray.mk ⟨l⟩).size=l.length:=by simp[ByteArray.size]
  omega
 let cs:LAe:=(ByteArray.mk ⟨l⟩).data.map (fun b=> .int .u8 b.toNat)++dR (cp-(ByteArray.mk ⟨l⟩).size) (.int .u8 0)
 have E:(ByteArray.mk ⟨l⟩).size=l.length:=by simp[ByteArray.size]
 have U:cs.size=cp:=by simp[cs,E];omega
 have z:∀i,i<l.length->cs[i]? =some (.int .u8 (l.getD i 0).toNat):=by intro i hi;simp only[cs];rw[Array.getElem?_append_left (by simpa using hi)];simp[hi,aa]
 have y:(execOp a.eval o).run P w= .ok (.value (.slice (some ⟨w.heap.size,0,none⟩) l.length cp)) ((w.drew.alloc (.cells cs e (0,0))).freeze ⟨w.heap.size,cs.size,none⟩ 1):=by simp only[execOp,ho,W.str_inv,convert,ay,run_underlying hs,run_underlying H,aj,run_underlying J,Conv.stringToBytes,run_choose_drew,hf,aJ,if_false,O,newRow,run_newObj_alloc,aD];rw[ee (e:=e) (n:=cs.size) (by simp only[World.shape?];rw[dz])];simp only[aj,E];rfl
 have I:=hM.drew.newObjF (d:=k+100) o.dst (by omega) (.bar l) (cv:=cs) (t:=e) (fl:=cs.size) (fh:=cs.size+1) (val:= .psl (k+100) 1 0 l.length none) (u:= .slice (some ⟨w.heap.size,0,none⟩) l.length cp) (fun i hi h=>by omega) (by simp only[aC.size];omega) (fun i hi=>by
  simp only[aC.size]at hi;show cL x.G (.u8 (l.getD i 0)) _;have:cs.getD i undef= .int .u8 (l.getD i 0).toNat:=by rw[bh,z i hi];rfl
  rw[this];exact .u8 _) (fun h=>by cases h) (by
  have:=Rep.psl (x:=x.newO (k+100) w.drew.heap.size cs.size) (k+100) 1 0 l.length none 0 cp (.inr rfl) L (fun _ e=>by cases e) (fun _=> .inr (by rw[mp,U];omega));rw[i5]at this;exact this) (gx w.drew cs e) rfl rfl rfl
 refine cU ⟨_,_,_,_,y,.inl rfl,I⟩ (k:=Sim N _) ?_ hK;have:=Z.app hd (e:= {val:= .psl (k+100) 1 0 l.length none,new:=some (.bar l)}) (f:= {pre:=True,val:= .psl (k+100) 1 0 l.length none,new:=some (.bar l)}) ⟨rfl,rfl,rfl,rfl,rfl⟩ ⟨fun ob J=>by cases J;rfl,.inl rfl⟩;rw[hk]at this ⊢;exact this
theorem vQ{o:Oper}{q:Arg}(h:M C N c a w)(hr:bn P o=some (.s2b q))(hd:∀k,o.dst=some k->k<N)(I:QE c o.dst (c.ev q)=some c'){K:LBc}{Q:LBb}(hK:∀a w,M C N c' a w->K a w):o.wp P a w K Q:=by
 obtain⟨x,s,hM,hS⟩:=h;unfold QE at I;split at I<;>try (cases I;done)
 rename_i k l hk hl;cases I;obtain⟨a4,dst,X,e,ho,hs,J,h8,hX⟩:=GO hr;have U:=ja h8;have h1:=aK hM hX;rw[hS.ev,hl]at h1;have hf:(Question.appendCap (ByteArray.mk ⟨l⟩).size 0 e).forced=false:=rfl
 obtain⟨cp,a1,W⟩:∃cp,(Question.appendCap (ByteArray.mk ⟨l⟩).size 0 e).cut (w.tape w.drawn (Question.appendCap (ByteArray.mk ⟨l⟩).size 0 e))=cp/\l.length<=cp:=by
  refine⟨_,rfl, ?_⟩;simp only[Question.cut];have:(ByteArray.mk ⟨l⟩).size=l.length:=by simp[ByteArray.size]
  omega
 let cs:LAe:=(ByteArray.mk ⟨l⟩).data.map (fun b=> .int .u8 b.toNat)++dR (cp-(ByteArray.mk ⟨l⟩).size) (.int .u8 0)
 have H:(ByteArray.mk ⟨l⟩).size=l.length:=by simp[ByteArray.size]
 have a3:cs.size=cp:=by simp[cs,H];omega
 have E:∀i,i<l.length->cs[i]? =some (.int .u8 (l.getD i 0).toNat):=by intro i hi;simp only[cs];rw[Array.getElem?_append_left (by simpa using hi)];simp[hi,aa]
 have z:(execOp a.eval o).run P w= .ok (.value (.slice (some ⟨w.heap.size,0,none⟩) l.length cp)) ((w.drew.alloc (.cells cs e (0,0))).freeze ⟨w.heap.size,cs.size,none⟩ 1):=by simp only[execOp,ho,h1.str_inv,convert,ay,run_underlying hs,run_underlying J,aj,run_underlying U,Conv.stringToBytes,run_choose_drew,hf,aJ,if_false,a1,newRow,run_newObj_alloc,aD];rw[ee (e:=e) (n:=cs.size) (by simp only[World.shape?];rw[dz])];simp only[aj,H];rfl
 have hG:∀o,x.G w.heap.size o=none:=by
  intro o;cases hg:x.G w.heap.size o with
  |none=>rfl
  |some v=>exact absurd (hM.heap.ltG hg) (by omega)
 have a0:=hM.heap.newD_le cs l.length;have hH:cY C (x.newD w.heap.size cs l.length) s.ob s.tk (w.drew.alloc (.cells cs e (cs.size,cs.size+1))):=hM.heap.drew.allocD l.length;have F:eS (w.drew.alloc (.cells cs e (cs.size,cs.size+1))) w.heap.size cs e cs.size (cs.size+1):=⟨dz (w:=w.drew),fun i _ h=>by omega⟩
 have Z:cY C ((x.newD w.heap.size cs l.length).newT (k+100) w.heap.size l.length cp) (bz (k+100) (k+100+1) s.ob) ((k+100)::cy (k+100) (k+100+1) s.tk) (w.drew.alloc (.cells cs e (cs.size,cs.size+1))):=by
  refine hH.addT (k+100) w.heap.size _ _ (.inr ⟨⟨cs,e,_,_,F,by omega⟩,hM.heap.new _ hM.heap.size,fun o h1 h2=> ?_⟩) (.inr fun p hp _=> ?_) (.inr fun u hu _=> ?_)
  ·simp only[Sit.newD];rw[if_neg (by omega)];exact hG o
  ·obtain⟨⟨c2,e2,O,a2,y,_⟩,_⟩:=hM.heap.obs p hp
   have:=y.lt;show w.heap.size≠(x.bk p.1).1;omega
  ·rcases hM.heap.tks u hu with h|⟨⟨c2,e2,O,a2,y,_⟩,_⟩
   ·exact .inr h
   ·have:=y.lt
    exact .inl (by show w.heap.size≠(x.τ u).1;omega)
 have L:aL C ((x.newD w.heap.size cs l.length).newT (k+100) w.heap.size l.length cp) ((s.grew .no (k+100)).put o.dst (.byt l (.id (k+100)))) (a.put o.dst (.slice (some ⟨w.heap.size,0,none⟩) l.length cp)) ((w.drew.alloc (.cells cs e (0,0))).freeze ⟨w.heap.size,cs.size,none⟩ 1):=by
  refine aL.put ⟨?_,hM.defers, ?_⟩ o.dst ?_
  ·exact cD.mono (x:=x) (x':=(x.newD w.heap.size cs l.length).newT (k+100) w.heap.size l.length cp) (lo:=k+100) (hi:=k+100+1) a0 (fun _ _=>rfl) (Sit.newT_ne (x.newD w.heap.size cs l.length) (k+100) _ _ _) hM.tm
  ·exact cY.congr (w:=w.drew.alloc (.cells cs e (cs.size,cs.size+1))) Z (gx w.drew cs e) rfl rfl rfl
  ·refine .dat _ _ (.byt l _ w.heap.size 0 cp l.length rfl W fun i hi=> ?_) ⟨_,l.length,cp,rfl,.inr ⟨w.heap.size,0,rfl, ?_⟩⟩
   ·show(x.newD w.heap.size cs l.length).G w.heap.size (0+i)=_
    simp only[Sit.newD];rw[if_pos ⟨trivial,by omega⟩,cj];exact E i hi
   ·rw[Sit.newT_eq,db,db,cj,cj]
 refine cU ⟨_,_,_,_,z,.inl rfl,L⟩ (k:=Sim N _) ?_ hK;have:=hS.app hd (e:= {val:= .byt l (.id (k+100)),tok:=true}) (f:= {pre:=True,val:= .byt l (.id (k+100)),tok:=true}) ⟨rfl,rfl,rfl,rfl,rfl⟩ ⟨fun ob U=>(by cases U),.inl rfl⟩;rw[hk]at this ⊢;exact this
theorem rX(hM:aL C x s a w){t u I:TypeId}{d2:TypeDesc}{n F:Nat}{zs:LAd}(hd:P.underlying t=some (.slice I))(hu:P.underlying u=some d2)(a9:(∃e',d2= .slice e')\/d2= .string)(hn:fi P I=some n)(hb:s7 P I=some F)
 (hz:fQ P I=some zs) (hb0:F≠0) (hzl:zs.length=n) {ty:TypeId} {X Y:Value} {fl h:LAa} {ns:LAd} {len m cap:Nat} (hX:CL x.G n fl X len cap)
 (a1:∀w',w'.heap=w.heap->(Builtin.lenOf Y).run P w'= .ok m w') (H:∀w',w'.heap=w.heap->(Builtin.firstCells n m Y).run P w'= .ok ns.toArray w') (b2:ns.length=m*n) (y:New x ns h) (J:(len+m)*F<=140737488355328) (hc:¬len+m<=cap):
 ∃Q cv,len+m<=Q/\(Builtin.append_ #[t,u] ty #[X,Y]).run P w= .ok (.slice (some ⟨w.heap.size,0,none⟩) (len+m) Q) (w.drew.alloc (.cells cv I (0,0)))/\((fl++h).length<=cv.size/\Q*n<=cv.size)/\∀k,k<(fl++h).length->cL x.G ((fl++h).getD k .undef) (cv.getD k undef):=by
 obtain⟨a2,b8,W⟩:=hX;obtain⟨z,a7,b3⟩:=cG hz
 obtain⟨i,hi,b5⟩:∃i,P.info? I=some i/\i.bytes=F:=by
  unfold s7 at hb;cases hi:P.info? I with
  |none=>simp[hi]at hb
  |some i=>simp[hi]at hb;exact⟨i,rfl,hb⟩
 obtain⟨bs,a5⟩:∃bs,X= .slice bs len cap:=by
  rcases W with⟨b,off,rfl,_⟩|⟨⟨a,rfl⟩,rfl,rfl⟩
  ·exact⟨_,rfl⟩
  ·exact⟨_,rfl⟩
 subst a5;have b7:h.length=m*n:=by rw[y.len,b2]
 obtain⟨os,b4,E,a0⟩:∃os:LAd,(∀w',w'.heap=w.heap->(Builtin.firstCells n len (.slice bs len cap)).run P w'= .ok os.toArray w')/\os.length=fl.length/\∀k,k<fl.length->cL x.G (fl.getD k .undef) (os.getD k undef):=by
  rcases W with⟨b,off,L,hr⟩|⟨L,h1,h2⟩
  ·simp only[Value.slice.injEq]at L
   obtain⟨rfl,_⟩:=L;refine⟨(bU (len*n)).map fun k=>(w.cell? ⟨b,off+k,none⟩).getD undef,fun w' a3=> ?_,by simp[a2],fun k U=> ?_⟩
   ·simp only[Builtin.firstCells]
    refine run_loadCells w' _ _ _ fun j hj=> ?_
    rw[da,dh (w:=w) (by rw[a3])];obtain⟨v,hv,_⟩:=hr j (by omega);rw[hM.heap.per _ _ _ hv];rfl
   ·obtain⟨v,hv,b6⟩:=hr k U
    have:((bU (len*n)).map fun k=>(w.cell? ⟨b,off+k,none⟩).getD undef).getD k undef=v:=by rw[aa];simp[show k<len*n from by omega,hM.heap.per _ _ _ hv]
    rw[this];exact b6
  ·obtain⟨a,L⟩:=L
   simp only[Value.slice.injEq]at L;obtain⟨rfl,rfl,_⟩:=L;have:fl=[]:=cA.1 (by rw[<-a2,h1,gz]);subst this;exact⟨[],fun w' _=>by cases bs<;>simp only[Builtin.firstCells,gz]<;>rfl,rfl,fun k U=>by simp at U⟩
 obtain⟨Q,a8,Z⟩:=im (t:=t) (u:=u) (ty:=ty) (Y:=Y) hd hu a9 hn hi b5 hb0 b3 a1 H b4 hc J;refine⟨Q,_,a8,Z, ?_,fun k U=> ?_⟩
 ·have a6:z.cells.size=n:=by rw[<-aO,a7];exact hzl
  have e3:len*n+m*n+(Q-(len+m))*n=Q*n:=by rw[<-bA,<-bA];congr 1;omega
  simp only[ac,Array.size_append,List.size_toArray,E,<-y.len,dS,a6];omega
 ·have a4:k<os.length+ns.length:=by rw[E,<-y.len,<-ac];exact U
  rw[bh,iw os ns _ k a4]
  by_cases O:k<fl.length
  ·have e1:(fl++h).getD k .undef=fl.getD k .undef:=by simp only[aa,bc O]
   have e2:((os++ns)[k]?).getD undef=os.getD k undef:=by simp only[aa,bc (show k<os.length by omega)]
   rw[e1,e2];exact a0 k O
  ·have e1:(fl++h).getD k .undef=h.getD (k-fl.length) .undef:=by simp only[aa,bq (Nat.le_of_not_lt O)]
   have e2:((os++ns)[k]?).getD undef=ns.getD (k-fl.length) undef:=by simp only[aa,bq (show os.length<=k by omega),E]
   rw[e1,e2];exact y.rep _ (by rw[ac]at U;omega)
theorem kK{n:Nat}{fl:LAa}{X:Value}{len cap:Nat}(hX:CL x.G n fl X len cap)(y:dk x n .clip X):cap=len:=by
 obtain⟨a,k,E⟩:=y;obtain⟨_,_,z⟩:=hX;rcases z with⟨b,off,h,_⟩|⟨h,h1,h2⟩
 ·rw[h]at E;simp only[Value.slice.injEq]at E;omega
 ·omega
theorem jZ(o:Nat)(obj:aC):∀l:List (Nat×aC),bz o (o+1) (setO o obj l)=bz o (o+1) l
 |[]=>rfl
 |p::r=>by
  simp only[setO]
  by_cases h:p.1=o
  ·rw[if_pos h]
   simp only[bz];rw[if_pos (by omega),if_pos (by omega)]
  ·rw[if_neg h]
   simp only[bz];rw[if_neg (by omega),if_neg (by omega),jZ o obj r]
theorem wA{o:Oper}{z:LAa}{h7 F sz n:Nat}{r q:Arg}(h:M C N c a w)(hr:bn P o=some (.app z h7 r q))(hd:∀k,o.dst=some k->k<N)(hx:c.ev r= .psl F sz 0 n none)
 (hc:OC c z h7 F sz n o.dst (fE c z.length (.psl F sz 0 n none)) (fE c z.length (c.ev q)) (dN c (.psl F sz 0 n none)) (dN c (c.ev q))=some c') {K:LBc} {Q:LBb} (hK:∀a w,M C N c' a w->K a w):o.wp P a w K Q:=by
 obtain⟨x,s,hM,hS⟩:=h;obtain⟨X,Y,t,u,el,d2,zs,I,b8,_⟩:=Td hr (.inl rfl) a;have b8:=b8 rfl;have h1:=aK hM I.hX;have h2:=aK hM I.hY;rw[hS.ev,hx]at h1;unfold OC at hc;split at hc<;>try (cases hc;done)
 ·rename_i k L E hk a2 f1
  rw[aF]at hc;obtain⟨⟨rfl,J,b3⟩,hc⟩:=hc;obtain⟨p0,c6,f2⟩:=ki hS a2;obtain⟨p1,a5,f3⟩:=ki hS f1;rw[<-hS.ev]at a5;obtain⟨os,g0,n0,s0⟩:=py (P:=P) hM h1 c6 f2;obtain⟨ns,g1,n1,s1⟩:=py (P:=P) hM h2 a5 f3
  obtain⟨W,hl,h5,b6⟩:∃W,c.look F=some (.arr z.length W)/\n<=W.length/\L=W.take n:=by
   simp only[fE]at a2;split at a2
   ·rename_i i3 W hl
    obtain⟨⟨_,e1,e2⟩,e3⟩:=bG a2;exact⟨W,by rw[hl,<-e1],by omega,by rw[<-e3];rfl⟩
   ·cases a2
  obtain⟨cp,g8,U,d7,a6,d6⟩:=h1.psl_invK;have a8:ns.length=E.length*z.length:=by rw[<-n1.len,bE g1]
  have c4:os.length=n*z.length:=by rw[<-n0.len,bE g0,J]
  have b4:s.look F=some (.arr z.length W):=(hS.look F).trans hl;obtain⟨cc,e,fl,fh,hO,⟨h9,d4,g6⟩,a4⟩:=ei hM b4;have b2:∀y∈L++E,y.length=z.length:=fun y hy=>(ak.1 hy).elim (g0 y) (g1 y)
  have i1:∀y∈W,y.length=z.length:=hS.rows hl;have hN:=n0.append n1;rw[<-b9]at hN;have H:(aC.arr z.length (L++E)).size=(n+E.length)*z.length:=by simp only[aC.size,ac,J]
  have O:=(hS.purge F (F+1)).app (d:=o.dst) hd (e:= {val:= .psl (k+100) z.length 0 (n+E.length) none,new:=some (.arr z.length (L++E))}) (f:= {pre:=True,val:= .psl (k+100) z.length 0 (n+E.length) none,new:=some (.arr z.length (L++E))}) ⟨rfl,rfl,rfl,rfl,rfl⟩ ⟨fun ob he=>by cases he;exact iY.2 b2,.inl rfl⟩;have e0:=aq.inj hc;subst e0;have b5:=I.ex;rw[d7]at b5;have e5:(n+E.length)*z.length=n*z.length+E.length*z.length:=bA _ _ _
  by_cases Z:n+E.length<=cp
  ·have a9:n*z.length+ns.length<=cc.size:=by
    rcases d6 with h0|h0
    ·have h3:n=0:=by omega
     have h4:E.length=0:=by omega
     rw[a8,h3,h4];omega
    ·have h3:(n+E.length)*z.length<=cp*z.length:=bv _ Z
     rw[a8];omega
   obtain⟨q1,q2,q3,q4,q5⟩:=eW ((x.bk F).1) ns w (n*z.length);obtain⟨c2,e8,c3,g3⟩:=ez ns w (n*z.length) cc hO a9
   have g4:aL C x (s.setO F (.arr z.length (L++E))) a (cn w ((x.bk F).1) (n*z.length) ns):=
    ⟨hM.tm,hM.defers,hM.heap.block (cR b4) q1 q2 q3 q4 q5 ⟨c2,e,fl,fh,e8,⟨by rw[H,c3];omega,by rw[c3];exact d4,fun h=>by rw[c3];exact g6 rfl⟩,fun i hi=>by
     rw[H]at hi;rw[g3 i];have i2:i<(L++E).length*z.length:=by rw[ac,J];exact hi
     show cL x.G ((((L++E)).getD (i/z.length) []).getD (i % z.length) .undef) _;rw[<-cI _ b2 i i2,b9];have g9:L.flatten.length=n*z.length:=by rw[bE g0,J]
     by_cases b7:n*z.length<=i
     ·rw[if_pos ⟨b7,by omega⟩]
      have:=n1.rep (i-n*z.length) (by rw[bE g1];omega);rw[aa,bq (by omega),g9,<-aa];exact this
     ·rw[if_neg (fun h=>b7 h.1)]
      have i4:n*z.length<=W.length*z.length:=bv _ h5;have h3:=a4 i (by simp only[aC.size];omega);change cL x.G ((W.getD (i/z.length) []).getD (i % z.length) .undef) _ at h3;rw[<-cI W i1 i (by omega)]at h3;rw[aa,bc (by omega),b6]
      have e6:W.flatten[i]? =(W.take n).flatten[i]? :=by
       have:W.flatten=(W.take n).flatten++(W.drop n).flatten:=by rw[<-b9,ke]
       rw[this,bc (by rw[<-b6];omega)]
      rw[<-e6,<-aa];exact h3⟩⟩
   have d3:=g4.move (d:=k+100) (by omega) (obj:= .arr z.length (L++E)) (by show(setO F _ s.ob).lookup F=_;have h3:s.ob.lookup F=some (.arr z.length W):=b4;rw[iq,if_pos ⟨rfl,by rw[h3];rfl⟩]) (fun cs e=>by cases e)
   have g2:(s.setO F (.arr z.length (L++E))).purge F (F+1)=s.purge F (F+1):=by simp only[St.purge,St.setO,jZ]
   rw[g2]at d3;have c7:(x.newO (k+100) (x.bk F).1 (x.bk F).2).bk (k+100)=x.bk F:=if_pos rfl
   have hv:Rep (x.newO (k+100) (x.bk F).1 (x.bk F).2) (.psl (k+100) z.length 0 (n+E.length) none) (.slice (some ⟨(x.bk F).1,U,none⟩) (n+E.length) cp):=by have:=Rep.psl (x:=x.newO (k+100) (x.bk F).1 (x.bk F).2) (k+100) z.length 0 (n+E.length) none U cp a6 Z (fun _ e=>by cases e) (fun _=>by rw[c7];exact d6);rw[c7]at this;exact this
   have f0:=d3.put o.dst hv
   have a3:=fS (P:=P) (t:=t) (u:=u) (ty:=o.type) (Y:=a.eval Y) (bs:=some ⟨(x.bk F).1,U,none⟩) (len:=n) (m:=E.length) (cap:=cp) (w1:=cn w ((x.bk F).1) (n*z.length) ns) I.hd I.hu b8 I.hn (s1.len w rfl) (s1.cells w rfl) Z (by
    simp only[da]
    by_cases g5:cp=0
    ·have:ns=[]:=cA.1 (by
      rw[a8];have:E.length=0:=by omega
      rw[this,gz])
     rw[this];simp[storeCells,cn]
    ·rw[a6.resolve_left g5,gz,cj]
     exact ey (n*z.length) ns w cc 0 hO (by omega) n1.one)
   refine cU ⟨_,_,_,.value _, ?_,.inl rfl,f0⟩ (k:=Sim N _) ?_ hK
   ·rw[b5];simp only[ay,a3,aj,aD]
   ·rw[hk]at O ⊢
    exact O
  ·obtain⟨i,hi,f4⟩:=rW I.hby
   obtain⟨zv,f6,e4⟩:=cG I.hz
   obtain⟨nc,d5,a3⟩:=im (P:=P) (t:=t) (u:=u) (ty:=o.type) (Y:=a.eval Y) (bs:=some ⟨(x.bk F).1,U,none⟩) (len:=n) (m:=E.length) (cap:=cp) (os:=os) (ns:=ns) I.hd I.hu b8 I.hn hi f4 I.hb0 e4 s1.len s1.cells (by have:=s0.cells;rw[d7,J]at this;exact this) Z b3
   have f7:zv.cells.size=z.length:=by rw[<-aO,f6];exact I.hzl.symm
   have a7:(os.toArray++ns.toArray++Builtin.zeroCells zv.cells (nc-(n+E.length))).size=nc*z.length:=by simp only[Array.size_append,List.size_toArray,dS,f7,c4,a8];rw[<-bA,<-bA];congr 1;omega
   have e9:=(hM.purge F (F+1)).drew.newObjF (d:=k+100) o.dst (by omega) (.arr z.length (L++E)) (cv:=os.toArray++ns.toArray++Builtin.zeroCells zv.cells (nc-(n+E.length))) (t:=el) (fl:=0) (fh:=0) (val:= .psl (k+100) z.length 0 (n+E.length) none) (u:= .slice (some ⟨w.heap.size,0,none⟩) (n+E.length) nc) (fun i hi h=>by omega) (by
    rw[H,a7];exact bv _ d5) (fun i hi=>by
    rw[H]at hi;have h3:=DY b2 hN i (by rw[ac,J];exact hi)
    have e7:(os.toArray++ns.toArray++Builtin.zeroCells zv.cells (nc-(n+E.length))).getD i undef=(⟨os++ns⟩:LAe).getD i undef:=by rw[bh,iw os ns _ i (by rw[c4,a8];omega),bh];simp
    rw[e7];exact h3) (fun _ h=>by omega) (by
    have:=Rep.psl (x:=x.newO (k+100) w.drew.heap.size (os.toArray++ns.toArray++Builtin.zeroCells zv.cells (nc-(n+E.length))).size) (k+100) z.length 0 (n+E.length) none 0 nc (.inr (by omega)) d5 (fun _ e=>by cases e) (fun _=> .inr (by rw[mp,a7];omega));rw[i5]at this;exact this) (w':=w.drew.alloc (.cells (os.toArray++ns.toArray++Builtin.zeroCells zv.cells (nc-(n+E.length))) el (0,0))) rfl rfl rfl rfl
   refine cU ⟨_,_,_,.value _, ?_,.inl rfl,e9⟩ (k:=Sim N _) ?_ hK
   ·rw[b5];simp only[ay,a3,aj,aD]
   ·rw[hk]at O ⊢
    exact O
 ·rename_i k L E hk _ a2 f1
  rw[aF]at hc;obtain⟨⟨g7,rfl,J,b3⟩,hc⟩:=hc;obtain⟨p0,c6,f2⟩:=iW hS a2;obtain⟨p1,a5,f3⟩:=iW hS f1;rw[<-hS.ev]at a5;obtain⟨a0,b0⟩:=eZ (P:=P) hM h1 c6 f2;obtain⟨a1,b1⟩:=eZ (P:=P) hM h2 a5 f3
  obtain⟨W,hl,h5,b6⟩:∃W,c.look F=some (.bar W)/\n<=W.length/\L=W.take n:=by
   simp only[dN]at a2;split at a2
   ·rename_i W hl
    obtain⟨⟨_,e2⟩,e3⟩:=bG a2;exact⟨W,hl,by omega,by rw[<-e3];rfl⟩
   ·cases a2
  obtain⟨cp,g8,U,d7,a6,d6⟩:=h1.psl_invK;have d9:=kH (x:=x) E;have i0:=kH (x:=x) L;have a8:(E.map fun b=>Value.int .u8 b.toNat).length=E.length:=aS ..;have c4:(L.map fun b=>Value.int .u8 b.toNat).length=n:=by rw[aS,J]
  have h6:∀w':World,w'.heap=w.heap->(Builtin.firstCells 1 n (a.eval X)).run P w'= .ok (L.map fun b=>Value.int .u8 b.toNat).toArray w':=fun w' f9=>by have:=b0 n (by omega) w' f9;rwa[bB (by omega)]at this
  have h8:∀w':World,w'.heap=w.heap->(Builtin.firstCells 1 E.length (a.eval Y)).run P w'= .ok (E.map fun b=>Value.int .u8 b.toNat).toArray w':=fun w' f9=>by have:=b1 E.length (aN _) w' f9;rwa[bi]at this
  generalize (E.map fun b=>Value.int .u8 b.toNat)=ns at*;generalize (L.map fun b=>Value.int .u8 b.toNat)=os at*;have b4:s.look F=some (.bar W):=(hS.look F).trans hl;obtain⟨cc,e,fl,fh,hO,⟨h9,d4, -⟩,a4⟩:=ei hM b4;simp only[aC.size]at h9 a4;have H:(aC.bar (L++E)).size=n+E.length:=by simp only[aC.size,ac,J]
  have O:=(hS.purge F (F+1)).app (d:=o.dst) hd (e:= {val:= .psl (k+100) 1 0 (n+E.length) none,new:=some (.bar (L++E))}) (f:= {pre:=True,val:= .psl (k+100) 1 0 (n+E.length) none,new:=some (.bar (L++E))}) ⟨rfl,rfl,rfl,rfl,rfl⟩ ⟨fun ob he=>by cases he;rfl,.inl rfl⟩;have e0:=aq.inj hc;subst e0;have b5:=I.ex;rw[d7]at b5 h6;have d8:=I.hn;rw[g7]at d8
  by_cases Z:n+E.length<=cp
  ·have a9:n+ns.length<=cc.size:=by
    rcases d6 with h0|h0
    ·omega
    ·omega
   obtain⟨q1,q2,q3,q4,q5⟩:=eW ((x.bk F).1) ns w n;obtain⟨c2,e8,c3,g3⟩:=ez ns w n cc hO a9
   have g4:aL C x (s.setO F (.bar (L++E))) a (cn w ((x.bk F).1) n ns):=
    ⟨hM.tm,hM.defers,hM.heap.block (cR b4) q1 q2 q3 q4 q5 ⟨c2,e,fl,fh,e8,⟨by rw[H,c3];omega,by rw[c3];exact d4,fun h=>by cases h⟩,fun i hi=>by
     rw[H]at hi;rw[g3 i];show cL x.G (.u8 ((L++E).getD i 0)) _
     by_cases b7:n<=i
     ·rw[if_pos ⟨b7,by omega⟩]
      have:=d9.rep (i-n) (by rw[aS];omega);rw[eB _ _ (by omega:i-n<E.length)]at this;rw[aa,bq (by omega),J,<-aa];exact this
     ·rw[if_neg (fun h=>b7 h.1)]
      have h3:=a4 i (by omega);change cL x.G (.u8 (W.getD i 0)) _ at h3;rw[aa,bc (by omega),b6,bJ,if_pos (by omega),<-aa];exact h3⟩⟩
   have d3:=g4.move (d:=k+100) (by omega) (obj:= .bar (L++E)) (by show(setO F _ s.ob).lookup F=_;have h3:s.ob.lookup F=some (.bar W):=b4;rw[iq,if_pos ⟨rfl,by rw[h3];rfl⟩]) (fun cs e=>by cases e)
   have g2:(s.setO F (.bar (L++E))).purge F (F+1)=s.purge F (F+1):=by simp only[St.purge,St.setO,jZ]
   rw[g2]at d3;have c7:(x.newO (k+100) (x.bk F).1 (x.bk F).2).bk (k+100)=x.bk F:=if_pos rfl
   have hv:Rep (x.newO (k+100) (x.bk F).1 (x.bk F).2) (.psl (k+100) 1 0 (n+E.length) none) (.slice (some ⟨(x.bk F).1,U,none⟩) (n+E.length) cp):=by have:=Rep.psl (x:=x.newO (k+100) (x.bk F).1 (x.bk F).2) (k+100) 1 0 (n+E.length) none U cp a6 Z (fun _ e=>by cases e) (fun _=>by rw[c7];exact d6);rw[c7]at this;exact this
   have f0:=d3.put o.dst hv
   have a3:=fS (P:=P) (t:=t) (u:=u) (ty:=o.type) (Y:=a.eval Y) (bs:=some ⟨(x.bk F).1,U,none⟩) (len:=n) (m:=E.length) (cap:=cp) (w1:=cn w ((x.bk F).1) n ns) I.hd I.hu b8 d8 (a1 w rfl) (h8 w rfl) Z (by
    simp only[da]
    by_cases g5:cp=0
    ·have:ns=[]:=cA.1 (by omega)
     rw[this];simp[storeCells,cn]
    ·rw[a6.resolve_left g5,gz,cj,db]
     exact ey n ns w cc 0 hO (by omega) d9.one)
   refine cU ⟨_,_,_,.value _, ?_,.inl rfl,f0⟩ (k:=Sim N _) ?_ hK
   ·rw[b5];simp only[ay,a3,aj,aD]
   ·rw[hk]at O ⊢
    exact O
  ·obtain⟨i,hi,f4⟩:=rW I.hby
   obtain⟨zv,f6,e4⟩:=cG I.hz;obtain⟨nc,d5,a3⟩:=im (P:=P) (t:=t) (u:=u) (ty:=o.type) (Y:=a.eval Y) (bs:=some ⟨(x.bk F).1,U,none⟩) (len:=n) (m:=E.length) (cap:=cp) (os:=os) (ns:=ns) I.hd I.hu b8 d8 hi f4 I.hb0 e4 a1 h8 h6 Z b3;have f7:zv.cells.size=1:=by rw[<-aO,f6,<-g7];exact I.hzl.symm
   have a7:(os.toArray++ns.toArray++Builtin.zeroCells zv.cells (nc-(n+E.length))).size=nc:=by simp only[Array.size_append,List.size_toArray,dS,f7,c4,a8];omega
   have e9:=(hM.purge F (F+1)).drew.newObjF (d:=k+100) o.dst (by omega) (.bar (L++E)) (cv:=os.toArray++ns.toArray++Builtin.zeroCells zv.cells (nc-(n+E.length))) (t:=el) (fl:=0) (fh:=0) (val:= .psl (k+100) 1 0 (n+E.length) none) (u:= .slice (some ⟨w.heap.size,0,none⟩) (n+E.length) nc) (fun i hi h=>by omega) (by
    rw[H,a7];exact d5) (fun i hi=>by
    rw[H]at hi;show cL x.G (.u8 ((L++E).getD i 0)) _;rw[bh,iw os ns _ i (by rw[c4,a8];omega)]
    by_cases b7:i<n
    ·rw[bc (by omega),<-aa]
     have:=i0.rep i (by rw[aS];omega);rw[eB _ _ (by omega:i<L.length)]at this;rw[aa (l:=L++E),bc (by omega),<-aa];exact this
    ·rw[bq (by omega),c4,<-aa]
     have:=d9.rep (i-n) (by rw[aS];omega);rw[eB _ _ (by omega:i-n<E.length)]at this;rw[aa (l:=L++E),bq (by omega),J,<-aa];exact this) (fun h _=>by cases h) (by
    have:=Rep.psl (x:=x.newO (k+100) w.drew.heap.size (os.toArray++ns.toArray++Builtin.zeroCells zv.cells (nc-(n+E.length))).size) (k+100) 1 0 (n+E.length) none 0 nc (.inr (by omega)) d5 (fun _ e=>by cases e) (fun _=> .inr (by rw[mp,a7];omega));rw[i5]at this;exact this) (w':=w.drew.alloc (.cells (os.toArray++ns.toArray++Builtin.zeroCells zv.cells (nc-(n+E.length))) el (0,0))) rfl rfl rfl rfl
   refine cU ⟨_,_,_,.value _, ?_,.inl rfl,e9⟩ (k:=Sim N _) ?_ hK
   ·rw[b5];simp only[ay,a3,aj,aD]
   ·rw[hk]at O ⊢
    exact O
theorem oK{o:Oper}{z:LAa}{b6:Nat}{r q:Arg}(h:M C N c a w)(L:bn P o=some (.app z b6 r q))(hd:∀k,o.dst=some k->k<N)(F:rq c o.dst z b6 q (c.ev r)=some c'){K:LBc}{Q:LBb}(hK:∀a w,M C N c' a w->K a w):o.wp P a w K Q:=by
 by_cases a9:∃o' Z n,c.ev r= .psl o' Z 0 n none
 ·obtain⟨o',Z,n,hx⟩:=a9
  rw[hx]at F;exact wA h L hd hx F hK
 obtain⟨x,s,hM,hS⟩:=h;obtain⟨cl,ho,hb⟩:=xfK L;simp only[bn,ho,hb]at L;split at L<;>try (cases L;done)
 rename_i X Y t u hX ht;split at L<;>try (cases L;done)
 rename_i el d2 r' q' a8 hu d5 d8;split at L<;>try (cases L;done)
 rename_i n d9 z' hn hby hz
 rw[aF]at L;obtain⟨a6,L⟩:=L;simp only[az,decide_eq_true_eq]at a6;obtain⟨⟨hb0,hn0⟩,d3⟩:=a6;obtain⟨zs,d4,e2,_⟩:=jg hz;have hzl:zs.length=n:=by omega
 obtain⟨a7,rfl,rfl,rfl,rfl⟩:((∃e',d2= .slice e')\/d2= .string)/\z'=z/\d9=b6/\r'=r/\q'=q:=by
  split at L<;>try (cases L;done)
  ·cases L;exact⟨.inl ⟨_,rfl⟩,rfl,rfl,rfl,rfl⟩
  ·rw[aF]at L
   obtain⟨_,L⟩:=L;cases L;exact⟨.inr rfl,rfl,rfl,rfl,rfl⟩
 have W:=aK hM d5;have h2:=aK hM d8;have ea:cl.args= #[X,Y]:=by apply dP;simpa using hX
 have et:cl.argTypes= #[t,u]:=by apply dP;simpa using ht
 have c3:=fA (a:=a) ho hb _ rfl;rw[ea,et]at c3;have em: #[X,Y].map a.eval= #[a.eval X,a.eval Y]:=by simp
 rw[em]at c3
 have U:∀{v w'},(Builtin.append_ #[t,u] o.type #[a.eval X,a.eval Y]).run P w= .ok v w'->(execOp a.eval o).run P w= .ok (.value v) w':=by intro v w' E;rw[c3];simp[E]
 rw[hS.ev]at W
 have fin:∀{k nc cv}(obj:aC)(Z m:Nat),o.dst=some k->m<=nc->(Builtin.append_ #[t,u] o.type #[a.eval X,a.eval Y]).run P w= .ok (.slice (some ⟨w.heap.size,0,none⟩) m nc) (w.drew.alloc (.cells cv el (0,0)))->
  obj.size<=cv.size->nc*Z<=cv.size->(∀i,i<obj.size->co x obj i (cv.getD i undef))->obj.wf=true->c'=c.app (some k) {val:= .psl (k+100) Z 0 m none,new:=some obj}->o.wp P a w K Q:=by
  intro k nc cv obj Z m hk a4 E a1 e3 H e0 d6;subst d6
  have e1:=hM.drew.newObjF (d:=k+100) o.dst (by omega) obj (cv:=cv) (t:=el) (fl:=0) (fh:=0) (val:= .psl (k+100) Z 0 m none) (u:= .slice (some ⟨w.heap.size,0,none⟩) m nc) (fun i hi h=>by omega) a1 H (fun _ h=>by omega) (by have:=Rep.psl (x:=x.newO (k+100) w.drew.heap.size cv.size) (k+100) Z 0 m none 0 nc (.inr (by omega)) a4 (fun _ e=>by cases e) (fun _=> .inr (by rw[mp];omega));rw[i5]at this;exact this) (w':=w.drew.alloc (.cells cv el (0,0))) rfl rfl rfl rfl
  refine cU ⟨_,_,_,_,U E,.inl rfl,e1⟩ (k:=Sim N _) ?_ hK;have:=hS.app hd (e:= {val:= .psl (k+100) Z 0 m none,new:=some obj}) (f:= {pre:=True,val:= .psl (k+100) Z 0 m none,new:=some obj}) ⟨rfl,rfl,rfl,rfl,rfl⟩ ⟨fun ob he=>by cases he;exact e0,.inl rfl⟩;rw[hk]at this ⊢;exact this
 unfold rq at F;split at F<;>try (cases F;done)
 ·rename_i l tk hl
  rw[aF]at F;obtain⟨rfl,F⟩:=F;unfold RE at F;split at F<;>try (cases F;done)
  rename_i k l' hk b7;split at F<;>try (cases F;done)
  rename_i c4;have c4:z'.length=1:=Classical.not_not.1 c4;obtain rfl:n=1:=by omega
  obtain⟨p,O,b8⟩:=iW hS b7;rw[<-hS.ev]at O;rw[hl]at W;obtain⟨g1,g2⟩:=eZ (P:=P) hM h2 O b8;obtain⟨_,_,_,_,_,a2⟩:=W.byt_inv;obtain⟨cap,hF,_⟩:=vk (W.data rfl)
  by_cases I:l'=[]
  ·rw[if_pos I]at F
   cases F;subst I
   obtain⟨bs,b5⟩:∃bs,a.eval X= .slice bs l.length cap:=by
    rcases hF.2.2 with⟨b,off,h,_⟩|⟨h,W,h2⟩
    ·exact⟨_,h⟩
    ·exact⟨_,by rw[h.choose_spec,W,h2]⟩
   have a5:=kK hF a2;rw[b5]at W U
   have E:=fS (P:=P) (t:=t) (u:=u) (ty:=o.type) (Y:=a.eval Y) (ns:=[]) (w:=w) (w1:=w) (m:=0) (bs:=bs) (len:=l.length) (cap:=cap) a8 hu a7 hn (g1 w rfl) (by have:=g2 0 (aN _) w rfl;simpa using this) (by omega) (by cases bs<;>rfl)
   refine cU ⟨_,_,_,_,U E,.inl rfl,hM.put o.dst W⟩ (k:=Sim N _) ?_ hK;have:=hS.put hd (.byt l .clip);rw[hk]at this ⊢;exact this
  ·rw[if_neg I]at F
   rw[aF]at F;obtain⟨⟨rfl,a3⟩,F⟩:=F;have a5:=kK hF a2;have c6:0<l'.length:=mi.2 I
   obtain⟨nc,cv,a4,E,a1,H⟩:=rX (ty:=o.type) hM a8 hu a7 hn hby d4 hb0 hzl hF g1 (fun w' b4=>by have:=g2 l'.length (aN _) w' b4;rwa[bi]at this) (by simp) (kH l') (by omega) (by omega)
   refine fin (.bar (l++l')) 1 _ hk a4 E (by simp only[aC.size];simpa using a1.1) a1.2 (fun i hi=> ?_) rfl (aq.inj F).symm;simp only[aC.size]at hi;have:=H i (by simpa using hi);rw[<-cV,eB _ _ hi]at this;exact this
 ·rename_i Z l tk hl
  rw[aF]at F;obtain⟨rfl,F⟩:=F;unfold RD at F;split at F<;>try (cases F;done)
  rename_i k l' hk b7;obtain⟨p,O,b8⟩:=ki hS b7;rw[<-hS.ev]at O;rw[hl]at W;obtain⟨a0,g1,ns,b2,g2⟩:=gO (P:=P) hM h2 O b8;obtain⟨_,_,_,_,_,a2⟩:=W.lst_inv;obtain⟨cap,hF,_,b3⟩:=pT (W.data rfl)
  by_cases I:l'=[]
  ·rw[if_pos I]at F
   cases F;subst I
   obtain⟨bs,b5⟩:∃bs,a.eval X= .slice bs l.length cap:=by
    rcases hF.2.2 with⟨b,off,h,_⟩|⟨h,W,h2⟩
    ·exact⟨_,h⟩
    ·exact⟨_,by rw[h.choose_spec,W,h2]⟩
   have a5:=kK hF a2;rw[b5]at W U
   have E:=fS (P:=P) (t:=t) (u:=u) (ty:=o.type) (Y:=a.eval Y) (ns:=[]) (w:=w) (w1:=w) (m:=0) (bs:=bs) (len:=l.length) (cap:=cap) a8 hu a7 hn (g1 w rfl) (by have:=g2 0 (aN _) w rfl;rw[d3]at this;simpa using this) (by omega) (by cases bs<;>rfl)
   refine cU ⟨_,_,_,_,U E,.inl rfl,hM.put o.dst W⟩ (k:=Sim N _) ?_ hK;have:=hS.put hd (.lst Z l .clip);rw[hk]at this ⊢;exact this
  ·rw[if_neg I]at F
   rw[aF]at F;obtain⟨⟨rfl,a3⟩,F⟩:=F;obtain rfl:n=z'.length:=by omega
   have a5:=kK hF a2;have c6:0<l'.length:=mi.2 I;have c7:ns.length=l'.length*z'.length:=by rw[<-b2.len,bE a0]
   obtain⟨nc,cv,a4,E,a1,H⟩:=rX (ty:=o.type) hM a8 hu a7 hn hby d4 hb0 hzl hF g1 (fun w' b4=>by have:=g2 l'.length (aN _) w' b4;rwa[<-c7,bi]at this) c7 b2 a3 (by omega)
   have J:∀y∈l++l',y.length=z'.length:=fun y hy=>(ak.1 hy).elim (b3 y) (a0 y)
   have d7:(l++l').length*z'.length=(l.flatten++l'.flatten).length:=by rw[<-b9,bE J]
   refine fin (.arr z'.length (l++l')) z'.length _ hk a4 E (by simp only[aC.size];omega) a1.2 (fun i hi=> ?_) (iY.2 J) (aq.inj F).symm;simp only[aC.size]at hi;have:=H i (by omega);rw[<-b9,cI _ J i hi]at this;exact this
 ·rename_i o' Z n hl
  exact absurd ⟨o',Z,n,hl⟩ a9
theorem rt(I:fZ P call){o:Oper}{so:SOp}(h:M C N c a w)(E:qZ P o so.er)(hd:∀k,o.dst=some k->k<N)(H:opC call sg c o.dst so=some c'){K:LBc}{Q:LBb}(hK:∀a w,M C N c' a w->K a w):o.wp P a w K Q:=by
 by_cases L:∃z b q y,so= .appO z b q y
 ·obtain⟨z,b,q,y,rfl⟩:=L
  exact oK h (E.old (by intro J e;cases e)) hd H hK
 have a2:so.er=so:=by cases so<;>first|rfl|exact absurd ⟨_,_,_,_,rfl⟩ L
 rw[a2]at E
 by_cases U:∃J,so= .newB J
 ·obtain⟨J,rfl⟩:=U
  rcases E with O|⟨ys,e,O⟩
  ·exact(FA O).elim
  ·cases e
   exact oO h O hd H hK
 have O:=E.old fun J e=>U ⟨J,e⟩
 by_cases W:∃q,so= .slid q
 ·obtain⟨q,rfl⟩:=W
  exact vZ h O hd H hK
 by_cases a1:∃f a_,so= .call f a_
 ·obtain⟨f,a_,rfl⟩:=a1
  simp only[opC]at H;split at H<;>try (cases H;done)
  rename_i g c1 c2 hg;obtain⟨x,s,hM,hS⟩:=h;obtain⟨cl,F,ho,hb,h1,h2,h3⟩:=Gy O;obtain⟨a6,a5,k',q',a4⟩:=w9 H;have a3:ej P g=true:=(I _ _ _ _ _ a4).1;obtain⟨vs,Z,a0⟩:=DN hM ho hb h1 h2 h3 (by rw[hS.ev];exact hg) a3;rw[<-hS.evL]at a0;exact ud Z (ut hM hS hd (I g) H a0) hK
 ·refine xgM h O hd ?_ hK
  cases so with
  |call f a_=>exact absurd ⟨f,a_,rfl⟩ a1
  |newB J=>exact absurd ⟨J,rfl⟩ U
  |slid q=>exact absurd ⟨q,rfl⟩ W
  |appO z b q y=>exact absurd ⟨_,_,_,_,rfl⟩ L
  |_=>exact H
theorem wB{o:Oper}{z:Nat}{U:List Arg}(h:M C N c a w)(E:bn P o=some (.lit z U))(hd:∀k,o.dst=some k->k<N)(J:RB c z o.dst (rows z (evL c U))=some c'){K:LBc}{Q:LBb}(hK:∀a w,M C N c' a w->K a w):o.wp P a w K Q:=by
 obtain⟨x,s,hM,W⟩:=h;rw[W.evL]at J;unfold RB at J;split at J<;>try (cases J;done)
 rename_i k l hk Z;cases J
 obtain⟨t,len,y,O⟩:∃t len y,o.op= .buildSlice t len y:=by
  cases O:o.op with
  |buildSlice t len y=>exact⟨t,len,y,rfl⟩
  |_=>exfalso;exact absurd E (by
   intro E;simp only[bn,O]at E
   first
    |(cases E;done)
    |(obtain⟨_,_,h⟩:=ah.1 E;cases h;done)
    |(repeat' split at E)<;>first|(cases E;done)|contradiction|(obtain⟨_,_,h⟩:=ah.1 E;first|(cases h;done)|(split at h<;>cases h;done)))
 obtain⟨r,e,I,a0,F,H⟩:=wj hM O E Z
 have L:=hM.newObj (d:=k+100) o.dst (by omega) (.arr z l) (val:= .psl (k+100) z 0 l.length (some l.length)) (u:= .slice (some ⟨w.heap.size,0,none⟩) l.length l.length) (t:=e) (by simp only[aC.size];omega) (fun i hi=>H i hi) (by have:=Rep.psl (x:=x.newO (k+100) w.heap.size) (k+100) z 0 l.length (some l.length) 0 l.length (.inr (by omega)) (aN _) (fun _ e=>by cases e;rfl) (fun e=>by cases e);rwa[i5]at this)
 refine cU ⟨_,_,_,_,I,.inl rfl,L⟩ (k:=Sim N _) ?_ hK;have:=W.app hd (e:= {val:= .psl (k+100) z 0 l.length (some l.length),new:=some (.arr z l)}) (f:= {pre:=True,val:= .psl (k+100) z 0 l.length (some l.length),new:=some (.arr z l)}) ⟨rfl,rfl,rfl,rfl,rfl⟩ ⟨fun ob he=>by cases he;exact iY.2 F,.inl rfl⟩;rw[hk]at this ⊢;exact this
theorem wz{ops:Array Oper}{n:Nat}{o:Oper}{i:SI}(h:M C N c a w)(hi:i.ok N=true)(Z:ops[n]? =some o)(L:fT P ops o=some i)(F:sI c i=some c'){K:LBc}{Q:LBb}
 (hK:∀a w,M C N c' a w->K a w):wpOp P ops Q n K a w:=by
 obtain⟨I,O,h3⟩:=kG L
 have hd:∀k,i.dst=some k->k<N:=by intro k W;unfold SI.ok at hi;rw[W]at hi;simpa using hi
 unfold wpOp;rw[Z];simp only;unfold sI at F;split at F<;>try (cases F;done)
 rename_i hg;rcases h3 with⟨_,J⟩|⟨j,b,g,hg',_⟩
 ·rw[jW J,if_pos rfl]
  rw[O]at F hd;left;unfold xk1 at F;split at F<;>try (cases F;done)
  ·rename_i sz H E
   exact wB h (I.old (fun H e=>by rw[e]at E;cases E)|>fun e=>by rw[E]at e;exact e) hd F hK
  ·rename_i H E
   exact oO h (I.old (fun H e=>by rw[e]at E;cases E)|>fun e=>by rw[E]at e;exact e) hd F hK
  ·rename_i q E
   exact wC h (I.old (fun H e=>by rw[e]at E;cases E)|>fun e=>by rw[E]at e;exact e) hd F hK
  ·rename_i z U q y E
   exact oK h (I.old (fun H e=>by rw[e]at E;cases E)|>fun e=>by rw[E]at e;exact e) hd F hK
 ·rw[hg]at hg';cases hg'
theorem vP{ops:Array Oper}{n:Nat}{o:Oper}{i:SI}(h:M C N c a w)(hi:i.ok N=true)(L:ops[n]? =some o)(F:fT P ops o=some i)(y:zC c i=some c'){K:LBc}{Q:LBb}
 (hK:∀a w,M C N c' a w->K a w):wpOp P ops Q n K a w:=by
 obtain⟨I,H,O⟩:=kG F
 have hd:∀k,i.dst=some k->k<N:=by intro k J;unfold SI.ok at hi;rw[J]at hi;simpa using hi
 unfold wpOp;rw[L];simp only;unfold zC at y;split at y<;>try (cases y;done)
 rename_i U;rcases O with⟨_,E⟩|⟨j,b,g,hg',_⟩
 ·rw[jW E,if_pos rfl]
  rw[H]at y hd;left;unfold xj7 at y;split at y<;>try (cases y;done)
  ·rename_i q z
   exact vQ h (I.old (fun W e=>by rw[e]at z;cases z)|>fun e=>by rw[z]at e;exact e) hd y hK
 ·rw[U]at hg';cases hg'
theorem gk(E:fZ P call){ops:Array Oper}{n:Nat}{o:Oper}{i:SI}(h:M C N c a w)(hi:i.ok N=true)(ho:ops[n]? =some o)(hr:fT P ops o=some i.er)(y:dA call sg c i=some c'){K:LBc}{Q:LBb}
 (hK:∀a w,M C N c' a w->K a w):wpOp P ops Q n K a w:=by
 obtain⟨L,F,U⟩:=kG hr;change qZ P o i.op.er at L;change i.dst=o.dst at F;change (i.g=none/\o.guard=none\/∃j b g,i.g=some (g,b)/\o.guard=some (j,b)/\(ops[j]?).bind (·.dst)=some g)at U
 have hd:∀k,i.dst=some k->k<N:=by intro k W;unfold SI.ok at hi;rw[W]at hi;simpa using hi
 unfold wpOp;rw[ho];simp only;unfold dA at y;rcases U with⟨J,z⟩|⟨j,b,g,J,z,hdg⟩
 ·rw[J]at y
  rw[jW z,if_pos rfl];rw[F]at y hd;exact .inl (rt E h L hd y hK)
 ·rw[J]at y
  simp only at y;split at y<;>try (cases y;done)
  rotate_left
  ·rename_i O
   cases y;obtain⟨x,s,hM,I⟩:=h;rw[uf z hdg (Gc hM I O),if_neg (by simp)];rw[F]at hd;rw[F]at hK;exact hK _ _ ⟨x,_,hM.put o.dst uN,I.put hd _⟩
  rename_i t O;have Z:a.tmps[g]? =some (.bool t):=by obtain⟨x,s,hM,I⟩:=h;exact Gb hM I O
  rw[ue z hdg Z];split at y
  ·rename_i H
   subst H;rw[if_pos (by simp)];rw[F]at y hd;exact .inl (rt E h L hd y hK)
  ·rename_i H
   cases y;rw[if_neg (by simpa using H)];obtain⟨x,s,hM,I⟩:=h;rw[F]at hd;rw[F]at hK;exact hK _ _ ⟨x,_,hM.put o.dst uN,I.put hd _⟩
theorem je(y:fZ P call){ops:Array Oper}{n:Nat}{o:Oper}{i:SI}(h:M C N c a w)(hi:i.ok N=true)(E:ops[n]? =some o)(z:fT P ops o=some i)(F:dA call sg c i=some c'){K:LBc}{Q:LBb}
 (hK:∀a w,M C N c' a w->K a w):wpOp P ops Q n K a w:=gk y h hi E (by rw[xiK z];exact z) F hK
theorem gD{d:LAc}{g:Nat}{t:Bool}{v:SV}(hd:d≠some g)(h:c.get g= .bool t):(c.put d v).get g= .bool t:=by
 cases d with
 |none=>exact h
 |some k=>rw[gI,if_neg (fun e=>hd (by rw[e]))];exact h
theorem Dw{d:LAc}{g:Nat}{u v:SV}(hd:d≠some g)(h:c.get g=u):(c.put d v).get g=u:=by
 cases d with
 |none=>exact h
 |some k=>rw[gI,if_neg (fun e=>hd (by rw[e]))];exact h
theorem ib{g lo hi:Nat}{t:Bool}{l:List (Nat×SV)}(h:eh l g= .bool t):eh (de lo hi l) g= .bool t:=by rw[fW,h];rfl
theorem i9{d:LAc}{g:Nat}{t:Bool}{e:nW}(hd:d≠some g)(h:c.get g= .bool t):(c.app d e).get g= .bool t:=by
 have wr:∀(l:List (Nat×aC))(c:CSt),(c.wr l).tm=c.tm:=by
  intro l;induction l with
  |nil=>intro c;rfl
  |cons p r y=>intro c;simp only[CSt.wr];rw[y]
 unfold CSt.app;split
 ·exact gD (c:=⟨_,_,_⟩) hd (ib h)
 ·exact gD (c:=⟨_,_,_⟩) hd (ib h)
 ·refine gD hd ?_
  show eh (c.wr e.wr).tm g=_;rw[wr];exact h
theorem oS{d:LAc}{g:Nat}{t:Bool}{m mt:LAb}{q:dZ}(hd:d≠some g)(h:c.get g= .bool t):(jP c d m mt q).get g= .bool t:=gD (c:=⟨_,_,_⟩) hd (ib h)
theorem lE{g o:Nat}{t:Bool}{vs:LAa}(h:c.get g= .bool t):(c.publish o vs).1.get g= .bool t:=by
 have k:∀obj,eh (lB o obj c.tm) g= .bool t:=fun obj=>by rw[ku];have:eh c.tm g= .bool t:=h;rw[this];rfl
 unfold CSt.publish;split
 ·exact k _
 ·exact k _
 ·exact h
theorem m5{g:Nat}{t:Bool}:∀{l:LAb}{c:CSt}{vs:LAa},c.get g= .bool t->(eD c vs l).1.get g= .bool t
 |[],_,_,h=>h
 |o::r,c,vs,h=>by show(eD (c.publish o vs).1 (c.publish o vs).2 r).1.get g=_;exact m5 (lE h)
theorem Dy{sg:Sig}{d:LAc}{g n:Nat}{a_:LAa}{t:Bool}(y:ig call sg c d n a_=some c')(hd:d≠some g)(h:c.get g= .bool t):c'.get g= .bool t:=by
 unfold ig at y;generalize ((SV.idsL a_).isEmpty&&sg.own.isEmpty)=b at y;cases b with
 |true=>
  simp only[jO]at y;cases hq:call n (SV.bareL a_) [] 0 with
  |none=>rw[hq]at y;cases y
  |some q=>
   rw[hq]at y;simp only[mc]at y;cases hb:q.bare with
   |true=>rw[hb]at y;cases y;exact gD hd h
   |false=>
    rw[hb]at y;simp only[nD]at y;cases hs:q.small with
    |true=>rw[hs]at y;cases y;exact oS hd h
    |false=>rw[hs]at y;cases y
 |false=>
  simp only[jO]at y;have L:=m5 (l:=iP sg.raw 0 a_) (vs:=a_) h;generalize eD c a_ (iP sg.raw 0 a_)=z at y L;obtain⟨c1,J⟩:=z;simp only[jH]at y;generalize jS c1.tk sg.own 50 0 J=z at y;obtain⟨E,F⟩:=z;simp only[nm]at y;generalize dB c1 60 [] (SV.idsL E)=m at y;cases ho:gw c1 m with
  |none=>rw[ho]at y;cases y
  |some I=>
   rw[ho]at y;simp only[ls]at y;generalize dT c1.tk (50+F.length) I=z at y;obtain⟨os,H⟩:=z;simp only[nl]at y;generalize (oe (SV.idsL E++fz os) m&&dr m&&dr (cx (F++H))&&decide (m.length<=40)&&m.all fun o=> !inR (d.getD 0) o)=b at y;cases b with
   |false=>cases y
   |true=>
    simp only[nj]at y;cases hq:call n (SV.renL (gE m) id E) (dX (gE m) id os) (F.length+H.length)with
    |none=>rw[hq]at y;cases y
    |some q=>
     rw[hq]at y;simp only[oq]at y;cases hs:q.small with
     |true=>rw[hs]at y;cases y;exact oS hd L
     |false=>rw[hs]at y;cases y
theorem Dx{d:LAc}{g:Nat}{z:LAa}{b:Nat}{y:Arg}{v:SV}{t:Bool}(E:rq c d z b y v=some c')(hd:d≠some g)(h:c.get g= .bool t):c'.get g= .bool t:=by
 unfold rq at E;split at E<;>try (cases E;done)
 ·split at E<;>try (cases E;done)
  unfold RE at E;split at E<;>try (cases E;done)
  split at E<;>try (cases E;done)
  split at E
  ·cases E;exact gD hd h
  ·split at E<;>try (cases E;done)
   cases E;exact i9 hd h
 ·split at E<;>try (cases E;done)
  unfold RD at E;split at E<;>try (cases E;done)
  split at E
  ·cases E;exact gD hd h
  ·split at E<;>try (cases E;done)
   cases E;exact i9 hd h
 ·unfold OC at E
  split at E<;>try (cases E;done)
  ·split at E<;>try (cases E;done)
   cases E;exact i9 hd (ib h)
  ·split at E<;>try (cases E;done)
   cases E;exact i9 hd (ib h)
theorem RY{d:LAc}{g:Nat}{o:SOp}{t:Bool}(E:opC call sg c d o=some c')(hd:d≠some g)(h:c.get g= .bool t):c'.get g= .bool t:=by
 have e:m7 c d (dQ c d o)=some c'->c'.get g= .bool t:=by
  intro E;cases he:dQ c d o with
  |none=>rw[he]at E;cases E
  |some e=>rw[he]at E;cases E;exact i9 hd h
 cases o with
 |call f a_=>
  simp only[opC]at E;split at E<;>try (cases E;done)
  exact Dy E hd h
 |appO z b q y=>exact Dx E hd h
 |newB F=>
  simp only[opC]at E;unfold nA at E;split at E<;>try (cases E;done)
  cases E;exact i9 hd h
 |slid q=>
  simp only[opC]at E;unfold qQ at E;split at E<;>try (cases E;done)
  unfold ot at E;split at E<;>try (cases E;done)
  split at E<;>try (cases E;done)
  cases E;exact gD hd (lE h)
 |_=>exact e E
theorem uV{g:Nat}{b:Bool}{i:SI}(h:i.okG N g b=true):(∀k,i.dst=some k->k<N)/\i.g=some (g,b)/\i.dst≠some g:=by
 simp only[SI.okG,az,decide_eq_true_eq]at h;obtain⟨⟨z,y⟩,E⟩:=h;refine⟨fun k F=> ?_, ?_,E⟩
 ·unfold SI.ok at z;rw[F]at z;simpa using z
 ·split at y
  ·rename_i I J H
   simp only[az,decide_eq_true_eq,beq_iff_eq]at y;rw[H,y.1,y.2]
  ·cases y
theorem Dn(I:fZ P call){ops:Array Oper}{y E:LAf}(hl:js (fT P ops) ops.toList=some y){Q:LBb}{g:Nat}{b:Bool}{c1:CSt}
 (fin:∀(m n:Nat),n+m=ops.size->E=y.drop n->∀a w,M C N c1 a w->wpOps P ops Q (List.range' n m) a w):
 ∀(l:LAf)(m n:Nat)(c:CSt)(a:Act)(w:World),n+m=ops.size->l++E=y.drop n->(∀i∈l,i.okG N g b=true)->M C N c a w->c.get g= .bool b->plC call sg l c=some c1->wpOps P ops Q (List.range' n m) a w:=by
 obtain⟨U,J⟩:=eF hl;intro l;induction l with
 |nil=>intro m n c a w hn H _ hM _ z;rw[OA]at z;cases z;exact fin m n hn H a w hM
 |cons i l a2=>
  intro m n c a w hn H L hM ht z;obtain⟨g1,g2,g3⟩:=uV (L i (ax ..));simp only[bf]at H
  have F:n<y.length:=by
   rcases bO n y.length with h|h
   ·exact h
   ·rw[bo h]at H;cases H
  rw[aM F]at H;obtain⟨a1,Z⟩:=jy.inj H;have O:n<ops.toList.length:=by omega
  obtain⟨m',rfl⟩:∃m',m=m'+1:=⟨m-1,by rw[U,aO]at F;omega⟩;simp only[List.range'_succ];rw[wpOps_cons];rw[plC]at z;cases h1:opC call sg c i.dst i.op with
  |none=>rw[h1,Co]at z;cases z
  |some c2=>
   rw[h1,Cn]at z;have a0:dA call sg c i=some c2:=by unfold dA;rw[g2];simp only[ht,if_true];exact h1
   have a3:i.ok N=true:=by
    unfold SI.ok;cases hdd:i.dst with
    |none=>rfl
    |some k=>simpa using g1 k hdd
   refine je I hM a3 (o:=ops.toList[n]) (by rw[<-cZ,ab O]) (by rw[a1];exact J n O F) a0 ?_;intro a' w' W;exact a2 m' (n+1) c2 a' w' (by omega) Z (fun j hj=>L j (am _ hj)) W (RY h1 g3 ht) z
theorem rb(H:fZ P call){ops:Array Oper}{y z:LAf}(hl:js (fT P ops) ops.toList=some y){Q:LBb}{g:Nat}{b:Bool}{v:SV}(a0:v= .tup []\/∃t,v= .bool t/\t≠b){c1:CSt}
 (fin:∀(m n:Nat),n+m=ops.size->z=y.drop n->∀a w,M C N c1 a w->wpOps P ops Q (List.range' n m) a w):
 ∀(l:LAf)(m n:Nat)(c:CSt)(a:Act)(w:World),n+m=ops.size->l++z=y.drop n->(∀i∈l,i.okG N g b=true)->M C N c a w->c.get g=v->unL c l=c1->wpOps P ops Q (List.range' n m) a w:=by
 obtain⟨O,I⟩:=eF hl;intro l;induction l with
 |nil=>intro m n c a w hn F _ hM _ hs;cases hs;exact fin m n hn F a w hM
 |cons i l a2=>
  intro m n c a w hn F J hM ht hs;obtain⟨g1,g2,g3⟩:=uV (J i (ax ..));simp only[bf]at F
  have E:n<y.length:=by
   rcases bO n y.length with h|h
   ·exact h
   ·rw[bo h]at F;cases F
  rw[aM E]at F;obtain⟨a1,W⟩:=jy.inj F;have L:n<ops.toList.length:=by omega
  obtain⟨m',rfl⟩:∃m',m=m'+1:=⟨m-1,by rw[O,aO]at E;omega⟩;simp only[List.range'_succ];rw[wpOps_cons]
  have Z:dA call (fun _=> {}) c i=some (c.put i.dst (.tup [])):=by
   unfold dA;rw[g2];simp only[ht];rcases a0 with rfl|⟨t,rfl,htb⟩
   ·rfl
   ·simp only[htb,if_false]
  have a3:i.ok N=true:=by
   unfold SI.ok;cases hdd:i.dst with
   |none=>rfl
   |some k=>simpa using g1 k hdd
  refine je H hM a3 (o:=ops.toList[n]) (by rw[<-cZ,ab L]) (by rw[a1];exact I n L E) Z ?_;intro a' w' U;exact a2 m' (n+1) _ a' w' (by omega) W (fun j hj=>J j (am _ hj)) U (Dw g3 ht) hs
theorem wD(W:fZ P call){ops:Array Oper}{y:LAf}(hl:js (fT P ops) ops.toList=some y){Q:LBb}:
 ∀(l:List RI)(m n:Nat),n+m=ops.size->erL l=y.drop n->l.all (RI.ok N)=true->∀{c:CSt}{a:Act}{w:World},M C N c a w->fC call sg l c=some c'->(∀a w,M C N c' a w->Q .normal a w)->wpOps P ops Q (List.range' n m) a w:=by
 obtain⟨Z,a2⟩:=eF hl;intro l;induction l with
 |nil=>
  intro m n hn E _ c a w hM z hQ;have h1:y.length<=n:=List.drop_eq_nil_iff.1 E.symm;rw[Z,aO]at h1;have:m=0:=by omega
  subst this;simp only[List.range'_zero,wpOps];rw[Cj]at z;cases z;exact hQ _ _ hM
 |cons q r ih=>
  intro m n hn E a4 c a w hM z hQ;rw[iG,az]at a4;obtain⟨U,I⟩:=a4;cases q with
  |dir q=>
   rw[Cl]at z;cases hd:qI c q with
   |none=>rw[hd,lh]at z;cases z
   |some c1=>rw[hd,lg,pI]at z;exact ih m n hn E I (o6 hM hd) z hQ
  |own i F=>
   rw[Ci]at z;simp only[erL]at E
   have H:n<y.length:=by
    rcases bO n y.length with h|h
    ·exact h
    ·rw[bo h]at E;cases E
   rw[aM H]at E;obtain⟨a1,a0⟩:=jy.inj E;have O:n<ops.toList.length:=by omega
   obtain⟨m',rfl⟩:∃m',m=m'+1:=⟨m-1,by rw[Z,aO]at H;omega⟩;simp only[List.range'_succ];rw[wpOps_cons];cases hs:sI c i with
   |none=>rw[hs,lh]at z;cases z
   |some c1=>rw[hs,lg]at z;refine wz hM U (o:=ops.toList[n]) (by rw[<-cZ,ab O]) (by rw[a1];exact a2 n O H) hs ?_;intro a' w' J;exact ih m' (n+1) (by omega) a0 I (J.kill F) z hQ
  |tks i F=>
   rw[Ch]at z;simp only[erL]at E
   have H:n<y.length:=by
    rcases bO n y.length with h|h
    ·exact h
    ·rw[bo h]at E;cases E
   rw[aM H]at E;obtain⟨a1,a0⟩:=jy.inj E;have O:n<ops.toList.length:=by omega
   obtain⟨m',rfl⟩:∃m',m=m'+1:=⟨m-1,by rw[Z,aO]at H;omega⟩;simp only[List.range'_succ];rw[wpOps_cons];cases hs:zC c i with
   |none=>rw[hs,lh]at z;cases z
   |some c1=>rw[hs,lg]at z;refine vP hM U (o:=ops.toList[n]) (by rw[<-cZ,ab O]) (by rw[a1];exact a2 n O H) hs ?_;intro a' w' J;exact ih m' (n+1) (by omega) a0 I (J.kill F) z hQ
  |op i F=>
   rw[OD]at z;simp only[erL]at E
   have H:n<y.length:=by
    rcases bO n y.length with h|h
    ·exact h
    ·rw[bo h]at E;cases E
   rw[aM H]at E;obtain⟨a1,a0⟩:=jy.inj E;have O:n<ops.toList.length:=by omega
   obtain⟨m',rfl⟩:∃m',m=m'+1:=⟨m-1,by rw[Z,aO]at H;omega⟩;simp only[List.range'_succ];rw[wpOps_cons];cases hs:dA call sg c i with
   |none=>rw[hs,lh]at z;cases z
   |some c1=>rw[hs,lg]at z;refine je W hM U (o:=ops.toList[n]) (by rw[<-cZ,ab O]) (by rw[a1];exact a2 n O H) hs ?_;intro a' w' J;exact ih m' (n+1) (by omega) a0 I (J.kill F) z hQ
  |grp g b l F=>
   rw[Ck]at z;cases hs:oX call sg b l c (c.get g)with
   |none=>rw[hs,lh]at z;cases z
   |some c1=>
    rw[hs,lg]at z;unfold oX at hs;have a5:=hs;split at hs<;>try (cases hs;done)
    rotate_left
    ·rename_i ht
     have L:∀i∈l,i.okG N g b=true:=by simpa[RI.ok]using U
     have fin:∀(m n:Nat),n+m=ops.size->erL r=y.drop n->∀a w,M C N c1 a w->wpOps P ops Q (List.range' n m) a w:=fun m n hn E a w J=>ih m n hn E I (J.kill F) z hQ
     simp only[erL]at E;cases hs;exact rb W hl (.inl rfl) fin l m n c a w hn E L hM ht rfl
    rename_i t ht;have L:∀i∈l,i.okG N g b=true:=by simpa[RI.ok]using U
    have fin:∀(m n:Nat),n+m=ops.size->erL r=y.drop n->∀a w,M C N c1 a w->wpOps P ops Q (List.range' n m) a w:=fun m n hn E a w J=>ih m n hn E I (J.kill F) z hQ
    simp only[erL]at E;split at hs
    ·rename_i a3
     exact Dn W hl fin l m n c a w hn E L hM (by rw[ht,a3]) hs
    ·rename_i a3
     cases hs;exact rb W hl (.inr ⟨t,rfl,a3⟩) fin l m n c a w hn E L hM ht rfl
end Go.Sy
