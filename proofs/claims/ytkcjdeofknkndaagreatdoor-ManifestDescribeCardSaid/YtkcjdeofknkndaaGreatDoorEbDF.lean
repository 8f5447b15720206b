/- A sound engine for Go code. No condition. -/
import Derived.Test.YtkcjdeofknkndaaGreatDoorEaDF
import Derived.LoopN
open Array renaming ext' -> dI, getD_eq_getD_getElem? -> bg, getElem?_eq_getElem -> gF, getElem?_toList -> cY, length_toList -> aO, replicate -> dO
open Bool renaming and_eq_true -> aB, false_eq_true -> aI, not_eq_true' -> du
open List renaming Nodup -> vm, Pairwise -> gg, Sublist -> jK, all_cons -> iv, all_eq_true -> aT, cons -> jp, cons_append -> aV, contains_eq_mem -> eK, drop_eq_getElem_cons -> aY, drop_eq_nil_of_le -> br, filter_cons -> kI, flatten_append -> bX, getD_cons_succ -> bQ, getD_cons_zero -> bF, getD_eq_getElem?_getD -> aa, getElem?_append_left -> bc, getElem?_append_right -> bw, getElem?_drop -> bx, getElem?_eq_getElem -> ab, getElem?_eq_none -> jY, getElem?_map -> aR, getElem?_range -> cL, getElem?_set -> eS, getElem?_take -> bE, getElem_mem -> bn, getElem_of_mem -> bM, length_append -> af, length_cons -> ay, length_drop -> aL, length_eq_zero_iff -> cx, length_map -> aS, length_pos_iff -> mb, length_set -> dh, length_take -> aA, map_append -> df, map_cons -> aG, mem_append -> ak, mem_cons -> am, mem_cons_of_mem -> an, mem_cons_self -> aw, mem_map -> aQ, mem_map_of_mem -> hC, mem_of_mem_drop -> Dw, mem_of_mem_take -> cm, mem_singleton -> aW, nodup_cons -> dV, pairwise_cons -> bJ, pairwise_map -> gn, range -> bU, replicate -> ao, take_append_drop -> fY, take_length -> bB, take_of_length_le -> bT
open Nat renaming add_assoc -> eB, add_mul -> bA, add_zero -> dU, le_max_right -> wX, le_refl -> aN, le_trans -> pK, lt_or_ge -> bL, min_eq_left -> gI, mod_eq_of_lt -> dm, mul_comm -> cD, mul_le_mul_right -> bz, mul_one -> iu, succ_mul -> dD, zero_add -> cf, zero_mul -> iF
open Go.Op renaming bytesLess -> bH
open Option renaming bind_some -> cP, getD_some -> bj, ite_none_right_eq_some -> aH, map_eq_some_iff -> ah, map_some -> bo, some -> aq
open Prod renaming fst -> cI
open Go.Result renaming andThen_ok -> aj
open Go.Sem renaming run_bind -> az, run_pure -> aF
open UInt8 renaming ofNat -> ed
set_option linter.unusedVariables false
set_option linter.unusedSimpArgs false
set_option linter.unnecessarySimpa false
set_option linter.unusedSectionVars false
namespace Go.Sy
variable [ba]
structure CSt where
 tm:List (Nat×SV)
 ob:List (Nat×aC)
 tk:List Nat
abbrev LAd:=Option CSt
def ei:List (Nat×SV)->Nat->SV
 |[],_=> .undef
 |p::r,n=>if p.1=n then p.2 else ei r n
def jd:List (Nat×SV)->Nat->SV->List (Nat×SV)
 |[],n,v=> [(n,v)]
 |p::r,n,v=>if n<p.1 then(n,v)::p::r else if n=p.1 then(n,v)::r else p::jd r n v
def u9:List (Nat×SV)->t8->List (Nat×SV)
 |[],_=> []
 |p::r,l=>if l.contains p.1 then u9 r l else p::u9 r l
def ip:List (Nat×aC)->Nat->Option aC
 |[],_=>none
 |p::r,n=>if p.1=n then some p.2 else ip r n
def hU:List (Nat×aC)->Nat->aC->List (Nat×aC)
 |[],n,v=> [(n,v)]
 |p::r,n,v=>if n<p.1 then(n,v)::p::r else if n=p.1 then(n,v)::r else p::hU r n v
def xc5:List (Nat×aC)->Nat->List (Nat×aC)
 |[],_=> []
 |p::r,n=>if p.1=n then xc5 r n else p::xc5 r n
def j8:t8->Nat->t8
 |[],n=> [n]
 |p::r,n=>if n<p then n::p::r else if n=p then p::r else p::j8 r n
def cR(lo hi:Nat):List (Nat×SV)->List (Nat×SV)
 |[]=> []
 |p::r=>(p.1,p.2.purge lo hi)::cR lo hi r
def CSt.get(c:CSt)(n:Nat):SV:=ei c.tm n
def CSt.ev(c:CSt):Arg->SV
 | .t n=>c.get n
 | .c v=>v
 | .f g=> .fn g [] []
def evL(c:CSt):List Arg->t7
 |[]=> []
 |a::r=>c.ev a::evL c r
def CSt.put(c:CSt)(d:t9)(v:SV):CSt:=
 match d with
 |some d=>⟨jd c.tm d v,c.ob,c.tk⟩
 |none=>c
def CSt.look(c:CSt)(o:Nat):Option aC:=ip c.ob o
def CSt.purge(c:CSt)(lo hi:Nat):CSt:=⟨cR lo hi c.tm,bm lo hi c.ob,bN lo hi c.tk⟩
def CSt.kill(c:CSt)(l:t8):CSt:=
 match l with
 |[]=>c
 |l=>⟨u9 c.tm l,c.ob,c.tk⟩
def gd{α:Type}(p:Prop)[Decidable p](v:α):Option α:=if p then some v else none
def wq(op:BinOp)(k:IntKind)(a b:Int):Option SV:=
 match op with
 | .add=>some (.int k (k.wrap (a+b)))
 | .sub=>some (.int k (k.wrap (a-b)))
 | .mul=>some (.int k (k.wrap (a*b)))
 | .quo=>gd (b≠0) (.int k (k.wrap (a.tdiv b)))
 | .rem=>gd (b≠0) (.int k (a.tmod b))
 | .and=>some (.int k (bt .and k a b))
 | .or=>some (.int k (bt .or k a b))
 | .xor=>some (.int k (bt .xor k a b))
 | .andNot=>some (.int k (bt .andNot k a b))
 | .shl=>gd (0<=b) (.int k (k.wrap (a*2^(min b.toNat k.bits))))
 | .shr=>gd (0<=b) (.int k (a.fdiv (2^(min b.toNat k.bits))))
 | .eql=>some (.bool (decide (a=b)))
 | .neq=>some (.bool (decide (a≠b)))
 | .lss=>some (.bool (decide (a<b)))
 | .leq=>some (.bool (decide (a<=b)))
 | .gtr=>some (.bool (decide (b<a)))
 | .geq=>some (.bool (decide (b<=a)))
def xa(op:BinOp)(a b:UInt8):Option SV:=
 match op with
 | .add=>some (.u8 (a+b))
 | .sub=>some (.u8 (a-b))
 | .mul=>some (.u8 (a*b))
 | .quo=>gd (b≠0) (.u8 (a/b))
 | .rem=>gd (b≠0) (.u8 (a % b))
 | .and=>some (.u8 (a&&&b))
 | .or=>some (.u8 (a|||b))
 | .xor=>some (.u8 (a^^^b))
 | .andNot=>some (.u8 (a&&& ~~~b))
 | .eql=>some (.bool (decide (a=b)))
 | .neq=>some (.bool (decide (a≠b)))
 | .lss=>some (.bool (decide (a<b)))
 | .leq=>some (.bool (decide (a<=b)))
 | .gtr=>some (.bool (decide (b<a)))
 | .geq=>some (.bool (decide (b<=a)))
 |_=>none
def Nj(op:BinOp)(a:UInt8)(b:Int):Option SV:=
 match op with
 | .shl=>gd (0<=b) (.u8 (ed (a.toNat*2^(min b.toNat 8))))
 | .shr=>gd (0<=b) (.u8 (ed (a.toNat/2^(min b.toNat 8))))
 |_=>none
def Nm(op:BinOp)(a b:t6):Option SV:=
 match op with
 | .add=>gd (a.length+b.length<=9223372036854775807) (.str (a++b))
 | .eql=>some (.bool (decide (a=b)))
 | .neq=>some (.bool (decide (a≠b)))
 | .lss=>some (.bool (bH a b))
 | .leq=>some (.bool (bH a b||decide (a=b)))
 | .gtr=>some (.bool (!(bH a b||decide (a=b))))
 | .geq=>some (.bool (!bH a b))
 |_=>none
def mi:BinOp->Bool
 | .shl| .shr=>true
 |_=>false
def D8(op:BinOp):SV->SV->Option SV
 | .int k a,.int k' b=>if mi op=true\/k=k' then wq op k a b else none
 | .u8 a,.int _ b=>Nj op a b
 | .u8 a,.u8 b=>xa op a b
 | .str a,.str b=>Nm op a b
 |_,_=>none
def lW(c:CSt)(n:Nat)(h:Bool):SV->Option SV
 | .pp cs=>gd (n<=cs.length) (dr h n (cs.map SV.data))
 | .ptr o off=>match c.look o with
  |some (.rc cs)=>gd (off+n<=cs.length) (dr h n (cs.drop off))
  |some (.arr _ xs)=>gd (off=0/\n<=xs.flatten.length) (dr h n (xs.flatten.map SV.data))
  |some (.bar l)=>gd (off=0/\n<=l.length) (dr h n (l.map .u8))
  |none=>none
 | .ap o y i j=>match c.look o with
  |some (.arr sz' xs)=>gd (y=sz'/\i<xs.length/\j+n<=y) (dr h n (((xs.getD i []).drop j).map SV.data))
  |some (.bar l)=>gd (y=1/\j=0/\n=1/\i<l.length) (dr h n [.u8 (l.getD i 0)])
  |_=>none
 |_=>none
def ka(c:CSt)(x:Option Arg)(h:Int):Option Int:=
 match x with
 |none=>some h
 |some a=>(c.ev a).num
def nJ(c:CSt)(z:Nat)(x:SV)(lo hi y:Option Arg):Option SV:=
 match x with
 | .byt l t=>
  match ka c lo 0,ka c hi l.length,ka c y l.length with
  |some a,some b,some m=>gd (0<=a/\a<=b/\b<=m/\m<=l.length/\z=1/\(y.isSome=true->b=m)) (.byt ((l.take b.toNat).drop a.toNat) (lF t hi.isNone y.isSome))
  |_,_,_=>none
 | .lst h l t=>
  match ka c lo 0,ka c hi l.length,ka c y l.length with
  |some a,some b,some m=>gd (0<=a/\a<=b/\b<=m/\m<=l.length/\z=h/\(y.isSome=true->b=m)) (.lst z ((l.take b.toNat).drop a.toNat) (lF t hi.isNone y.isSome))
  |_,_,_=>none
 | .psl o h off n none=>
  match ka c lo 0,ka c hi n,y with
  |some a,some b,none=>gd (0<=a/\a<=b/\b<=n/\z=h) (.psl o z (off+a.toNat) (b.toNat-a.toNat) none)
  |_,_,_=>none
 | .psl o h off n (some cap)=>
  match ka c lo 0,ka c hi n,ka c y cap with
  |some a,some b,some m=>gd (0<=a/\a<=b/\b<=m/\m<=cap/\z=h) (.psl o z (off+a.toNat) (b.toNat-a.toNat) (some (m.toNat-a.toNat)))
  |_,_,_=>none
 |_=>none
def dH(c:CSt):SV->Option t6
 | .byt l _=>some l
 | .str l=>some l
 | .psl o h off n _=>match c.look o with
  |some (.bar l)=>gd (h=1/\off+n<=l.length) ((l.drop off).take n)
  |_=>none
 |_=>none
def fE(c:CSt)(z:Nat):SV->Option f8
 | .lst h y _=>gd (z=h) y
 | .psl o h off n _=>match c.look o with
  |some (.arr sz'' y)=>gd (z=h/\z=sz''/\off+n<=y.length) ((y.drop off).take n)
  |_=>none
 |_=>none
def psC(c:CSt):List (Nat×Nat×Arg)->List (Nat×Nat×SV)
 |[]=> []
 |(o,n,x)::r=>(o,n,c.ev x)::psC c r
def hZ(t:Bool)(a b:SV):SV:=if t=true then a else b
def cH(c:CSt):SOp->Option SV
 | .mov x=>some (c.ev x)
 | .build z J=>(ir z (psC c J)).map .agg
 | .lit h E=>(rows h (evL c E)).map fun r=> .lst h r .clip
 | .litB E=>(toB (evL c E)).map fun r=> .byt r .clip
 | .load n H a=>lW c n H (c.ev a)
 | .nchk x=>match c.ev x with
  | .ptr o off=>some (.ptr o off)
  | .ap o h i j=>some (.ap o h i j)
  | .pp cs=>some (.pp cs)
  | .fn f a b=>some (.fn f a b)
  |_=>none
 | .bin op x y=>D8 op (c.ev x) (c.ev y)
 | .beq F x y=>match c.ev x,c.ev y with
  | .bool a,.bool b=>some (.bool (if F then decide (a≠b)else decide (a=b)))
  |_,_=>none
 | .eqS F L x y=>match c.ev x,c.ev y with
  | .agg cs,.agg ds=>(gC L cs ds).map fun b=> .bool (if F then !b else b)
  |_,_=>none
 | .un op x=>vn op (c.ev x)
 | .toInt k x=>gS k (c.ev x)
 | .toStr x=>match c.ev x with| .str l=>some (.str l)|_=>none
 | .slid _=>none
 | .newB _=>none
 | .isni F x=>match c.ev x with| .nili=>some (.bool (!F))|_=>none
 | .s2b x=>match c.ev x with| .str l=>some (.byt l .no)|_=>none
 | .b2s x=>match c.ev x with
  | .str _=>none
  |v=>(dH c v).map .str
 | .mkfn f a b=>some (.fn f (evL c a) (evL c b))
 | .slcS x lo hi=>match c.ev x with
  | .str l=>match ka c lo 0,ka c hi l.length with
   |some a,some b=>gd (0<=a/\a<=b/\b<=l.length) (.str ((l.take b.toNat).drop a.toNat))
   |_,_=>none
  |_=>none
 | .slcL h x lo hi I=>nJ c h (c.ev x) lo hi I
 | .slcA len h x lo hi I=>match c.ev x with
  | .ptr o off=>if off=0 then nJ c h (.psl o h 0 len (some len)) lo hi I else none
  |_=>none
 | .faddr off x=>match c.ev x with
  | .ptr o k=>some (.ptr o (k+off))
  | .ap o h i j=>some (.ap o h i (j+off))
  | .pp cs=>some (.pp (cs.drop off))
  |_=>none
 | .fld off n H x=>match c.ev x with
  | .agg cs=>gd (off+n<=cs.length) (dr H n (cs.drop off))
  |_=>none
 | .iaddrL h x i=>match c.ev x,(c.ev i).num with
  | .byt l _,some n=>gd (0<=n/\n<l.length/\h=1) (.pp [.u8 (l.getD n.toNat 0)])
  | .lst sz' E _,some n=>gd (0<=n/\n<E.length/\h=sz') (.pp (E.getD n.toNat []))
  | .psl o sz' off k _,some n=>gd (0<=n/\n<k/\h=sz') (.ap o h (off+n.toNat) 0)
  |_,_=>none
 | .iaddrA len h x i=>match c.ev x,(c.ev i).num with
  | .ptr o off,some n=>match c.look o with
   |some (.rc _)=>gd (0<=n/\n<len) (.ptr o (off+n.toNat*h))
   |some _=>gd (off=0/\0<=n/\n<len) (.ap o h n.toNat 0)
   |none=>none
  | .pp cs,some n=>gd (0<=n/\n<len/\cs.length=len*h) (.pp (cs.drop (n.toNat*h)))
  |_,_=>none
 | .idxA len h H x i=>match c.ev x,(c.ev i).num with
  | .agg cs,some n=>gd (0<=n/\n<len/\cs.length=len*h) (dr H h (cs.drop (n.toNat*h)))
  |_,_=>none
 | .idxS x i=>match c.ev x,(c.ev i).num with
  | .str l,some n=>gd (0<=n/\n<l.length) (.u8 (l.getD n.toNat 0))
  |_,_=>none
 | .ext x i=>match c.ev x with
  | .tup vs=>gd (i<vs.length) (vs.getD i .undef)
  |_=>none
 | .len b x=>(jF b (c.ev x)).map fun n=> .int .i64 (n:Nat)
 | .lenC n=>some (.int .i64 n)
 | .cap x=>match c.ev x with
  | .psl _ _ _ _ (some m)=>some (.int .i64 m)
  | .byt l t=>if t= .clip then some (.int .i64 l.length)else none
  | .lst _ E t=>if t= .clip then some (.int .i64 E.length)else none
  |_=>none
 | .mini x y=>match c.ev x,c.ev y with
  | .int k a,.int k' b=>if k=k' then some (.int k (if b<a then b else a))else none
  |_,_=>none
 | .maxi x y=>match c.ev x,c.ev y with
  | .int k a,.int k' b=>if k=k' then some (.int k (if a<b then b else a))else none
  |_,_=>none
 |_=>none
structure nP where
 val:SV
 wr:List (Nat×aC):=[]
 new:Option aC:=none
 eat:Tok:= .no
 tok:Bool:=false
def Arg.isT:Arg->Bool
 | .t _=>true
 |_=>false
def aC.wf:aC->Bool
 | .arr h y=>y.all fun x=>decide (x.length=h)
 |_=>true
def kM(c:CSt)(n:Nat)(v:t7):SV->Option nP
 | .ptr o off=>match c.look o with
  |some (.rc cs)=>gd (off+n<=cs.length/\v.length=n/\v.all SV.one=true) {val:= .undef,wr:=[(o,.rc (gv cs off v))]}
  |some (.arr h xs)=>gd (off=0/\n=xs.length*h/\v.length=n/\v.all SV.isData=true) {val:= .undef,wr:=[(o,.arr h (jn h xs.length (v.map SV.data)))]}
  |some (.bar l)=>match toB v with
   |some y=>gd (off=0/\n=l.length/\y.length=n) {val:= .undef,wr:=[(o,.bar y)]}
   |none=>none
  |_=>none
 | .ap o h i j=>match c.look o with
  |some (.arr sz' xs)=>gd (h=sz'/\i<xs.length/\j+n<=h/\v.length=n/\v.all SV.isData=true) {val:= .undef,wr:=[(o,.arr sz' (fA h xs i j n (v.map SV.data)))]}
  |some (.bar l)=>match v with
   |[.u8 b]=>gd (h=1/\j=0/\n=1/\i<l.length) {val:= .undef,wr:=[(o,.bar (l.set i b))]}
   |_=>none
  |_=>none
 |_=>none
def Tok.readyC(c:CSt):Tok->Bool
 | .no=>false
 | .clip=>true
 | .id t=>c.tk.contains t
def dJ(c:CSt)(d:t9):SOp->Option nP
 | .new o=>match d with
  |some d=>gd (o.wf=true) {val:= .ptr (d+100) 0,new:=some o}
  |none=>none
 | .box x=>match d with
  |some d=>some {val:= .ptr (d+100) 0,new:=some (.rc (c.ev x).cells)}
  |none=>none
 | .mk z bytes n m=>match d,c.ev n,c.ev m with
  |some d,.int _ n,.int _ m=>gd (0<=n/\n<=m/\bytes*m<=140737488355328/\m<=9223372036854775807) {val:= .psl (d+100) z.length 0 n.toNat (some m.toNat),new:=some (.arr z.length (ao m.toNat z))}
  |_,_,_=>none
 | .mkB n m=>match d,c.ev n,c.ev m with
  |some d,.int _ n,.int _ m=>gd (0<=n/\n<=m/\m<=140737488355328) {val:= .psl (d+100) 1 0 n.toNat (some m.toNat),new:=some (.bar (ao m.toNat 0))}
  |_,_,_=>none
 | .store n a x=>if(c.ev x).isDef=true then kM c n (c.ev x).cells (c.ev a)else none
 | .app z bytes x y=>match d with
  |some d=>match c.ev x with
   | .byt l t=>(dH c (c.ev y)).bind fun h=>gd (z.length=1/\bytes=1/\t.readyC c=true/\l.length+h.length<=140737488355328) {val:= .byt (l++h) (.id (d+100)),eat:=t,tok:=true}
   | .lst E l t=>(fE c z.length (c.ev y)).bind fun h=>gd (z.length=E/\t.readyC c=true/\(l.length+h.length)*bytes<=140737488355328) {val:= .lst z.length (l++h) (.id (d+100)),eat:=t,tok:=true}
   |_=>none
  |none=>none
 | .clr z x=>match c.ev x with
  | .psl o E off n _=>match c.look o with
   |some (.arr sz'' F)=>gd (0<n/\z.length=E/\z.length=sz''/\off+n<=F.length) {val:= .tup [],wr:=[(o,.arr z.length (F.take off++ao n z++F.drop (off+n)))]}
   |_=>none
  |_=>none
 | .cpy H x y=>match c.ev x with
  | .psl o E off n _=>match c.look o with
   |some (.bar l)=>(dH c (c.ev y)).bind fun h=>gd (H=1/\E=1/\off+n<=l.length) {val:= .int .i64 (min h.length n:Nat),wr:=[(o,.bar (l.take off++h.take n++l.drop (off+(h.take n).length)))]}
   |some (.arr sz'' F)=>(fE c H (c.ev y)).bind fun h=>gd (y.isT=true/\H=E/\H=sz''/\off+n<=F.length) {val:= .int .i64 (min h.length n:Nat),wr:=[(o,.arr H (F.take off++h.take n++F.drop (off+(h.take n).length)))]}
   |_=>none
  |_=>none
 | .pick k a b=>match c.ev k with
  | .bool t=>some {val:=hZ t (c.ev a) (c.ev b)}
  |_=>none
 | .call _ _=>none
 | .isnil I x=>match c.ev x with
  | .byt l _=>gd (l≠ []) {val:= .bool I}
  | .lst _ F _=>gd (F≠ []) {val:= .bool I}
  | .psl _ _ _ _ _=>some {val:= .bool I}
  |_=>none
 |so=>match cH c so with
  |some v=>some {val:=v}
  |none=>none
def CSt.wr(c:CSt):List (Nat×aC)->CSt
 |[]=>c
 |p::r=>CSt.wr ⟨c.tm,hU c.ob p.1 p.2,c.tk⟩ r
def CSt.app(c:CSt)(d:t9)(e:nP):CSt:=
 match e.new,e.tok with
 |some o,_=>CSt.put ⟨cR (d.getD 0+100) (d.getD 0+101) c.tm,hU (bm (d.getD 0+100) (d.getD 0+101) c.ob) (d.getD 0+100) (o.purge (d.getD 0+100) (d.getD 0+101)),bN (d.getD 0+100) (d.getD 0+101) c.tk⟩ d e.val
 |none,true=>CSt.put ⟨cR (d.getD 0+100) (d.getD 0+101) c.tm,bm (d.getD 0+100) (d.getD 0+101) c.ob,j8 (bN (d.getD 0+100) (d.getD 0+101) (e.eat.eat c.tk)) (d.getD 0+100)⟩ d e.val
 |none,false=>(c.wr e.wr).put d e.val
end Go.Sy
namespace Go.Sy
variable [ba]
mutual
def SV.bare:SV->SV
 | .byt l _=> .byt l .no
 | .lst h y _=> .lst h y .no
 | .agg cs=> .agg (SV.bareL cs)
 | .tup cs=> .tup (SV.bareL cs)
 | .fn f a b=> .fn f (SV.bareL a) (SV.bareL b)
 |v=>v
def SV.bareL:t7->t7
 |[]=> []
 |v::r=>v.bare::SV.bareL r
end
def v6(obj:aC)(h off n:Nat)(cap:t9):SV:=
 match obj with
 | .arr y z=>if y=h/\off+n<=z.length then .lst h ((z.drop off).take n) (if cap=some n then .clip else .no)else .undef
 | .bar l=>if h=1/\off+n<=l.length then .byt ((l.drop off).take n) (if cap=some n then .clip else .no)else .undef
 | .rc _=> .undef
mutual
def SV.pub(o:Nat)(obj:aC):SV->SV
 | .psl h y off n cap=>if h=o then v6 obj y off n cap else .psl h y off n cap
 | .ptr h off=>if h=o then .undef else .ptr h off
 | .ap h y i j=>if h=o then .undef else .ap h y i j
 | .agg cs=> .agg (SV.pubL o obj cs)
 | .tup cs=> .tup (SV.pubL o obj cs)
 | .fn f a b=> .fn f (SV.pubL o obj a) (SV.pubL o obj b)
 |v=>v
def SV.pubL(o:Nat)(obj:aC):t7->t7
 |[]=> []
 |v::r=>v.pub o obj::SV.pubL o obj r
end
def lx(o:Nat)(obj:aC):List (Nat×SV)->List (Nat×SV)
 |[]=> []
 |p::r=>(p.1,p.2.pub o obj)::lx o obj r
def np(o:Nat)(obj:aC):aC->aC
 | .rc cs=> .rc (SV.pubL o obj cs)
 |ob=>ob
def kQ(o:Nat)(obj:aC):List (Nat×aC)->List (Nat×aC)
 |[]=> []
 |p::r=>if p.1=o then kQ o obj r else(p.1,np o obj p.2)::kQ o obj r
def CSt.publish(c:CSt)(o:Nat)(vs:t7):CSt×t7:=
 match c.look o with
 |some (.arr sz xs)=>(⟨lx o (.arr sz xs) c.tm,kQ o (.arr sz xs) c.ob,c.tk⟩,SV.pubL o (.arr sz xs) vs)
 |some (.bar l)=>(⟨lx o (.bar l) c.tm,kQ o (.bar l) c.ob,c.tk⟩,SV.pubL o (.bar l) vs)
 |_=>(c,vs)
def gK:SV->t8
 | .psl o _ _ _ _=> [o]
 |_=> []
def s8:t7->t8
 |[]=> []
 |v::r=>gK v++s8 r
def mc(raw:t8)(i:Nat):SV->t8
 | .psl o _ _ _ _=>if raw.contains i=true then []else [o]
 | .agg cs=>if raw.contains i=true then []else s8 cs
 |_=> []
def iG(raw:t8):Nat->t7->t8
 |_,[]=> []
 |i,v::r=>mc raw i v++iG raw (i+1) r
def eF(c:CSt)(vs:t7):t8->CSt×t7
 |[]=>(c,vs)
 |o::r=>eF (c.publish o vs).1 (c.publish o vs).2 r
def Tok.kc:Tok->Bool->Tok
 | .clip,b=>if b=true then .clip else .no
 | .no,_=> .no
 | .id _,_=> .no
def SV.kclip:SV->SV
 | .lst y h t=> .lst y h (t.kc h.isEmpty)
 | .byt l t=> .byt l (t.kc l.isEmpty)
 |v=>v.bare
def jL(tk:t8)(j:Nat):SV->SV×List t9
 | .agg cs=>(.agg (cs.map SV.kclip),[])
 | .byt l .no=>(.byt l .no,[])
 | .byt l .clip=>(.byt l (.id j),[none])
 | .byt l (.id t)=>if tk.contains t=true then(.byt l (.id j),[some t])else(.byt l .no,[])
 | .lst sz xs .no=>(.lst sz xs .no,[])
 | .lst sz xs .clip=>(.lst sz xs (.id j),[none])
 | .lst sz xs (.id t)=>if tk.contains t=true then(.lst sz xs (.id j),[some t])else(.lst sz xs .no,[])
 |v=>(v.bare,[])
def s5(j y:Nat)(h:f8):Bool->SV×List t9
 |true=>(.lst y h .clip,[])
 |false=>(.lst y h (.id j),[none])
def sZ(tk:t8)(j y:Nat)(h:f8):Tok->SV×List t9
 | .clip=>s5 j y h h.isEmpty
 | .no=>jL tk j (.lst y h .no)
 | .id t=>jL tk j (.lst y h (.id t))
def qC(tk:t8)(j:Nat):SV->SV×List t9
 | .lst h y t=>sZ tk j h y t
 |v=>jL tk j v
def jM(tk:t8)(own:t8):Nat->Nat->t7->t7×List t9
 |_,_,[]=>([],[])
 |j,i,v::r=>
  if own.contains i=true then
   ((qC tk j v).1::(jM tk own (j+(qC tk j v).2.length) (i+1) r).1,(qC tk j v).2++(jM tk own (j+(qC tk j v).2.length) (i+1) r).2)
  else(v.bare::(jM tk own j (i+1) r).1,(jM tk own j (i+1) r).2)
def rL(tk:t8):Nat->t7->t7×List t9
 |_,[]=>([],[])
 |j,v::r=>((jL tk j v).1::(rL tk (j+(jL tk j v).2.length) r).1,(jL tk j v).2++(rL tk (j+(jL tk j v).2.length) r).2)
def jy(tk:t8)(j:Nat):aC->aC×List t9
 | .rc cs=>(.rc (rL tk j cs).1,(rL tk j cs).2)
 |o=>(o,[])
def dQ(tk:t8):Nat->List aC->List aC×List t9
 |_,[]=>([],[])
 |j,v::r=>((jy tk j v).1::(dQ tk (j+(jy tk j v).2.length) r).1,(jy tk j v).2++(dQ tk (j+(jy tk j v).2.length) r).2)
def cr:List t9->t8
 |[]=> []
 |none::r=>cr r
 |some t::r=>t::cr r
def dz(c:CSt):Nat->t8->t8->t8
 |0,acc,_=>acc
 |_+1,acc,[]=>acc
 |
  f+1,acc,o::t=>if acc.contains o=true then dz c f acc t else
  match c.look o with
  |some ob=>dz c f (acc++ [o]) (t++ob.ids)
  |none=>dz c f acc t
def gq(c:CSt):t8->Option (List aC)
 |[]=>some []
 |o::r=>match c.look o,gq c r with
  |some ob,some l=>some (ob::l)
  |_,_=>none
def gz:t8->Nat->Nat
 |[],_=>0
 |p::r,o=>if p=o then 0 else gz r o+1
def fB:List aC->t8
 |[]=> []
 |o::r=>o.ids++fB r
def dq:t8->Bool
 |[]=>true
 |a::r=> !r.contains a&&dq r
def nW(a b:t8):Bool:=a.all b.contains
def dX(mo mt:Nat->Nat):List aC->List aC
 |[]=> []
 |o::r=>o.ren mo mt::dX mo mt r
structure eg where
 r:SV
 os:List (Nat×aC)
 tk:List Nat
structure Sig where
 own:List Nat:=[]
 raw:List Nat:=[]
def qr(ob:List (Nat×aC)):List (Nat×aC)->List (Nat×aC)
 |[]=>ob
 |p::r=>qr (hU ob p.1 p.2) r
def qt(tk:t8):t8->t8
 |[]=>tk
 |t::r=>qt (j8 tk t) r
def l7(l:t8):t8->t8
 |[]=> []
 |t::r=>if l.contains t=true then l7 l r else t::l7 l r
def qm(d:Nat):t8->t8
 |[]=> []
 |t::r=>j7 d t::qm d r
def eg.small(q:eg):Bool:=q.os.all (fun p=>decide (p.1<1000)&&p.2.ids.all (fun k=>decide (k<1000))&&p.2.toks.all (fun k=>decide (k<1000)))&&q.r.ids.all (fun k=>decide (k<1000))&&q.r.toks.all (fun k=>decide (k<1000))&&q.tk.all (fun k=>decide (k<1000))
def jI(c:CSt)(d:t9)(m mt:t8)(q:eg):CSt:=
 CSt.put ⟨cR ((d.getD 0+1)*1000) ((d.getD 0+2)*1000) c.tm,
  qr (eY m (bm ((d.getD 0+1)*1000) ((d.getD 0+2)*1000) c.ob)) (oj (d.getD 0) m q.os),
  qt (l7 mt (bN ((d.getD 0+1)*1000) ((d.getD 0+2)*1000) c.tk)) (qm (d.getD 0) q.tk)⟩ d (q.r.ren (iw (d.getD 0) m) (j7 (d.getD 0)))
abbrev cU:=Nat->t7->List aC->Nat->Option eg
def eg.bare(q:eg):Bool:=q.os.isEmpty&&q.tk.isEmpty&&q.r.ids.isEmpty&&q.r.toks.isEmpty
def wz(c:CSt)(d:t9)(q:eg):Bool->LAd
 |true=>some (jI c d [] [] q)
 |false=>none
def nu(c:CSt)(d:t9)(q:eg):Bool->LAd
 |true=>some (c.put d q.r)
 |false=>wz c d q q.small
def lZ(c:CSt)(d:t9):Option eg->LAd
 |some q=>nu c d q q.bare
 |none=>none
def vB(c:CSt)(d:t9)(m mt:t8)(q:eg):Bool->LAd
 |true=>some (jI c d m mt q)
 |false=>none
def oe(c:CSt)(d:t9)(m mt:t8):Option eg->LAd
 |some q=>vB c d m mt q q.small
 |none=>none
def nf(call:cU)(c:CSt)(d:t9)(g:Nat)(a_:t7)(h:List t9)(m:t8)(os:List aC)(y:List t9):Bool->LAd
 |true=>oe c d m (cr (h++y)) (call g (SV.renL (gz m) id a_) (dX (gz m) id os) (h.length+y.length))
 |false=>none
def ng(call:cU)(c:CSt)(d:t9)(g:Nat)(a_:t7)(h:List t9)(m:t8):List aC×List t9->LAd
 |(os,mt2)=>nf call c d g a_ h m os mt2 (nW (SV.idsL a_++fB os) m&&dq m&&dq (cr (h++mt2))&&decide (m.length<=40)&&m.all fun o=> !inR (d.getD 0) o)
def lf(call:cU)(c:CSt)(d:t9)(g:Nat)(a_:t7)(h:List t9)(m:t8):Option (List aC)->LAd
 |some os=>ng call c d g a_ h m (dQ c.tk (50+h.length) os)
 |none=>none
def nh(call:cU)(c:CSt)(d:t9)(g:Nat):t7×List t9->LAd
 |(a_,mt1)=>lf call c d g a_ mt1 (dz c 60 [] (SV.idsL a_)) (gq c (dz c 60 [] (SV.idsL a_)))
def jz(call:cU)(sg:Sig)(d:t9)(g:Nat):CSt×t7->LAd
 |(c,a_)=>nh call c d g (jM c.tk sg.own 50 0 a_)
def jH(call:cU)(sg:Sig)(c:CSt)(d:t9)(g:Nat)(a_:t7):Bool->LAd
 |true=>lZ c d (call g (SV.bareL a_) [] 0)
 |false=>jz call sg d g (eF c a_ (iG sg.raw 0 a_))
def gX(call:cU)(sg:Sig)(c:CSt)(d:t9)(g:Nat)(a_:t7):LAd:=
 jH call sg c d g a_ ((SV.idsL a_).isEmpty&&sg.own.isEmpty)
inductive Dir where
 |kill (l:List Nat)
 |gc (l:List Nat)
 |gcr (lo hi:Nat)
 |pub (n:Nat)
 |pubo (o:Nat)
 |tok (n id:Nat)
 |obj (n id:Nat)
 |mtok (o t b:Nat)
inductive RI where
 |op (i:SI) (dead:List Nat)
 |grp (g:Nat) (b:Bool) (l:List SI) (dead:List Nat)
 |own (i:SI) (dead:List Nat)
 |tks (i:SI) (dead:List Nat)
 |dir (d:Dir)
structure FI where
 n:Nat
 q:Bool
 i:SI
inductive RC where
 |skip
 |ops (l:List RI)
 |flt (b ds:List Nat) (l:List FI) (dead:List Nat)
 |fla (b ds:List Nat) (l:List FI) (ps:List (List Nat)) (dead:List Nat)
 |seq (a b:RC)
 |cond (c:Arg) (a b:RC)
 |block (id:Nat) (b:RC)
 |loop (b:RC)
 |exit (id:Nat)
 |ret
 |pre (ds:List Dir) (a:RC)
 |post (a:RC) (ds:List Dir)
 |bad
def erL:List RI->LAc
 |[]=> []
 | .op i _::r=>i::erL r
 | .grp _ _ l _::r=>l++erL r
 | .own i _::r=>i::erL r
 | .tks i _::r=>i::erL r
 | .dir _::r=>erL r
def SOp.er:SOp->SOp
 | .appO z b x y=> .app z b x y
 |o=>o
def SI.er(i:SI):SI:=⟨i.dst,i.g,i.op.er⟩
def D0:List FI->Nat->SI
 |[],_=>⟨none,none,.lenC 0⟩
 |f::r,k=>if f.n=k then f.i.er else D0 r k
def unF(l:List FI):LAc:=(bU l.length).map (D0 l)
def RC.er:RC->fU
 | .skip=> .skip
 | .ops l=> .ops (erL l)
 | .flt b h l _=> .drw b h (unF l)
 | .fla b h l _ _=> .drw b h (unF l)
 | .seq a b=> .seq a.er b.er
 | .cond c a b=> .cond c a.er b.er
 | .block id b=> .block id b.er
 | .loop b=> .loop b.er
 | .exit id=> .exit id
 | .ret=> .ret
 | .pre _ a=>a.er
 | .post a _=>a.er
 | .bad=> .bad
def gcC(c:CSt):t8->CSt
 |[]=>c
 |o::r=>gcC (c.purge o (o+1)) r
def DL(c:CSt)(n id o:Nat)(obj:aC)(v:SV):CSt:=
 ⟨jd (cR id (id+1) (lx o obj c.tm)) n v,bm id (id+1) (kQ o obj c.ob),j8 (bN id (id+1) c.tk) id⟩
def OG(c:CSt)(n id o h off k cp:Nat):Option aC->LAd
 |some (.bar l)=>if h=1/\off+cp<=l.length/\k<=cp then some (DL c n id o (.bar (l.take (off+k))) (.byt ((l.drop off).take k) (.id id)))else some c
 |some (.arr sz' xs)=>if sz'=h/\off+cp<=xs.length/\k<=cp then some (DL c n id o (.arr sz' (xs.take (off+k))) (.lst h ((xs.drop off).take k) (.id id)))else some c
 |_=>some c
def OH(c:CSt)(n id:Nat):SV->LAd
 | .byt l t=>match t with
  | .no=>some c
  | .clip=>some ⟨jd (cR id (id+1) c.tm) n (.byt l (.id id)),bm id (id+1) c.ob,j8 (bN id (id+1) c.tk) id⟩
  | .id t=>if t=id then some c else if c.tk.contains t=true then some ⟨jd (cR id (id+1) c.tm) n (.byt l (.id id)),bm id (id+1) c.ob,j8 (bN id (id+1) (bN t (t+1) c.tk)) id⟩else none
 | .lst h y t=>match t with
  | .no=>some c
  | .clip=>some ⟨jd (cR id (id+1) c.tm) n (.lst h y (.id id)),bm id (id+1) c.ob,j8 (bN id (id+1) c.tk) id⟩
  | .id t=>if t=id then some c else if c.tk.contains t=true then some ⟨jd (cR id (id+1) c.tm) n (.lst h y (.id id)),bm id (id+1) c.ob,j8 (bN id (id+1) (bN t (t+1) c.tk)) id⟩else none
 | .psl o h off k (some cp)=>OG c n id o h off k cp (c.look o)
 |_=>some c
def mvC(c:CSt)(n id o h off k:Nat)(cap:t9)(obj:aC):CSt:=
 ⟨jd (cR id (id+1) (cR o (o+1) c.tm)) n (.psl id h off k cap),hU (bm id (id+1) (bm o (o+1) c.ob)) id obj,bN id (id+1) (bN o (o+1) c.tk)⟩
def xid(c:CSt)(n id o h off k:Nat)(cap:t9):Option aC->LAd
 |some (.bar l)=>some (mvC c n id o h off k cap (.bar l))
 |some (.arr sz' xs)=>some (mvC c n id o h off k cap (.arr sz' xs))
 |_=>some c
def XW(c:CSt)(n id:Nat):SV->LAd
 | .psl o h off k cap=>if o=id then some c else xid c n id o h off k cap (c.look o)
 |_=>some c
def lK(t:Nat):t7->Nat->t9
 |[],_=>none
 |v::r,k=>match v with
  | .lst _ _ (.id u)=>if u=t then some k else lK t r (k+1)
  |_=>lK t r (k+1)
def Rw(id:Nat):SV->SV
 | .lst h y _=> .lst h y (.id id)
 |v=>v
def N0(c:CSt)(o t id k:Nat)(cs:t7):LAd:=
 if c.tk.contains t=true/\¬o=id/\¬id=99 then some ⟨cR id (id+1) c.tm,hU (bm id (id+1) c.ob) o (.rc ((SV.purgeL id (id+1) cs).set k (Rw id (cs.getD k .undef)))),j8 (bN id (id+1) (bN t (t+1) c.tk)) id⟩else none
def DP(c:CSt)(o t b:Nat):Option aC->LAd
 |some (.rc cs)=>match lK t cs 0 with
  |some k=>N0 c o t (b+k) k cs
  |none=>some c
 |_=>some c
def qj(c:CSt):Dir->LAd
 | .mtok o t b=>DP c o t b (c.look o)
 | .kill l=>some (c.kill l)
 | .gc l=>some (gcC c l)
 | .gcr lo hi=>some (c.purge lo hi)
 | .pubo o=>some (c.publish o []).1
 | .pub n=>match c.get n with
  | .psl o _ _ _ _=>some (c.publish o []).1
  |_=>some c
 | .tok n id=>if id=99 then none else OH c n id (c.get n)
 | .obj n id=>if id<100 then none else XW c n id (c.get n)
def ig(c:CSt):List Dir->LAd
 |[]=>some c
 |d::r=>match qj c d with
  |some c'=>ig c' r
  |none=>none
inductive Ex where
 |n
 |x (id:Nat)
 |r
abbrev gE:=Option (Ex×CSt)
def mY(c:CSt)(d:t9):Option nP->LAd
 |some e=>some (c.app d e)
 |none=>none
def nq(c:CSt):t9->Option t6->LAd
 |some k,some l=>some (c.app (some k) {val:= .psl (k+100) 1 0 l.length (some l.length),new:=some (.bar l)})
 |_,_=>none
def og(c:CSt)(d:t9)(o off n:Nat)(cap:t9):Option aC->LAd
 |some (.bar l)=>if off+n<=l.length/\cap=some n then some (((c.publish o []).1).put d (.byt ((l.drop off).take n) .clip))else none
 |_=>none
def ql(c:CSt)(d:t9):SV->LAd
 | .psl o 1 off n cap=>og c d o off n cap (c.look o)
 |_=>none
def PB(c:CSt):t9->SV->LAd
 |some k,.str l=>some (c.app (some k) {val:= .psl (k+100) 1 0 l.length none,new:=some (.bar l)})
 |_,_=>none
def PA(c:CSt)(z:t7)(bytes:Nat)(l:t6):t9->Option t6->LAd
 |some k,some l'=>if z.length≠1 then none else if l'=[]then some (c.put (some k) (.byt l .clip))else if bytes=1/\l.length+l'.length<=140737488355328 then some (c.app (some k) {val:= .psl (k+100) 1 0 (l.length+l'.length) none,new:=some (.bar (l++l'))})else none
 |_,_=>none
def Pz(c:CSt)(z:t7)(bytes h:Nat)(l:f8):t9->Option f8->LAd
 |some k,some l'=>if l'=[]then some (c.put (some k) (.lst h l .clip))else if z.length=h/\(l.length+l'.length)*bytes<=140737488355328 then some (c.app (some k) {val:= .psl (k+100) h 0 (l.length+l'.length) none,new:=some (.arr h (l++l'))})else none
 |_,_=>none
def M0(c:CSt)(z:t7)(bytes o h n:Nat):t9->Option f8->Option f8->Option t6->Option t6->LAd
 |some k,some R,some l',_,_=>if z.length=h/\R.length=n/\(n+l'.length)*bytes<=140737488355328 then some ((c.purge o (o+1)).app (some k) {val:= .psl (k+100) h 0 (n+l'.length) none,new:=some (.arr h (R++l'))})else none
 |some k,none,_,some R,some l'=>if z.length=1/\h=1/\R.length=n/\(n+l'.length)*bytes<=140737488355328 then some ((c.purge o (o+1)).app (some k) {val:= .psl (k+100) 1 0 (n+l'.length) none,new:=some (.bar (R++l'))})else none
 |_,_,_,_,_=>none
def qJ(c:CSt)(d:t9)(z:t7)(bytes:Nat)(y:Arg):SV->LAd
 | .byt l t=>if t= .clip then PA c z bytes l d (dH c (c.ev y))else none
 | .lst h l t=>if t= .clip then Pz c z bytes h l d (fE c z.length (c.ev y))else none
 | .psl o h 0 n none=>M0 c z bytes o h n d (fE c z.length (.psl o h 0 n none)) (fE c z.length (c.ev y)) (dH c (.psl o h 0 n none)) (dH c (c.ev y))
 |_=>none
def opC(call:cU)(sg:Nat->Sig)(c:CSt)(d:t9)(o:SOp):LAd:=
 match o with
 | .newB h=>nq c d (toB (evL c h))
 | .slid x=>ql c d (c.ev x)
 | .appO z bytes x y=>qJ c d z bytes y (c.ev x)
 | .call f a_=>match c.ev f with
  | .fn g a b=>gX call (sg g) c d g (a++evL c a_++b)
  |_=>none
 |o=>mY c d (dJ c d o)
def dy(call:cU)(sg:Nat->Sig)(c:CSt)(i:SI):LAd:=
 match i.g with
 |none=>opC call sg c i.dst i.op
 |some (g,b)=>match c.get g with
  | .bool t=>if t=b then opC call sg c i.dst i.op else some (c.put i.dst (.tup []))
  | .tup []=>some (c.put i.dst (.tup []))
  |_=>none
mutual
def plC(call:cU)(sg:Nat->Sig):LAc->CSt->LAd
 |[],c=>some c
 |i::r,c=>nxP call sg r (opC call sg c i.dst i.op)
def nxP(call:cU)(sg:Nat->Sig):LAc->LAd->LAd
 |r,some c=>plC call sg r c
 |_,none=>none
end
def unL(c:CSt):LAc->CSt
 |[]=>c
 |i::r=>unL (c.put i.dst (.tup [])) r
def oM(call:cU)(sg:Nat->Sig)(b:Bool)(l:LAc)(c:CSt):SV->LAd
 | .bool t=>if t=b then plC call sg l c else some (unL c l)
 | .tup []=>some (unL c l)
 |_=>none
def Py(c:CSt)(h:Nat):t9->Option f8->LAd
 |some k,some xs=>some (c.app (some k) {val:= .psl (k+100) h 0 xs.length (some xs.length),new:=some (.arr h xs)})
 |_,_=>none
def xic(c:CSt)(d:t9):SOp->LAd
 | .lit E h=>Py c E d (rows E (evL c h))
 | .litB h=>nq c d (toB (evL c h))
 | .s2b x=>PB c d (c.ev x)
 | .app z bytes x y=>qJ c d z bytes y (c.ev x)
 |_=>none
def OK(c:CSt):t9->SV->LAd
 |some k,.str l=>some (c.app (some k) {val:= .byt l (.id (k+100)),tok:=true})
 |_,_=>none
def xhe(c:CSt)(d:t9):SOp->LAd
 | .s2b x=>OK c d (c.ev x)
 |_=>none
def zg(c:CSt)(i:SI):LAd:=match i.g with
 |none=>xhe c i.dst i.op
 |some _=>none
def rZ(c:CSt)(i:SI):LAd:=match i.g with
 |none=>xic c i.dst i.op
 |some _=>none
mutual
def fD(call:cU)(sg:Nat->Sig):List RI->CSt->LAd
 |[],c=>some c
 | .op i dead::r,c=>nxC call sg dead r (dy call sg c i)
 | .grp g b l dead::r,c=>nxC call sg dead r (oM call sg b l c (c.get g))
 | .own i dead::r,c=>nxC call sg dead r (rZ c i)
 | .tks i dead::r,c=>nxC call sg dead r (zg c i)
 | .dir d::r,c=>nxC call sg [] r (qj c d)
def nxC(call:cU)(sg:Nat->Sig)(h:t8):List RI->LAd->LAd
 |r,some c=>fD call sg r (c.kill h)
 |_,none=>none
end
def cV(c:CSt):SOp->Option SV
 | .pick k a b=>match c.ev k with
  | .bool t=>some (hZ t (c.ev a) (c.ev b))
  |_=>none
 |so=>cH c so
def qg(c:CSt)(o:SOp)(b:Bool):SV->Option SV
 | .bool t=>if t=b then cV c o else some (.tup [])
 | .tup []=>some (.tup [])
 |_=>none
def qv(c:CSt)(i:SI):Option SV:=match i.g with
 |none=>cV c i.op
 |some (g,b)=>qg c i.op b (c.get g)
def su(m:Nat)(c:CSt):List FI->Prop
 |[]=>True
 |p::r=>(m/2^p.n % 2=1\/qv c p.i=some (c.get (p.i.dst.getD 0)))/\su m c r
open Classical in
noncomputable def gdP{α:Type}(p:Prop)(v:α):Option α:=if p then some v else none
mutual
noncomputable def eT(call:cU)(sg:Nat->Sig)(b:t8):List FI->List FI->CSt->LAd
 |[],_,c=>some c
 |⟨n,true,i⟩::r,ps,c=>uO call sg b r (⟨n,true,i⟩::ps) c i.dst (qv c i)
 |⟨n,false,i⟩::r,ps,c=>qb call sg b r ps (b.getD n 0) (dy call sg c i)
noncomputable def uO(call:cU)(sg:Nat->Sig)(b:t8):List FI->List FI->CSt->t9->Option SV->LAd
 |r,ps,c,d,some v=>eT call sg b r ps (c.put d v)
 |_,_,_,_,none=>none
noncomputable def qb(call:cU)(sg:Nat->Sig)(b:t8):List FI->List FI->Nat->LAd->LAd
 |r,ps,m,some c=>qc call sg b r ps (gdP (su m c ps) c)
 |_,_,_,none=>none
noncomputable def qc(call:cU)(sg:Nat->Sig)(b:t8):List FI->List FI->LAd->LAd
 |r,ps,some c=>eT call sg b r ps c
 |_,_,none=>none
end
def tp:List FI->Nat->FI
 |[],k=>⟨k,false,⟨none,none,.lenC 0⟩⟩
 |f::r,k=>if f.n=k then f else tp r k
def ik(l:List FI):t8->List FI
 |[]=> []
 |k::r=>tp l k::ik l r
noncomputable def nD:LAd->LAd->LAd
 |some a,some b=>gdP (a=b) a
 |_,_=>none
noncomputable def iO(call:cU)(sg:Nat->Sig)(b:t8)(l:List FI):List t8->CSt->LAd
 |[],_=>none
 |[p],c=>eT call sg b (ik l p) [] c
 |p::q::r,c=>nD (eT call sg b (ik l p) [] c) (iO call sg b l (q::r) c)
def nrm(h:t8):LAd->gE
 |some c=>some (.n,c.kill h)
 |none=>none
def sq(rn:RC->CSt->gE)(b:RC):gE->gE
 |some (.n,c)=>rn b c
 |r=>r
def cnd(rn:RC->CSt->gE)(a b:RC)(c:CSt):SV->gE
 | .bool t=>if t=true then rn a c else rn b c
 |_=>none
def blk(id:Nat):gE->gE
 |some (.x id',c)=>if id'=id then some (.n,c)else some (.x id',c)
 |r=>r
def lp(rn:RC->CSt->gE)(b:RC):gE->gE
 |some (.n,c)=>rn (.loop b) c
 |r=>r
def prD(rn:RC->CSt->gE)(a:RC):LAd->gE
 |some c=>rn a c
 |none=>none
def psD(h:List Dir):gE->gE
 |some (.n,c)=>match ig c h with
  |some c'=>some (.n,c')
  |none=>none
 |r=>r
noncomputable def dG(rn:RC->CSt->gE)(call:cU)(sg:Nat->Sig):RC->CSt->gE
 | .skip,c=>some (.n,c)
 | .ops l,c=>nrm [] (fD call sg l c)
 | .flt b _ l dead,c=>nrm dead (eT call sg b l [] c)
 | .fla b _ l ps dead,c=>nrm dead (iO call sg b l ps c)
 | .seq a b,c=>sq rn b (rn a c)
 | .cond k a b,c=>cnd rn a b c (c.ev k)
 | .block id b,c=>blk id (rn b c)
 | .loop b,c=>lp rn b (rn b c)
 | .exit id,c=>some (.x id,c)
 | .ret,c=>some (.r,c)
 | .pre ds a,c=>prD rn a (ig c ds)
 | .post a ds,c=>psD ds (rn a c)
 | .bad,_=>none
def SI.ok(N:Nat)(i:SI):Bool:=match i.dst with
 |some d=>decide (d<N)
 |none=>true
def SI.okG(N g:Nat)(b:Bool)(i:SI):Bool:=i.ok N&&(match i.g with|some (g',b')=>decide (g'=g)&&(b'==b)|none=>false)&&decide (i.dst≠some g)
def RI.ok(N:Nat):RI->Bool
 | .op i _=>i.ok N
 | .grp g b l _=>l.all (SI.okG N g b)
 | .own i _=>i.ok N
 | .tks i _=>i.ok N
 | .dir _=>true
def mV(b:t8)(i j:Nat):Bool:=(b.getD j 0).testBit i
def nj(b:t8):t9->List FI->Bool
 |_,[]=>true
 |
  s,f::r=>if f.q then(match s with|some s=>mV b s f.n|none=>true)&&nj b s r
  else(match s with|some s=>mV b s f.n|none=>true)&&nj b (some f.n) r
def MZ(b:t8)(p q:FI):Bool:= !mV b q.n p.n&&(p.q||q.q||mV b p.n q.n)
def oz(b:t8):List FI->Bool
 |[]=>true
 |p::r=>r.all (MZ b p)&&oz b r
def SI.rds(i:SI):t8:=i.op.args.filterMap (fun| .t n=>some n|_=>none)++(match i.g with|some (g,_)=> [g]|none=> [])
def P6(b:t8)(l:List FI):Bool:=l.all fun q=> !q.q||(match q.i.dst with|some d=>l.all fun p=> !p.i.rds.contains d||(mV b q.n p.n&&decide (p.n≠q.n))|none=>false)
def N2(b:t8)(l:List FI):Bool:=nj b none l&&oz b l&&P6 b l&&decide ((l.map FI.n).Nodup)&&l.all (fun f=>decide (f.n<l.length))&&(bU l.length).all (l.map FI.n).contains
def vL(b:t8):t9->List FI->Bool
 |_,[]=>true
 |s,f::r=>if f.q then(match s with|some s=>mV b s f.n|none=>true)&&vL b s r else vL b (some f.n) r
def tq(b:t8):List FI->Bool
 |[]=>true
 |p::r=>r.all (fun q=> !mV b q.n p.n)&&tq b r
def fp(l:List FI):t8:=l.filterMap fun f=>if f.q then none else some f.n
def kB(b:t8):Nat->List t8->Bool
 |_,[]=>false
 |_,[]::_=>true
 |0,_=>false
 |k+1,A@((h::t)::_)=>(h::t).all fun g=>(h::t).any (fun x=>decide (x≠g)&&mV b x g)||kB b k (A.filterMap fun p=>match p with|x::r=>if x=g then some r else none|[]=>none)
def Ok(b:t8)(l:List FI)(h:List t8):Bool:=
 P6 b l&&decide ((l.map FI.n).Nodup)&&l.all (fun f=>decide (f.n<l.length))&&(bU l.length).all (l.map FI.n).contains&&
 h.all (fun p=>decide p.Nodup&&p.all (l.map FI.n).contains&&(l.map FI.n).all p.contains&&vL b none (ik l p)&&tq b (ik l p))&&kB b l.length (h.map fun p=>fp (ik l p))
def RC.ok(N:Nat):RC->Bool
 | .ops l=>l.all (RI.ok N)
 | .flt b _ l _=>l.all (fun f=>f.i.ok N)&&N2 b l
 | .fla b _ l h _=>l.all (fun f=>f.i.ok N)&&Ok b l h
 | .seq a b=>a.ok N&&b.ok N
 | .cond _ a b=>a.ok N&&b.ok N
 | .block _ b=>b.ok N
 | .loop b=>b.ok N
 | .pre _ a=>a.ok N
 | .post a _=>a.ok N
 |_=>true
inductive RV where
 |tmp (t:Nat)
 |cell (t n:Nat) (ag:Bool)
structure FnC where
 code:RC
 n:Nat
 rs:List RV
 keep:List Nat:=[]
 raw:List Nat:=[]
inductive FnB where
 |code (F:FnC)
 |prim (f:List SV->List aC->Nat->Option eg)
structure kE where
 fn:Nat->Option FnB
 sg:Nat->Sig
def qH(c:CSt):List RV->Option t7
 |[]=>some []
 | .tmp t::r=>match qH c r with
  |some vs=>some (c.get t::vs)
  |none=>none
 | .cell t n ag::r=>match (if ag=true\/n=1 then lW c n ag (c.get t)else none),qH c r with
  |some v,some vs=>some (v::vs)
  |_,_=>none
def kK:Nat->t8
 |0=> []
 |n+1=>kK n++ [n]
def fM(k:Nat):List aC->List (Nat×aC)
 |[]=> []
 |o::r=>(k,o)::fM (k+1) r
def gN(k:Nat)(m:t8)(o:Nat):Nat:=if o<k then o else 100+gz m o
def tks(b n:Nat):t8:=(kK n).map (b+ ·)
def X5(k:Nat)(vs:t7)(h:List t9)(m:t8)(os:List aC)(y:List t9):Bool->Option eg
 |true=>some ⟨(je vs).ren (gN k m) id,(fM 0 (dX (gN k m) id (os.take k)))++(fM (100+k) (dX (gN k m) id (os.drop k))),tks 60 (h.length+y.length)⟩
 |false=>none
def X6(k:Nat)(vs:t7)(h:List t9)(m:t8):List aC×List t9->Option eg
 |(os,mt2)=>X5 k vs h m os mt2 (nW (SV.idsL vs++fB os) m&&dq m&&dq (cr (h++mt2))&&decide (m.take k=kK k)&&(m.drop k).all fun o=>decide (k<=o))
def X7(k:Nat)(c:CSt)(vs:t7)(h:List t9)(m:t8):Option (List aC)->Option eg
 |some os=>X6 k vs h m (dQ c.tk (60+h.length) os)
 |none=>none
def X8(k:Nat)(c:CSt):t7×List t9->Option eg
 |(vs,mt1)=>X7 k c vs mt1 (dz c 60 [] (kK k++SV.idsL vs)) (gq c (dz c 60 [] (kK k++SV.idsL vs)))
def M8(keep:t8)(k:Nat)(c:CSt)(vs:t7):Bool->Option eg
 |true=>some ⟨je (SV.bareL vs),[],[]⟩
 |false=>X8 k c (jM c.tk keep 60 0 vs)
def Qm(keep:t8)(k:Nat):CSt×t7->Option eg
 |(c,vs)=>M8 keep k c vs (decide (k=0)&&(SV.idsL vs).isEmpty&&keep.isEmpty)
def M9(keep raw:t8)(k:Nat)(c:CSt):Option t7->Option eg
 |some vs=>Qm keep k (eF c vs (iG raw 0 vs))
 |none=>none
def D5(F:FnC)(k:Nat):gE->Option eg
 |some (.n,c)=>M9 F.keep F.raw k c (qH c F.rs)
 |some (.r,c)=>M9 F.keep F.raw k c (qH c F.rs)
 |_=>none
def nt:Nat->t7->List (Nat×SV)
 |_,[]=> []
 |i,v::r=>(i,v)::nt (i+1) r
def qu(args:t7)(os:List aC)(k:Nat):CSt:=⟨nt 0 args,fM 0 os,tks 50 k⟩
def D4(rn:RC->CSt->gE)(F:FnC)(args:t7)(os:List aC)(k:Nat):gE:=if args.length<=F.n then rn F.code (qu args os k)else none
def nC(rn:RC->CSt->gE):Option FnB->t7->List aC->Nat->Option eg
 |some (.code F),args,os,k=>D5 F os.length (D4 rn F args os k)
 |some (.prim f),args,os,k=>f args os k
 |none,_,_,_=>none
noncomputable def gw(T:kE):Nat->RC->CSt->gE
 |0,_,_=>none
 |n+1,r,c=>dG (gw T n) (fun g args os k=>nC (gw T n) (T.fn g) args os k) T.sg r c
noncomputable def eP(T:kE)(n:Nat):cU:=fun g args os k=>nC (gw T n) (T.fn g) args os k
noncomputable def lim{α:Type}(g:Nat->Option α):Option α:=open Classical in if h:∃n x,g n=some x then g (Classical.choose h)else none
noncomputable def run(T:kE)(r:RC)(c:CSt):gE:=lim fun n=>gw T n r c
noncomputable def call(T:kE):cU:=fun g args os k=>lim fun n=>eP T n g args os k
end Go.Sy
namespace Go.Sy
variable [ba]
def leR(f g:RC->CSt->gE):Prop:=∀r c x,f r c=some x->g r c=some x
def leC(f g:cU):Prop:=∀a b o k x,f a b o k=some x->g a b o k=some x
theorem wy{c:CSt}{d:t9}{x:CSt}{a b:Option eg}(h:∀q,a=some q->b=some q)(k:lZ c d a=some x):lZ c d b=some x:=by
 cases a with
 |none=>cases k
 |some q=>rw[h q rfl];exact k
theorem vC{c:CSt}{d:t9}{m mt:t8}{x:CSt}{a b:Option eg}(h:∀q,a=some q->b=some q)(k:oe c d m mt a=some x):oe c d m mt b=some x:=by
 cases a with
 |none=>cases k
 |some q=>rw[h q rfl];exact k
theorem vE{f g:cU}(h:leC f g){c:CSt}{d:t9}{n:Nat}{a_:t7}{y:List t9}{m:t8}{o:Option (List aC)}{x:CSt}
 (k:lf f c d n a_ y m o=some x):lf g c d n a_ y m o=some x:=by
 cases o with
 |none=>cases k
 |some os=>
  simp only[lf]at k ⊢;generalize dQ c.tk (50+y.length) os=z at k ⊢;obtain⟨E,F⟩:=z;simp only[ng]at k ⊢;generalize (nW (SV.idsL a_++fB E) m&&dq m&&dq (cr (y++F))&&decide (m.length<=40)&&m.all fun o=> !inR (d.getD 0) o)=b at k ⊢;cases b with
  |false=>cases k
  |true=>simp only[nf]at k ⊢;exact vC (fun q H=>h _ _ _ _ _ H) k
theorem vz{f g:cU}(h:leC f g){sg:Sig}{d:t9}{n:Nat}{p:CSt×t7}{x:CSt}(k:jz f sg d n p=some x):jz g sg d n p=some x:=by obtain⟨c,a_⟩:=p;simp only[jz]at k ⊢;generalize jM c.tk sg.own 50 0 a_=z at k ⊢;obtain⟨y,E⟩:=z;simp only[nh]at k ⊢;exact vE h k
theorem wH{f g:cU}(h:leC f g){sg:Sig}{c:CSt}{d:t9}{n:Nat}{a_:t7}{x:CSt}(k:gX f sg c d n a_=some x):gX g sg c d n a_=some x:=by
 unfold gX at k ⊢;generalize ((SV.idsL a_).isEmpty&&sg.own.isEmpty)=b at k ⊢;cases b with
 |true=>exact wy (fun q y=>h _ _ _ _ _ y) k
 |false=>exact vz h k
theorem lT{f g:cU}(h:leC f g){sg:Nat->Sig}{c:CSt}{d:t9}{o:SOp}{x:CSt}(k:opC f sg c d o=some x):opC g sg c d o=some x:=by
 cases o with
 |call a a_=>simp only[opC]at k ⊢;split at k<;>first|exact wH h k|cases k
 |_=>exact k
theorem i7{f g:cU}(h:leC f g){sg:Nat->Sig}{c:CSt}{i:SI}{x:CSt}(k:dy f sg c i=some x):dy g sg c i=some x:=by
 unfold dy at k ⊢;split at k
 ·exact lT h k
 ·split at k
  ·split at k
   ·rename_i y;rw[if_pos y];exact lT h k
   ·rename_i y;rw[if_neg y];exact k
  ·exact k
  ·cases k
theorem uv{f g:cU}(h:leC f g){sg:Nat->Sig}:∀{l:LAc}{c x:CSt},plC f sg l c=some x->plC g sg l c=some x:=by
 intro l;induction l with
 |nil=>intro c x k;simpa[plC]using k
 |cons i r y=>
  intro c x k;simp only[plC]at k ⊢;cases hs:opC f sg c i.dst i.op with
  |none=>rw[hs]at k;simp[nxP]at k
  |some c1=>rw[hs]at k;rw[lT h hs];simp only[nxP]at k ⊢;exact y k
theorem qV{f g:cU}(h:leC f g){sg:Nat->Sig}{b:Bool}{l:LAc}{c x:CSt}{v:SV}(k:oM f sg b l c v=some x):oM g sg b l c v=some x:=by
 unfold oM at k ⊢;split at k
 ·split at k
  ·rename_i y;rw[if_pos y];exact uv h k
  ·rename_i y;rw[if_neg y];exact k
 ·exact k
 ·cases k
theorem mz{f g:cU}(h:leC f g){sg:Nat->Sig}:∀{l:List RI}{c x:CSt},fD f sg l c=some x->fD g sg l c=some x:=by
 intro l;induction l with
 |nil=>intro c x k;simpa[fD]using k
 |cons i r z=>
  intro c x k;cases i with
  |op i y=>
   simp only[fD]at k ⊢;cases hs:dy f sg c i with
   |none=>rw[hs]at k;simp[nxC]at k
   |some c1=>rw[hs]at k;rw[i7 h hs];simp only[nxC]at k ⊢;exact z k
  |grp q b l y=>
   simp only[fD]at k ⊢;cases hs:oM f sg b l c (c.get q)with
   |none=>rw[hs]at k;simp[nxC]at k
   |some c1=>rw[hs]at k;rw[qV h hs];simp only[nxC]at k ⊢;exact z k
  |own i y=>
   simp only[fD]at k ⊢;cases hs:rZ c i with
   |none=>rw[hs]at k;simp[nxC]at k
   |some c1=>rw[hs]at k;simp only[nxC]at k ⊢;exact z k
  |tks i y=>
   simp only[fD]at k ⊢;cases hs:zg c i with
   |none=>rw[hs]at k;simp[nxC]at k
   |some c1=>rw[hs]at k;simp only[nxC]at k ⊢;exact z k
  |dir d=>
   simp only[fD]at k ⊢;cases hs:qj c d with
   |none=>rw[hs]at k;simp[nxC]at k
   |some c1=>rw[hs]at k;simp only[nxC]at k ⊢;exact z k
theorem iL{f g:cU}(h:leC f g){sg:Nat->Sig}{b:t8}:∀{l y:List FI}{c x:CSt},eT f sg b l y c=some x->eT g sg b l y c=some x:=by
 intro l;induction l with
 |nil=>intro y c x k;simpa[eT]using k
 |cons i r z=>
  intro y c x k;obtain⟨n,q,i⟩:=i;cases q with
  |true=>
   simp only[eT]at k ⊢;cases hq:qv c i with
   |none=>rw[hq]at k;simp[uO]at k
   |some v=>rw[hq]at k;simp only[uO]at k ⊢;exact z k
  |false=>
   simp only[eT]at k ⊢;cases hs:dy f sg c i with
   |none=>rw[hs]at k;simp[qb]at k
   |some c1=>
    rw[hs]at k;rw[i7 h hs];simp only[qb]at k ⊢;cases hg:gdP (su (b.getD n 0) c1 y) c1 with
    |none=>rw[hg]at k;simp[qc]at k
    |some c2=>rw[hg]at k;simp only[qc]at k ⊢;exact z k
theorem mK{f g:cU}(h:leC f g){sg:Nat->Sig}{b:t8}{l:List FI}:∀{E:List t8}{c x:CSt},iO f sg b l E c=some x->iO g sg b l E c=some x
 |[],c,x,k=>by simp[iO]at k
 |[p],c,x,k=>iL h k
 |p::q::r,c,x,k=>by
  simp only[iO]at k ⊢;cases h1:eT f sg b (ik l p) [] c with
  |none=>rw[h1]at k;simp[nD]at k
  |some y=>
   cases h2:iO f sg b l (q::r) c with
   |none=>rw[h1,h2]at k;simp[nD]at k
   |some z=>rw[h1,h2]at k;rw[iL h h1,mK h h2];exact k
theorem nZ{rn H:RC->CSt->gE}{f g:cU}(E:leR rn H)(h:leC f g){sg:Nat->Sig}{r:RC}{c:CSt}{x:Ex×CSt}(k:dG rn f sg r c=some x):dG H g sg r c=some x:=by
 cases r with
 |skip=>exact k
 |ret=>exact k
 |exit id=>exact k
 |ops l=>
  simp only[dG]at k ⊢;cases hs:fD f sg l c with
  |none=>rw[hs]at k;cases k
  |some c1=>rw[hs]at k;rw[mz h hs];exact k
 |flt b I l F=>
  simp only[dG]at k ⊢;cases hs:eT f sg b l [] c with
  |none=>rw[hs]at k;simp[nrm]at k
  |some c1=>rw[hs]at k;rw[iL h hs];exact k
 |fla b I l L F=>
  simp only[dG]at k ⊢;cases hs:iO f sg b l L c with
  |none=>rw[hs]at k;simp[nrm]at k
  |some c1=>rw[hs]at k;rw[mK h hs];exact k
 |seq a b=>
  simp only[dG]at k ⊢;cases hs:rn a c with
  |none=>rw[hs]at k;cases k
  |some p=>
   rw[hs]at k;rw[E _ _ _ hs];obtain⟨e,c1⟩:=p;cases e with
   |n=>exact E _ _ _ k
   |x id=>exact k
   |r=>exact k
 |cond a y z=>
  simp only[dG]at k ⊢;unfold cnd at k ⊢;split at k
  ·split at k
   ·rename_i J;rw[if_pos J];exact E _ _ _ k
   ·rename_i J;rw[if_neg J];exact E _ _ _ k
  ·cases k
 |block id b=>
  simp only[dG]at k ⊢;cases hs:rn b c with
  |none=>rw[hs]at k;cases k
  |some p=>rw[hs]at k;rw[E _ _ _ hs];exact k
 |loop b=>
  simp only[dG]at k ⊢;cases hs:rn b c with
  |none=>rw[hs]at k;cases k
  |some p=>
   rw[hs]at k;rw[E _ _ _ hs];obtain⟨e,c1⟩:=p;cases e with
   |n=>exact E _ _ _ k
   |x id=>exact k
   |r=>exact k
 |pre I a=>
  simp only[dG]at k ⊢;cases hs:ig c I with
  |none=>rw[hs]at k;cases k
  |some c1=>rw[hs]at k;exact E _ _ _ k
 |bad=>cases k
 |post a I=>
  simp only[dG]at k ⊢;cases hs:rn a c with
  |none=>rw[hs]at k;cases k
  |some p=>rw[hs]at k;rw[E _ _ _ hs];exact k
theorem lm{rn y:RC->CSt->gE}(E:leR rn y){o:Option FnB}{a:t7}{os:List aC}{k:Nat}{x:eg}(h:nC rn o a os k=some x):nC y o a os k=some x:=by
 cases o with
 |none=>cases h
 |some b=>
  cases b with
  |prim f=>exact h
  |code F=>
   simp only[nC,D4]at h ⊢;split at h
   ·rename_i z
    rw[if_pos z];cases hs:rn F.code (qu a os k)with
    |none=>rw[hs]at h;cases h
    |some p=>rw[hs]at h;rw[E _ _ _ hs];exact h
   ·cases h
variable {T : kE}
theorem qE:∀n,leR (gw T n) (gw T (n+1))
 |0=>fun r c x h=>by simp[gw]at h
 |n+1=>fun r c x h=>by have y:=qE n;rw[gw]at h ⊢;exact nZ y (fun g a os k x h=>lm y h) h
theorem kq{n m:Nat}(h:n<=m):leR (gw T n) (gw T m):=by
 induction m with
 |zero=>
  have:n=0:=by omega
  subst this;exact fun _ _ _ h=>h
 |succ m E=>
  rcases bL n (m+1)with y|y
  ·exact fun r c x z=>qE m r c x (E (by omega) r c x z)
  ·have:n=m+1:=by omega
   subst this;exact fun _ _ _ h=>h
theorem dA{n m:Nat}(h:n<=m):leC (eP T n) (eP T m):=fun _ _ _ _ _ y=>lm (kq h) y
theorem uH{α:Type}{g:Nat->Option α}(F:∀n m x,n<=m->g n=some x->g m=some x){n:Nat}{x:α}(h:g n=some x):lim g=some x:=by have z:∃n x,g n=some x:=⟨n,x,h⟩;unfold lim;rw[dif_pos z];obtain⟨y,E⟩:=Classical.choose_spec z;have H:=F _ (max n (Classical.choose z)) _ (wX _ _) E;have I:=F _ (max n (Classical.choose z)) _ (Nat.le_max_left _ _) h;rw[E,<-H,I]
theorem M4{α:Type}{g:Nat->Option α}{x:α}(h:lim g=some x):∃n,g n=some x:=by
 unfold lim at h;split at h
 ·exact⟨_,h⟩
 ·cases h
theorem Gp{n:Nat}{r:RC}{c:CSt}{x:Ex×CSt}(h:gw T n r c=some x):run T r c=some x:=uH (fun _ _ _ y h=>kq y _ _ _ h) h
theorem gG{r:RC}{c:CSt}{x:Ex×CSt}(h:run T r c=some x):∃n,gw T n r c=some x:=M4 h
theorem sA{n:Nat}{g:Nat}{a:t7}{os:List aC}{k:Nat}{x:eg}(h:eP T n g a os k=some x):call T g a os k=some x:=uH (fun _ _ _ y h=>dA y _ _ _ _ _ h) h
theorem oB{g:Nat}{a:t7}{os:List aC}{k:Nat}{x:eg}(h:call T g a os k=some x):∃n,eP T n g a os k=some x:=M4 h
theorem Gq(n:Nat):leR (gw T n) (run T):=fun _ _ _ h=>Gp h
theorem QT(n:Nat):leC (eP T n) (call T):=fun _ _ _ _ _ h=>sA h
theorem wI{sg:Sig}{c:CSt}{d:t9}{g:Nat}{a_:t7}{x:CSt}(k:gX (call T) sg c d g a_=some x):∃n,gX (eP T n) sg c d g a_=some x:=by
 unfold gX at k ⊢;generalize ((SV.idsL a_).isEmpty&&sg.own.isEmpty)=b at k ⊢;cases b with
 |true=>
  simp only[jH]at k ⊢;cases hq:call T g (SV.bareL a_) [] 0 with
  |none=>rw[hq]at k;cases k
  |some q=>obtain⟨n,hn⟩:=oB hq;exact⟨n,by rw[hn];rw[hq]at k;exact k⟩
 |false=>
  simp only[jH]at k ⊢;generalize eF c a_ (iG sg.raw 0 a_)=z at k ⊢;obtain⟨c1,H⟩:=z;simp only[jz]at k ⊢;generalize jM c1.tk sg.own 50 0 H=z at k ⊢;obtain⟨h,y⟩:=z;simp only[nh]at k ⊢;cases ho:gq c1 (dz c1 60 [] (SV.idsL h))with
  |none=>rw[ho]at k;cases k
  |some os=>
   rw[ho]at k;simp only[lf]at k ⊢;generalize dQ c1.tk (50+y.length) os=z at k ⊢;obtain⟨F,E⟩:=z;simp only[ng]at k ⊢;generalize (nW (SV.idsL h++fB F) (dz c1 60 [] (SV.idsL h))&&dq (dz c1 60 [] (SV.idsL h))&&dq (cr (y++E))&&decide ((dz c1 60 [] (SV.idsL h)).length<=40)&&(dz c1 60 [] (SV.idsL h)).all fun o=> !inR (d.getD 0) o)=b at k ⊢;cases b with
   |false=>cases k
   |true=>
    simp only[nf]at k ⊢;cases hq:call T g (SV.renL (gz (dz c1 60 [] (SV.idsL h))) id h) (dX (gz (dz c1 60 [] (SV.idsL h))) id F) (y.length+E.length)with
    |none=>rw[hq]at k;cases k
    |some q=>obtain⟨n,hn⟩:=oB hq;exact⟨n,by rw[hn];rw[hq]at k;exact k⟩
theorem pj{sg:Nat->Sig}{c:CSt}{d:t9}{o:SOp}{x:CSt}(k:opC (call T) sg c d o=some x):∃n,opC (eP T n) sg c d o=some x:=by
 cases o with
 |call a a_=>simp only[opC]at k ⊢;split at k<;>first|exact wI k|cases k
 |_=>exact⟨0,k⟩
theorem oa{sg:Nat->Sig}{c:CSt}{i:SI}{x:CSt}(k:dy (call T) sg c i=some x):∃n,dy (eP T n) sg c i=some x:=by
 unfold dy at k ⊢;split at k
 ·exact pj k
 ·split at k
  ·split at k
   ·rename_i h;simp only[if_pos h];exact pj k
   ·rename_i h;simp only[if_neg h];exact⟨0,k⟩
  ·exact⟨0,k⟩
  ·cases k
theorem E2{sg:Nat->Sig}:∀{l:LAc}{c x:CSt},plC (call T) sg l c=some x->∃n,plC (eP T n) sg l c=some x:=by
 intro l;induction l with
 |nil=>intro c x k;exact⟨0,by simpa[plC]using k⟩
 |cons i r y=>
  intro c x k;simp only[plC]at k ⊢;cases hs:opC (call T) sg c i.dst i.op with
  |none=>rw[hs]at k;simp[nxP]at k
  |some c1=>rw[hs]at k;simp only[nxP]at k;obtain⟨n,hn⟩:=pj hs;obtain⟨m,h⟩:=y k;refine⟨max n m, ?_⟩;rw[lT (dA (Nat.le_max_left n m)) hn];simp only[nxP];exact uv (dA (wX n m)) h
theorem C9{sg:Nat->Sig}{b:Bool}{l:LAc}{c x:CSt}{v:SV}(k:oM (call T) sg b l c v=some x):∃n,oM (eP T n) sg b l c v=some x:=by
 unfold oM at k ⊢;split at k
 ·split at k
  ·rename_i h;simp only[if_pos h];exact E2 k
  ·rename_i h;simp only[if_neg h];exact⟨0,k⟩
 ·exact⟨0,k⟩
 ·cases k
theorem CR{sg:Nat->Sig}:∀{l:List RI}{c x:CSt},fD (call T) sg l c=some x->∃n,fD (eP T n) sg l c=some x:=by
 intro l;induction l with
 |nil=>intro c x k;exact⟨0,by simpa[fD]using k⟩
 |cons i r y=>
  intro c x k;cases i with
  |op i h=>
   simp only[fD]at k ⊢;cases hs:dy (call T) sg c i with
   |none=>rw[hs]at k;simp[nxC]at k
   |some c1=>rw[hs]at k;simp only[nxC]at k;obtain⟨n,hn⟩:=oa hs;obtain⟨m,z⟩:=y k;refine⟨max n m, ?_⟩;rw[i7 (dA (Nat.le_max_left n m)) hn];simp only[nxC];exact mz (dA (wX n m)) z
  |grp q b l h=>
   simp only[fD]at k ⊢;cases hs:oM (call T) sg b l c (c.get q)with
   |none=>rw[hs]at k;simp[nxC]at k
   |some c1=>rw[hs]at k;simp only[nxC]at k;obtain⟨n,hn⟩:=C9 hs;obtain⟨m,z⟩:=y k;refine⟨max n m, ?_⟩;rw[qV (dA (Nat.le_max_left n m)) hn];simp only[nxC];exact mz (dA (wX n m)) z
  |own i h=>
   simp only[fD]at k ⊢;cases hs:rZ c i with
   |none=>rw[hs]at k;simp[nxC]at k
   |some c1=>rw[hs]at k;simp only[nxC]at k ⊢;exact y k
  |tks i h=>
   simp only[fD]at k ⊢;cases hs:zg c i with
   |none=>rw[hs]at k;simp[nxC]at k
   |some c1=>rw[hs]at k;simp only[nxC]at k ⊢;exact y k
  |dir d=>
   simp only[fD]at k ⊢;cases hs:qj c d with
   |none=>rw[hs]at k;simp[nxC]at k
   |some c1=>rw[hs]at k;simp only[nxC]at k ⊢;exact y k
theorem mH{sg:Nat->Sig}{b:t8}:∀{l h:List FI}{c x:CSt},eT (call T) sg b l h c=some x->∃n,eT (eP T n) sg b l h c=some x:=by
 intro l;induction l with
 |nil=>intro h c x k;exact⟨0,by simpa[eT]using k⟩
 |cons i r H=>
  intro h c x k;obtain⟨n,q,i⟩:=i;cases q with
  |true=>
   simp only[eT]at k ⊢;cases hq:qv c i with
   |none=>rw[hq]at k;simp[uO]at k
   |some v=>rw[hq]at k;simp only[uO]at k ⊢;exact H k
  |false=>
   simp only[eT]at k ⊢;cases hs:dy (call T) sg c i with
   |none=>rw[hs]at k;simp[qb]at k
   |some c1=>
    rw[hs]at k;simp only[qb]at k;cases hg:gdP (su (b.getD n 0) c1 h) c1 with
    |none=>rw[hg]at k;simp[qc]at k
    |some c2=>rw[hg]at k;simp only[qc]at k;obtain⟨y,E⟩:=oa hs;obtain⟨F,z⟩:=H k;refine⟨max y F, ?_⟩;rw[i7 (dA (Nat.le_max_left y F)) E];simp only[qb];rw[hg];simp only[qc];exact iL (dA (wX y F)) z
theorem rA{sg:Nat->Sig}{b:t8}{l:List FI}:∀{h:List t8}{c x:CSt},iO (call T) sg b l h c=some x->∃n,iO (eP T n) sg b l h c=some x
 |[],c,x,k=>by simp[iO]at k
 |[p],c,x,k=>mH k
 |p::q::r,c,x,k=>by
  simp only[iO]at k ⊢;cases h1:eT (call T) sg b (ik l p) [] c with
  |none=>rw[h1]at k;simp[nD]at k
  |some y=>
   cases h2:iO (call T) sg b l (q::r) c with
   |none=>rw[h1,h2]at k;simp[nD]at k
   |some z=>rw[h1,h2]at k;obtain⟨n,hn⟩:=mH h1;obtain⟨m,E⟩:=rA h2;exact⟨max n m,by rw[iL (dA (Nat.le_max_left n m)) hn,mK (dA (wX n m)) E];exact k⟩
theorem two{r s:RC}{c d:CSt}{x y:Ex×CSt}(h:run T r c=some x)(k:run T s d=some y):∃n,gw T n r c=some x/\gw T n s d=some y:=by obtain⟨n,hn⟩:=gG h;obtain⟨m,z⟩:=gG k;exact⟨max n m,kq (Nat.le_max_left n m) _ _ _ hn,kq (wX n m) _ _ _ z⟩
theorem vw{r:RC}{c:CSt}{x:Ex×CSt}(k:dG (run T) (call T) T.sg r c=some x):∃n,dG (gw T n) (eP T n) T.sg r c=some x:=by
 cases r with
 |skip=>exact⟨0,k⟩
 |ret=>exact⟨0,k⟩
 |exit id=>exact⟨0,k⟩
 |ops l=>
  simp only[dG]at k ⊢;cases hs:fD (call T) T.sg l c with
  |none=>rw[hs]at k;cases k
  |some c1=>obtain⟨n,hn⟩:=CR hs;exact⟨n,by rw[hn];rw[hs]at k;exact k⟩
 |flt b E l h=>
  simp only[dG]at k ⊢;cases hs:eT (call T) T.sg b l [] c with
  |none=>rw[hs]at k;simp[nrm]at k
  |some c1=>obtain⟨n,hn⟩:=mH hs;exact⟨n,by rw[hn];rw[hs]at k;exact k⟩
 |fla b E l J h=>
  simp only[dG]at k ⊢;cases hs:iO (call T) T.sg b l J c with
  |none=>rw[hs]at k;simp[nrm]at k
  |some c1=>obtain⟨n,hn⟩:=rA hs;exact⟨n,by rw[hn];rw[hs]at k;exact k⟩
 |seq a b=>
  simp only[dG]at k ⊢;cases hs:run T a c with
  |none=>rw[hs]at k;cases k
  |some p=>
   rw[hs]at k;obtain⟨e,c1⟩:=p;cases e with
   |n=>obtain⟨n,H,I⟩:=two hs k;exact⟨n,by rw[H];exact I⟩
   |x id=>obtain⟨n,hn⟩:=gG hs;exact⟨n,by rw[hn];exact k⟩
   |r=>obtain⟨n,hn⟩:=gG hs;exact⟨n,by rw[hn];exact k⟩
 |cond a y z=>
  simp only[dG]at k ⊢;unfold cnd at k ⊢;split at k
  ·split at k
   ·rename_i F;simp only[if_pos F];exact gG k
   ·rename_i F;simp only[if_neg F];exact gG k
  ·cases k
 |block id b=>
  simp only[dG]at k ⊢;cases hs:run T b c with
  |none=>rw[hs]at k;cases k
  |some p=>obtain⟨n,hn⟩:=gG hs;exact⟨n,by rw[hn];rw[hs]at k;exact k⟩
 |loop b=>
  simp only[dG]at k ⊢;cases hs:run T b c with
  |none=>rw[hs]at k;cases k
  |some p=>
   rw[hs]at k;obtain⟨e,c1⟩:=p;cases e with
   |n=>obtain⟨n,H,I⟩:=two hs k;exact⟨n,by rw[H];exact I⟩
   |x id=>obtain⟨n,hn⟩:=gG hs;exact⟨n,by rw[hn];exact k⟩
   |r=>obtain⟨n,hn⟩:=gG hs;exact⟨n,by rw[hn];exact k⟩
 |pre E a=>
  simp only[dG]at k ⊢;cases hs:ig c E with
  |none=>rw[hs]at k;cases k
  |some c1=>rw[hs]at k;exact gG k
 |bad=>cases k
 |post a E=>
  simp only[dG]at k ⊢;cases hs:run T a c with
  |none=>rw[hs]at k;cases k
  |some p=>obtain⟨n,hn⟩:=gG hs;exact⟨n,by rw[hn];rw[hs]at k;exact k⟩
theorem r8{α:Type}{a b:Option α}(h:∀x,a=some x->b=some x)(k:∀x,b=some x->a=some x):a=b:=by
 cases a with
 |none=>cases b with
  |none=>rfl
  |some x=>exact absurd (k x rfl) (by simp)
 |some x=>exact(h x rfl).symm
theorem gQ(r:RC)(c:CSt):run T r c=dG (run T) (call T) T.sg r c:=by
 refine r8 (fun x h=> ?_) (fun x h=> ?_)
 ·obtain⟨n,hn⟩:=gG h
  cases n with
  |zero=>simp[gw]at hn
  |succ n=>rw[gw]at hn;exact nZ (Gq n) (QT n) hn
 ·obtain⟨n,hn⟩:=vw h
  exact Gp (n:=n+1) (by rw[gw];exact hn)
theorem BZ(g:Nat)(a:t7)(os:List aC)(k:Nat):call T g a os k=nC (run T) (T.fn g) a os k:=by
 refine r8 (fun x h=> ?_) (fun x h=> ?_)
 ·obtain⟨n,hn⟩:=oB h
  exact lm (Gq n) hn
 ·cases hF:T.fn g with
  |none=>rw[hF]at h;cases h
  |some b=>
   cases b with
   |prim f=>exact sA (n:=0) (by unfold eP;rw[hF];rw[hF]at h;exact h)
   |code F=>
    rw[hF]at h;simp only[nC,D4]at h;split at h
    ·rename_i y
     cases hs:run T F.code (qu a os k)with
     |none=>rw[hs]at h;cases h
     |some p=>obtain⟨n,hn⟩:=gG hs;refine sA (n:=n) ?_;unfold eP;rw[hF];simp only[nC,D4,if_pos y];rw[hn];rw[hs]at h;exact h
    ·cases h
theorem EK(c:CSt):run T .skip c=some (.n,c):=gQ _ _
theorem O3(c:CSt):run T .ret c=some (.r,c):=gQ _ _
theorem EO(id:Nat)(c:CSt):run T (.exit id) c=some (.x id,c):=gQ _ _
theorem O5(l:List RI)(c:CSt):run T (.ops l) c=nrm [] (fD (call T) T.sg l c):=gQ _ _
theorem O7(b z:t8)(l:List FI)(y:List t8)(h:t8)(c:CSt):run T (.fla b z l y h) c=nrm h (iO (call T) T.sg b l y c):=gQ _ _
theorem O6(b y:t8)(l:List FI)(h:t8)(c:CSt):run T (.flt b y l h) c=nrm h (eT (call T) T.sg b l [] c):=gQ _ _
theorem O2(a b:RC)(c:CSt):run T (.seq a b) c=sq (run T) b (run T a c):=gQ _ _
theorem EP(k:Arg)(a b:RC)(c:CSt):run T (.cond k a b) c=cnd (run T) a b c (c.ev k):=gQ _ _
theorem CK(id:Nat)(b:RC)(c:CSt):run T (.block id b) c=blk id (run T b c):=gQ _ _
theorem al(b:RC)(c:CSt):run T (.loop b) c=lp (run T) b (run T b c):=gQ _ _
theorem O4(h:List Dir)(a:RC)(c:CSt):run T (.pre h a) c=prD (run T) a (ig c h):=gQ _ _
theorem EM(a:RC)(h:List Dir)(c:CSt):run T (.post a h) c=psD h (run T a c):=gQ _ _
theorem au{g:Nat}{F:FnC}(h:T.fn g=some (.code F))(a:t7)(os:List aC)(k:Nat):call T g a os k=D5 F os.length (D4 (run T) F a os k):=by rw[BZ,h];rfl
theorem kC{g:Nat}{f:t7->List aC->Nat->Option eg}(h:T.fn g=some (.prim f))(a:t7)(os:List aC)(k:Nat):call T g a os k=f a os k:=by rw[BZ,h];rfl
end Go.Sy
namespace Go.Sy
variable [ba]
variable {call : cU} {sg : Nat -> Sig} {c : CSt} {d : Option Nat} {k : Nat}
theorem xcp{α:Type}{p:Prop}[Decidable p]{v:α}(h:p):gd p v=some v:=if_pos h
def fz(c:CSt)(d:t9):Option SV->LAd
 |some v=>some (c.put d v)
 |none=>none
theorem CM(v:SV):fz c d (some v)=some (c.put d v):=rfl
theorem CN:fz c d none=none:=rfl
theorem EV(l:List (Nat×SV))(o:List (Nat×aC))(t:t8)(v:SV):CSt.put ⟨l,o,t⟩ (some k) v=⟨jd l k v,o,t⟩:=rfl
theorem EW(v:SV):CSt.put c none v=c:=rfl
theorem xco(l:List (Nat×SV))(o:List (Nat×aC))(t:t8)(n:Nat):CSt.get ⟨l,o,t⟩ n=ei l n:=rfl
theorem PQ(l:List (Nat×SV))(o:List (Nat×aC))(t:t8)(n:Nat):CSt.look ⟨l,o,t⟩ n=ip o n:=rfl
theorem xkG(n:Nat):c.ev (.t n)=c.get n:=rfl
theorem xkI(v:SV):c.ev (.c v)=v:=rfl
theorem xkH(g:Nat):c.ev (.f g)= .fn g [] []:=rfl
theorem pr:c.kill []=c:=rfl
theorem CY(l:List (Nat×SV))(o:List (Nat×aC))(t:t8)(n:Nat)(r:t8):CSt.kill ⟨l,o,t⟩ (n::r)=⟨u9 l (n::r),o,t⟩:=rfl
def zb:Option SV->Option nP
 |some v=>some {val:=v}
 |none=>none
theorem Cm(v:SV):zb (some v)=some {val:=v}:=rfl
theorem Cn:zb none=none:=rfl
theorem pG{so:SOp}{o:Option SV}(h:dJ c d so=zb o):mY c d (dJ c d so)=fz c d o:=by rw[h];cases o<;>rfl
theorem Ox(o:Option SV):(match o with|some v=>some {val:=v}|none=>none:Option nP)=zb o:=by cases o<;>rfl
def DO:SV->Option SV
 | .ptr o off=>some (.ptr o off)
 | .ap o h i j=>some (.ap o h i j)
 | .pp cs=>some (.pp cs)
 | .fn f a b=>some (.fn f a b)
 |_=>none
def Yj(h:Bool):SV->SV->Option SV
 | .bool a,.bool b=>some (.bool (if h then decide (a≠b)else decide (a=b)))
 |_,_=>none
def Yd(y:Bool)(h:t8):SV->SV->Option SV
 | .agg cs,.agg ds=>(gC h cs ds).map fun b=> .bool (if y then !b else b)
 |_,_=>none
def s6:SV->Option SV
 | .str l=>some (.str l)
 |_=>none
def DV(h:Bool):SV->Option SV
 | .nili=>some (.bool (!h))
 |_=>none
def Rt:SV->Option SV
 | .str l=>some (.byt l .no)
 |_=>none
def Yk(c:CSt):SV->Option SV
 | .str _=>none
 |v=>(dH c v).map .str
def Gl(l:t6):Option Int->Option Int->Option SV
 |some a,some b=>gd (0<=a/\a<=b/\b<=l.length) (.str ((l.take b.toNat).drop a.toNat))
 |_,_=>none
def DA(c:CSt)(lo hi:Option Arg):SV->Option SV
 | .str l=>Gl l (ka c lo 0) (ka c hi l.length)
 |_=>none
def DB(c:CSt)(len h:Nat)(lo hi y:Option Arg):SV->Option SV
 | .ptr o off=>if off=0 then nJ c h (.psl o h 0 len (some len)) lo hi y else none
 |_=>none
def tv(off:Nat):SV->Option SV
 | .ptr o k=>some (.ptr o (k+off))
 | .ap o h i j=>some (.ap o h i (j+off))
 | .pp cs=>some (.pp (cs.drop off))
 |_=>none
def X4(off n:Nat)(h:Bool):SV->Option SV
 | .agg cs=>gd (off+n<=cs.length) (dr h n (cs.drop off))
 |_=>none
def oK(h:Nat):SV->Option Int->Option SV
 | .byt l _,some n=>gd (0<=n/\n<l.length/\h=1) (.pp [.u8 (l.getD n.toNat 0)])
 | .lst sz' xs _,some n=>gd (0<=n/\n<xs.length/\h=sz') (.pp (xs.getD n.toNat []))
 | .psl o sz' off k _,some n=>gd (0<=n/\n<k/\h=sz') (.ap o h (off+n.toNat) 0)
 |_,_=>none
def pu(len h o off:Nat)(n:Int):Option aC->Option SV
 |some (.rc _)=>gd (0<=n/\n<len) (.ptr o (off+n.toNat*h))
 |some _=>gd (off=0/\0<=n/\n<len) (.ap o h n.toNat 0)
 |none=>none
def mj(c:CSt)(len h:Nat):SV->Option Int->Option SV
 | .ptr o off,some n=>pu len h o off n (c.look o)
 | .pp cs,some n=>gd (0<=n/\n<len/\cs.length=len*h) (.pp (cs.drop (n.toNat*h)))
 |_,_=>none
def DY(len h:Nat)(y:Bool):SV->Option Int->Option SV
 | .agg cs,some n=>gd (0<=n/\n<len/\cs.length=len*h) (dr y h (cs.drop (n.toNat*h)))
 |_,_=>none
def DX:SV->Option Int->Option SV
 | .str l,some n=>gd (0<=n/\n<l.length) (.u8 (l.getD n.toNat 0))
 |_,_=>none
def Yc(i:Nat):SV->Option SV
 | .tup vs=>gd (i<vs.length) (vs.getD i .undef)
 |_=>none
def lenC:t9->Option SV
 |some n=>some (.int .i64 (n:Nat))
 |none=>none
def Yg:SV->Option SV
 | .psl _ _ _ _ (some m)=>some (.int .i64 m)
 | .byt l t=>if t= .clip then some (.int .i64 l.length)else none
 | .lst _ h t=>if t= .clip then some (.int .i64 h.length)else none
 |_=>none
def DQ:SV->SV->Option SV
 | .int k a,.int k' b=>if k=k' then some (.int k (if b<a then b else a))else none
 |_,_=>none
def DR:SV->SV->Option SV
 | .int k a,.int k' b=>if k=k' then some (.int k (if a<b then b else a))else none
 |_,_=>none
def tz:Option t7->Option SV
 |some l=>some (.agg l)
 |none=>none
def XZ(h:Nat):Option f8->Option SV
 |some r=>some (.lst h r .clip)
 |none=>none
def DS:Option t6->Option SV
 |some r=>some (.byt r .clip)
 |none=>none
theorem xdD(x:Arg):cH c (.mov x)=some (c.ev x):=rfl
theorem ze(z:t7)(h:List (Nat×Nat×Arg)):cH c (.build z h)=tz (ir z (psC c h)):=by simp only[cH];cases ir z (psC c h)<;>rfl
theorem Ro(h:Nat)(y:List Arg):cH c (.lit h y)=XZ h (rows h (evL c y)):=by simp only[cH];cases rows h (evL c y)<;>rfl
theorem Gi(h:List Arg):cH c (.litB h)=DS (toB (evL c h)):=by simp only[cH];cases toB (evL c h)<;>rfl
theorem ZV(n:Nat)(h:Bool)(a:Arg):cH c (.load n h a)=lW c n h (c.ev a):=rfl
theorem ZR(x:Arg):cH c (.nchk x)=DO (c.ev x):=rfl
theorem xdI(op:BinOp)(x y:Arg):cH c (.bin op x y)=D8 op (c.ev x) (c.ev y):=rfl
theorem xdJ(h:Bool)(x y:Arg):cH c (.beq h x y)=Yj h (c.ev x) (c.ev y):=rfl
theorem xdG(z:Bool)(h:t8)(x y:Arg):cH c (.eqS z h x y)=Yd z h (c.ev x) (c.ev y):=rfl
theorem xi5(op:UnOp)(x:Arg):cH c (.un op x)=vn op (c.ev x):=rfl
theorem OA(q:IntKind)(x:Arg):cH c (.toInt q x)=gS q (c.ev x):=rfl
theorem Oz(x:Arg):cH c (.toStr x)=s6 (c.ev x):=rfl
theorem ZX(h:Bool)(x:Arg):cH c (.isni h x)=DV h (c.ev x):=rfl
theorem xdC(x:Arg):cH c (.s2b x)=Rt (c.ev x):=rfl
theorem xdK(x:Arg):cH c (.b2s x)=Yk c (c.ev x):=rfl
theorem ZS(f:Nat)(a b:List Arg):cH c (.mkfn f a b)=some (.fn f (evL c a) (evL c b)):=rfl
theorem Gh(x:Arg)(lo hi:Option Arg):cH c (.slcS x lo hi)=DA c lo hi (c.ev x):=by simp only[cH];cases c.ev x<;>rfl
theorem ZP(h:Nat)(x:Arg)(lo hi y:Option Arg):cH c (.slcL h x lo hi y)=nJ c h (c.ev x) lo hi y:=rfl
theorem ZQ(len h:Nat)(x:Arg)(lo hi y:Option Arg):cH c (.slcA len h x lo hi y)=DB c len h lo hi y (c.ev x):=rfl
theorem OB(off:Nat)(x:Arg):cH c (.faddr off x)=tv off (c.ev x):=rfl
theorem xdE(off n:Nat)(h:Bool)(x:Arg):cH c (.fld off n h x)=X4 off n h (c.ev x):=rfl
theorem Ei(h:Nat)(x i:Arg):cH c (.iaddrL h x i)=oK h (c.ev x) (c.ev i).num:=rfl
theorem tW(len h:Nat)(x i:Arg):cH c (.iaddrA len h x i)=mj c len h (c.ev x) (c.ev i).num:=by simp only[cH];unfold mj pu;rfl
theorem ZZ(len h:Nat)(y:Bool)(x i:Arg):cH c (.idxA len h y x i)=DY len h y (c.ev x) (c.ev i).num:=rfl
theorem ZY(x i:Arg):cH c (.idxS x i)=DX (c.ev x) (c.ev i).num:=rfl
theorem xdF(x:Arg)(i:Nat):cH c (.ext x i)=Yc i (c.ev x):=rfl
theorem Rp(b:Bool)(x:Arg):cH c (.len b x)=lenC (jF b (c.ev x)):=by simp only[cH];cases jF b (c.ev x)<;>rfl
theorem ZW(n:Nat):cH c (.lenC n)=some (.int .i64 n):=rfl
theorem xdH(x:Arg):cH c (.cap x)=Yg (c.ev x):=rfl
theorem ZT(x y:Arg):cH c (.mini x y)=DQ (c.ev x) (c.ev y):=rfl
theorem ZU(x y:Arg):cH c (.maxi x y)=DR (c.ev x) (c.ev y):=rfl
def SOp.pure:SOp->Bool
 | .new _| .box _| .mk _ _ _ _| .mkB _ _| .store _ _ _| .app _ _ _ _| .cpy _ _ _| .pick _ _ _| .call _ _| .isnil _ _| .newB _| .slid _| .appO _ _ _ _| .clr _ _=>false
 |_=>true
theorem ri{so:SOp}(h:so.pure=true):dJ c d so=zb (cH c so):=by
 cases so<;>first|cases h;done|rfl|exact Ox _
theorem bP{so:SOp}(h:so.pure=true):opC call sg c d so=fz c d (cH c so):=by
 have y:opC call sg c d so=mY c d (dJ c d so):=by cases so<;>first|rfl|cases h
 rw[y];exact pG (ri h)
theorem xfc(x:Arg):opC call sg c d (.mov x)=fz c d (some (c.ev x)):=bP rfl
theorem PK(z:t7)(h:List (Nat×Nat×Arg)):opC call sg c d (.build z h)=fz c d (tz (ir z (psC c h))):=(bP rfl).trans (by rw[ze])
theorem xfe(h:Nat)(y:List Arg):opC call sg c d (.lit h y)=fz c d (XZ h (rows h (evL c y))):=(bP rfl).trans (by rw[Ro])
theorem xb3(h:List Arg):opC call sg c d (.litB h)=fz c d (DS (toB (evL c h))):=(bP rfl).trans (by rw[Gi])
theorem xb2(n:Nat)(h:Bool)(a:Arg):opC call sg c d (.load n h a)=fz c d (lW c n h (c.ev a)):=bP rfl
theorem xbY(x:Arg):opC call sg c d (.nchk x)=fz c d (DO (c.ev x)):=bP rfl
theorem xfn(op:BinOp)(x y:Arg):opC call sg c d (.bin op x y)=fz c d (D8 op (c.ev x) (c.ev y)):=bP rfl
theorem xfo(h:Bool)(x y:Arg):opC call sg c d (.beq h x y)=fz c d (Yj h (c.ev x) (c.ev y)):=bP rfl
theorem xfi(z:Bool)(h:t8)(x y:Arg):opC call sg c d (.eqS z h x y)=fz c d (Yd z h (c.ev x) (c.ev y)):=bP rfl
theorem xjq(op:UnOp)(x:Arg):opC call sg c d (.un op x)=fz c d (vn op (c.ev x)):=bP rfl
theorem PG(q:IntKind)(x:Arg):opC call sg c d (.toInt q x)=fz c d (gS q (c.ev x)):=bP rfl
theorem PF(x:Arg):opC call sg c d (.toStr x)=fz c d (s6 (c.ev x)):=bP rfl
theorem xbX(h:List Arg):opC call sg c d (.newB h)=nq c d (toB (evL c h)):=rfl
theorem xbS(x:Arg):opC call sg c d (.slid x)=ql c d (c.ev x):=rfl
theorem wh(k:Nat)(l:t6):nq c (some k) (some l)=some (CSt.app c (some k) {val:= .psl (k+100) 1 0 l.length (some l.length),new:=some (.bar l)}):=rfl
theorem Ct(o off n:Nat)(cap:t9):ql c d (.psl o 1 off n cap)=og c d o off n cap (c.look o):=rfl
theorem Cu(o off n:Nat)(cap:t9)(l:t6):og c d o off n cap (some (.bar l))=if off+n<=l.length/\cap=some n then some (((c.publish o []).1).put d (.byt ((l.drop off).take n) .clip))else none:=rfl
theorem xb5(h:Bool)(x:Arg):opC call sg c d (.isni h x)=fz c d (DV h (c.ev x)):=bP rfl
theorem xfa(x:Arg):opC call sg c d (.s2b x)=fz c d (Rt (c.ev x)):=bP rfl
theorem xfp(x:Arg):opC call sg c d (.b2s x)=fz c d (Yk c (c.ev x)):=bP rfl
theorem xbZ(f:Nat)(a b:List Arg):opC call sg c d (.mkfn f a b)=fz c d (some (.fn f (evL c a) (evL c b))):=bP rfl
theorem xbT(x:Arg)(lo hi:Option Arg):opC call sg c d (.slcS x lo hi)=fz c d (DA c lo hi (c.ev x)):=(bP rfl).trans (by rw[Gh])
theorem xbU(h:Nat)(x:Arg)(lo hi y:Option Arg):opC call sg c d (.slcL h x lo hi y)=fz c d (nJ c h (c.ev x) lo hi y):=bP rfl
theorem xbV(len h:Nat)(x:Arg)(lo hi y:Option Arg):opC call sg c d (.slcA len h x lo hi y)=fz c d (DB c len h lo hi y (c.ev x)):=bP rfl
theorem PJ(off:Nat)(x:Arg):opC call sg c d (.faddr off x)=fz c d (tv off (c.ev x)):=bP rfl
theorem xfg(off n:Nat)(h:Bool)(x:Arg):opC call sg c d (.fld off n h x)=fz c d (X4 off n h (c.ev x)):=bP rfl
theorem E7(h:Nat)(x i:Arg):opC call sg c d (.iaddrL h x i)=fz c d (oK h (c.ev x) (c.ev i).num):=bP rfl
theorem E8(len h:Nat)(x i:Arg):opC call sg c d (.iaddrA len h x i)=fz c d (mj c len h (c.ev x) (c.ev i).num):=(bP rfl).trans (by rw[tW])
theorem xb7(len h:Nat)(y:Bool)(x i:Arg):opC call sg c d (.idxA len h y x i)=fz c d (DY len h y (c.ev x) (c.ev i).num):=bP rfl
theorem xb6(x i:Arg):opC call sg c d (.idxS x i)=fz c d (DX (c.ev x) (c.ev i).num):=bP rfl
theorem xfh(x:Arg)(i:Nat):opC call sg c d (.ext x i)=fz c d (Yc i (c.ev x)):=bP rfl
theorem xff(b:Bool)(x:Arg):opC call sg c d (.len b x)=fz c d (lenC (jF b (c.ev x))):=(bP rfl).trans (by rw[Rp])
theorem xb4(n:Nat):opC call sg c d (.lenC n)=fz c d (some (.int .i64 n)):=bP rfl
theorem xfl(x:Arg):opC call sg c d (.cap x)=fz c d (Yg (c.ev x)):=bP rfl
theorem xb0(x y:Arg):opC call sg c d (.mini x y)=fz c d (DQ (c.ev x) (c.ev y)):=bP rfl
theorem xb1(x y:Arg):opC call sg c d (.maxi x y)=fz c d (DR (c.ev x) (c.ev y)):=bP rfl
def DM(a b:SV):SV->Option SV
 | .bool t=>some (hZ t a b)
 |_=>none
theorem xcO(q a b:Arg):dJ c d (.pick q a b)=zb (DM (c.ev a) (c.ev b) (c.ev q)):=by simp only[dJ];cases c.ev q<;>rfl
theorem xbW(q a b:Arg):opC call sg c d (.pick q a b)=fz c d (DM (c.ev a) (c.ev b) (c.ev q)):=pG (xcO q a b)
def tt(h:Bool):SV->Option SV
 | .byt l _=>gd (l≠ []) (.bool h)
 | .lst _ y _=>gd (y≠ []) (.bool h)
 | .psl _ _ _ _ _=>some (.bool h)
 |_=>none
theorem QI(h:Bool)(x:Arg):dJ c d (.isnil h x)=zb (tt h (c.ev x)):=by simp only[dJ];cases c.ev x<;>first|rfl|(simp only[tt];unfold gd;split<;>rfl)
theorem PI(h:Bool)(x:Arg):opC call sg c d (.isnil h x)=fz c d (tt h (c.ev x)):=pG (QI h x)
def Cc(c:CSt)(k:Nat)(o:aC)(v:SV):CSt:=CSt.app c (some k) {val:=v,new:=some o}
theorem Rj(l:List (Nat×SV))(ob:List (Nat×aC))(t:t8)(o:aC)(v:SV):
 Cc ⟨l,ob,t⟩ k o v=⟨jd (cR (k+100) (k+101) l) k v,hU (bm (k+100) (k+101) ob) (k+100) (o.purge (k+100) (k+101)),bN (k+100) (k+101) t⟩:=rfl
def xiC(c:CSt)(k:Nat)(v:SV):Option aC->LAd
 |some o=>some (Cc c k o v)
 |none=>none
theorem Du(v:SV)(o:aC):xiC c k v (some o)=some (Cc c k o v):=rfl
theorem xfb(o:aC):opC call sg c (some k) (.new o)=xiC c k (.ptr (k+100) 0) (gd (o.wf=true) o):=by show mY c (some k) (gd _ _)=_;unfold gd;split<;>rfl
theorem xfm(x:Arg):opC call sg c (some k) (.box x)=some (Cc c k (.rc (c.ev x).cells) (.ptr (k+100) 0)):=rfl
def mkE(bytes:Nat):SV->SV->Option (Nat×Nat)
 | .int _ n,.int _ m=>gd (0<=n/\n<=m/\bytes*m<=140737488355328/\m<=9223372036854775807) (n.toNat,m.toNat)
 |_,_=>none
def mkS(c:CSt)(k:Nat)(z:t7):Option (Nat×Nat)->LAd
 |some p=>some (Cc c k (.arr z.length (ao p.2 z)) (.psl (k+100) z.length 0 p.1 (some p.2)))
 |none=>none
theorem xjr(z:t7)(bytes:Nat)(n m:Arg):opC call sg c (some k) (.mk z bytes n m)=mkS c k z (mkE bytes (c.ev n) (c.ev m)):=by show mY c (some k) (dJ c (some k) (.mk z bytes n m))=_;simp only[dJ];cases h1:c.ev n<;>cases h2:c.ev m<;>first|rfl|(simp only[mkE];unfold gd;split<;>rfl)
def xc0:SV->SV->Option (Nat×Nat)
 | .int _ n,.int _ m=>gd (0<=n/\n<=m/\m<=140737488355328) (n.toNat,m.toNat)
 |_,_=>none
def xie(c:CSt)(k:Nat):Option (Nat×Nat)->LAd
 |some p=>some (Cc c k (.bar (ao p.2 0)) (.psl (k+100) 1 0 p.1 (some p.2)))
 |none=>none
theorem xfd(n m:Arg):opC call sg c (some k) (.mkB n m)=xie c k (xc0 (c.ev n) (c.ev m)):=by show mY c (some k) (dJ c (some k) (.mkB n m))=_;simp only[dJ];cases h1:c.ev n<;>cases h2:c.ev m<;>first|rfl|(simp only[xc0];unfold gd;split<;>rfl)
def stC(c:CSt)(n:Nat)(v:t7):SV->Option (Nat×aC)
 | .ptr o off=>match c.look o with
  |some (.rc cs)=>gd (off+n<=cs.length/\v.length=n/\v.all SV.one=true) (o,.rc (gv cs off v))
  |some (.arr h xs)=>gd (off=0/\n=xs.length*h/\v.length=n/\v.all SV.isData=true) (o,.arr h (jn h xs.length (v.map SV.data)))
  |some (.bar l)=>match toB v with
   |some y=>gd (off=0/\n=l.length/\y.length=n) (o,.bar y)
   |none=>none
  |_=>none
 | .ap o h i j=>match c.look o with
  |some (.arr sz' xs)=>gd (h=sz'/\i<xs.length/\j+n<=h/\v.length=n/\v.all SV.isData=true) (o,.arr sz' (fA h xs i j n (v.map SV.data)))
  |some (.bar l)=>match v with
   |[.u8 b]=>gd (h=1/\j=0/\n=1/\i<l.length) (o,.bar (l.set i b))
   |_=>none
  |_=>none
 |_=>none
def stS(c:CSt):Option (Nat×aC)->LAd
 |some p=>some ⟨c.tm,hU c.ob p.1 p.2,c.tk⟩
 |none=>none
theorem Ep(l:List (Nat×SV))(ob:List (Nat×aC))(t:t8)(p:Nat×aC):stS ⟨l,ob,t⟩ (some p)=some ⟨l,hU ob p.1 p.2,t⟩:=rfl
theorem Cr(n:Nat)(v:t7)(a:SV):kM c n v a=(stC c n v a).map fun p=> {val:= .undef,wr:=[p]}:=by
 cases a with
 |ptr o off=>
  simp only[kM,stC];cases c.look o with
  |none=>rfl
  |some ob=>
   cases ob with
   |rc cs=>simp only;unfold gd;split<;>rfl
   |arr h y=>simp only;unfold gd;split<;>rfl
   |bar l=>simp only;cases toB v<;>first|rfl|(simp only;unfold gd;split<;>rfl)
 |ap o z i j=>
  simp only[kM,stC];cases c.look o with
  |none=>rfl
  |some ob=>
   cases ob with
   |rc cs=>rfl
   |arr h y=>simp only;unfold gd;split<;>rfl
   |bar l=>
    rcases v with _|⟨u,_|⟨u2,r⟩⟩
    ·rfl
    ·cases u<;>first|rfl|(simp only;unfold gd;split<;>rfl)
    ·cases u<;>rfl
 |_=>rfl
theorem PH(n:Nat)(a x:Arg):opC call sg c none (.store n a x)=if(c.ev x).isDef=true then stS c (stC c n (c.ev x).cells (c.ev a))else none:=by
 show mY c none (dJ c none (.store n a x))=_;simp only[dJ];split
 ·rw[Cr];cases stC c n (c.ev x).cells (c.ev a)<;>rfl
 ·rfl
def apB(c:CSt)(k:Nat)(l:t6)(t:Tok)(z:t7)(bytes:Nat):Option t6->LAd
 |some h=>if z.length=1/\bytes=1/\t.readyC c=true/\l.length+h.length<=140737488355328 then some (CSt.app c (some k) {val:= .byt (l++h) (.id (k+100)),eat:=t,tok:=true})else none
 |none=>none
def apL(c:CSt)(k:Nat)(h:Nat)(l:f8)(t:Tok)(z:t7)(bytes:Nat):Option f8->LAd
 |some y=>if z.length=h/\t.readyC c=true/\(l.length+y.length)*bytes<=140737488355328 then some (CSt.app c (some k) {val:= .lst z.length (l++y) (.id (k+100)),eat:=t,tok:=true})else none
 |none=>none
theorem Rh(l:List (Nat×SV))(ob:List (Nat×aC))(t:t8)(v:SV)(e:Tok):
 CSt.app ⟨l,ob,t⟩ (some k) {val:=v,eat:=e,tok:=true}=⟨jd (cR (k+100) (k+101) l) k v,bm (k+100) (k+101) ob,j8 (bN (k+100) (k+101) (e.eat t)) (k+100)⟩:=rfl
def apS(c:CSt)(k:Nat)(z:t7)(bytes:Nat)(y:SV):SV->LAd
 | .byt l t=>apB c k l t z bytes (dH c y)
 | .lst h l t=>apL c k h l t z bytes (fE c z.length y)
 |_=>none
theorem xfq(z:t7)(bytes:Nat)(x y:Arg):opC call sg c (some k) (.app z bytes x y)=apS c k z bytes (c.ev y) (c.ev x):=by
 show mY c (some k) (dJ c (some k) (.app z bytes x y))=_;simp only[dJ];cases c.ev x<;>try rfl
 ·simp only[apS]
  cases dH c (c.ev y)with
  |none=>rfl
  |some h=>simp only[cP,apB];unfold gd;split<;>rfl
 ·simp only[apS]
  cases fE c z.length (c.ev y)with
  |none=>rfl
  |some h=>simp only[cP,apL];unfold gd;split<;>rfl
def cpB(o off n:Nat)(z h:Nat)(l:t6):Option t6->Option (SV×Nat×aC)
 |some y=>gd (z=1/\h=1/\off+n<=l.length) (.int .i64 (min y.length n:Nat),o,.bar (l.take off++y.take n++l.drop (off+(y.take n).length)))
 |none=>none
def cpL(b:Bool)(o off n:Nat)(y z h:Nat)(F:f8):Option f8->Option (SV×Nat×aC)
 |some E=>gd (b=true/\y=z/\y=h/\off+n<=F.length) (.int .i64 (min E.length n:Nat),o,.arr y (F.take off++E.take n++F.drop (off+(E.take n).length)))
 |none=>none
def cp2(b:Bool)(c:CSt)(z o h off n:Nat)(y:SV):Option aC->Option (SV×Nat×aC)
 |some (.bar l)=>cpB o off n z h l (dH c y)
 |some (.arr sz'' xs)=>cpL b o off n z h sz'' xs (fE c z y)
 |_=>none
def cpC(b:Bool)(c:CSt)(z:Nat)(y:SV):SV->Option (SV×Nat×aC)
 | .psl o h off n _=>cp2 b c z o h off n y (c.look o)
 |_=>none
def cpS(c:CSt)(d:t9):Option (SV×Nat×aC)->LAd
 |some p=>some (CSt.put ⟨c.tm,hU c.ob p.2.1 p.2.2,c.tk⟩ d p.1)
 |none=>none
theorem xb9(z:t7)(b:Nat)(x y:Arg):opC call sg c d (.appO z b x y)=qJ c d z b y (c.ev x):=rfl
def clA(o off n:Nat)(z:t7)(E h:Nat)(y:f8):Option (SV×Nat×aC):=gd (0<n/\z.length=E/\z.length=h/\off+n<=y.length) (.tup [],o,.arr z.length (y.take off++ao n z++y.drop (off+n)))
def cl2(z:t7)(o h off n:Nat):Option aC->Option (SV×Nat×aC)
 |some (.arr sz'' xs)=>clA o off n z h sz'' xs
 |_=>none
def clC(c:CSt)(z:t7):SV->Option (SV×Nat×aC)
 | .psl o h off n _=>cl2 z o h off n (c.look o)
 |_=>none
theorem xfk(z:t7)(x:Arg):opC call sg c d (.clr z x)=cpS c d (clC c z (c.ev x)):=by
 show mY c d (dJ c d (.clr z x))=_;simp only[dJ];cases c.ev x<;>try rfl
 rename_i o y off n cap;simp only[clC];cases c.look o with
 |none=>rfl
 |some ob=>
  cases ob with
  |rc cs=>rfl
  |bar l=>rfl
  |arr h E=>simp only[cl2,clA];unfold gd;split<;>rfl
theorem xfj(h:Nat)(x y:Arg):opC call sg c d (.cpy h x y)=cpS c d (cpC y.isT c h (c.ev y) (c.ev x)):=by
 show mY c d (dJ c d (.cpy h x y))=_;simp only[dJ];cases c.ev x<;>try rfl
 rename_i o E off n cap;simp only[cpC];cases c.look o with
 |none=>rfl
 |some ob=>
  cases ob with
  |rc cs=>rfl
  |bar l=>
   simp only[cp2];cases dH c (c.ev y)with
   |none=>rfl
   |some F=>simp only[cP,cpB];unfold gd;split<;>rfl
  |arr z H=>
   simp only[cp2];cases fE c h (c.ev y)with
   |none=>rfl
   |some F=>simp only[cP,cpL];unfold gd;split<;>rfl
def N5(call:cU)(sg:Nat->Sig)(c:CSt)(d:t9)(a_:t7):SV->LAd
 | .fn g a b=>gX call (sg g) c d g (a++a_++b)
 |_=>none
theorem xb8(f:Arg)(a_:List Arg):opC call sg c d (.call f a_)=N5 call sg c d (evL c a_) (c.ev f):=by simp only[opC];unfold N5;rfl
theorem Z8(o:SOp):dy call sg c ⟨d,none,o⟩=opC call sg c d o:=rfl
theorem xa4(g:Option (Nat×Bool))(o:SOp)(r:LAc):plC call sg (⟨d,g,o⟩::r) c=nxP call sg r (opC call sg c d o):=by rw[plC]
theorem BD:fD call sg [] c=some c:=by rw[fD]
theorem M1(i:SI)(h:t8)(r:List RI):fD call sg (.op i h::r) c=nxC call sg h r (dy call sg c i):=by rw[fD]
theorem BE(g:Nat)(b:Bool)(l:LAc)(h:t8)(r:List RI):fD call sg (.grp g b l h::r) c=nxC call sg h r (oM call sg b l c (c.get g)):=by rw[fD]
theorem BB(i:SI)(h:t8)(r:List RI):fD call sg (.tks i h::r) c=nxC call sg h r (zg c i):=by rw[fD]
theorem OJ(d:t9)(x:Arg):zg c ⟨d,none,.s2b x⟩=OK c d (c.ev x):=rfl
theorem Z1(k:Nat)(l:t6):OK c (some k) (.str l)=some (CSt.app c (some k) {val:= .byt l (.id (k+100)),tok:=true}):=rfl
theorem BC(i:SI)(h:t8)(r:List RI):fD call sg (.own i h::r) c=nxC call sg h r (rZ c i):=by rw[fD]
theorem Pv(d:t9)(x:Arg):rZ c ⟨d,none,.s2b x⟩=PB c d (c.ev x):=rfl
theorem Pw(d:t9)(h:Nat)(y:List Arg):rZ c ⟨d,none,.lit h y⟩=Py c h d (rows h (evL c y)):=rfl
theorem E4(d:t9)(h:List Arg):rZ c ⟨d,none,.litB h⟩=nq c d (toB (evL c h)):=rfl
theorem Px(d:t9)(z:t7)(b:Nat)(x y:Arg):rZ c ⟨d,none,.app z b x y⟩=qJ c d z b y (c.ev x):=rfl
theorem BF(q:Dir)(r:List RI):fD call sg (.dir q::r) c=nxC call sg [] r (qj c q):=by rw[fD]
theorem kR(h:t8)(r:List RI):nxC call sg h r (some c)=fD call sg r (c.kill h):=by rw[nxC]
theorem kT(h:t8)(r:List RI):nxC call sg h r none=none:=by rw[nxC]
theorem MY:plC call sg [] c=some c:=by rw[plC]
theorem BH(r:LAc):nxP call sg r (some c)=plC call sg r c:=by rw[nxP]
theorem BI(r:LAc):nxP call sg r none=none:=by rw[nxP]
theorem Z0:unL c []=c:=rfl
theorem OC(g:Option (Nat×Bool))(o:SOp)(r:LAc):unL c (⟨d,g,o⟩::r)=unL (c.put d (.tup [])) r:=rfl
theorem xfL(b:Bool)(l:LAc):oM call sg b l c (.tup [])=some (unL c l):=rfl
theorem xfM(b t:Bool)(l:LAc):oM call sg b l c (.bool t)=if t=b then plC call sg l c else some (unL c l):=rfl
theorem xca(h:t8)(r:List RI)(p:Prop)[Decidable p](a b:LAd):nxC call sg h r (if p then a else b)=if p then nxC call sg h r a else nxC call sg h r b:=by split<;>rfl
theorem xci(p:Prop)[Decidable p](l h:List (Nat×SV))(o:List (Nat×aC))(t:t8):(if p then some (CSt.mk l o t)else some (CSt.mk h o t))=some (CSt.mk (if p then l else h) o t):=by split<;>rfl
theorem xch(p:Prop)[Decidable p](n:Nat)(v w:SV)(l h:List (Nat×SV)):(if p then(n,v)::l else(n,w)::h)=(n,if p then v else w)::(if p then l else h):=by split<;>rfl
theorem PV(p:Prop)[Decidable p]:(if p then([]:List (Nat×SV))else [])=[]:=by split<;>rfl
theorem Fx{α:Type}(p:Prop)[Decidable p](a:α):(if p then a else a)=a:=by split<;>rfl
theorem Fw(p:Prop)[Decidable p](q:IntKind)(a b:Int):(if p then SV.int q a else SV.int q b)= .int q (if p then a else b):=by split<;>rfl
theorem C3(p:Prop)[Decidable p](a b:Bool):(if p then SV.bool a else SV.bool b)= .bool (if p then a else b):=by split<;>rfl
theorem PU(p:Prop)[Decidable p](a b:UInt8):(if p then SV.u8 a else SV.u8 b)= .u8 (if p then a else b):=by split<;>rfl
theorem C5(t a b:Bool):hZ t (.bool a) (.bool b)= .bool (if t=true then a else b):=by cases t<;>rfl
theorem FA(t:Bool)(q:IntKind)(a b:Int):hZ t (.int q a) (.int q b)= .int q (if t=true then a else b):=by cases t<;>rfl
theorem PW(t:Bool)(a b:UInt8):hZ t (.u8 a) (.u8 b)= .u8 (if t=true then a else b):=by cases t<;>rfl
theorem C4(a b:SV):hZ true a b=a:=rfl
theorem wo(a b:SV):hZ false a b=b:=rfl
variable {rn : RC -> CSt -> gE}
theorem E9(h:t8):nrm h (some c)=some (.n,c.kill h):=rfl
theorem Fb(h:t8):nrm h none=none:=rfl
theorem PM(h:t8)(p:Prop)[Decidable p](a b:LAd):nrm h (if p then a else b)=if p then nrm h a else nrm h b:=by split<;>rfl
theorem xi9(b:RC):sq rn b (some (.n,c))=rn b c:=rfl
theorem xi7(b:RC)(id:Nat):sq rn b (some (.x id,c))=some (.x id,c):=rfl
theorem xi8(b:RC):sq rn b (some (.r,c))=some (.r,c):=rfl
theorem ON(b:RC):sq rn b none=none:=rfl
theorem Z3(b:RC)(p:Prop)[Decidable p](x y:gE):sq rn b (if p then x else y)=if p then sq rn b x else sq rn b y:=by split<;>rfl
theorem xfZ(a b:RC)(t:Bool):cnd rn a b c (.bool t)=if t=true then rn a c else rn b c:=rfl
theorem xf2(id:Nat):blk id (some (.n,c))=some (.n,c):=rfl
theorem xf1(id:Nat):blk id (some (.r,c))=some (.r,c):=rfl
theorem xf0(id h:Nat):blk id (some (.x h,c))=if h=id then some (.n,c)else some (.x h,c):=rfl
theorem Gb(id:Nat):blk id none=none:=rfl
theorem QY(id:Nat)(p:Prop)[Decidable p](x y:gE):blk id (if p then x else y)=if p then blk id x else blk id y:=by split<;>rfl
theorem xjx(b:RC):lp rn b (some (.n,c))=rn (.loop b) c:=rfl
theorem xjv(b:RC)(id:Nat):lp rn b (some (.x id,c))=some (.x id,c):=rfl
theorem xjw(b:RC):lp rn b (some (.r,c))=some (.r,c):=rfl
theorem PP(b:RC):lp rn b none=none:=rfl
theorem xcd(b:RC)(p:Prop)[Decidable p](x y:gE):lp rn b (if p then x else y)=if p then lp rn b x else lp rn b y:=by split<;>rfl
theorem E0(a:RC):prD rn a (some c)=rn a c:=rfl
theorem xd7(h:List Dir):psD h (some (.n,c))=prD (fun _ c=>some (.n,c)) .skip (ig c h):=by simp only[psD];cases ig c h<;>rfl
theorem xd5(h:List Dir)(id:Nat):psD h (some (.x id,c))=some (.x id,c):=rfl
theorem xd6(h:List Dir):psD h (some (.r,c))=some (.r,c):=rfl
theorem EZ(h:List Dir):psD h none=none:=rfl
theorem Pu(h:List Dir)(p:Prop)[Decidable p](x y:gE):psD h (if p then x else y)=if p then psD h x else psD h y:=by split<;>rfl
theorem FW:ig c []=some c:=rfl
def xiv(h:List Dir):LAd->LAd
 |some c=>ig c h
 |none=>none
theorem Dp(q:Dir)(h:List Dir):ig c (q::h)=xiv h (qj c q):=by simp only[ig];cases qj c q<;>rfl
theorem Dq(h:List Dir):xiv h (some c)=ig c h:=rfl
theorem xfO(F:FnC)(n:Nat):D5 F n (some (.n,c))=M9 F.keep F.raw n c (qH c F.rs):=rfl
theorem xfN(F:FnC)(n:Nat):D5 F n (some (.r,c))=M9 F.keep F.raw n c (qH c F.rs):=rfl
theorem Ql(F:FnC)(n:Nat)(p:Prop)[Decidable p](x y:gE):D5 F n (if p then x else y)=if p then D5 F n x else D5 F n y:=by split<;>rfl
theorem F6(sg:Sig)(g:Nat)(a_:t7):gX call sg c d g a_=jH call sg c d g a_ ((SV.idsL a_).isEmpty&&sg.own.isEmpty):=rfl
theorem QU(sg:Sig)(g:Nat)(a_:t7):jH call sg c d g a_ true=lZ c d (call g (SV.bareL a_) [] 0):=rfl
theorem QV(sg:Sig)(g:Nat)(a_:t7):jH call sg c d g a_ false=jz call sg d g (eF c a_ (iG sg.raw 0 a_)):=rfl
theorem Qn(q:eg):lZ c d (some q)=nu c d q q.bare:=rfl
theorem Qp(q:eg):nu c d q true=some (c.put d q.r):=rfl
theorem Qq(q:eg):nu c d q false=wz c d q q.small:=rfl
theorem Qo(q:eg):wz c d q true=some (jI c d [] [] q):=rfl
theorem Rc(r:SV)(os:List (Nat×aC))(tk:t8):(eg.mk r os tk).bare=(os.isEmpty&&tk.isEmpty&&r.ids.isEmpty&&r.toks.isEmpty):=rfl
theorem Es(r:SV)(os:List (Nat×aC))(tk:t8):(eg.mk r os tk).small=(os.all (fun p=>decide (p.1<1000)&&p.2.ids.all (fun k=>decide (k<1000))&&p.2.toks.all (fun k=>decide (k<1000)))&&r.ids.all (fun k=>decide (k<1000))&&r.toks.all (fun k=>decide (k<1000))&&tk.all (fun k=>decide (k<1000))):=rfl
theorem OP(sg:Sig)(g:Nat)(a_:t7):jz call sg d g (c,a_)=nh call c d g (jM c.tk sg.own 50 0 a_):=rfl
theorem OV(g:Nat)(a_:t7)(h:List t9):nh call c d g (a_,h)=lf call c d g a_ h (dz c 60 [] (SV.idsL a_)) (gq c (dz c 60 [] (SV.idsL a_))):=rfl
theorem OU(g:Nat)(a_:t7)(h:List t9)(m:t8)(os:List aC):lf call c d g a_ h m (some os)=ng call c d g a_ h m (dQ c.tk (50+h.length) os):=rfl
theorem OT(g:Nat)(a_:t7)(h:List t9)(m:t8)(os:List aC)(y:List t9):ng call c d g a_ h m (os,y)=
 nf call c d g a_ h m os y (nW (SV.idsL a_++fB os) m&&dq m&&dq (cr (h++y))&&decide (m.length<=40)&&m.all fun o=> !inR (d.getD 0) o):=rfl
theorem OS(g:Nat)(a_:t7)(h:List t9)(m:t8)(os:List aC)(y:List t9):nf call c d g a_ h m os y true=
 oe c d m (cr (h++y)) (call g (SV.renL (gz m) id a_) (dX (gz m) id os) (h.length+y.length)):=rfl
theorem OR(m mt:t8)(q:eg):oe c d m mt (some q)=vB c d m mt q q.small:=rfl
theorem OQ(m mt:t8)(q:eg):vB c d m mt q true=some (jI c d m mt q):=rfl
theorem xcz(keep raw:t8)(vs:t7):M9 keep raw k c (some vs)=Qm keep k (eF c vs (iG raw 0 vs)):=rfl
theorem xcs(keep:t8)(vs:t7):Qm keep k (c,vs)=M8 keep k c vs (decide (k=0)&&(SV.idsL vs).isEmpty&&keep.isEmpty):=rfl
theorem xcx(keep:t8)(vs:t7):M8 keep k c vs true=some ⟨je (SV.bareL vs),[],[]⟩:=rfl
theorem xcy(keep:t8)(vs:t7):M8 keep k c vs false=X8 k c (jM c.tk keep 60 0 vs):=rfl
theorem xcw(vs:t7)(h:List t9):X8 k c (vs,h)=X7 k c vs h (dz c 60 [] (kK k++SV.idsL vs)) (gq c (dz c 60 [] (kK k++SV.idsL vs))):=rfl
theorem xcv(vs:t7)(h:List t9)(m:t8)(os:List aC):X7 k c vs h m (some os)=X6 k vs h m (dQ c.tk (60+h.length) os):=rfl
theorem xcu(vs:t7)(h:List t9)(m:t8)(os:List aC)(y:List t9):X6 k vs h m (os,y)=
 X5 k vs h m os y (nW (SV.idsL vs++fB os) m&&dq m&&dq (cr (h++y))&&decide (m.take k=kK k)&&(m.drop k).all fun o=>decide (k<=o)):=rfl
theorem xct(vs:t7)(h:List t9)(m:t8)(os:List aC)(y:List t9):X5 k vs h m os y true=
 some ⟨(je vs).ren (gN k m) id,(fM 0 (dX (gN k m) id (os.take k)))++(fM (100+k) (dX (gN k m) id (os.drop k))),tks 60 (h.length+y.length)⟩:=rfl
theorem PD(v:SV):je [v]=v:=rfl
theorem PC(v w:SV)(r:t7):je (v::w::r)= .tup (v::w::r):=rfl
theorem PE:je []= .tup []:=rfl
theorem EB(raw:t8)(i:Nat)(q:IntKind)(n:Int):mc raw i (.int q n)=[]:=rfl
theorem Cx(raw:t8)(i:Nat)(b:Bool):mc raw i (.bool b)=[]:=rfl
theorem OY(raw:t8)(i:Nat)(b:UInt8):mc raw i (.u8 b)=[]:=rfl
theorem Ew(raw:t8)(i:Nat)(l:t6):mc raw i (.str l)=[]:=rfl
theorem EC(raw:t8)(i:Nat)(l:t6)(t:Tok):mc raw i (.byt l t)=[]:=rfl
theorem EA(raw:t8)(i h:Nat)(l:f8)(t:Tok):mc raw i (.lst h l t)=[]:=rfl
theorem Cv(raw:t8)(i:Nat):mc raw i .nilp=[]:=rfl
theorem Cw(raw:t8)(i:Nat):mc raw i .nili=[]:=rfl
theorem vG(raw:t8)(i:Nat):mc raw i .undef=[]:=rfl
theorem OZ(raw:t8)(i:Nat)(l:t7):mc raw i (.pp l)=[]:=rfl
theorem Ey(raw:t8)(i o off:Nat):mc raw i (.ptr o off)=[]:=rfl
theorem O1(raw:t8)(i o h a b:Nat):mc raw i (.ap o h a b)=[]:=rfl
theorem ED(raw:t8)(i:Nat)(l:t7):mc raw i (.agg l)=if raw.contains i=true then []else s8 l:=rfl
theorem CG:s8 []=[]:=rfl
theorem vK(v:SV)(r:t7):s8 (v::r)=gK v++s8 r:=rfl
theorem CD(q:IntKind)(n:Int):gK (.int q n)=[]:=rfl
theorem vJ(b:Bool):gK (.bool b)=[]:=rfl
theorem EE(b:UInt8):gK (.u8 b)=[]:=rfl
theorem Cz(l:t6):gK (.str l)=[]:=rfl
theorem CE(l:t6)(t:Tok):gK (.byt l t)=[]:=rfl
theorem CC(h:Nat)(l:f8)(t:Tok):gK (.lst h l t)=[]:=rfl
theorem vH:gK .nilp=[]:=rfl
theorem vI:gK .nili=[]:=rfl
theorem tM:gK .undef=[]:=rfl
theorem EF(l:t7):gK (.pp l)=[]:=rfl
theorem CA(o off:Nat):gK (.ptr o off)=[]:=rfl
theorem EH(o h a b:Nat):gK (.ap o h a b)=[]:=rfl
theorem CF(l:t7):gK (.agg l)=[]:=rfl
theorem Cy(l:t7):gK (.tup l)=[]:=rfl
theorem EG(f:Nat)(a b:t7):gK (.fn f a b)=[]:=rfl
theorem CB(o h off n:Nat)(m:t9):gK (.psl o h off n m)=[o]:=rfl
theorem Eu(raw:t8)(i:Nat)(l:t7):mc raw i (.tup l)=[]:=rfl
theorem O0(raw:t8)(i f:Nat)(a b:t7):mc raw i (.fn f a b)=[]:=rfl
theorem Ez(raw:t8)(i o h off n:Nat)(m:t9):mc raw i (.psl o h off n m)=if raw.contains i=true then []else [o]:=rfl
theorem P2(p:Prop)[Decidable p](a b v:SV):hZ (decide p) (if p then a else b) v=hZ (decide p) a v:=by by_cases h:p<;>simp[hZ,h]
theorem P1(p:Prop)[Decidable p](a b v:SV):hZ (decide p) v (if ¬p then a else b)=hZ (decide p) v a:=by by_cases h:p<;>simp[hZ,h]
theorem PY(t:Bool)(a b v:SV):hZ t (if t=true then a else b) v=hZ t a v:=by cases t<;>simp[hZ]
theorem PX(t:Bool)(a b v:SV):hZ t v (if t=false then a else b)=hZ t v a:=by cases t<;>simp[hZ]
theorem P0(t:Bool)(a b v:SV):hZ (!t) (if t=false then a else b) v=hZ (!t) a v:=by cases t<;>simp[hZ]
theorem PZ(t:Bool)(a b v:SV):hZ (!t) v (if t=true then a else b)=hZ (!t) v a:=by cases t<;>simp[hZ]
theorem Rb(p q:Prop)[Decidable p][Decidable q]:(if p then decide q else false)=decide (p/\q):=by by_cases h:p<;>simp[h]
theorem xcW(p q:Prop)[Decidable p][Decidable q]:(if p then true else decide q)=decide (p\/q):=by by_cases h:p<;>simp[h]
theorem Re(v:SV):c.app d {val:=v}=c.put d v:=rfl
theorem Rf(l:List (Nat×SV))(ob:List (Nat×aC))(t:t8)(o:aC)(v:SV):
 CSt.app ⟨l,ob,t⟩ (some k) {val:=v,new:=some o}=⟨jd (cR (k+100) (k+101) l) k v,hU (bm (k+100) (k+101) ob) (k+100) (o.purge (k+100) (k+101)),bN (k+100) (k+101) t⟩:=rfl
theorem xcX(l:List (Nat×SV))(ob:List (Nat×aC))(t:t8)(v:SV)(p:Nat×aC):CSt.app ⟨l,ob,t⟩ d {val:=v,wr:=[p]}=CSt.put ⟨l,hU ob p.1 p.2,t⟩ d v:=rfl
theorem F0(l:List (Nat×SV))(ob:List (Nat×aC))(t:t8)(p:SV×Nat×aC):cpS ⟨l,ob,t⟩ d (some p)=some (CSt.put ⟨l,hU ob p.2.1 p.2.2,t⟩ d p.1):=rfl
theorem Ff(z:t7)(p:Nat×Nat):mkS c k z (some p)=some (Cc c k (.arr z.length (ao p.2 z)) (.psl (k+100) z.length 0 p.1 (some p.2))):=rfl
theorem CV(p:Nat×Nat):xie c k (some p)=some (Cc c k (.bar (ao p.2 0)) (.psl (k+100) 1 0 p.1 (some p.2))):=rfl
theorem xdq(x:Arg):cV c (.mov x)=some (c.ev x):=by simp only[cV];rw[xdD]
theorem Ot(z:t7)(h:List (Nat×Nat×Arg)):cV c (.build z h)=tz (ir z (psC c h)):=by simp only[cV];rw[ze]
theorem xdr(h:Nat)(y:List Arg):cV c (.lit h y)=XZ h (rows h (evL c y)):=by simp only[cV];rw[Ro]
theorem ZJ(h:List Arg):cV c (.litB h)=DS (toB (evL c h)):=by simp only[cV];rw[Gi]
theorem ZI(n:Nat)(h:Bool)(a:Arg):cV c (.load n h a)=lW c n h (c.ev a):=by simp only[cV];rw[ZV]
theorem ZE(x:Arg):cV c (.nchk x)=DO (c.ev x):=by simp only[cV];rw[ZR]
theorem xdx(op:BinOp)(x y:Arg):cV c (.bin op x y)=D8 op (c.ev x) (c.ev y):=by simp only[cV];rw[xdI]
theorem xdy(h:Bool)(x y:Arg):cV c (.beq h x y)=Yj h (c.ev x) (c.ev y):=by simp only[cV];rw[xdJ]
theorem xdv(z:Bool)(h:t8)(x y:Arg):cV c (.eqS z h x y)=Yd z h (c.ev x) (c.ev y):=by simp only[cV];rw[xdG]
theorem xi0(op:UnOp)(x:Arg):cV c (.un op x)=vn op (c.ev x):=by simp only[cV];rw[xi5]
theorem Oo(q:IntKind)(x:Arg):cV c (.toInt q x)=gS q (c.ev x):=by simp only[cV];rw[OA]
theorem On(x:Arg):cV c (.toStr x)=s6 (c.ev x):=by simp only[cV];rw[Oz]
theorem ZL(h:Bool)(x:Arg):cV c (.isni h x)=DV h (c.ev x):=by simp only[cV];rw[ZX]
theorem xdp(x:Arg):cV c (.s2b x)=Rt (c.ev x):=by simp only[cV];rw[xdC]
theorem xdz(x:Arg):cV c (.b2s x)=Yk c (c.ev x):=by simp only[cV];rw[xdK]
theorem ZF(f:Nat)(a b:List Arg):cV c (.mkfn f a b)=some (.fn f (evL c a) (evL c b)):=by simp only[cV];rw[ZS]
theorem ZA(x:Arg)(lo hi:Option Arg):cV c (.slcS x lo hi)=DA c lo hi (c.ev x):=by simp only[cV];rw[Gh]
theorem ZB(h:Nat)(x:Arg)(lo hi y:Option Arg):cV c (.slcL h x lo hi y)=nJ c h (c.ev x) lo hi y:=by simp only[cV];rw[ZP]
theorem ZC(len h:Nat)(x:Arg)(lo hi y:Option Arg):cV c (.slcA len h x lo hi y)=DB c len h lo hi y (c.ev x):=by simp only[cV];rw[ZQ]
theorem Oq(off:Nat)(x:Arg):cV c (.faddr off x)=tv off (c.ev x):=by simp only[cV];rw[OB]
theorem xdt(off n:Nat)(h:Bool)(x:Arg):cV c (.fld off n h x)=X4 off n h (c.ev x):=by simp only[cV];rw[xdE]
theorem Ee(h:Nat)(x i:Arg):cV c (.iaddrL h x i)=oK h (c.ev x) (c.ev i).num:=by simp only[cV];rw[Ei]
theorem Ef(len h:Nat)(x i:Arg):cV c (.iaddrA len h x i)=mj c len h (c.ev x) (c.ev i).num:=by simp only[cV];rw[tW]
theorem ZN(len h:Nat)(y:Bool)(x i:Arg):cV c (.idxA len h y x i)=DY len h y (c.ev x) (c.ev i).num:=by simp only[cV];rw[ZZ]
theorem ZM(x i:Arg):cV c (.idxS x i)=DX (c.ev x) (c.ev i).num:=by simp only[cV];rw[ZY]
theorem xdu(x:Arg)(i:Nat):cV c (.ext x i)=Yc i (c.ev x):=by simp only[cV];rw[xdF]
theorem xds(b:Bool)(x:Arg):cV c (.len b x)=lenC (jF b (c.ev x)):=by simp only[cV];rw[Rp]
theorem ZK(n:Nat):cV c (.lenC n)=some (.int .i64 n):=by simp only[cV];rw[ZW]
theorem xdw(x:Arg):cV c (.cap x)=Yg (c.ev x):=by simp only[cV];rw[xdH]
theorem ZG(x y:Arg):cV c (.mini x y)=DQ (c.ev x) (c.ev y):=by simp only[cV];rw[ZT]
theorem ZH(x y:Arg):cV c (.maxi x y)=DR (c.ev x) (c.ev y):=by simp only[cV];rw[ZU]
theorem ZD(q a b:Arg):cV c (.pick q a b)=DM (c.ev a) (c.ev b) (c.ev q):=by simp only[cV];cases c.ev q<;>rfl
theorem xjl(o:SOp):qv c ⟨d,none,o⟩=cV c o:=rfl
theorem xjk(g:Nat)(b:Bool)(o:SOp):qv c ⟨d,some (g,b),o⟩=qg c o b (c.get g):=rfl
theorem xjn(b t:Bool)(o:SOp):qg c o b (.bool t)=if t=b then cV c o else some (.tup []):=rfl
theorem xjm(b:Bool)(o:SOp):qg c o b (.tup [])=some (.tup []):=rfl
def stG(call:cU)(sg:Nat->Sig)(c:CSt)(d:t9)(o:SOp)(b:Bool):SV->LAd
 | .bool t=>if t=b then opC call sg c d o else some (c.put d (.tup []))
 | .tup []=>some (c.put d (.tup []))
 |_=>none
theorem Z7(g:Nat)(b:Bool)(o:SOp):dy call sg c ⟨d,some (g,b),o⟩=stG call sg c d o b (c.get g):=by unfold dy stG;rfl
theorem xdO(b t:Bool)(o:SOp):stG call sg c d o b (.bool t)=if t=b then opC call sg c d o else some (c.put d (.tup [])):=rfl
theorem xdN(b:Bool)(o:SOp):stG call sg c d o b (.tup [])=some (c.put d (.tup [])):=rfl
theorem xcq(b:t8)(h:List FI):eT call sg b [] h c=some c:=by rw[eT]
theorem xj3(b:t8)(n:Nat)(i:SI)(r h:List FI):eT call sg b (⟨n,true,i⟩::r) h c=uO call sg b r (⟨n,true,i⟩::h) c i.dst (qv c i):=by rw[eT]
theorem xj4(b:t8)(n:Nat)(i:SI)(r h:List FI):eT call sg b (⟨n,false,i⟩::r) h c=qb call sg b r h (b.getD n 0) (dy call sg c i):=by rw[eT]
theorem xj1(b:t8)(r h:List FI)(v:SV):uO call sg b r h c d (some v)=eT call sg b r h (c.put d v):=by rw[uO]
theorem xj2(b:t8)(r h:List FI)(m:Nat):qb call sg b r h m (some c)=qc call sg b r h (gdP (su m c h) c):=by rw[qb]
theorem xj5(b:t8)(r h:List FI):qc call sg b r h (some c)=eT call sg b r h c:=by rw[qc]
theorem P5{α:Type}{p:Prop}(v:α)(h:p):gdP p v=some v:=by unfold gdP;exact if_pos h
theorem xf4(b:t8)(l:List FI)(p:t8):iO call sg b l [p] c=eT call sg b (ik l p) [] c:=by rw[iO]
theorem xf3(b:t8)(l:List FI)(p q:t8)(r:List t8):iO call sg b l (p::q::r) c=nD (eT call sg b (ik l p) [] c) (iO call sg b l (q::r) c):=by rw[iO]
theorem xkO(a h:CSt):nD (some a) (some h)=gdP (a=h) a:=rfl
theorem xcr(m:Nat):su m c []=True:=rfl
theorem P9(m:Nat)(p:FI)(r:List FI):su m c (p::r)=((m/2^p.n % 2=1\/qv c p.i=some (c.get (p.i.dst.getD 0)))/\su m c r):=rfl
end Go.Sy
namespace Go.Sy
variable [ba]
theorem qW{n:Nat}:∀{l:List (Nat×SV)},(∀p∈l,p.1≠n)->ei l n= .undef
 |[],_=>rfl
 |p::r,h=>by simp only[ei];rw[if_neg (h p (aw ..))];exact qW fun q y=>h q (an _ y)
theorem lY(n:Nat)(v:SV)(m:Nat):∀l:List (Nat×SV),ei (jd l n v) m=if m=n then v else ei l m
 |[]=>by simp only[jd,ei];by_cases h:n=m<;>simp[h,eq_comm]
 |p::r=>by
  simp only[jd];split
  ·simp only[ei]
   by_cases h:n=m
   ·simp[h]
   ·rw[if_neg h,if_neg (Ne.symm h)]
  ·split
   ·rename_i y z
    simp only[ei]
    by_cases h:n=m
    ·simp[h]
    ·rw[if_neg h,if_neg (Ne.symm h),if_neg (by omega)]
   ·rename_i y z
    simp only[ei,lY n v m r]
    by_cases h:p.1=m
    ·rw[if_pos h,if_pos h,if_neg (by omega)]
    ·rw[if_neg h,if_neg h]
theorem lV{n:Nat}{v:SV}{p:Nat×SV}:∀{l:List (Nat×SV)},p∈jd l n v->p=(n,v)\/p∈l
 |[],h=>by simpa[jd]using h
 |q::r,h=>by
  simp only[jd]at h;split at h
  ·rcases am.1 h with h|h
   ·exact .inl h
   ·exact .inr h
  ·split at h
   ·rcases am.1 h with h|h
    ·exact .inl h
    ·exact .inr (an _ h)
   ·rcases am.1 h with h|h
    ·exact .inr (h ▸ aw ..)
    ·rcases lV h with h|h
     ·exact .inl h
     ·exact .inr (an _ h)
theorem fS(lo hi n:Nat):∀l:List (Nat×SV),ei (cR lo hi l) n=(ei l n).purge lo hi
 |[]=>by simp[cR,ei,SV.purge]
 |p::r=>by
  simp only[cR,ei];split
  ·rfl
  ·exact fS lo hi n r
theorem jg{lo hi:Nat}{p:Nat×SV}:∀{l:List (Nat×SV)},p∈cR lo hi l->∃q∈l,p.1=q.1
 |q::r,h=>by
  simp only[cR]at h;rcases am.1 h with h|h
  ·exact⟨q,aw ..,by rw[h]⟩
  ·obtain⟨u,y,z⟩:=jg h
   exact⟨u,an _ y,z⟩
theorem pm{k:t8}{p:Nat×SV}:∀{l:List (Nat×SV)},p∈u9 l k->p∈l
 |q::r,h=>by
  simp only[u9]at h;split at h
  ·exact an _ (pm h)
  ·rcases am.1 h with h|h
   ·exact h ▸ aw ..
   ·exact an _ (pm h)
theorem px(k:t8)(n:Nat):∀l:List (Nat×SV),ei (u9 l k) n=if k.contains n=true then .undef else ei l n
 |[]=>by simp[u9,ei]
 |p::r=>by
  simp only[u9,ei];split
  ·rename_i h
   rw[px k n r]
   by_cases y:p.1=n
   ·subst y;rw[if_pos h,if_pos h]
   ·rw[if_neg y]
  ·rename_i h
   simp only[ei,px k n r]
   by_cases y:p.1=n
   ·subst y;rw[if_pos rfl,if_neg h,if_pos rfl]
   ·rw[if_neg y,if_neg y]
theorem py(n:Nat)(v:aC)(m:Nat):∀l:List (Nat×aC),ip (hU l n v) m=if m=n then some v else ip l m
 |[]=>by simp only[hU,ip];by_cases h:n=m<;>simp[h,eq_comm]
 |p::r=>by
  simp only[hU];split
  ·simp only[ip]
   by_cases h:n=m
   ·simp[h]
   ·rw[if_neg h,if_neg (Ne.symm h)]
  ·split
   ·rename_i y z
    simp only[ip]
    by_cases h:n=m
    ·simp[h]
    ·rw[if_neg h,if_neg (Ne.symm h),if_neg (by omega)]
   ·rename_i y z
    simp only[ip,py n v m r]
    by_cases h:p.1=m
    ·rw[if_pos h,if_pos h,if_neg (by omega)]
    ·rw[if_neg h,if_neg h]
theorem kb{n:Nat}{v:aC}{p:Nat×aC}:∀{l:List (Nat×aC)},p∈hU l n v->p=(n,v)\/p∈l
 |[],h=>by simpa[hU]using h
 |q::r,h=>by
  simp only[hU]at h;split at h
  ·rcases am.1 h with h|h
   ·exact .inl h
   ·exact .inr h
  ·split at h
   ·rcases am.1 h with h|h
    ·exact .inl h
    ·exact .inr (an _ h)
   ·rcases am.1 h with h|h
    ·exact .inr (h ▸ aw ..)
    ·rcases kb h with h|h
     ·exact .inl h
     ·exact .inr (an _ h)
theorem s7{n:Nat}{v:aC}:∀{l:List (Nat×aC)},(l.map cI).Pairwise (· < ·)->((hU l n v).map cI).Pairwise (· < ·)
 |[],_=>by simp[hU]
 |p::r,h=>by
  have F:=h;simp only[aG,bJ]at h;simp only[hU];split
  ·rename_i z
   rw[aG,bJ];refine⟨fun k y=> ?_,F⟩;rw[aG]at y;rcases am.1 y with e|e
   ·omega
   ·have:=h.1 k e;omega
  ·split
   ·rename_i z H
    rw[aG,bJ];exact⟨fun k y=>by have:=h.1 k y;omega,h.2⟩
   ·rename_i z H
    rw[aG,bJ];refine⟨fun k y=> ?_,s7 h.2⟩;obtain⟨q,E,rfl⟩:=aQ.1 y;rcases kb E with e|e
    ·rw[e];show p.1<n;omega
    ·exact h.1 _ (hC e)
theorem gZ{l:List (Nat×aC)}{n:Nat}{v:aC}(h:ip l n=some v):(n,v)∈l:=by
 induction l with
 |nil=>cases h
 |cons p r z=>
  simp only[ip]at h;split at h
  ·rename_i y
   cases h;subst y;exact aw ..
  ·exact an _ (z h)
theorem iT:∀{l:List (Nat×aC)},(l.map cI).Nodup->∀{p:Nat×aC},p∈l->ip l p.1=some p.2
 |q::r,hn,p,h=>by
  simp only[aG,dV]at hn;simp only[ip];rcases am.1 h with e|e
  ·subst e;rw[if_pos rfl]
  ·rw[if_neg (fun y=>hn.1 (by rw[y];exact hC e))]
   exact iT hn.2 e
theorem iQ{l:List (Nat×aC)}(h:(l.map cI).Pairwise (· < ·)):(l.map cI).Nodup:=h.imp fun h=>Nat.ne_of_lt h
theorem gj(o:Nat):∀l:List (Nat×aC),l.lookup o=ip l o
 |[]=>rfl
 |p::r=>by
  simp only[List.lookup,ip]
  by_cases h:o=p.1
  ·rw[if_pos h.symm];simp[h]
  ·have:(o==p.1)=false:=by simpa using h
   rw[this,if_neg (Ne.symm h)];exact gj o r
theorem jl(lo hi o:Nat):∀l:List (Nat×aC),ip (bm lo hi l) o=if lo<=o/\o<hi then none else(ip l o).map (aC.purge lo hi)
 |[]=>by simp[bm,ip]
 |p::r=>by
  simp only[bm,ip];split
  ·rename_i y
   rw[jl lo hi o r]
   by_cases h:p.1=o
   ·subst h;rw[if_pos y,if_pos y]
   ·rw[if_neg h]
  ·rename_i y
   simp only[ip,jl lo hi o r]
   by_cases h:p.1=o
   ·subst h;rw[if_pos rfl,if_neg y,if_pos rfl];rfl
   ·rw[if_neg h,if_neg h]
theorem ua{lo hi:Nat}{l:List (Nat×aC)}(h:(l.map cI).Pairwise (· < ·)):((bm lo hi l).map cI).Pairwise (· < ·):=by rw[eD];exact h.filter _
theorem iS{n t:Nat}:∀{l:t8},t∈j8 l n↔t=n\/t∈l
 |[]=>by simp[j8]
 |p::r=>by
  simp only[j8];split
  ·simp
  ·split
   ·rename_i h;subst h;simp
   ·simp only[am,iS]
    constructor
    ·rintro(h|h|h)
     ·exact .inr (.inl h)
     ·exact .inl h
     ·exact .inr (.inr h)
    ·rintro(h|h|h)
     ·exact .inr (.inl h)
     ·exact .inl h
     ·exact .inr (.inr h)
theorem pe{lo hi:Nat}{o:aC}(h:o.wf=true):(o.purge lo hi).wf=true:=by cases o<;>simpa[aC.purge,aC.wf]using h
def CSt.st(N:Nat)(c:CSt):St:=⟨(bU N).map c.get,c.ob,c.tk⟩
structure Inv(N:Nat)(c:CSt):Prop where
 dom:∀p∈c.tm,p.1<N
 so:(c.ob.map cI).Pairwise (· < ·)
 wf:∀p∈c.ob,p.2.wf=true
structure Sim(N:Nat)(c:CSt)(s:St):Prop where
 inv:Inv N c
 tm:s.tm=(bU N).map c.get
 look:∀o,s.look o=c.look o
 tk:∀t,t∈s.tk↔t∈c.tk
variable {N : Nat} {c : CSt} {s : St}
theorem Inv.get(h:Inv N c){n:Nat}(hn:N<=n):c.get n= .undef:=qW fun p y e=>by have:=h.dom p y;omega
theorem Sim.of(h:Inv N c):Sim N c (c.st N):=⟨h,rfl,fun o=>gj o c.ob,fun _=>Iff.rfl⟩
theorem Sim.get(h:Sim N c s)(n:Nat):s.get n=c.get n:=by
 unfold St.get;rw[h.tm,aa,aR];rcases bL n N with hn|hn
 ·rw[cL hn];rfl
 ·rw[jY (by simpa using hn),h.inv.get hn];rfl
theorem Sim.ev(h:Sim N c s)(a:Arg):s.ev a=c.ev a:=by
 cases a with
 |t n=>exact h.get n
 |c v=>rfl
 |f g=>rfl
theorem Sim.evL(h:Sim N c s)(l:List Arg):Sy.evL c l=l.map s.ev:=by
 induction l with
 |nil=>rfl
 |cons a r y=>simp only[Sy.evL,aG,y,h.ev]
theorem Sim.lookmem(h:Sim N c s){o:Nat}{ob:aC}(y:c.look o=some ob):ob.wf=true:=h.inv.wf _ (gZ y)
theorem Sim.rows(h:Sim N c s){o y:Nat}{z:f8}(E:c.look o=some (.arr y z)):∀x∈z,x.length=y:=by have:=h.lookmem E;simpa[aC.wf]using this
theorem Inv.put(h:Inv N c){d:t9}(hd:∀k,d=some k->k<N)(v:SV):Inv N (c.put d v):=by
 cases d with
 |none=>exact h
 |some k=>
  refine⟨fun p y=> ?_,h.so,h.wf⟩;rcases lV y with e|e
  ·rw[e];exact hd k rfl
  ·exact h.dom p e
theorem gD(c:CSt)(k:Nat)(v:SV)(n:Nat):(c.put (some k) v).get n=if n=k then v else c.get n:=lY k v n c.tm
theorem Sim.put(h:Sim N c s){d:t9}(hd:∀k,d=some k->k<N)(v:SV):Sim N (c.put d v) (s.put d v):=by
 cases d with
 |none=>exact h
 |some k=>
  refine⟨h.inv.put hd v, ?_,h.look,h.tk⟩;show s.tm.set k v=_;rw[h.tm];apply List.ext_getElem?;intro i;rw[eS,aR,aR];rcases bL i N with hi|hi
  ·rw[cL hi]
   simp only[bo,gD,aS,List.length_range]
   by_cases y:k=i
   ·rw[if_pos y,if_pos (by omega),if_pos y.symm]
   ·rw[if_neg y,if_neg (Ne.symm y)]
  ·rw[jY (l:=bU N) (by simpa using hi)]
   have:=hd k rfl;rw[if_neg (by omega)];rfl
theorem bI{α:Type}{p:Prop}[Decidable p]{v u:α}(h:gd p v=some u):p/\v=u:=by
 unfold gd at h;split at h
 ·rename_i y;cases h;exact⟨y,rfl⟩
 ·cases h
theorem FD{op:BinOp}{k:IntKind}{a b:Int}{v:SV}(h:wq op k a b=some v)(z:mi op=false):∃p,P4 op k a b=some (p,v)/\p:=by
 cases op<;>simp only[wq]at h<;>first
  |(cases z;done)
  |(obtain⟨y,rfl⟩:=bI h;exact⟨_,rfl,y⟩)
  |(cases h;exact⟨True,rfl,trivial⟩)
theorem Ra{op:BinOp}{a b v:SV}(h:D8 op a b=some v):∃p,wJ op a b=some (p,v)/\p:=by
 unfold D8 at h;split at h
 ·rename_i k a I b
  split at h
  ·rename_i F
   by_cases E:mi op=true
   ·cases op<;>first
     |(cases E;done)
     |(simp only[wq]at h;obtain⟨y,rfl⟩:=bI h;exact⟨_,rfl,y⟩)
   ·have z:mi op=false:=by simpa using E
    have H:k=I:=F.resolve_left E;obtain⟨p,y,J⟩:=FD h z;refine⟨p, ?_,J⟩;subst H;cases op<;>first|(cases z;done)|(simp only[wJ,if_true];exact y)
  ·cases h
 ·rename_i a k b
  show ∃p,Rq op a b=some (p,v)/\p
  cases op<;>simp only[Nj]at h<;>first
   |(cases h;done)
   |(obtain⟨y,rfl⟩:=bI h;exact⟨_,rfl,y⟩)
 ·rename_i a b
  show ∃p,Dy op a b=some (p,v)/\p
  cases op<;>simp only[xa]at h<;>first
   |(cases h;done)
   |(obtain⟨y,rfl⟩:=bI h;exact⟨_,rfl,y⟩)
   |(cases h;exact⟨True,rfl,trivial⟩)
 ·rename_i a b
  show ∃p,Rr op a b=some (p,v)/\p
  cases op<;>simp only[Nm]at h<;>first
   |(cases h;done)
   |(obtain⟨y,rfl⟩:=bI h;exact⟨_,rfl,y⟩)
   |(cases h;exact⟨True,rfl,trivial⟩)
 ·cases h
theorem uG(F:Sim N c s){n:Nat}{H:Bool}{u v:SV}(h:lW c n H u=some v):∃p,io s n H u=some (p,v)/\p:=by
 cases u with
 |pp cs=>obtain⟨y,rfl⟩:=bI h;exact⟨_,rfl,y⟩
 |ptr o off=>
  simp only[lW]at h;simp only[io,F.look];split at h
  ·rename_i cs z;rw[z];obtain⟨y,rfl⟩:=bI h;exact⟨_,rfl,y⟩
  ·rename_i J I z;rw[z];obtain⟨⟨y,E⟩,rfl⟩:=bI h;subst y;exact⟨_,rfl,E,F.rows z⟩
  ·rename_i l z;rw[z];obtain⟨⟨y,E⟩,rfl⟩:=bI h;subst y;exact⟨_,rfl,E⟩
  ·cases h
 |ap o J i j=>
  simp only[lW]at h;simp only[io,F.look];split at h
  ·rename_i L I z
   rw[z];obtain⟨⟨y,E,O⟩,rfl⟩:=bI h;refine⟨_,rfl,y,E,O, ?_⟩;rw[aa,ab E,y];exact F.rows z _ (bn _)
  ·rename_i l z;rw[z];obtain⟨y,rfl⟩:=bI h;exact⟨_,rfl,y⟩
  ·cases h
 |_=>cases h
theorem me(h:Sim N c s)(x:Option Arg)(n:Int):il s x n=ka c x n:=by
 cases x with
 |none=>rfl
 |some a=>simp only[il,ka,h.ev]
theorem zq(H:Sim N c s){J:Nat}{u v:SV}{lo hi L:Option Arg}(h:nJ c J u lo hi L=some v):∃p,jb s J u lo hi L=some (p,v)/\p:=by
 cases u with
 |byt l t=>
  simp only[nJ]at h;simp only[jb,me H];split at h<;>try (cases h;done)
  rename_i a b m y E F;rw[y,E,F];obtain⟨z,rfl⟩:=bI h;exact⟨_,rfl,z⟩
 |lst I l t=>
  simp only[nJ]at h;simp only[jb,me H];split at h<;>try (cases h;done)
  rename_i a b m y E F;rw[y,E,F];obtain⟨z,rfl⟩:=bI h;exact⟨_,rfl,z⟩
 |psl o I off n cap=>
  cases cap with
  |none=>
   simp only[nJ]at h;simp only[jb,me H];split at h<;>try (cases h;done)
   rename_i a b y E;rw[y,E];obtain⟨z,rfl⟩:=bI h;exact⟨_,rfl,z⟩
  |some cap=>
   simp only[nJ]at h;simp only[jb,me H];split at h<;>try (cases h;done)
   rename_i a b m y E F;rw[y,E,F];obtain⟨z,rfl⟩:=bI h;exact⟨_,rfl,z⟩
 |_=>cases h
theorem iM(y:Sim N c s){u:SV}{l:t6}(h:dH c u=some l):∃p,bytesOf s u=some (p,l)/\p:=by
 cases u with
 |byt l t=>cases h;exact⟨True,rfl,trivial⟩
 |str l=>cases h;exact⟨True,rfl,trivial⟩
 |psl o F off n cap=>
  simp only[dH]at h;simp only[bytesOf,y.look];split at h
  ·rename_i H E;rw[E];obtain⟨z,rfl⟩:=bI h;exact⟨_,rfl,z⟩
  ·cases h
 |_=>cases h
theorem j5(E:Sim N c s){u:SV}{I:Nat}{l:f8}(h:fE c I u=some l):∃p,jB s I u=some (p,l)/\p:=by
 cases u with
 |lst z l t=>obtain⟨y,rfl⟩:=bI h;exact⟨_,rfl,y⟩
 |psl o z off n cap=>
  simp only[fE]at h;simp only[jB,E.look];split at h
  ·rename_i F O H
   rw[H];obtain⟨⟨y,J,L⟩,rfl⟩:=bI h;exact⟨_,rfl,y,J,L,by rw[J];exact E.rows H⟩
  ·cases h
 |_=>cases h
theorem xa3(y:Sim N c s)(h:List (Nat×Nat×Arg)):psC c h=h.map fun(o,n,x)=>(o,n,s.ev x):=by
 induction h with
 |nil=>rfl
 |cons p r z=>obtain⟨o,n,x⟩:=p;simp only[psC,aG,z,y.ev]
theorem Oy(F:Sim N c s){so:SOp}{v:SV}(h:cH c so=some v):∃p,val s so=some (p,v)/\p:=by
 cases so with
 |mov x=>cases h;exact⟨True,by simp only[val,F.ev],trivial⟩
 |build z ps=>simp only[cH,xa3 F]at h;obtain⟨l,E,rfl⟩:=ah.1 h;exact⟨True,by simp only[val,E,bo],trivial⟩
 |lit L xs=>simp only[cH,F.evL]at h;obtain⟨l,E,rfl⟩:=ah.1 h;exact⟨True,by simp only[val,E,bo],trivial⟩
 |litB xs=>simp only[cH,F.evL]at h;obtain⟨l,E,rfl⟩:=ah.1 h;exact⟨True,by simp only[val,E,bo],trivial⟩
 |load n ag a=>simp only[val,F.ev];exact uG F h
 |nchk x=>simp only[cH]at h;simp only[val,F.ev];cases I:c.ev x<;>rw[I]at h<;>first|(cases h;done)|(cases h;exact⟨True,rfl,trivial⟩)
 |bin op x y=>simp only[val,F.ev];exact Ra h
 |beq Z x y=>
  simp only[cH]at h;simp only[val,F.ev];split at h<;>try (cases h;done)
  rename_i a b E H;cases h;rw[E,H];exact⟨True,rfl,trivial⟩
 |eqS Z ts x y=>
  simp only[cH]at h;simp only[val,F.ev];split at h<;>try (cases h;done)
  rename_i a b E H;obtain⟨l,h3,rfl⟩:=ah.1 h;rw[E,H];exact⟨True,by simp only[h3,bo],trivial⟩
 |un op x=>simp only[cH]at h;exact⟨True,by simp only[val,F.ev,h,bo],trivial⟩
 |toInt k x=>simp only[cH]at h;exact⟨True,by simp only[val,F.ev,h,bo],trivial⟩
 |toStr x=>
  simp only[cH]at h;simp only[val,F.ev];split at h<;>try (cases h;done)
  all_goals
   rename_i E;cases h;rw[E];exact⟨True,rfl,trivial⟩
 |slid x=>simp only[cH]at h;cases h
 |newB x=>simp only[cH]at h;cases h
 |isni Z x=>
  simp only[cH]at h;simp only[val,F.ev];split at h<;>try (cases h;done)
  rename_i E;cases h;rw[E];exact⟨True,rfl,trivial⟩
 |s2b x=>
  simp only[cH]at h;simp only[val,F.ev];split at h<;>try (cases h;done)
  rename_i l E;cases h;rw[E];exact⟨True,rfl,trivial⟩
 |b2s x=>
  simp only[cH]at h;simp only[val,F.ev];cases I:c.ev x with
  |byt l t=>rw[I]at h;cases h;exact⟨True,rfl,trivial⟩
  |psl o L off n cap=>
   rw[I]at h;simp only[dH]at h;simp only[wL,F.look];obtain⟨l,E,rfl⟩:=ah.1 h;split at E
   ·rename_i l' O;rw[O];obtain⟨H,rfl⟩:=bI E;exact⟨_,rfl,H⟩
   ·cases E
  |_=>rw[I]at h;cases h
 |mkfn f a b=>simp only[cH,F.evL]at h;cases h;exact⟨True,rfl,trivial⟩
 |slcS x lo hi=>
  simp only[cH]at h;simp only[val,F.ev];split at h<;>try (cases h;done)
  rename_i l I;rw[I];simp only[me F];split at h<;>try (cases h;done)
  rename_i a b E H;rw[E,H];obtain⟨J,rfl⟩:=bI h;exact⟨_,rfl,J⟩
 |slcL L x lo hi mx=>simp only[val,F.ev];exact zq F h
 |slcA len L x lo hi mx=>
  simp only[cH]at h;simp only[val,F.ev];split at h<;>try (cases h;done)
  rename_i o off I;split at h<;>try (cases h;done)
  rename_i ho;subst ho;rw[I];exact zq F h
 |faddr off x=>simp only[cH]at h;simp only[val,F.ev];cases I:c.ev x<;>rw[I]at h<;>first|(cases h;done)|(cases h;exact⟨True,rfl,trivial⟩)
 |fld off n ag x=>
  simp only[cH]at h;simp only[val,F.ev];split at h<;>try (cases h;done)
  rename_i cs I;rw[I];obtain⟨J,rfl⟩:=bI h;exact⟨_,rfl,J⟩
 |iaddrL L x i=>
  simp only[cH]at h;simp only[val,F.ev];split at h<;>try (cases h;done)
  all_goals
   rename_i E H;rw[E,H];obtain⟨J,rfl⟩:=bI h;exact⟨_,rfl,J⟩
 |iaddrA len L x i=>
  simp only[cH]at h;simp only[val,F.ev,F.look];split at h<;>try (cases h;done)
  ·rename_i o off n E H
   rw[E,H];simp only;split at h<;>try (cases h;done)
   ·rename_i cs O
    rw[O];obtain⟨J,rfl⟩:=bI h;exact⟨_,rfl,J⟩
   ·rename_i ob U O
    rw[O];obtain⟨⟨J,h5⟩,rfl⟩:=bI h;cases ob with
    |rc cs=>exact absurd rfl (U cs)
    |_=>simp only[J,if_true];exact⟨_,rfl,h5⟩
  ·rename_i cs n E H
   rw[E,H];obtain⟨J,rfl⟩:=bI h;exact⟨_,rfl,J⟩
 |idxA len L ag x i=>
  simp only[cH]at h;simp only[val,F.ev];split at h<;>try (cases h;done)
  rename_i E H;rw[E,H];obtain⟨J,rfl⟩:=bI h;exact⟨_,rfl,J⟩
 |idxS x i=>
  simp only[cH]at h;simp only[val,F.ev];split at h<;>try (cases h;done)
  rename_i E H;rw[E,H];obtain⟨J,rfl⟩:=bI h;exact⟨_,rfl,J⟩
 |ext x i=>
  simp only[cH]at h;simp only[val,F.ev];split at h<;>try (cases h;done)
  rename_i vs I;rw[I];obtain⟨J,rfl⟩:=bI h;exact⟨_,rfl,J⟩
 |len b x=>simp only[cH]at h;obtain⟨n,E,rfl⟩:=ah.1 h;exact⟨True,by simp only[val,F.ev,E],trivial⟩
 |lenC n=>cases h;exact⟨True,rfl,trivial⟩
 |cap x=>
  simp only[cH]at h;simp only[val,F.ev];cases I:c.ev x with
  |psl o L off n m=>cases m<;>rw[I]at h<;>cases h;exact⟨True,rfl,trivial⟩
  |byt l t=>rw[I]at h;simp only at h;split at h<;>cases h;rename_i W;subst W;exact⟨True,rfl,trivial⟩
  |lst L l t=>rw[I]at h;simp only at h;split at h<;>cases h;rename_i W;subst W;exact⟨True,rfl,trivial⟩
  |_=>rw[I]at h;cases h
 |mini x y=>
  simp only[cH]at h;simp only[val,F.ev];split at h<;>try (cases h;done)
  rename_i E H;rw[E,H];simp only;split at h<;>cases h;rename_i Q;exact⟨True,by rw[if_pos Q],trivial⟩
 |maxi x y=>
  simp only[cH]at h;simp only[val,F.ev];split at h<;>try (cases h;done)
  rename_i E H;rw[E,H];simp only;split at h<;>cases h;rename_i Q;exact⟨True,by rw[if_pos Q],trivial⟩
 |_=>cases h
end Go.Sy
namespace Go.Sy
variable [ba]
variable {P : Program} {C : Ctx} {x : Sit} {a : Act} {w : World} {o : Oper} {so : SOp} {N : Nat} {c c' : CSt} {s : St} {d : Option Nat}
def M(C:Ctx)(N:Nat)(c:CSt):LAf:=D3 C (Sim N c)
theorem Sim.purge(h:Sim N c s)(lo hi:Nat):Sim N (c.purge lo hi) (s.purge lo hi):=by
 refine⟨⟨fun p y=> ?_,ua h.inv.so,fun p y=> ?_⟩, ?_,fun o=> ?_,fun t=> ?_⟩
 ·obtain⟨q,E,e⟩:=jg y
  rw[e];exact h.inv.dom q E
 ·obtain⟨_,ob,z,F⟩:=co y
  rw[F];exact pe (h.inv.wf _ z)
 ·show SV.purgeL lo hi s.tm=_
  rw[h.tm,dl,List.map_map];apply List.map_congr_left;intro i _;exact(fS lo hi i c.tm).symm
 ·show(bm lo hi s.ob).lookup o=ip (bm lo hi c.ob) o
  have:=h.look o;unfold St.look CSt.look at this;rw[gj]at this ⊢;rw[jl,jl,this]
 ·show t∈bN lo hi s.tk↔t∈bN lo hi c.tk
  rw[bC,bC,h.tk]
theorem Sim.addO(h:Sim N c s)(k:Nat){ob:aC}(z:ob.wf=true):Sim N ⟨c.tm,hU c.ob k ob,c.tk⟩ (s.addO k ob):=by
 refine⟨⟨h.inv.dom,s7 h.inv.so,fun p E=> ?_⟩,h.tm,fun o=> ?_,h.tk⟩
 ·rcases kb E with e|e
  ·rw[e];exact z
  ·exact h.inv.wf p e
 ·show((k,ob)::s.ob).lookup o=ip (hU c.ob k ob) o
  have:=h.look o;unfold St.look CSt.look at this;rw[py];simp only[List.lookup]
  by_cases y:o=k
  ·subst y;simp
  ·have:(o==k)=false:=by simpa using y
   rw[this,if_neg y];exact h.look o
theorem ie(k:Nat)(ob:aC)(o:Nat):∀l:List (Nat×aC),(Sy.setO k ob l).lookup o=if o=k/\(l.lookup k).isSome=true then some ob else l.lookup o
 |[]=>by simp[Sy.setO]
 |p::r=>by
  simp only[Sy.setO]
  by_cases y:p.1=k
  ·rw[if_pos y]
   subst y;simp only[List.lookup]
   by_cases h:o=p.1
   ·subst h;simp
   ·have:(o==p.1)=false:=by simpa using h
    simp[this,h]
  ·rw[if_neg y]
   have z:(k==p.1)=false:=by simpa using Ne.symm y
   simp only[List.lookup,z,ie k ob o r]
   by_cases h:o=p.1
   ·subst h;simp[y]
   ·have:(o==p.1)=false:=by simpa using h
    simp[this]
theorem Sim.setO(h:Sim N c s){k:Nat}{ob:aC}(E:(c.look k).isSome=true)(H:ob.wf=true):Sim N ⟨c.tm,hU c.ob k ob,c.tk⟩ (s.setO k ob):=by
 refine⟨⟨h.inv.dom,s7 h.inv.so,fun p F=> ?_⟩,h.tm,fun o=> ?_,h.tk⟩
 ·rcases kb F with e|e
  ·rw[e];exact H
  ·exact h.inv.wf p e
 ·show(Sy.setO k ob s.ob).lookup o=ip (hU c.ob k ob) o
  rw[py,ie]
  have z:(s.ob.lookup k).isSome=true:=by have:=h.look k;unfold St.look at this;rw[this];exact E
  by_cases y:o=k
  ·rw[if_pos ⟨y,z⟩,if_pos y]
  ·rw[if_neg (fun e=>y e.1),if_neg y];exact h.look o
theorem Sim.tks(h:Sim N c s){l k:t8}(y:∀t,t∈l↔t∈k):Sim N ⟨c.tm,c.ob,k⟩ ⟨s.tm,s.ob,l⟩:=⟨⟨h.inv.dom,h.inv.so,h.inv.wf⟩,h.tm,h.look,y⟩
theorem Fj{t:Tok}{l k:t8}(h:∀t,t∈l↔t∈k)(n:Nat):n∈t.eat l↔n∈t.eat k:=by
 cases t with
 |id t=>simp only[Tok.eat,bC,h]
 |_=>exact h n
structure Ea(e:nP)(f:Eff):Prop where
 val:f.val=e.val
 wr:f.wr=e.wr
 new:f.new=e.new
 eat:f.eat=e.eat
 tok:f.tok=e.tok
structure Ed(c:CSt)(e:nP):Prop where
 new:∀ob,e.new=some ob->ob.wf=true
 wr:e.wr=[]\/∃k ob,e.wr=[(k,ob)]/\(c.look k).isSome=true/\ob.wf=true
theorem Sim.app(h:Sim N c s)(hd:∀k,d=some k->k<N){e:nP}{f:Eff}(y:Ea e f)(E:Ed c e):Sim N (c.app d e) (s.app d f):=by
 unfold CSt.app St.app;rw[y.new,y.tok,y.val,y.wr,y.eat];cases hn:e.new with
 |some ob=>exact((h.purge _ _).addO _ (pe (E.new ob hn))).put hd _
 |none=>
  cases ht:e.tok with
  |true=>refine Sim.put (c:=⟨_,_,_⟩) ?_ hd _;refine((h.purge (d.getD 0+100) (d.getD 0+100+1)).tks (fun t=> ?_));rw[iS,am,bC,bC,Fj h.tk]
  |false=>
   rcases E.wr with z|⟨k,ob,z,h1,h2⟩
   ·rw[z];exact h.put hd _
   ·rw[z];exact(h.setO h1 h2).put hd _
theorem Ea.v(v:SV)(p:Prop):Ea {val:=v} {pre:=p,val:=v}:=⟨rfl,rfl,rfl,rfl,rfl⟩
theorem Ed.v(v:SV):Ed c {val:=v}:=⟨fun ob h=>(by cases h),.inl rfl⟩
theorem Zy(n:Nat)(z:t7):(aC.arr z.length (ao n z)).wf=true:=by simp only[aC.wf,aT,decide_eq_true_eq];intro y h;rw[(List.mem_replicate.1 h).2]
theorem iP{h:Nat}{z:f8}:(aC.arr h z).wf=true↔∀y∈z,y.length=h:=by simp only[aC.wf,aT,decide_eq_true_eq]
theorem vc(z:Nat):∀(m:Nat)(v:t7),v.length=m*z->∀y∈jn z m v,y.length=z
 |0,_,_,y,hy=>by cases hy
 |m+1,v,h,y,hy=>by
  rw[dD]at h;simp only[jn]at hy;rcases am.1 hy with rfl|hy
  ·rw[aA];omega
  ·exact vc z m (v.drop z) (by rw[aL];omega) y hy
theorem CH{E:Nat}{H:f8}{i j n:Nat}{v:t7}(h:∀y∈H,y.length=E)(hi:i<H.length)(L:j+n<=E)(I:v.length=n):∀y∈fA E H i j n v,y.length=E:=by
 intro y F;unfold fA at F;split at F
 ·rename_i J
  rcases List.mem_or_eq_of_mem_set F with z|z
  ·exact h y z
  ·rw[z,I];exact J.2
 ·rcases List.mem_or_eq_of_mem_set F with z|z
  ·exact h y z
  ·have:(H.getD i []).length=E:=by
    rw[aa,ab hi];exact h _ (bn _)
   rw[z];simp only[af,aA,aL,this,I];omega
theorem qI(h:Sim N c s){t:Tok}(y:t.readyC c=true):t.ready s=true:=by
 cases t with
 |no=>cases y
 |clip=>rfl
 |id t=>simp only[Tok.readyC,eK,decide_eq_true_eq]at y;simp only[Tok.ready,eK,decide_eq_true_eq];exact(h.tk t).2 y
theorem OW(hM:aM C x s a w){y:Arg}(h:y.isT=true):Rep x (s.ev y) (match y with| .t n=>a.tmps.getD n undef|_=>undef):=by
 cases y with
 |t n=>exact hM.slot n
 |_=>cases h
theorem FT(h:Sim N c s){e:nP}(E:dJ c d so=some e)(hp:∀q y z,so≠ .pick q y z)(hn:∀ne q,so≠ .isnil ne q)(a3:∀sz q y,so≠ .cpy sz q y):∃f,eff s d so=some f/\f.pre/\Ea e f/\Ed c e:=by
 have a0:∀{so:SOp},dJ c d so=zb (cH c so)->(eff s d so=match val s so with|some (p,v)=>some {pre:=p,val:=v}|none=>none)->dJ c d so=some e->∃f,eff s d so=some f/\f.pre/\Ea e f/\Ed c e:=by
  intro so F O L;rw[F]at L;cases Z:cH c so with
  |none=>rw[Z]at L;cases L
  |some v=>rw[Z]at L;cases L;obtain⟨p,Q,h5⟩:=Oy h Z;exact⟨{pre:=p,val:=v},by rw[O,Q],h5,Ea.v v p,Ed.v v⟩
 cases so with
 |pick q y z=>exact absurd rfl (hp q y z)
 |isnil ne q=>exact absurd rfl (hn ne q)
 |call _ _=>cases E
 |newB _=>cases E
 |slid _=>cases E
 |new ob=>
  simp only[dJ]at E;split at E<;>try (cases E;done)
  obtain⟨F,rfl⟩:=bI E;exact⟨_,rfl,trivial,⟨rfl,rfl,rfl,rfl,rfl⟩,⟨fun H e=>(by cases e;exact F),.inl rfl⟩⟩
 |box q=>simp only[dJ]at E;split at E<;>cases E;exact⟨_,rfl,trivial,⟨rfl,rfl,by simp only[h.ev],rfl,rfl⟩,⟨fun H e=>(by cases e;rfl),.inl rfl⟩⟩
 |mk z bytes n m=>
  simp only[dJ]at E;simp only[eff,h.ev];split at E<;>try (cases E;done)
  rename_i F O;rw[F,O];obtain⟨F,rfl⟩:=bI E;exact⟨_,rfl,F,⟨rfl,rfl,rfl,rfl,rfl⟩,⟨fun H e=>(by cases e;exact Zy _ z),.inl rfl⟩⟩
 |mkB n m=>
  simp only[dJ]at E;simp only[eff,h.ev];split at E<;>try (cases E;done)
  rename_i F O;rw[F,O];obtain⟨F,rfl⟩:=bI E;exact⟨_,rfl,F,⟨rfl,rfl,rfl,rfl,rfl⟩,⟨fun H e=>(by cases e;rfl),.inl rfl⟩⟩
 |store n q y=>
  simp only[dJ]at E;simp only[eff,h.ev];split at E<;>try (cases E;done)
  rename_i a2;rw[a2];simp only;unfold kM at E;unfold pN;split at E
  ·rename_i o' off U
   rw[U];simp only[h.look];split at E<;>try (cases E;done)
   ·rename_i cs I
    rw[I];obtain⟨F,rfl⟩:=bI E;exact⟨_,rfl,F,⟨rfl,rfl,rfl,rfl,rfl⟩,⟨fun H e=>(by cases e),.inr ⟨_,_,rfl,by rw[I];rfl,rfl⟩⟩⟩
   ·rename_i sz xs I
    rw[I];obtain⟨⟨F,O,L,Q⟩,rfl⟩:=bI E
    exact⟨_,rfl,⟨F,O,L,Q⟩,⟨rfl,rfl,rfl,rfl,rfl⟩,
     ⟨fun H e=>(by cases e),.inr ⟨_,_,rfl,by rw[I];rfl,iP.2 (vc sz _ _ (by rw[aS];omega))⟩⟩⟩
   ·rename_i l I
    rw[I];simp only at E ⊢;split at E<;>try (cases E;done)
    rename_i l' Z;rw[Z];obtain⟨F,rfl⟩:=bI E;exact⟨_,rfl,F,⟨rfl,rfl,rfl,rfl,rfl⟩,⟨fun H e=>(by cases e),.inr ⟨_,_,rfl,by rw[I];rfl,rfl⟩⟩⟩
  ·rename_i o' sz i j U
   rw[U];simp only[h.look];split at E<;>try (cases E;done)
   ·rename_i a1 xs I
    rw[I];obtain⟨⟨F,O,L,Q,h5⟩,rfl⟩:=bI E
    exact⟨_,rfl,⟨F,O,L,Q,by rw[F];exact h.rows I,h5⟩,⟨rfl,rfl,rfl,rfl,rfl⟩,
     ⟨fun H e=>(by cases e),.inr ⟨_,_,rfl,by rw[I];rfl,iP.2 (by subst F;exact CH (h.rows I) O L (by simpa using Q))⟩⟩⟩
   ·rename_i l I
    rw[I];simp only at E ⊢;split at E<;>try (cases E;done)
    rename_i b Z;rw[Z];obtain⟨F,rfl⟩:=bI E;exact⟨_,rfl,F,⟨rfl,rfl,rfl,rfl,rfl⟩,⟨fun H e=>(by cases e),.inr ⟨_,_,rfl,by rw[I];rfl,rfl⟩⟩⟩
  ·cases E
 |app z bytes q y=>
  simp only[dJ]at E;simp only[eff,h.ev];split at E<;>try (cases E;done)
  split at E<;>try (cases E;done)
  ·rename_i l t U
   rw[U];obtain⟨l',F,O⟩:=Option.bind_eq_some_iff.1 E;obtain⟨p,L,Q⟩:=iM h F;obtain⟨⟨g1,g2,g3,g4⟩,rfl⟩:=bI O;simp only[L];exact⟨_,rfl,⟨Q,g1,g2,qI h g3,g4⟩,⟨rfl,rfl,rfl,rfl,rfl⟩,⟨fun H e=>(by cases e),.inl rfl⟩⟩
  ·rename_i a1 l t U
   rw[U];obtain⟨l',F,O⟩:=Option.bind_eq_some_iff.1 E;obtain⟨p,L,Q⟩:=j5 h F;obtain⟨⟨g1,g3,g4⟩,rfl⟩:=bI O;simp only[L];exact⟨_,rfl,⟨Q,g1,qI h g3,g4⟩,⟨rfl,rfl,rfl,rfl,rfl⟩,⟨fun H e=>(by cases e),.inl rfl⟩⟩
 |cpy sz q y=>exact absurd rfl (a3 sz q y)
 |appO z bytes q y=>cases E
 |clr z q=>
  simp only[dJ]at E;simp only[eff,h.ev];split at E<;>try (cases E;done)
  rename_i o' a1 off n cap U;rw[U];simp only[h.look];split at E<;>try (cases E;done)
  rename_i a4 xs I;rw[I];obtain⟨⟨g0,g1,g2,g3⟩,rfl⟩:=bI E;have J:=h.rows I;refine⟨_,rfl,⟨g0,g1,g2,g3,by rw[g2];exact J⟩,⟨rfl,rfl,rfl,rfl,rfl⟩,⟨fun H e=>(by cases e),.inr ⟨_,_,rfl,by rw[I];rfl,iP.2 ?_⟩⟩⟩;intro r W;rcases ak.1 W with W|W
  ·rcases ak.1 W with W|W
   ·rw[g2];exact J r (cm W)
   ·rw[(List.mem_replicate.1 W).2]
  ·rw[g2];exact J r (Dw W)
 |appM z bytes q y=>cases E
 |ovl q y=>cases E
 |_=>exact a0 (ri rfl) rfl E
theorem QE(P:Program)(h:Sim N c s)(hM:aM C x s a w){e:nP}(H:dJ c d so=some e)(hp:∀q y z,so≠ .pick q y z)(hn:∀ne q,so≠ .isnil ne q):∃f,eff s d so=some f/\f.pre/\Ea e f/\Ed c e:=by
 by_cases L:∃O q y,so= .cpy O q y
 ·obtain⟨O,q,y,rfl⟩:=L
  simp only[dJ]at H;simp only[eff,h.ev];split at H<;>try (cases H;done)
  rename_i o' a3 off n cap hq;rw[hq];simp only[h.look];split at H<;>try (cases H;done)
  ·rename_i l I
   rw[I];obtain⟨l',W,Z⟩:=Option.bind_eq_some_iff.1 H;obtain⟨p,Q,U⟩:=iM h W;obtain⟨⟨g1,J,g3⟩,rfl⟩:=bI Z;simp only[Q];exact⟨_,rfl,⟨U,g1,J,g3⟩,⟨rfl,rfl,rfl,rfl,rfl⟩,⟨fun a0 e=>(by cases e),.inr ⟨_,_,rfl,by rw[I];rfl,rfl⟩⟩⟩
  ·rename_i a2 xs I
   rw[I];obtain⟨l',W,Z⟩:=Option.bind_eq_some_iff.1 H;obtain⟨p,Q,U⟩:=j5 h W;obtain⟨⟨g0,g1,J,g3⟩,rfl⟩:=bI Z;simp only[Q];have E:=h.rows I;obtain⟨_,a1,_⟩:=ph (P:=P) hM (OW hM g0) (by rw[h.ev];exact Q) U;refine⟨_,rfl,⟨U,g1,J,g3,by rw[J];exact E⟩,⟨rfl,rfl,rfl,rfl,rfl⟩,⟨fun a0 e=>(by cases e),.inr ⟨_,_,rfl,by rw[I];rfl,iP.2 ?_⟩⟩⟩;intro r F;rcases ak.1 F with F|F
   ·rcases ak.1 F with F|F
    ·rw[J];exact E r (cm F)
    ·exact a1 r (cm F)
   ·rw[J];exact E r (Dw F)
 ·exact FT h H hp hn (fun O q y e=>L ⟨O,q,y,e⟩)
theorem xd8(h:M C N c a w)(Z:bq P o=some so)(hd:∀k,o.dst=some k->k<N)(I:mY c o.dst (dJ c o.dst so)=some c'){K:LAf}{Q:LAe}(hK:∀a w,M C N c' a w->K a w):o.wp P a w K Q:=by
 obtain⟨x,s,hM,F⟩:=h;cases he:dJ c o.dst so with
 |none=>rw[he]at I;cases I
 |some e=>
  rw[he]at I;simp only[mY,aq.injEq]at I;subst I
  by_cases hp:∃q y z,so= .pick q y z
  ·obtain⟨q,y,z,rfl⟩:=hp
   simp only[dJ]at he;split at he<;>cases he;rename_i t ht;have H:=Do hM Z (t:=t) (by rw[F.ev];exact ht);refine cQ H (k:=Sim N (c.app o.dst {val:=hZ t (c.ev y) (c.ev z)})) ?_ hK;have:(if t=true then s.ev y else s.ev z)=hZ t (c.ev y) (c.ev z):=by rw[F.ev,F.ev];rfl
   rw[this];exact F.put hd _
  ·by_cases hn:∃E q,so= .isnil E q
   ·obtain⟨E,q,rfl⟩:=hn
    have U:∃b,b=E/\b9 P C o a w (s.put o.dst (.bool b)):=by
     refine wD hM Z (K:=fun b=>b=E) ?_;rw[F.ev];simp only[dJ]at he;split at he<;>try (cases he;done)
     ·rename_i l t L
      obtain⟨J,_⟩:=bI he
      try rw[L]
      intro b W;cases b
      ·cases E<;>rfl
      ·exact absurd (W rfl) J
     ·rename_i sz l t L
      obtain⟨J,_⟩:=bI he
      try rw[L]
      intro b W;cases b
      ·cases E<;>rfl
      ·exact absurd (W rfl) J
     ·rename_i L
      first
       |rw[L]
       |rfl
    obtain⟨b,rfl,H⟩:=U;refine cQ H (k:=Sim N (c.app o.dst e)) ?_ hK
    have:e= {val:= .bool b}:=by
     simp only[dJ]at he;split at he
     ·obtain⟨_,O⟩:=bI he;exact O.symm
     ·obtain⟨_,O⟩:=bI he;exact O.symm
     ·exact(aq.inj he).symm
     ·cases he
    rw[this];exact F.put hd _
   ·obtain⟨f,J,O,h3,h4⟩:=QE P F hM he (fun q y z e=>hp ⟨q,y,z,e⟩) (fun E q e=>hn ⟨E,q,e⟩)
    exact cQ (QC hM Z J O) (k:=Sim N (c.app o.dst e)) (F.app hd h3 h4) hK
end Go.Sy
namespace Go.Sy
variable [ba]
variable {P : Program} {C : Ctx} {x : Sit} {a : Act} {w : World} {N : Nat} {c c' : CSt} {s : St}
theorem Sim.exact(h:Sim N c s)(hM:aM C x s a w):aM C x (c.st N) a w:=
 ⟨by show cy x ((bU N).map c.get) _;rw[<-h.tm];exact hM.tm,hM.defers,hM.heap.only (fun p y=>by have z:=iT (iQ h.inv.so) y;have E:s.look p.1=some p.2:=(h.look p.1).trans z;exact cO E) (iQ h.inv.so) (fun t F=>(h.tk t).2 F)⟩
theorem M.slots(h:M C N c a w)(hi:Inv N c')(J:c'.ob=c.ob)(H:c'.tk=c.tk)(I:∀i,c'.get i=c.get i\/c'.get i= .undef):M C N c' a w:=by
 obtain⟨x,s,hM,F⟩:=h;have hE:=F.exact hM;refine⟨x,c'.st N,⟨⟨?_,fun i y=> ?_⟩,hM.defers, ?_⟩,Sim.of hi⟩
 ·have:=hE.tm.1;simpa[CSt.st]using this
 ·have E:=hE.tm.2 i (by simpa[CSt.st]using y)
  have z:i<N:=by simpa[CSt.st]using y
  simp only[CSt.st,aa,aR,cL z,bo,bj]at E ⊢;rcases I i with e|e
  ·rw[e];exact E
  ·rw[e];exact .undef _
 ·show cW C x c'.ob c'.tk w
  rw[J,H];exact hE.heap
theorem Inv.kill(h:Inv N c)(l:t8):Inv N (c.kill l):=by
 cases l with
 |nil=>exact h
 |cons n r=>exact⟨fun p y=>h.dom p (pm y),h.so,h.wf⟩
theorem M.kill(h:M C N c a w)(l:t8):M C N (c.kill l) a w:=by
 have hi:Inv N c:=by obtain⟨x,s,_,z⟩:=h;exact z.inv
 cases l with
 |nil=>exact h
 |cons n r=>
  refine h.slots (hi.kill _) rfl rfl fun i=> ?_
  have e:=px (n::r) i c.tm
  by_cases y:(n::r).contains i=true
  ·exact .inr (e.trans (if_pos y))
  ·exact .inl (e.trans (if_neg y))
theorem M.purge(h:M C N c a w)(lo hi:Nat):M C N (c.purge lo hi) a w:=by obtain⟨x,s,hM,y⟩:=h;exact⟨x,_,hM.purge lo hi,y.purge lo hi⟩
theorem M.gc:∀{l:t8}{c:CSt},M C N c a w->M C N (gcC c l) a w
 |[],_,h=>h
 |o::r,c,h=>by show M C N (gcC (c.purge o (o+1)) r) a w;exact M.gc (h.purge o (o+1))
theorem lI{o:Nat}{obj:aC}(cs:t7):SV.pubL o obj cs=cs.map (SV.pub o obj):=by
 induction cs with
 |nil=>rfl
 |cons c r h=>simp only[SV.pubL,aG,h]
theorem Rep.pub{x x':Sit}{o:Nat}{obj:aC}(hβ:x'.bk=x.bk)(hτ:x'.τ=x.τ)(hG:∀b i u,x.G b i=some u->x'.G b i=some u)
 (E:∀k,k<obj.size->∃u,x'.G ((x.bk o).1) k=some u/\cE x'.G (obj.cell k) u) (a4:obj.wf=true) {sv:SV} {v:Value} (h:Rep x sv v):Rep x' (sv.pub o obj) v:=by
 induction h with
 |undef v=>exact .undef v
 |dat s v h ht=>
  have:s.pub o obj=s:=by cases h<;>rfl
  rw[this];exact(Rep.dat s v h ht).grow hG hβ hτ
 |ptr I off=>
  simp only[SV.pub];split
  ·exact .undef _
  ·rw[<-hβ];exact .ptr I off
 |ap I sz i j=>
  simp only[SV.pub];split
  ·exact .undef _
  ·rw[<-hβ];exact .ap I sz i j
 |psl I sz off n cap y F J hn H W=>
  simp only[SV.pub];split
  ·rename_i ho
   subst ho;cases obj with
   |rc cs=>exact .undef _
   |arr L xs=>
    simp only[v6];split
    ·rename_i hc
     obtain⟨rfl,hb⟩:=hc;have O:=iP.1 a4;have h1:=leP.psl (o:=I) (cap:=cap) hb O x x' _ hβ hτ hG (fun k hk=>E k hk) (.psl I L off n cap y F J hn H W);split
     ·rename_i z
      have U:=H _ z;obtain⟨b,cq,he,_,hD,_⟩:=h1.lst_inv;exact .dat _ _ (hD.tok (.lst L ((xs.drop off).take n) .clip) (.inr ⟨L,_,_,_,rfl,rfl⟩)) ⟨_,n,by rw[<-U]⟩
     ·exact h1
    ·exact .undef _
   |bar l=>
    simp only[v6];split
    ·rename_i hc
     obtain⟨rfl,hb⟩:=hc;have Z:((l.drop off).take n).length=n:=by simp;omega
     have hD:∀t,cE x'.G (.byt ((l.drop off).take n) t) (.slice (some ⟨(x.bk I).1,y,none⟩) n F):=by
      intro t;refine .byt _ t _ _ _ _ Z.symm hn fun i hi=> ?_
      have Q:y=off:=by omega
      obtain⟨u,hu,hr⟩:=E (off+i) (by simp only[aC.size];omega);rw[Q,hu];simp only[aC.cell]at hr
      have e:((l.drop off).take n).getD i 0=l.getD (off+i) 0:=by simp only[aa,bE,if_pos hi,bx]
      rw[e];cases hr with
      |u8 b=>rfl
     split
     ·rename_i z
      have U:=H _ z;exact .dat _ _ (hD .clip) ⟨_,n,by rw[<-U]⟩
     ·exact .dat _ _ (hD .no) trivial
    ·exact .undef _
  ·rw[<-hβ]at W ⊢;exact .psl I sz off n cap y F J hn H W
 |agg cs vs hl _ ih=>simp only[SV.pub,lI];exact .agg _ _ (by simpa using hl) fun i hi=>by rw[aU _ (by rfl)];exact ih i (by simpa using hi)
 |tup cs vs hl _ ih=>simp only[SV.pub,lI];exact .tup _ _ (by simpa using hl) fun i hi=>by rw[aU _ (by rfl)];exact ih i (by simpa using hi)
 |fn f c1 c2 v1 v2 a0 _ a3 _ a1 a2=>simp only[SV.pub,lI];exact .fn _ _ _ _ _ (by simpa using a0) (fun i hi=>by rw[aU _ (by rfl)];exact a1 i (by simpa using hi)) (by simpa using a3) (fun i hi=>by rw[aU _ (by rfl)];exact a2 i (by simpa using hi))
theorem kd{o:Nat}{obj:aC}{p:Nat×aC}:∀{l:List (Nat×aC)},p∈kQ o obj l->p.1≠o/\∃q,(p.1,q)∈l/\p.2=np o obj q
 |q::r,h=>by
  simp only[kQ]at h;split at h
  ·obtain⟨y,u,E,z⟩:=kd h
   exact⟨y,u,an _ E,z⟩
  ·rename_i F
   rcases am.1 h with e|e
   ·rw[e];exact⟨F,q.2,aw ..,rfl⟩
   ·obtain⟨y,u,E,z⟩:=kd e
    exact⟨y,u,an _ E,z⟩
theorem pA{o:Nat}{obj:aC}:∀l:List (Nat×aC),(kQ o obj l).map cI=(l.map cI).filter fun k=>decide (k≠o)
 |[]=>rfl
 |p::r=>by
  simp only[kQ,aG,kI]
  by_cases h:p.1=o
  ·rw[if_pos h,pA r];simp[h]
  ·rw[if_neg h,aG,pA r];simp[h]
theorem pk{o:Nat}{obj:aC}{p:Nat×SV}:∀{l:List (Nat×SV)},p∈lx o obj l->∃q∈l,p.1=q.1
 |q::r,h=>by
  simp only[lx]at h;rcases am.1 h with e|e
  ·exact⟨q,aw ..,by rw[e]⟩
  ·obtain⟨u,y,z⟩:=pk e
   exact⟨u,an _ y,z⟩
theorem kf{o:Nat}{obj:aC}(n:Nat):∀l:List (Nat×SV),ei (lx o obj l) n=(ei l n).pub o obj
 |[]=>rfl
 |p::r=>by
  simp only[lx,ei];split
  ·rfl
  ·exact kf n r
theorem Zz{o:Nat}{obj q:aC}(h:q.wf=true):(np o obj q).wf=true:=by cases q<;>simpa[np,aC.wf]using h
theorem ov{o:Nat}{y obj:aC}(hl:c.look o=some y)(c3:∀cs,obj≠ .rc cs)(a6:∀cs,y≠ .rc cs)(c4:obj.size<=y.size)(b8:∀k,k<obj.size->obj.cell k=y.cell k)(b4:obj.wf=true)(hM:aM C x s a w)(H:Sim N c s):
 ∃x',(x'.bk=x.bk/\x'.τ=x.τ/\(∀b i u,x.G b i=some u->x'.G b i=some u)/\(∀i,obj.size<=i->x'.G ((x.bk o).1) i=none)/\(∀k,k<obj.size->∃u,x'.G ((x.bk o).1) k=some u/\cE x'.G (obj.cell k) u))/\(∀sv v,Rep x sv v->Rep x' (sv.pub o obj) v)/\∃s',aM C x' s' a w/\Sim N ⟨lx o obj c.tm,kQ o obj c.ob,c.tk⟩ s'/\(∀p∈s'.ob,(x.bk o).1≠(x'.bk p.1).1):=by
 have U:s.look o=some y:=(H.look o).trans hl;obtain⟨cc,e,fl,fh,hO,c6,hr⟩:=eo hM U;have a1:=hM.heap.obs _ (cO U)
 let x':Sit:= {x with G:=fun b i=>if b=(x.bk o).1/\i<obj.size then some (cc.getD i undef)else x.G b i}
 have hG:∀b i u,x.G b i=some u->x'.G b i=some u:=by intro b i u hu;show(if _ then _ else _)=_;rw[if_neg];exact hu;rintro⟨rfl,_⟩;have h0:=a1.2.2 i;simp only at h0;rw[h0]at hu;cases hu
 have L:∀k,k<obj.size->∃u,x'.G ((x.bk o).1) k=some u/\cE x'.G (obj.cell k) u:=by
  intro k hk;refine⟨cc.getD k undef,if_pos ⟨rfl,hk⟩,cE.mono hG ?_⟩;have:=hr k (by omega);rw[b8 k hk];cases y with
  |rc cs=>exact absurd rfl (a6 cs)
  |arr sz xs=>exact this
  |bar l=>exact this
 have J:∀sv v,Rep x sv v->Rep x' (sv.pub o obj) v:=fun sv v h=>Rep.pub (x:=x) (x':=x') rfl rfl hG L b4 h
 have z:=hM.heap
 have W:Inv N ⟨lx o obj c.tm,kQ o obj c.ob,c.tk⟩:=by
  refine⟨fun p F=> ?_, ?_,fun p F=> ?_⟩
  ·obtain⟨q,hq,e⟩:=pk F;rw[e];exact H.inv.dom q hq
  ·show((kQ o obj c.ob).map cI).Pairwise _
   rw[pA];exact H.inv.so.filter _
  ·obtain⟨_,q,O,h3⟩:=kd F;rw[h3];exact Zz (H.inv.wf _ O)
 have E:∀p∈kQ o obj c.ob,p.1≠o/\∃q,(p.1,q)∈s.ob/\p.2=np o obj q:=by intro p F;obtain⟨Q,q,O,h3⟩:=kd F;have h4:=iT (iQ H.inv.so) O;exact⟨Q,q,cO ((H.look p.1).trans h4),h3⟩
 have a3:∀p∈kQ o obj c.ob,(x.bk p.1).1≠(x.bk o).1:=fun p F e=>by obtain⟨Q,q,O,_⟩:=E p F;exact Q (z.inj (p.1,q) O _ (cO U) e)
 refine⟨x',⟨rfl,rfl,hG,fun i hi=> ?_,L⟩,J,_,⟨⟨?_,fun i hi=> ?_⟩,hM.defers, ?_⟩,Sim.of W,fun p F=>(a3 p F).symm⟩
 ·show(if _ then _ else _)=_
  rw[if_neg (by rintro⟨_,h⟩;omega)];exact a1.2.2 i
 ·have:=hM.tm.1;rw[H.tm]at this;simpa[CSt.st]using this
 ·have a5:i<N:=by simpa[CSt.st]using hi
  have Q:=hM.tm.2 i (by rw[H.tm];simpa using a5);rw[H.tm]at Q;simp only[CSt.st,aa,aR,cL a5,bo,bj]at Q ⊢;have:(CSt.mk (lx o obj c.tm) (kQ o obj c.ob) c.tk).get i=(c.get i).pub o obj:=kf i c.tm;rw[this];exact J _ _ Q
 ·refine⟨
   ?_,fun b i v I=>hG _ _ _ (z.g0 b i v I), ?_,z.new, ?_,iQ W.so, ?_, ?_,fun n hn p F=> ?_,fun n hn m hm=>z.tkd n ((H.tk n).2 hn) m ((H.tk m).2 hm),z.os,z.tape,z.output,z.size,z.ext,z.pin,z.lay⟩
  ·intro b i v I
   replace I:(if b=(x.bk o).1/\i<obj.size then some (cc.getD i undef)else x.G b i)=some v:=I;split at I
   ·rename_i a0
    obtain⟨rfl,hi⟩:=a0;cases I;rw[hO.cell,bg,gF (by omega)];rfl
   ·exact z.per b i v I
  ·intro b i v I
   replace I:(if b=(x.bk o).1/\i<obj.size then some (cc.getD i undef)else x.G b i)=some v:=I;split at I
   ·rename_i a0
    exact .inr (a0.1 ▸ a1.2.1)
   ·exact z.gm b i v I
  ·intro p F
   obtain⟨Q,q,O,h3⟩:=E p F;obtain⟨g1,g2,g3⟩:=z.obs _ O;refine⟨?_,g2,fun off=> ?_⟩
   ·obtain⟨c',e',a9,b3,b7,a2,Z⟩:=g1
    rw[h3];refine⟨c',e',a9,b3,b7, ?_,fun k hk=> ?_⟩
    ·cases q<;>first|exact a2|exact⟨by simpa[np,aC.size,lI]using a2.1,a2.2.1,fun h=>by cases h⟩
    ·cases q with
     |rc cs=>
      have b5:k<cs.length:=by simpa[np,aC.size,lI]using hk
      have:=Z k b5;simp only[np,cj,lI]at this ⊢;rw[aU _ (by rfl)];exact J _ _ this
     |arr sz xs=>exact cE.mono hG (Z k hk)
     |bar l=>exact cE.mono hG (Z k hk)
   ·show(if _ then _ else _)=_
    rw[if_neg (fun h=>a3 p F h.1)];exact g3 off
  ·intro p F q hq a8
   obtain⟨_,p',b2,_⟩:=E p F;obtain⟨_,q',a7,_⟩:=E q hq;exact z.inj (p.1,p') b2 (q.1,q') a7 a8
  ·intro n b6
   have hn:=(H.tk n).2 b6;rcases z.tks n hn with h|⟨Q,O,h3⟩
   ·exact .inl h
   ·by_cases a4:(x.τ n).2.1=(x.τ n).2.2
    ·exact .inl a4
    ·refine .inr ⟨Q,O,fun off h4 h5=> ?_⟩
     show(if _ then _ else _)=_;rw[if_neg (fun h=>(z.tko n hn _ (cO U)).elim (fun hb=>hb h.1) a4)];exact h3 off h4 h5
  ·obtain⟨_,q,O,_⟩:=E p F
   exact z.tko n ((H.tk n).2 hn) (p.1,q) O
theorem ow{o:Nat}{obj:aC}(F:c.look o=some obj)(h:∀cs,obj≠ .rc cs)(hM:aM C x s a w)(z:Sim N c s):
 ∃x',(x'.bk=x.bk/\x'.τ=x.τ)/\(∀sv v,Rep x sv v->Rep x' (sv.pub o obj) v)/\∃y,aM C x' y a w/\Sim N ⟨lx o obj c.tm,kQ o obj c.ob,c.tk⟩ y:=by
 obtain⟨x',E,I,y,H,J,_⟩:=ov F h h (aN _) (fun _ _=>rfl) (z.lookmem F) hM z;exact⟨x',⟨E.1,E.2.1⟩,I,y,H,J⟩
theorem CO{o:Nat}{obj:aC}(F:c.look o=some obj)(y:∀cs,obj≠ .rc cs)(hM:aM C x s a w)(E:Sim N c s):
 ∃x',(∀sv v,Rep x sv v->Rep x' (sv.pub o obj) v)/\∃z,aM C x' z a w/\Sim N ⟨lx o obj c.tm,kQ o obj c.ob,c.tk⟩ z:=by
 obtain⟨x',_,h⟩:=ow F y hM E;exact⟨x',h⟩
theorem kP{vs:t7}{us:LAa}{o:Nat}(hM:aM C x s a w)(F:Sim N c s)(E:cy x vs us):
 ∃x' h,aM C x' h a w/\Sim N (c.publish o vs).1 h/\cy x' (c.publish o vs).2 us:=by
 unfold CSt.publish
 have H:∀{obj:aC},c.look o=some obj->(∀cs,obj≠ .rc cs)->∃x' h,aM C x' h a w/\Sim N ⟨lx o obj c.tm,kQ o obj c.ob,c.tk⟩ h/\cy x' (SV.pubL o obj vs) us:=by intro obj y z;obtain⟨x',J,h,I,L⟩:=CO y z hM F;refine⟨x',h,I,L, ?_⟩;rw[lI];refine⟨by simpa using E.1,fun i hi=> ?_⟩;rw[aU _ (by rfl)];exact J _ _ (E.2 i (by simpa using hi))
 split
 ·rename_i Q O y;exact H y (fun cs e=>by cases e)
 ·rename_i l y;exact H y (fun cs e=>by cases e)
 ·exact⟨x,s,hM,F,E⟩
theorem i0{us:LAa}:∀{l:t8}{c:CSt}{s:St}{x:Sit}{vs:t7},aM C x s a w->Sim N c s->cy x vs us->
 ∃x' h,aM C x' h a w/\Sim N (eF c vs l).1 h/\cy x' (eF c vs l).2 us
 |[],_,_,_,_,hM,hS,hv=>⟨_,_,hM,hS,hv⟩
 |o::r,c,s,x,vs,hM,hS,hv=>by obtain⟨x1,F,y,E,z⟩:=kP (o:=o) hM hS hv;simp only[eF];exact i0 y E z
theorem M.pub(h:M C N c a w)(o:Nat):M C N (c.publish o []).1 a w:=by obtain⟨x,s,hM,y⟩:=h;obtain⟨x',E,z,F,_⟩:=kP (o:=o) (vs:=[]) (us:=[]) hM y ⟨rfl,fun i hi=>by simp at hi⟩;exact⟨x',E,z,F⟩
theorem OE(hM:aM C x s a w)(L:Sim N c s)(id b lo hi:Nat)(Q:lo=hi\/((∃c e fl fh,eQ w b c e fl fh/\hi<=c.size)/\C.mine b/\∀o,lo<=o->o<hi->x.G b o=none))
 (I:∀p∈s.ob,b≠(x.bk p.1).1) (J:∀u∈s.tk,kZ (b,lo,hi) (x.τ u)\/(x.τ u).2.1=(x.τ u).2.2) {n:Nat} (hn:n<N) {v:SV}
 (F:Rep (x.newT id b lo hi) v (a.tmps.toList.getD n undef)):
 M C N ⟨jd (cR id (id+1) c.tm) n v,bm id (id+1) c.ob,j8 (bN id (id+1) c.tk) id⟩ a w:=by
 have E:cW C (x.newT id b lo hi) (bm id (id+1) s.ob) (id::bN id (id+1) s.tk) w:=
  hM.heap.addT id b lo hi Q (.inr fun p O _=>I p O) (.inr fun u hu _=>J u hu)
 have y:aM C (x.newT id b lo hi) ⟨SV.purgeL id (id+1) s.tm,bm id (id+1) s.ob,id::bN id (id+1) s.tk⟩ a w:=
  ⟨cy.mono (x:=x) (x':=x.newT id b lo hi) (lo:=id) (hi:=id+1) (fun _ _ _ h=>h) (fun _ _=>rfl) (Sit.newT_ne x id _ _ _) hM.tm,hM.defers,E⟩
 have H:Sim N ⟨cR id (id+1) c.tm,bm id (id+1) c.ob,j8 (bN id (id+1) c.tk) id⟩ ⟨SV.purgeL id (id+1) s.tm,bm id (id+1) s.ob,id::bN id (id+1) s.tk⟩:=
  (L.purge id (id+1)).tks (fun u=>by rw[iS,am,bC,bC,L.tk])
 refine⟨x.newT id b lo hi,_, ?_,H.put (d:=some n) (fun k e=>by cases e;exact hn) v⟩;refine⟨⟨?_,fun i hi=> ?_⟩,y.defers,y.heap⟩
 ·have:=y.tm.1;simpa[St.put]using this
 ·simp only[St.put,dh]at hi
  simp only[St.put,aa,eS]
  by_cases z:n=i
  ·subst z
   rw[if_pos rfl,if_pos hi];rw[<-aa];exact F
  ·rw[if_neg z]
   have:=y.tm.2 i hi;simp only[aa]at this;exact this
theorem vq(h:M C N c a w){n id o Q off k cp:Nat}(hg:c.get n= .psl o Q off k (some cp))(Z:OG c n id o Q off k cp (c.look o)=some c')(hn:n<N):M C N c' a w:=by
 cases hl:c.look o with
 |none=>rw[hl]at Z;cases Z;exact h
 |some H=>
  rw[hl]at Z
  have a1:∀(obj:aC)(v:SV),(∀cs,obj≠ .rc cs)->(∀cs,H≠ .rc cs)->obj.size=(off+k)*Q->(off+cp)*Q<=H.size->k<=cp->(∀k,k<obj.size->obj.cell k=H.cell k)->obj.wf=true->
   (∀(x':Sit)(z:Nat),(cp=0\/z=off*Q)->(∀k,k<obj.size->∃u,x'.G ((x'.bk o).1) k=some u/\cE x'.G (obj.cell k) u)->cE x'.G v (.slice (some ⟨(x'.bk o).1,z,none⟩) k cp))->
   (∀x v',Nk x v v'=de x Q (.id id) v')->
   M C N (DL c n id o obj v) a w:=by
   intro obj v b8 b2 d5 c3 hk a0 c4 hD a5;obtain⟨x,s,hM,hS⟩:=h;have a8:obj.size<=H.size:=by rw[d5];exact pK (bz _ (by omega)) c3
   obtain⟨x',⟨hβ,hτ,hG,a3,F⟩,d7,s',d6,b3,b7⟩:=ov hl b8 b2 a8 a0 c4 hM hS;have a2:s.look o=some H:=(hS.look o).trans hl;obtain⟨cc,e,fl,fh,hO,d9,_⟩:=eo hM a2;have b4:=hM.heap.obs _ (cO a2);have W:=hM.slot n;rw[hS.get,hg]at W;obtain⟨e3,e0,b5,z,he,I⟩:=W.psl_inv;obtain rfl:=b5 _ rfl
   have a4:a.tmps.toList.getD n undef= .slice (some ⟨(x.bk o).1,z,none⟩) k cp:=by rw[<-he];simp[bg,aa]
   refine OE d6 b3 id ((x.bk o).1) ((off+k)*Q) ((off+cp)*Q) (.inr ⟨⟨cc,e,fl,fh,hO,by omega⟩,b4.2.1,fun i h1 h2=>a3 i (by omega)⟩) (fun p hp=>b7 p hp) (fun u hu=> ?_) hn ?_
   ·have c6:=(b3.tk u).1 hu
    have b6:=(hS.tk u).2 c6;rw[hτ];exact(hM.heap.tko u b6 _ (cO a2)).imp (fun h e=>h e.symm) (fun h=>h)
   ·rw[a4]
    have h1:=hD (x'.newT id ((x.bk o).1) ((off+k)*Q) ((off+cp)*Q)) z I (by show ∀k,k<obj.size->∃u,x'.G ((x'.bk o).1) k=some u/\cE x'.G (obj.cell k) u;rw[hβ];exact F)
    have e1:(x'.newT id ((x.bk o).1) ((off+k)*Q) ((off+cp)*Q)).bk o=x.bk o:=by show x'.bk o=_;rw[hβ]
    rw[e1]at h1;refine .dat _ _ h1 ?_;rw[a5];refine⟨_,k,cp,rfl, ?_⟩
    by_cases d3:cp=0
    ·exact .inl (by omega)
    ·refine .inr ⟨_,z,rfl, ?_⟩
     rw[Sit.newT_eq,I.resolve_left d3,bA,bA]
  cases H with
  |rc cs=>cases Z;exact h
  |bar l=>
   simp only[OG]at Z;split at Z<;>cases Z
   ·rename_i J
    obtain⟨rfl,h2,h3⟩:=J;refine a1 (.bar (l.take (off+k))) (.byt ((l.drop off).take k) (.id id)) (fun cs e=>by cases e) (fun cs e=>by cases e) (by simp only[aC.size,aA];omega) (by simp only[aC.size];omega) h3 (fun i hi=> ?_) rfl (fun x' z I F=> ?_) (fun _ _=>rfl)
    ·simp only[aC.size,aA]at hi
     simp only[aC.cell,aa,bE,if_pos (show i<off+k by omega)]
    ·have U:((l.drop off).take k).length=k:=by simp;omega
     refine .byt _ _ _ _ _ _ U.symm h3 fun i hi=> ?_
     have L:z=off:=by omega
     obtain⟨u,hu,hr⟩:=F (off+i) (by simp only[aC.size,aA];omega);rw[L,hu];simp only[aC.cell]at hr
     have e1:((l.drop off).take k).getD i 0=(l.take (off+k)).getD (off+i) 0:=by simp only[aa,bE,if_pos hi,bx,if_pos (show off+i<off+k by omega)]
     rw[e1];cases hr with
     |u8 b=>rfl
   ·exact h
  |arr E O=>
   simp only[OG]at Z;split at Z<;>cases Z
   ·rename_i J
    obtain⟨rfl,h2,h3⟩:=J;have a7:∀y∈O,y.length=E:=by obtain⟨x,s,hM,hS⟩:=h;exact iP.1 (hS.lookmem hl)
    have a6:∀y∈O.take (off+k),y.length=E:=fun y hy=>a7 y (cm hy)
    have d8:(O.drop off).take k=(O.take (off+k)).drop off:=by rw[List.drop_take,Nat.add_sub_cancel_left]
    refine a1 (.arr E (O.take (off+k))) (.lst E ((O.drop off).take k) (.id id)) (fun cs e=>by cases e) (fun cs e=>by cases e) (by simp only[aC.size,aA];congr 1;omega) (by simp only[aC.size];exact bz _ h2) h3 (fun i hi=> ?_) (iP.2 a6) (fun x' z I F=> ?_) (fun _ _=>rfl)
    ·simp only[aC.size,aA]at hi
     simp only[aC.cell,aa,bE];have hd:i/E<off+k:=Nat.div_lt_of_lt_mul (by rw[cD];exact Nat.lt_of_lt_of_le hi (bz _ (Nat.min_le_left _ _)));rw[if_pos hd]
    ·have U:((O.drop off).take k).length=k:=by simp;omega
     have a9:∀i,i<k->((O.drop off).take k).getD i []=(O.take (off+k)).getD (off+i) []:=fun i hi=>by simp only[aa,bE,if_pos hi,bx,if_pos (show off+i<off+k by omega)]
     have c7:∀i,i<k->((O.drop off).take k).getD i []∈O.take (off+k):=fun i hi=>by rw[a9 i hi,aa,ab (show off+i<(O.take (off+k)).length by rw[aA];omega)];exact bn _
     have a0:∀i j,i<k->j<E->∃u,x'.G ((x'.bk o).1) (z+i*E+j)=some u/\cE x'.G ((((O.drop off).take k).getD i []).getD j .undef) u:=by
      intro i j hi hj;have L:z=off*E:=I.resolve_left (by omega)
      have d4:(off+i)*E+j<(off+k)*E:=by have:=bz E (show off+i+1<=off+k by omega);rw[bA,Nat.one_mul]at this;omega
      obtain⟨u,hu,hr⟩:=F ((off+i)*E+j) (by simp only[aC.size,aA];rw[gI (by omega)];exact d4);refine⟨u,by rw[L,<-bA];exact hu, ?_⟩;simp only[aC.cell]at hr;have e1:((off+i)*E+j)/E=off+i:=by rw[cD,Nat.mul_add_div (by omega),Nat.div_eq_of_lt hj,dU]
      have e2:((off+i)*E+j) % E=j:=by rw[cD,Nat.mul_add_mod,dm hj]
      rw[e1,e2]at hr;rw[a9 i hi];exact hr
     refine .lst _ _ _ _ _ _ _ (fun i j=>(x'.G ((x'.bk o).1) (z+i*E+j)).getD undef) U.symm h3 (fun i hi=>a6 _ (c7 i hi)) (fun i j hi hj=> ?_) (fun i j hi hj=> ?_)
     ·obtain⟨u,hu,_⟩:=a0 i j hi hj
      rw[hu];rfl
     ·obtain⟨u,hu,hr⟩:=a0 i j hi hj
      rw[hu];exact hr
   ·exact h
theorem kl(hM:aM C x s a w)(z:Sim N c s)(id:Nat)(t:t9)(W:∀k,t=some k->k∈c.tk){n:Nat}(hn:n<N){v:SV}
 (hv:∀u,Rep x (c.get n) u->Rep (x.newT id ((t.elim (0,0,0) x.τ)).1 ((t.elim (0,0,0) x.τ)).2.1 ((t.elim (0,0,0) x.τ)).2.2) v u):
 M C N ⟨jd (cR id (id+1) c.tm) n v,bm id (id+1) c.ob,j8 (bN id (id+1) (t.elim c.tk fun k=>bN k (k+1) c.tk)) id⟩ a w:=by
 generalize hT:t.elim (0,0,0) x.τ=T at hv;generalize hL:(t.elim c.tk fun k=>bN k (k+1) c.tk)=L;have J:=hM.heap
 have H:∀u∈L,u∈s.tk/\∀k,t=some k->u≠k:=by
  intro u hu;rw[<-hL]at hu;cases t with
  |none=>exact⟨(z.tk u).2 hu,fun k e=>by cases e⟩
  |some k=>obtain⟨O,Z⟩:=bC.1 hu;exact⟨(z.tk u).2 O,fun k' e=>by cases e;omega⟩
 have F:cW C (x.newT id T.1 T.2.1 T.2.2) (bm id (id+1) s.ob) (id::bN id (id+1) L) w:=by
  refine(J.sub (tk':=L) (jK.refl _) (fun u hu=>(H u hu).1)).addT id T.1 T.2.1 T.2.2 ?_ ?_ ?_
  ·cases t with
   |none=>subst hT;exact .inl rfl
   |some k=>have:=J.tks k ((z.tk k).2 (W k rfl));unfold gH at this;subst hT;exact this
  ·cases t with
   |none=>subst hT;exact .inl rfl
   |some k=>
    by_cases E:(x.τ k).2.1=(x.τ k).2.2
    ·subst hT;exact .inl E
    ·subst hT
     exact .inr fun p hp _=>(J.tko k ((z.tk k).2 (W k rfl)) p hp).resolve_right E
  ·cases t with
   |none=>subst hT;exact .inl rfl
   |some k=>
    by_cases E:(x.τ k).2.1=(x.τ k).2.2
    ·subst hT;exact .inl E
    ·subst hT
     refine .inr fun u hu _=> ?_
     obtain⟨O,Z⟩:=H u hu;rcases J.tkd k ((z.tk k).2 (W k rfl)) u O (fun e=>Z k rfl e.symm)with h|h|h
     ·exact .inl h
     ·exact absurd h E
     ·exact .inr h
 have y:aM C (x.newT id T.1 T.2.1 T.2.2) ⟨SV.purgeL id (id+1) s.tm,bm id (id+1) s.ob,id::bN id (id+1) L⟩ a w:=
  ⟨cy.mono (x:=x) (x':=x.newT id T.1 T.2.1 T.2.2) (lo:=id) (hi:=id+1) (fun _ _ _ h=>h) (fun _ _=>rfl) (Sit.newT_ne x id _ _ _) hM.tm,hM.defers,F⟩
 have U:Sim N ⟨cR id (id+1) c.tm,bm id (id+1) c.ob,j8 (bN id (id+1) L) id⟩ ⟨SV.purgeL id (id+1) s.tm,bm id (id+1) s.ob,id::bN id (id+1) L⟩:=
  (z.purge id (id+1)).tks (fun u=>by rw[iS,am])
 refine⟨x.newT id T.1 T.2.1 T.2.2,_, ?_,U.put (d:=some n) (fun k e=>by cases e;exact hn) v⟩;have Q:n<s.tm.length:=by rw[z.tm];simpa using hn
 refine⟨⟨?_,fun i hi=> ?_⟩,y.defers,y.heap⟩
 ·have:=y.tm.1;simpa[St.put]using this
 ·simp only[St.put,dh]at hi
  simp only[St.put,aa,eS]
  by_cases I:n=i
  ·subst I
   rw[if_pos rfl,if_pos hi];refine hv _ ?_;have:=hM.tm.2 n Q;have e:s.tm.getD n .undef=c.get n:=z.get n;rw[e]at this;rw[<-aa];exact this
  ·rw[if_neg I,<-aa,<-aa]
   exact y.tm.2 i hi
theorem vr(h:M C N c a w){n id:Nat}(y:OH c n id (c.get n)=some c'):M C N c' a w:=by
 have H:c.get n≠ .undef->n<N:=by
  obtain⟨x,s,hM,E⟩:=h;intro a0;rcases bL n N with J|J
  ·exact J
  ·exact absurd (E.inv.get J) a0
 cases hg:c.get n with
 |byt l t=>
  rw[hg]at y;have hN:=H (by rw[hg];exact fun e=>by cases e);cases t with
  |no=>cases y;exact h
  |clip=>
   cases y;obtain⟨x,s,hM,E⟩:=h;refine kl hM E id none (fun k e=>by cases e) hN fun u hu=> ?_
   rw[hg]at hu;exact leT.byt id l x u hu
  |id t=>
   simp only[OH]at y;split at y
   ·cases y;exact h
   ·split at y<;>cases y
    rename_i J h2;obtain⟨x,s,hM,E⟩:=h;refine kl hM E id (some t) (fun k e=>by cases e;simpa using h2) hN fun u hu=> ?_
    rw[hg]at hu;obtain⟨b,cap,he,_,W,F⟩:=hu.byt_inv;refine .dat _ _ (W.tok (.byt l (.id id)) (.inl ⟨l,_,_,rfl,rfl⟩)) ?_;obtain⟨U,O,z,I,Q⟩:=F;refine⟨U,O,z,I,Q.imp (fun h=>h) ?_⟩;rintro⟨b,off,Z,h4⟩;exact⟨b,off,Z,by rw[Sit.newT_eq];exact h4⟩
 |lst L xs t=>
  rw[hg]at y;have hN:=H (by rw[hg];exact fun e=>by cases e);cases t with
  |no=>cases y;exact h
  |clip=>
   cases y;obtain⟨x,s,hM,E⟩:=h;refine kl hM E id none (fun k e=>by cases e) hN fun u hu=> ?_
   rw[hg]at hu;exact leT.lst id L xs x u hu
  |id t=>
   simp only[OH]at y;split at y
   ·cases y;exact h
   ·split at y<;>cases y
    rename_i J h2;obtain⟨x,s,hM,E⟩:=h;refine kl hM E id (some t) (fun k e=>by cases e;simpa using h2) hN fun u hu=> ?_
    rw[hg]at hu;obtain⟨b,cap,he,_,W,F⟩:=hu.lst_inv;refine .dat _ _ (W.tok (.lst L xs (.id id)) (.inr ⟨L,xs,_,_,rfl,rfl⟩)) ?_;obtain⟨U,O,z,I,Q⟩:=F;refine⟨U,O,z,I,Q.imp (fun h=>h) ?_⟩;rintro⟨b,off,Z,h4⟩;exact⟨b,off,Z,by rw[Sit.newT_eq];exact h4⟩
 |psl o L off k cp=>
  rw[hg]at y;have hN:=H (by rw[hg];exact fun e=>by cases e);cases cp with
  |none=>cases y;exact h
  |some cp=>exact vq h hg y hN
 |_=>rw[hg]at y;cases y;exact h
theorem aM.retag(hM:aM C x s a w)(n:Nat){v:SV}(h:Rep x v (a.tmps.toList.getD n undef)):aM C x (s.put (some n) v) a w:=by
 refine⟨⟨?_,fun i hi=> ?_⟩,hM.defers,hM.heap⟩
 ·have:=hM.tm.1;simpa[St.put]using this
 ·simp only[St.put,dh]at hi
  simp only[St.put,aa,eS]
  by_cases y:n=i
  ·subst y
   rw[if_pos rfl,if_pos hi];rw[<-aa];exact h
  ·rw[if_neg y]
   have:=hM.tm.2 i hi;simp only[aa]at this;exact this
theorem cW.move{ob:List (Nat×aC)}{tk:t8}(h:cW C x ob tk w){o d:Nat}(a2:100<=d){obj:aC}(Z:(o,obj)∈ob)(a1:∀cs,obj≠ .rc cs):
 cW C (x.newO d (x.bk o).1 (x.bk o).2) ((d,obj)::bm d (d+1) (bm o (o+1) ob)) (bN d (d+1) (bN o (o+1) tk)) w:=by
 have hβ:=Sit.newO_ne x d (x.bk o).1 (k:=(x.bk o).2);obtain⟨⟨c,e,fl,fh,hO,hs,hr⟩,hm,hg⟩:=h.obs _ Z;have y:(x.newO d (x.bk o).1 (x.bk o).2).bk d=x.bk o:=if_pos rfl
 have E:∀p∈bm d (d+1) (bm o (o+1) ob),(x.newO d (x.bk o).1 (x.bk o).2).bk p.1=x.bk p.1/\∃q,(p.1,q)∈ob/\p.1≠o/\¬(d<=p.1/\p.1<d+1)/\p.2=(q.purge o (o+1)).purge d (d+1):=by intro p z;obtain⟨H,q,L,h3⟩:=co z;obtain⟨h4,Q,h5,h6⟩:=co L;simp only at h4 h5 h6;exact⟨hβ _ H,Q,h5,by omega,H,by rw[h3,h6]⟩
 have I:∀t∈bN d (d+1) (bN o (o+1) tk),t∈tk:=fun t O=>(bC.1 (bC.1 O).1).1
 refine⟨h.per,h.g0,h.gm,h.new, ?_, ?_, ?_,fun t O=>h.tks t (I t O), ?_,fun t O u hu=>h.tkd t (I t O) u (I u hu),h.os,h.tape,h.output,h.size,h.ext,fun i hi=>by rw[hβ i (by omega)];exact h.pin i hi,h.lay⟩
 ·intro p z
  rcases am.1 z with rfl|z
  ·refine⟨⟨c,e,fl,fh,by rw[y];exact hO,by rw[y];exact hs,fun k hk=> ?_⟩,by rw[y];exact hm,fun off=>by rw[y];exact hg off⟩
   have:=hr k hk;cases obj with
   |rc cs=>exact absurd rfl (a1 cs)
   |arr sz xs=>exact this
   |bar l=>exact this
  ·obtain⟨J,q,H,L,h3,h4⟩:=E p z
   obtain⟨h5,h6,h7⟩:=h.obs _ H;refine⟨?_,by rw[J];exact h6,fun off=>by rw[J];exact h7 off⟩;have e1:=h5.of_heap (x':=x) (w':=w) (lo:=o) (hi:=o+1) rfl (fun _ _ _ h=>h) (fun _ _=>rfl) (fun _ _=>rfl) (by omega);have e2:=e1.of_heap (x':=x.newO d (x.bk o).1 (x.bk o).2) (w':=w) (lo:=d) (hi:=d+1) rfl (fun _ _ _ h=>h) hβ (fun _ _=>rfl) h3;rw[h4];exact e2
 ·rw[aG,dV,eD,eD]
  refine⟨fun U=> ?_,(h.nd.filter _).filter _⟩;have:=(List.mem_filter.1 U).2;simp at this
 ·intro p z q W F
  rcases am.1 z with rfl|z<;>rcases am.1 W with rfl|W
  ·rfl
  ·obtain⟨J,Q,H,L,_⟩:=E q W
   rw[y,J]at F;exact absurd (h.inj (o,obj) Z (q.1,Q) H F).symm L
  ·obtain⟨J,Q,H,L,_⟩:=E p z
   rw[y,J]at F;exact absurd (h.inj (p.1,Q) H (o,obj) Z F) L
  ·obtain⟨J,q1,H,_⟩:=E p z
   obtain⟨a0,q2,L,_⟩:=E q W;rw[J,a0]at F;exact h.inj (p.1,q1) H (q.1,q2) L F
 ·intro t O p z
  rcases am.1 z with rfl|z
  ·show(x.τ t).1≠((x.newO d (x.bk o).1 (x.bk o).2).bk d).1\/_
   rw[y];exact h.tko t (I t O) (o,obj) Z
  ·obtain⟨J,q,H,_⟩:=E p z
   show(x.τ t).1≠((x.newO d (x.bk o).1 (x.bk o).2).bk p.1).1\/_;rw[J];exact h.tko t (I t O) (p.1,q) H
theorem aM.move(hM:aM C x s a w){o d:Nat}(y:100<=d){obj:aC}(E:s.look o=some obj)(z:∀cs,obj≠ .rc cs):
 aM C (x.newO d (x.bk o).1 (x.bk o).2) (((s.purge o (o+1)).purge d (d+1)).addO d obj) a w:=
 ⟨cy.mono (x:=x) (x':=x.newO d (x.bk o).1 (x.bk o).2) (lo:=d) (hi:=d+1) (fun _ _ _ h=>h) (Sit.newO_ne x d _) (fun _ _=>rfl) (hM.purge o (o+1)).tm,hM.defers,hM.heap.move y (cO E) z⟩
theorem uA{n id o y off k:Nat}{cap:t9}{obj:aC}(hM:aM C x s a w)(h:Sim N c s)(hn:n<N)(H:100<=id)(U:c.get n= .psl o y off k cap)(O:c.look o=some obj)(L:∀cs,obj≠ .rc cs):
 M C N (mvC c n id o y off k cap obj) a w:=by
 have I:=hM.move H (by rw[h.look];exact O) L;have J:=(((h.purge o (o+1)).purge id (id+1)).addO id (h.lookmem O)).put (d:=some n) (fun k e=>by cases e;exact hn) (.psl id y off k cap);refine⟨x.newO id (x.bk o).1 (x.bk o).2,_, ?_,J⟩
 have hv:Rep x (.psl o y off k cap) (a.tmps.toList.getD n undef):=by have:=hM.tm.2 n (by rw[h.tm];simpa using hn);rw[show s.tm.getD n .undef=c.get n from h.get n,U]at this;exact this
 obtain⟨E,Q,h2,z,he,Z,W⟩:=hv.psl_invA;refine I.retag n ?_;rw[he];have F:(x.newO id (x.bk o).1 (x.bk o).2).bk id=x.bk o:=if_pos rfl;have:=Rep.psl (x:=x.newO id (x.bk o).1 (x.bk o).2) id y off k cap z E Z Q h2 (by rw[F];exact W);rw[F]at this;exact this
theorem wg(h:M C N c a w){n id:Nat}(E:100<=id)(y:XW c n id (c.get n)=some c'):M C N c' a w:=by
 obtain⟨x,s,hM,z⟩:=h;cases hg:c.get n with
 |psl o I off k cap=>
  rw[hg]at y
  have hn:n<N:=by
   rcases bL n N with h|h
   ·exact h
   ·rw[z.inv.get h]at hg;cases hg
  simp only[XW]at y;split at y
  ·cases y;exact⟨x,s,hM,z⟩
  ·cases hl:c.look o with
   |none=>rw[hl]at y;cases y;exact⟨x,s,hM,z⟩
   |some obj=>
    rw[hl]at y;cases obj with
    |rc cs=>cases y;exact⟨x,s,hM,z⟩
    |arr F H=>cases y;exact uA hM z hn E hg hl (fun cs e=>by cases e)
    |bar l=>cases y;exact uA hM z hn E hg hl (fun cs e=>by cases e)
 |_=>rw[hg]at y;cases y;exact⟨x,s,hM,z⟩
theorem oV{t:Nat}:∀{cs:t7}{y k:Nat},lK t cs y=some k->∃j z F,k=y+j/\j<cs.length/\cs.getD j .undef= .lst z F (.id t)
 |[],_,_,h=>by cases h
 |v::r,y,k,h=>by
  have E:lK t r (y+1)=some k->∃j z F,k=y+j/\j<(v::r).length/\(v::r).getD j .undef= .lst z F (.id t):=fun h=>by obtain⟨j,z,F,I,J,H⟩:=oV h;exact⟨j+1,z,F,by omega,by simp;omega,by simpa using H⟩
  unfold lK at h;split at h
  ·split at h
   ·rename_i hu
    cases h;exact⟨0,_,_,rfl,by simp,by rw[bF,hu]⟩
   ·exact E h
  ·exact E h
theorem tT(lo hi:Nat):∀(cs:t7)(j:Nat),(SV.purgeL lo hi cs).getD j .undef=(cs.getD j .undef).purge lo hi
 |[],j=>by simp[SV.purgeL,SV.purge]
 |v::r,0=>by simp[SV.purgeL]
 |v::r,j+1=>by simpa[SV.purgeL]using tT lo hi r j
theorem lj(lo hi:Nat):∀(cs:t7),(SV.purgeL lo hi cs).length=cs.length
 |[]=>rfl
 |v::r=>by simp[SV.purgeL,lj lo hi r]
theorem i5{lo hi:Nat}{o:Nat}{obj:aC}:∀{ob:List (Nat×aC)},(o,obj)∈ob->¬(lo<=o/\o<hi)->(o,obj.purge lo hi)∈bm lo hi ob
 |p::r,h,hn=>by
  unfold bm;rcases am.1 h with rfl|h
  ·rw[if_neg hn];exact aw
  ·split
   ·exact i5 h hn
   ·exact an _ (i5 h hn)
theorem wj(hM:aM C x s a w)(hS:Sim N c s){o t id k:Nat}{cs:t7}(hl:c.look o=some (.rc cs))(ht:t∈c.tk)(hk:k<cs.length){I:Nat}{L:f8}
 (b5:cs.getD k .undef= .lst I L (.id t)) (b8:¬o=id):
 M C N ⟨cR id (id+1) c.tm,hU (bm id (id+1) c.ob) o (.rc ((SV.purgeL id (id+1) cs).set k (.lst I L (.id id)))),j8 (bN id (id+1) (bN t (t+1) c.tk)) id⟩ a w:=by
 obtain⟨T,hT⟩:∃T,T=x.τ t:=⟨_,rfl⟩;have Z:=hM.heap
 have a1:∀u∈bN t (t+1) c.tk,u∈s.tk/\u≠t:=by intro u hu;obtain⟨H,h2⟩:=bC.1 hu;exact⟨(hS.tk u).2 H,by omega⟩
 have O:t∈s.tk:=(hS.tk t).2 ht
 have z:cW C (x.newT id T.1 T.2.1 T.2.2) (bm id (id+1) s.ob) (id::bN id (id+1) (bN t (t+1) c.tk)) w:=by
  refine(Z.sub (tk':=bN t (t+1) c.tk) (jK.refl _) (fun u hu=>(a1 u hu).1)).addT id T.1 T.2.1 T.2.2 ?_ ?_ ?_
  ·have:=Z.tks t O
   unfold gH at this;rw[hT];exact this
  ·by_cases U:(x.τ t).2.1=(x.τ t).2.2
   ·rw[hT];exact .inl U
   ·rw[hT]
    exact .inr fun p hp _=>(Z.tko t O p hp).resolve_right U
  ·by_cases U:(x.τ t).2.1=(x.τ t).2.2
   ·rw[hT];exact .inl U
   ·rw[hT]
    refine .inr fun u hu _=> ?_
    obtain⟨H,h2⟩:=a1 u hu;rcases Z.tkd t O u H (fun e=>h2 e.symm)with h|h|h
    ·exact .inl h
    ·exact absurd h U
    ·exact .inr h
 have y:(o,aC.rc cs)∈s.ob:=by have:=hS.look o;rw[hl]at this;change List.lookup o s.ob=_ at this;rw[gj]at this;exact gZ this
 have E:(o,aC.rc (SV.purgeL id (id+1) cs))∈bm id (id+1) s.ob:=i5 y (by omega)
 have W:dx (x.newT id T.1 T.2.1 T.2.2) w o (.rc ((SV.purgeL id (id+1) cs).set k (.lst I L (.id id)))):=by
  obtain⟨⟨ca,e,fl,fh,hO,⟨b3,a6,c3⟩,J⟩,_,_⟩:=z.obs _ E;obtain⟨⟨Q,e0,b7,b6,a8,_,F⟩,_,_⟩:=Z.obs _ y
  have a5:Q=ca:=by have H:(x.newT id T.1 T.2.1 T.2.2).bk o=x.bk o:=rfl;rw[H]at hO;have:=a8.1.symm.trans hO.1;cases this;rfl
  subst a5;refine⟨Q,e,fl,fh,hO,⟨?_,a6,fun h=>by cases h⟩,fun j hj=> ?_⟩
  ·simpa[aC.size]using b3
  ·have a4:j<(aC.rc (SV.purgeL id (id+1) cs)).size:=by simpa[aC.size]using hj
   show Rep _ (((SV.purgeL id (id+1) cs).set k (.lst I L (.id id))).getD j .undef) _;rw[aa,eS]
   by_cases a3:k=j
   ·subst a3
    rw[if_pos rfl,if_pos (by rw[lj];exact hk),bj];have hu:Rep x (cs.getD k .undef) (Q.getD k undef):=F k (by simpa[aC.size,lj]using a4);rw[b5]at hu;obtain⟨b,cap,he,_,hD,b2⟩:=hu.lst_inv;refine .dat _ _ (hD.tok (.lst I L (.id id)) (.inr ⟨I,L,_,_,rfl,rfl⟩)) ?_;obtain⟨a',n',a2,b4,hh⟩:=b2;refine⟨a',n',a2,b4,hh.imp (fun h=>h) ?_⟩;rintro⟨b,off,h3,h4⟩;exact⟨b,off,h3,by rw[Sit.newT_eq,hT];exact h4⟩
   ·rw[if_neg a3,<-aa]
    exact J j a4
 have hb:=z.block E rfl rfl rfl rfl (fun _ _=>rfl) W
 have a7:aM C (x.newT id T.1 T.2.1 T.2.2) ⟨SV.purgeL id (id+1) s.tm,setO o (.rc ((SV.purgeL id (id+1) cs).set k (.lst I L (.id id)))) (bm id (id+1) s.ob),id::bN id (id+1) (bN t (t+1) c.tk)⟩ a w:=
  ⟨cy.mono (x:=x) (x':=x.newT id T.1 T.2.1 T.2.2) (lo:=id) (hi:=id+1) (fun _ _ _ h=>h) (fun _ _=>rfl) (Sit.newT_ne x id _ _ _) hM.tm,hM.defers,hb⟩
 have a0:Sim N ⟨cR id (id+1) c.tm,bm id (id+1) c.ob,j8 (bN id (id+1) (bN t (t+1) c.tk)) id⟩ ⟨SV.purgeL id (id+1) s.tm,bm id (id+1) s.ob,id::bN id (id+1) (bN t (t+1) c.tk)⟩:=
  (hS.purge id (id+1)).tks (fun u=>by rw[iS,am])
 have a9:(CSt.look ⟨cR id (id+1) c.tm,bm id (id+1) c.ob,j8 (bN id (id+1) (bN t (t+1) c.tk)) id⟩ o).isSome=true:=by have H:=a0.look o;rw[<-H];show(List.lookup o (bm id (id+1) s.ob)).isSome=true;rw[oF z.nd E];rfl
 exact⟨x.newT id T.1 T.2.1 T.2.2,_,a7,a0.setO a9 rfl⟩
theorem tQ(h:M C N c a w){o t b:Nat}(y:DP c o t b (c.look o)=some c'):M C N c' a w:=by
 cases hl:c.look o with
 |none=>rw[hl]at y;cases y;exact h
 |some obj=>
  rw[hl]at y;cases obj with
  |rc cs=>
   simp only[DP]at y;split at y
   ·rename_i k I
    obtain⟨j,U,Q,E,L,F⟩:=oV I;rw[cf]at E;subst E;unfold N0 at y;split at y<;>cases y;rename_i z;obtain⟨x,s,hM,H⟩:=h;rw[F];exact wj hM H hl (by simpa using z.1) L F z.2.1
   ·cases y;exact h
  |arr J O=>cases y;exact h
  |bar l=>cases y;exact h
theorem oT(h:M C N c a w){q:Dir}(y:qj c q=some c'):M C N c' a w:=by
 cases q with
 |mtok o t b=>exact tQ h y
 |kill l=>cases y;exact h.kill l
 |gc l=>cases y;exact h.gc
 |gcr lo hi=>cases y;exact h.purge lo hi
 |pubo o=>cases y;exact h.pub _
 |pub n=>
  simp only[qj]at y;split at y<;>cases y
  ·exact h.pub _
  ·exact h
 |tok n id=>
  simp only[qj]at y;split at y
  ·cases y
  ·exact vr h y
 |obj n id=>
  simp only[qj]at y;split at y
  ·cases y
  ·exact wg h (by omega) y
theorem jV:∀{l:List Dir}{c:CSt},M C N c a w->ig c l=some c'->M C N c' a w
 |[],_,h,hc=>by cases hc;exact h
 |q::r,c,h,hc=>by
  simp only[ig]at hc;split at hc
  ·rename_i c1 y;exact jV (oT h y) hc
  ·cases hc
end Go.Sy
namespace Go.Sy
variable [ba]
variable {P : Program} {C : Ctx} {x : Sit} {a : Act} {w : World} {N : Nat} {c c' : CSt} {s : St}
def ma(P:Program)(f:Nat)(args:t7)(os:List aC)(k:Nat)(R:eg->Prop):Prop:=
 eu P f=true/\∀(C:Ctx)(x:Sit)(w:World)(vs:LAa),C.w0=w->C.G0=x.G->
  (∀b,C.mine b->w.heap.size<=b\/(∃i,i<os.length/\(x.bk i).1=b)\/(∃t,50<=t/\t<50+k/\(x.τ t).2.1≠(x.τ t).2.2/\(x.τ t).1=b))->os.length<=40->
  (∀o∈os,o.wf=true)->cW C x (idx os) (tks 50 k) w->cy x args vs->
  Calls P f ⟨vs⟩ w fun e w'=>∃v x' q,e= .returned v/\R q/\Rep x' q.r v/\cW C x' q.os q.tk w'/\(∀p∈q.os,p.2.wf=true)/\∀i,i<os.length->x'.bk i=x.bk i
theorem kh(cs:t7):SV.bareL cs=cs.map SV.bare:=by
 induction cs with
 |nil=>rfl
 |cons c r h=>simp only[SV.bareL,aG,h]
theorem Rep.bare{x x':Sit}(hG:x'.G=x.G)(I:x'.bk=x.bk){sv:SV}{v:Value}(h:Rep x sv v):Rep x' sv.bare v:=by
 induction h with
 |undef v=>exact .undef v
 |dat s v h ht=>
  have y:=h.toData;rw[<-hG]at y;cases s with
  |byt l t=>exact .dat _ _ y trivial
  |lst z xs t=>exact .dat _ _ y trivial
  |undef=>exact .undef v
  |bool b=>exact .dat _ _ y trivial
  |int k n=>exact .dat _ _ y trivial
  |u8 b=>exact .dat _ _ y trivial
  |str l=>exact .dat _ _ y trivial
  |nilp=>exact .dat _ _ y trivial
  |nili=>exact .dat _ _ y trivial
  |pp cs=>exact .dat _ _ y trivial
  |ptr o off=>cases h
  |ap o z i j=>cases h
  |psl o z off n cap=>cases h
  |agg cs=>cases h
  |tup cs=>cases h
  |fn f a b=>cases h
 |ptr o off=>simp only[SV.bare];rw[<-I];exact .ptr o off
 |ap o z i j=>simp only[SV.bare];rw[<-I];exact .ap o z i j
 |psl o z off n cap E F h hn Z W=>simp only[SV.bare];rw[<-I]at W ⊢;exact .psl o z off n cap E F h hn Z W
 |agg cs vs H _ U=>simp only[SV.bare,kh];exact .agg _ _ (by simpa using H) fun i hi=>by rw[aU _ (by rfl)];exact U i (by simpa using hi)
 |tup cs vs H _ U=>simp only[SV.bare,kh];exact .tup _ _ (by simpa using H) fun i hi=>by rw[aU _ (by rfl)];exact U i (by simpa using hi)
 |fn f c1 c2 v1 v2 J _ Q _ L O=>simp only[SV.bare,kh];exact .fn _ _ _ _ _ (by simpa using J) (fun i hi=>by rw[aU _ (by rfl)];exact L i (by simpa using hi)) (by simpa using Q) (fun i hi=>by rw[aU _ (by rfl)];exact O i (by simpa using hi))
def Nl(x:Sit):t9->Nat×Nat×Nat
 |none=>(0,0,0)
 |some t=>x.τ t
def nO(x x1:Sit)(j:Nat)(l:List t9):Prop:=∀k,k<l.length->x1.τ (j+k)=Nl x (l.getD k none)
theorem nO.left{x x1:Sit}{j:Nat}{l r:List t9}(h:nO x x1 j (l++r)):nO x x1 j l:=fun k y=>by have:=h k (by simp;omega);rwa[aa,bc y,<-aa]at this
theorem nO.right{x x1:Sit}{j:Nat}{l r:List t9}(h:nO x x1 j (l++r)):nO x x1 (j+l.length) r:=fun k y=>by have:=h (l.length+k) (by simp;omega);rw[aa,bw (by omega),<-aa]at this;rw[eB,this];congr 2;omega
theorem kx{t:Nat}:∀{l:List t9},t∈cr l↔some t∈l
 |[]=>by simp[cr]
 |none::r=>by simp[cr,kx]
 |some u::r=>by simp[cr,kx]
theorem fy(l r:List t9):cr (l++r)=cr l++cr r:=by
 induction l with
 |nil=>rfl
 |cons o l h=>cases o<;>simp[cr,h]
theorem C2{x x1:Sit}(L:x1.G=x.G)(O:x1.bk=x.bk){v:SV}{u:Value}(h:Rep x v u):Rep x1 v.kclip u:=by
 have z:=h.bare L O;cases v with
 |lst W Q t=>
  cases t with
  |no=>exact z
  |id u=>exact z
  |clip=>
   cases Q with
   |cons y r=>exact z
   |nil=>obtain⟨b,cap,U,_,H,F⟩:=h.lst_inv;obtain⟨J,I,E⟩:=F;rw[<-L]at H;exact .dat _ _ (H.tok (.lst _ [] .clip) (.inr ⟨_,[],_,_,rfl,rfl⟩)) ⟨J,I,E⟩
 |byt l t=>
  cases t with
  |no=>exact z
  |id u=>exact z
  |clip=>
   cases l with
   |cons y r=>exact z
   |nil=>obtain⟨b,cap,U,_,H,F⟩:=h.byt_inv;obtain⟨J,I,E⟩:=F;rw[<-L]at H;exact .dat _ _ (H.tok (.byt [] .clip) (.inl ⟨[],_,_,rfl,rfl⟩)) ⟨J,I,E⟩
 |_=>exact z
theorem wn{x x1:Sit}(F:x1.G=x.G)(z:x1.bk=x.bk){cs:t7}{u:Value}(h:Rep x (.agg cs) u):Rep x1 (.agg (cs.map SV.kclip)) u:=by
 cases h with
 |dat _ _ h _=>cases h
 |agg _ vs E h=>
  refine .agg _ vs (by rw[aS];exact E) fun i hi=> ?_
  rw[aS]at hi;have y:=C2 F z (h i hi);rw[aa,ab hi,bj]at y;rw[aa,aR,ab hi,bo,bj];exact y
theorem j0{x x1:Sit}(L:x1.G=x.G)(hβ:x1.bk=x.bk){tk:t8}{j:Nat}{v:SV}{u:Value}(h:Rep x v u)(ht:nO x x1 j (jL tk j v).2):Rep x1 (jL tk j v).1 u:=by
 have O:=h.bare L hβ;cases v with
 |byt l t=>
  cases t with
  |no=>exact O
  |clip=>have e:=ht 0 (by simp[jL]);obtain⟨b,cap,he,_,E,z⟩:=h.byt_inv;obtain⟨J,H,y⟩:=z;rw[<-L]at E;exact .dat _ _ (E.tok (.byt l (.id j)) (.inl ⟨l,_,_,rfl,rfl⟩)) ⟨J,H,H,y,.inl rfl⟩
  |id t=>
   by_cases I:tk.contains t=true
   ·have e:=ht 0 (by simp only[jL,I,if_true,ay];omega)
    simp only[jL,I,if_true]at e ⊢;obtain⟨b,cap,he,_,E,z⟩:=h.byt_inv;obtain⟨J,H,F,y,Z⟩:=z;rw[<-L]at E;refine .dat _ _ (E.tok (.byt l (.id j)) (.inl ⟨l,_,_,rfl,rfl⟩)) ⟨J,H,F,y,Z.imp id ?_⟩;rintro⟨b,off,W,h2⟩;exact⟨b,off,W,by rw[dU]at e;rw[e];exact h2⟩
   ·simp only[jL,I,if_false];exact O
 |lst U Q t=>
  cases t with
  |no=>exact O
  |clip=>obtain⟨b,cap,he,_,E,z⟩:=h.lst_inv;obtain⟨J,H,y⟩:=z;rw[<-L]at E;exact .dat _ _ (E.tok (.lst U Q (.id j)) (.inr ⟨U,Q,_,_,rfl,rfl⟩)) ⟨J,H,H,y,.inl rfl⟩
  |id t=>
   by_cases I:tk.contains t=true
   ·have e:=ht 0 (by simp only[jL,I,if_true,ay];omega)
    simp only[jL,I,if_true]at e ⊢;obtain⟨b,cap,he,_,E,z⟩:=h.lst_inv;obtain⟨J,H,F,y,Z⟩:=z;rw[<-L]at E;refine .dat _ _ (E.tok (.lst U Q (.id j)) (.inr ⟨U,Q,_,_,rfl,rfl⟩)) ⟨J,H,F,y,Z.imp id ?_⟩;rintro⟨b,off,W,h2⟩;exact⟨b,off,W,by rw[dU]at e;rw[e];exact h2⟩
   ·simp only[jL,I,if_false];exact O
 |agg cs=>exact wn L hβ h
 |_=>exact O
theorem nT{tk:t8}{j:Nat}{v:SV}:∀t∈cr (jL tk j v).2,t∈tk:=by
 intro t h;cases v with
 |byt l q=>
  cases q with
  |id u=>
   by_cases y:tk.contains u=true
   ·simp only[jL,y,if_true,cr,aW]at h;subst h;simpa using y
   ·simp only[jL,y,if_false,cr]at h;cases h
  |_=>cases h
 |lst z E q=>
  cases q with
  |id u=>
   by_cases y:tk.contains u=true
   ·simp only[jL,y,if_true,cr,aW]at h;subst h;simpa using y
   ·simp only[jL,y,if_false,cr]at h;cases h
  |_=>cases h
 |_=>cases h
theorem fm{x:Sit}{v:SV}{u:Value}{cs:t7}{us:LAa}:cy x (v::cs) (u::us)↔Rep x v u/\cy x cs us:=by
 constructor
 ·intro h
  exact⟨h.2 0 (by simp),by simpa using h.1,fun i hi=>by simpa using h.2 (i+1) (by simpa using hi)⟩
 ·rintro⟨z,y⟩
  exact⟨by simp[y.1],fun i hi=>by
   cases i with
   |zero=>exact z
   |succ i=>simpa using y.2 i (by simpa using hi)⟩
theorem Ek{x x1:Sit}(z:x1.G=x.G)(E:x1.bk=x.bk){tk:t8}{j:Nat}{v:SV}{u:Value}(h:Rep x v u)(y:nO x x1 j (qC tk j v).2):Rep x1 (qC tk j v).1 u:=by
 cases v with
 |lst J I t=>
  cases t with
  |clip=>
   cases hx:I.isEmpty with
   |true=>simp only[qC,sZ,hx,s5];obtain⟨b,cap,L,_,H,F⟩:=h.lst_inv;rw[<-z]at H;exact .dat _ _ H F
   |false=>simp only[qC,sZ,hx,s5]at y ⊢;exact j0 (tk:=tk) z E h y
  |no=>exact j0 z E h y
  |id t=>exact j0 z E h y
 |_=>exact j0 z E h y
theorem OF{tk:t8}{j:Nat}{v:SV}:∀t∈cr (qC tk j v).2,t∈tk:=by
 cases v with
 |lst z y t=>
  cases t with
  |clip=>
   cases hx:y.isEmpty with
   |true=>intro t h;simp[qC,sZ,hx,s5,cr]at h
   |false=>intro t h;simp[qC,sZ,hx,s5,cr]at h
  |no=>exact nT
  |id t=>exact nT
 |_=>exact nT
theorem lN{x x1:Sit}(z:x1.G=x.G)(y:x1.bk=x.bk){tk own:t8}:∀{cs:t7}{us:LAa}{j i:Nat},cy x cs us->nO x x1 j (jM tk own j i cs).2->cy x1 (jM tk own j i cs).1 us
 |[],[],_,_,_,_=>⟨rfl,fun i hi=>by simp[jM]at hi⟩
 |[],_::_,_,_,h,_=>absurd h.1 (by simp)
 |_::_,[],_,_,h,_=>absurd h.1 (by simp)
 |v::r,u::us,j,i,h,ht=>by
  obtain⟨F,H⟩:=fm.1 h;simp only[jM]at ht ⊢;split
  ·rename_i E
   rw[if_pos E]at ht;exact fm.2 ⟨Ek z y F ht.left,lN z y H ht.right⟩
  ·rename_i E
   rw[if_neg E]at ht;exact fm.2 ⟨F.bare z y,lN z y H ht⟩
theorem nU{tk own:t8}:∀{cs:t7}{j i:Nat},∀t∈cr (jM tk own j i cs).2,t∈tk
 |[],_,_,t,ht=>by cases ht
 |v::r,j,i,t,ht=>by
  simp only[jM]at ht;split at ht
  ·rw[fy,ak]at ht
   exact ht.elim (OF t) (nU t)
  ·exact nU t ht
theorem tX{x x1:Sit}(E:x1.G=x.G)(z:x1.bk=x.bk){tk:t8}:∀{cs:t7}{j:Nat}{f:Nat->Value},(∀k,k<cs.length->Rep x (cs.getD k .undef) (f k))->nO x x1 j (rL tk j cs).2->
 (rL tk j cs).1.length=cs.length/\∀k,k<cs.length->Rep x1 ((rL tk j cs).1.getD k .undef) (f k)
 |[],_,_,_,_=>⟨rfl,fun i hi=>by simp at hi⟩
 |v::r,j,f,h,ht=>by
  simp only[rL]at ht ⊢;obtain⟨F,H⟩:=tX (f:=fun k=>f (k+1)) E z (fun k y=>by simpa using h (k+1) (by simpa using y)) ht.right;refine⟨by simp[F],fun k y=> ?_⟩;cases k with
  |zero=>exact j0 E z (h 0 (by simp)) ht.left
  |succ k=>simpa using H k (by simpa using y)
theorem zf{tk:t8}:∀{cs:t7}{j:Nat},∀t∈cr (rL tk j cs).2,t∈tk
 |[],_,t,ht=>by cases ht
 |v::r,j,t,ht=>by simp only[rL]at ht;rw[fy,ak]at ht;exact ht.elim (nT t) (zf t)
theorem Cp{x x1:Sit}(J:x1.G=x.G)(y:x1.bk=x.bk){tk:t8}{j o:Nat}{ob:aC}(h:dx x w o ob)(O:nO x x1 j (jy tk j ob).2):dx x1 w o (jy tk j ob).1:=by
 obtain⟨E,e,fl,fh,I,F,H⟩:=h;cases ob with
 |rc cs=>obtain⟨L,Q⟩:=tX (f:=fun k=>E.getD k undef) J y H O;exact⟨E,e,fl,fh,by rw[y];exact I,by rw[y];simp only[jy,aC.size,L]at F ⊢;exact F,fun k z=>Q k (by simpa only[jy,aC.size,L]using z)⟩
 |arr W U=>exact⟨E,e,fl,fh,by rw[y];exact I,by rw[y];exact F,fun k z=>by have:=H k z;simp only[jy,cj]at this ⊢;rw[J];exact this⟩
 |bar l=>exact⟨E,e,fl,fh,by rw[y];exact I,by rw[y];exact F,fun k z=>by have:=H k z;simp only[jy,cj]at this ⊢;rw[J];exact this⟩
theorem El{tk:t8}{j:Nat}{ob:aC}(h:ob.wf=true):(jy tk j ob).1.wf=true:=by cases ob<;>first|rfl|exact h
theorem Em{tk:t8}{j:Nat}{ob:aC}:∀t∈cr (jy tk j ob).2,t∈tk:=by
 intro t h;cases ob with
 |rc cs=>exact zf t h
 |_=>cases h
theorem ld{x x1:Sit}(E:x1.G=x.G)(z:x1.bk=x.bk){tk:t8}:∀{obs:List aC}{j:Nat}{f:Nat->Nat},(∀k,k<obs.length->dx x w (f k) (obs.getD k (.rc [])))->nO x x1 j (dQ tk j obs).2->
 (dQ tk j obs).1.length=obs.length/\∀k,k<obs.length->dx x1 w (f k) ((dQ tk j obs).1.getD k (.rc []))
 |[],_,_,_,_=>⟨rfl,fun i hi=>by simp at hi⟩
 |v::r,j,f,h,ht=>by
  simp only[dQ]at ht ⊢;obtain⟨F,H⟩:=ld (f:=fun k=>f (k+1)) E z (fun k y=>by simpa using h (k+1) (by simpa using y)) ht.right;refine⟨by simp[F],fun k y=> ?_⟩;cases k with
  |zero=>exact Cp E z (h 0 (by simp)) ht.left
  |succ k=>simpa using H k (by simpa using y)
theorem mw{tk:t8}:∀{obs:List aC}{j:Nat},∀t∈cr (dQ tk j obs).2,t∈tk
 |[],_,t,ht=>by cases ht
 |v::r,j,t,ht=>by simp only[dQ]at ht;rw[fy,ak]at ht;exact ht.elim (Em t) (mw t)
theorem mu{tk:t8}:∀{obs:List aC}{j:Nat},(∀o∈obs,o.wf=true)->∀o∈(dQ tk j obs).1,o.wf=true
 |[],_,_,o,ho=>by cases ho
 |v::r,j,h,o,ho=>by
  simp only[dQ]at ho;rcases am.1 ho with e|e
  ·rw[e];exact El (h v (aw ..))
  ·exact mu (fun o y=>h o (an _ y)) o e
theorem mh{m:t8}{o:Nat}(h:o∈m):gz m o<m.length/\m.getD (gz m o) 0=o:=by
 induction m with
 |nil=>cases h
 |cons p r F=>
  simp only[gz];split
  ·rename_i y;subst y;simp
  ·rename_i y
   obtain⟨z,E⟩:=F ((am.1 h).resolve_left (Ne.symm y));exact⟨by simpa using z,by simpa using E⟩
theorem jf{l:t8}(h:dq l=true):l.Nodup:=by
 induction l with
 |nil=>exact List.nodup_nil
 |cons p r y=>simp only[dq,aB,du,eK,decide_eq_false_iff_not]at h;exact dV.2 ⟨h.1,y h.2⟩
theorem tY{l r:t8}(h:nW l r=true):∀o∈l,o∈r:=by intro o y;simp only[nW,aT,eK,decide_eq_true_eq]at h;exact h o y
theorem pq:∀{m:t8}{os:List aC},gq c m=some os->os.length=m.length/\∀i,i<m.length->c.look (m.getD i 0)=some (os.getD i (.rc []))
 |[],os,h=>by cases h;exact⟨rfl,fun i hi=>by simp at hi⟩
 |o::r,os,h=>by
  simp only[gq]at h;split at h<;>cases h;rename_i ob l y E;obtain⟨z,F⟩:=pq E;refine⟨by simp[z],fun i hi=> ?_⟩;cases i with
  |zero=>exact y
  |succ i=>simpa using F i (by simpa using hi)
theorem fW(mo mt:Nat->Nat)(l:List aC):dX mo mt l=l.map fun o=>o.ren mo mt:=by
 induction l with
 |nil=>rfl
 |cons p r h=>simp only[dX,aG,h]
theorem oC{l:List aC}{o:aC}(h:o∈l):∀k∈o.ids,k∈fB l:=by
 induction l with
 |nil=>cases h
 |cons p r z=>
  intro k y;simp only[fB,ak];rcases am.1 h with e|e
  ·subst e;exact .inl y
  ·exact .inr (z e k y)
theorem mP{l:List t9}(h:(cr l).Nodup):∀{i j:Nat}{t u:Nat},i≠j->l.getD i none=some t->l.getD j none=some u->t≠u:=by
 have F:∀{l:List t9},(cr l).Nodup->∀{i j:Nat}{t u:Nat},i<j->l.getD i none=some t->l.getD j none=some u->t≠u:=by
  intro l;induction l with
  |nil=>intro _ i j t u _ z;simp at z
  |cons o r J=>
   intro hn i j t u E z y
   have I:(cr r).Nodup:=by cases o with
    |none=>exact hn
    |some q=>exact(dV.1 hn).2
   cases j with
   |zero=>omega
   |succ j=>
    rw[bQ]at y;cases i with
    |zero=>
     rw[bF]at z;subst z
     have H:some u∈r:=by
      rw[aa]at y;cases hj:r[j]? with
      |none=>rw[hj]at y;cases y
      |some q=>rw[hj]at y;cases y;exact List.mem_of_getElem? hj
     intro e;subst e;exact(dV.1 hn).1 (kx.2 H)
    |succ i=>rw[bQ]at z;exact J I (by omega) z y
 intro i j t u E z y;rcases Nat.lt_or_gt_of_ne E with H|H
 ·exact F h H z y
 ·exact(F h H y z).symm
theorem js{b n t:Nat}:t∈tks b n↔b<=t/\t<b+n:=by
 unfold tks
 have:∀n k,k∈kK n↔k<n:=by
  intro n;induction n with
  |zero=>intro k;simp[kK]
  |succ n y=>intro k;simp only[kK,ak,y,aW];omega
 simp only[aQ,this];constructor
 ·rintro⟨k,h,rfl⟩;omega
 ·rintro⟨z,E⟩;exact⟨t-b,by omega,by omega⟩
structure D9(x x2:Sit)(c:CSt)(m:List Nat)(mt:List (Option Nat)):Prop where
 G:x2.G=x.G
 bk:∀i,i<m.length->x2.bk i=x.bk (m.getD i 0)
 τ:nO x x2 50 mt
 nd:m.Nodup
 ob:∀i,i<m.length->∃ob,(m.getD i 0,ob)∈c.ob
 tnd:(cr mt).Nodup
 tk:∀t∈cr mt,t∈c.tk
def Ctx.took(x2:Sit)(w:World)(n k:Nat):Ctx:=
 ⟨w,x2.G,fun b=>w.heap.size<=b\/(∃i,i<n/\(x2.bk i).1=b)\/(∃t,50<=t/\t<50+k/\(x2.τ t).2.1≠(x2.τ t).2.2/\(x2.τ t).1=b),x2.bk⟩
theorem fH{m:t8}{i:Nat}(h:i<m.length):m.getD i 0∈m:=by rw[aa,ab h];exact bn _
theorem li{m:t8}(h:m.Nodup){i j:Nat}(hi:i<m.length)(y:j<m.length)(e:m.getD i 0=m.getD j 0):i=j:=by rw[aa,aa,ab hi,ab y]at e;exact qL h hi y e
theorem iq{l:List t9}{i t:Nat}(h:l.getD i none=some t):t∈cr l:=by
 rw[aa]at h;cases hj:l[i]? with
 |none=>rw[hj]at h;cases h
 |some q=>rw[hj]at h;cases h;exact kx.2 (List.mem_of_getElem? hj)
theorem D9.tok{x2:Sit}{m:t8}{mt:List t9}(h:D9 x x2 c m mt){t:Nat}(y:50<=t)(z:t<50+mt.length):
 (x2.τ t).2.1=(x2.τ t).2.2\/∃u,mt.getD (t-50) none=some u/\x2.τ t=x.τ u/\u∈c.tk/\u∈cr mt:=by
 have e:=h.τ (t-50) (by omega);rw[show 50+(t-50)=t by omega]at e;cases hu:mt.getD (t-50) none with
 |none=>rw[hu]at e;rw[e];exact .inl rfl
 |some u=>rw[hu]at e;exact .inr ⟨u,rfl,e,h.tk u (iq hu),iq hu⟩
theorem qB{x2:Sit}{m:t8}{mt:List t9}(H:cW C x c.ob c.tk w)(h:D9 x x2 c m mt){z:List aC}(hl:z.length=m.length)
 (ho:∀i,i<m.length->dx x2 w i (z.getD i (.rc []))):cW (Ctx.took x2 w m.length mt.length) x2 (idx z) (tks 50 mt.length) w:=by
 refine⟨fun b o v J=>H.per b o v (by rw[<-h.G];exact J),fun _ _ _ J=>J,fun _ _ _ J=> .inl J,fun b hb=> .inl hb, ?_,mA z, ?_, ?_, ?_, ?_,rfl,rfl,rfl,aN _,fun _ _=>rfl,fun _ _=>rfl,H.lay.mono (fun b o v J=>by show x2.G b o=some v;rw[h.G];exact H.g0 b o v J)⟩
 ·intro p Q
  obtain⟨y,E⟩:=iy.1 Q;rw[hl]at y;obtain⟨ob,I⟩:=h.ob p.1 y;refine⟨by rw[E];exact ho p.1 y,.inr (.inl ⟨p.1,y,rfl⟩),fun off=> ?_⟩;rw[h.G,h.bk _ y];exact(H.obs _ I).2.2 off
 ·intro p Q q hq U
  obtain⟨y,_⟩:=iy.1 Q;obtain⟨E,_⟩:=iy.1 hq;rw[hl]at y E;rw[h.bk _ y,h.bk _ E]at U;obtain⟨o1,L⟩:=h.ob _ y;obtain⟨o2,Z⟩:=h.ob _ E;exact li h.nd y E (H.inj _ L _ Z U)
 ·intro t W
  obtain⟨y,E⟩:=js.1 W;rcases h.tok y E with I|⟨u,_,O,h5,_⟩
  ·exact .inl I
  ·by_cases F:(x2.τ t).2.1=(x2.τ t).2.2
   ·exact .inl F
   ·have:=H.tks u h5
    unfold gH at this ⊢;rw[O]at F ⊢;rcases this with g|⟨L,Z,g3⟩
    ·exact absurd g F
    ·exact .inr ⟨L,.inr (.inr ⟨t,y,E,by rw[O];exact F,by rw[O]⟩),by rw[h.G];exact g3⟩
 ·intro t W p Q
  obtain⟨y,E⟩:=js.1 W;obtain⟨h6,_⟩:=iy.1 Q;rw[hl]at h6;rcases h.tok y E with I|⟨u,_,O,h5,_⟩
  ·exact .inr I
  ·obtain⟨o1,L⟩:=h.ob _ h6
   rw[O,h.bk _ h6];exact H.tko u h5 _ L
 ·intro t W u hu a0
  obtain⟨y,E⟩:=js.1 W;obtain⟨I,O⟩:=js.1 hu;rcases h.tok y E with g|⟨t',L,Z,g3,_⟩
  ·exact .inr (.inl g)
  ·rcases h.tok I O with k|⟨u',k1,k2,k3,_⟩
   ·exact .inr (.inr k)
   ·rw[Z,k2]
    exact H.tkd t' g3 u' k3 (mP h.tnd (by omega) L k1)
end Go.Sy
namespace Go.Sy
variable [ba]
variable {P : Program} {C : Ctx} {x : Sit} {a : Act} {w : World} {N : Nat} {c c' : CSt} {s : St}
theorem EU(d:Nat)(l:t8):qm d l=l.map (j7 d):=by
 induction l with
 |nil=>rfl
 |cons p r h=>simp only[qm,aG,h]
theorem mC{k:t8}{t:Nat}:∀{l:t8},t∈l7 k l↔t∈l/\t∉k
 |[]=>by simp[l7]
 |p::r=>by
  simp only[l7];split
  ·rename_i z
   have E:p∈k:=by simpa using z
   rw[mC,am];constructor
   ·rintro⟨h,y⟩;exact⟨.inr h,y⟩
   ·rintro⟨h|h,y⟩
    ·exact absurd (h ▸ E) y
    ·exact⟨h,y⟩
  ·rename_i z
   have E:p∉k:=by simpa using z
   rw[am,mC,am];constructor
   ·rintro(h|⟨h,y⟩)
    ·exact⟨.inl h,h ▸ E⟩
    ·exact⟨.inr h,y⟩
   ·rintro⟨h|h,y⟩
    ·exact .inl h
    ·exact .inr ⟨h,y⟩
theorem qM{t:Nat}:∀{r l:t8},t∈qt l r↔t∈r\/t∈l
 |[],l=>by simp[qt]
 |p::r,l=>by
  simp only[qt];rw[qM,iS,am];constructor
  ·rintro(h|h|h)
   ·exact .inl (.inr h)
   ·exact .inl (.inl h)
   ·exact .inr h
  ·rintro((h|h)|h)
   ·exact .inr (.inl h)
   ·exact .inl h
   ·exact .inr (.inr h)
theorem mB{p:Nat×aC}:∀{r l:List (Nat×aC)},p∈qr l r->p∈r\/p∈l
 |[],l,h=> .inr h
 |q::r,l,h=>by
  simp only[qr]at h;rcases mB h with e|e
  ·exact .inl (an _ e)
  ·rcases kb e with e|e
   ·exact .inl (e ▸ aw ..)
   ·exact .inr e
theorem zo:∀{r l:List (Nat×aC)},(l.map cI).Pairwise (· < ·)->((qr l r).map cI).Pairwise (· < ·)
 |[],_,h=>h
 |_::r,_,h=>zo (r:=r) (s7 h)
theorem xf{mo mt:Nat->Nat}{o:aC}(h:o.wf=true):(o.ren mo mt).wf=true:=by cases o<;>first|rfl|exact h
theorem vo{x2:Sit}{m:t8}{mt:List t9}(z:cW C x c.ob c.tk w)(h:D9 x x2 c m mt){x':Sit}{w':World}{q:eg}(hH:cW (Ctx.took x2 w m.length mt.length) x' q.os q.tk w'){D:Nat}
 (hm:∀o∈m,inR D o=false) (a2:∀p∈q.os,p.1<1000/\(∀k∈p.2.ids,k<1000)/\∀k∈p.2.toks,k<1000) (a7:∀t∈q.tk,t<1000) (hg:∀i,i<m.length->x'.bk i=x2.bk i):
 ∃x3:Sit,x3.G=x'.G/\(∀b o v,x.G b o=some v->x3.G b o=some v)/\(∀k,k<1000->x3.bk (iw D m k)=x'.bk k)/\(∀k,k<1000->x3.τ (j7 D k)=x'.τ k)/\
  (∀k,¬((D+1)*1000<=k/\k<(D+2)*1000)->x3.bk k=x.bk k)/\(∀k,¬((D+1)*1000<=k/\k<(D+2)*1000)->x3.τ k=x.τ k)/\
  cW C x3 (oj D m q.os++eY m (bm ((D+1)*1000) ((D+2)*1000) c.ob)) (qm D q.tk++l7 (cr mt) (bN ((D+1)*1000) ((D+2)*1000) c.tk)) w':=by
 let lo:=(D+1)*1000
 let hi:=(D+2)*1000
 have e4:lo=(D+1)*1000:=rfl;have e3:hi=(D+2)*1000:=rfl
 let β2:Nat->Nat×Nat:=fun k=>if inR D k then x'.bk (k-lo)else x.bk k
 let τ2:Nat->Nat×Nat×Nat:=fun k=>if inR D k then x'.τ (k-lo)else x.τ k
 have d5:∀k,k<1000->inR D (lo+k)=true:=by intro k hk;simp only[inR,aB,decide_eq_true_eq];omega
 have b5:∀k,¬(lo<=k/\k<hi)->inR D k=false:=by intro k hk;rw[Bool.eq_false_iff];intro h;simp only[inR,aB,decide_eq_true_eq]at h;exact hk h
 have a3:∀k,¬(lo<=k/\k<hi)->β2 k=x.bk k:=fun k hk=>by simp only[β2];rw[b5 k hk];rfl
 have a4:∀k,¬(lo<=k/\k<hi)->τ2 k=x.τ k:=fun k hk=>by simp only[τ2];rw[b5 k hk];rfl
 have E:∀k,k<1000->β2 (iw D m k)=x'.bk k:=by
  intro k hk
  by_cases b2:k<m.length
  ·have y:iw D m k=m.getD k 0:=if_pos b2
   simp only[β2];rw[y,hm _ (fH b2),hg k b2,h.bk k b2];rfl
  ·have y:iw D m k=lo+k:=if_neg b2
   simp only[β2];rw[y,d5 k hk,if_pos rfl];congr 1;omega
 have F:∀k,k<1000->τ2 (j7 D k)=x'.τ k:=by intro k hk;have y:j7 D k=lo+k:=rfl;simp only[τ2];rw[y,d5 k hk,if_pos rfl];congr 1;omega
 have hG:∀b o v,x.G b o=some v->x'.G b o=some v:=fun b o v hv=>hH.g0 b o v (by show x2.G b o=_;rw[h.G];exact hv)
 refine⟨⟨x'.G,β2,τ2⟩,rfl,hG,E,F,a3,a4, ?_⟩;rw[uq,EU]
 have a6:∀b,(Ctx.took x2 w m.length mt.length).mine b->C.mine b:=by
  rintro b (y|⟨i,hi,rfl⟩|⟨t,y,I,H,rfl⟩)
  ·exact z.new b (pK z.size y)
  ·obtain⟨ob,b7⟩:=h.ob i hi
   rw[h.bk i hi];exact(z.obs _ b7).2.1
  ·rcases h.tok y I with g|⟨u,_,g1,g2,_⟩
   ·exact absurd g H
   ·rw[g1]at H ⊢
    rcases z.tks u g2 with k|⟨_,k,_⟩
    ·exact absurd k H
    ·exact k
 have b3:∀b,b<w.heap.size->(∀i,i<m.length->(x.bk (m.getD i 0)).1≠b)->(∀u∈cr mt,(x.τ u).2.1=(x.τ u).2.2\/(x.τ u).1≠b)->w'.heap[b]? =w.heap[b]? /\((∀off,x.G b off=none)->∀off,x'.G b off=none)/\
  (∀off,x.G b off=none->x'.G b off=none):=by
  intro b hb c3 c4
  have b4:¬(Ctx.took x2 w m.length mt.length).mine b:=by
   rintro(y|⟨i,hi,y⟩|⟨t,y,I,H,h4⟩)
   ·omega
   ·rw[h.bk i hi]at y;exact c3 i hi y
   ·rcases h.tok y I with g|⟨u,_,g1,_,g3⟩
    ·exact H g
    ·rw[g1]at H h4
     rcases c4 u g3 with k|k
     ·exact H k
     ·exact k h4
  have one:∀off,x.G b off=none->x'.G b off=none:=by
   intro off ho;cases hg:x'.G b off with
   |none=>rfl
   |some v=>
    rcases hH.gm b off v hg with y|y
    ·change x2.G b off=some v at y;rw[h.G,ho]at y;cases y
    ·exact absurd y b4
  exact⟨hH.ext b b4,fun h off=>one off (h off),one⟩
 have Z:∀p∈eY m (bm lo hi c.ob),∃ob,(p.1,ob)∈c.ob/\p.2=ob.purge lo hi/\¬(lo<=p.1/\p.1<hi)/\p.1∉m/\(∀i,i<m.length->(x.bk (m.getD i 0)).1≠(x.bk p.1).1)/\(∀u∈cr mt,(x.τ u).2.1=(x.τ u).2.2\/(x.τ u).1≠(x.bk p.1).1)/\(x.bk p.1).1<w.heap.size:=by
  intro p O;obtain⟨y,I⟩:=jh.1 O;obtain⟨H,ob,h4,h5⟩:=co y;refine⟨ob,h4,h5,H,I,fun i hi e=> ?_,fun u hu=> ?_, ?_⟩
  ·obtain⟨d4,d6⟩:=h.ob i hi
   have:=z.inj _ d6 _ h4 e;simp only at this;apply I;rw[<-this];exact fH hi
  ·exact(z.tko u (h.tk u hu) _ h4).symm
  ·obtain⟨⟨c,e,fl,fh,hO,_⟩,_⟩:=z.obs _ h4
   exact hO.lt
 have a1:∀p∈q.os.map (fun p=>(iw D m p.1,p.2.ren (iw D m) (j7 D))),∃r∈q.os,p=(iw D m r.1,r.2.ren (iw D m) (j7 D))/\β2 p.1=x'.bk r.1:=by intro p O;obtain⟨r,Q,rfl⟩:=aQ.1 O;exact⟨r,Q,rfl,E _ (a2 r Q).1⟩
 have W:∀r∈q.os,w.heap.size<=(x'.bk r.1).1\/(∃i,i<m.length/\(x.bk (m.getD i 0)).1=(x'.bk r.1).1)\/(∃u∈cr mt,(x.τ u).2.1≠(x.τ u).2.2/\(x.τ u).1=(x'.bk r.1).1):=by
  intro r Q;rcases (hH.obs r Q).2.1 with y|⟨i,hi,y⟩|⟨t,y,I,H,h4⟩
  ·exact .inl y
  ·exact .inr (.inl ⟨i,hi,by rw[<-h.bk i hi];exact y⟩)
  ·rcases h.tok y I with g|⟨u,_,g1,_,g3⟩
   ·exact absurd g H
   ·rw[g1]at H h4;exact .inr (.inr ⟨u,g3,H,h4⟩)
 have a5:∀t∈q.tk,(x'.τ t).2.1=(x'.τ t).2.2\/w.heap.size<=(x'.τ t).1\/(∃i,i<m.length/\(x.bk (m.getD i 0)).1=(x'.τ t).1)\/(∃u∈cr mt,(x.τ u).2.1≠(x.τ u).2.2/\(x.τ u).1=(x'.τ t).1):=by
  intro t L;rcases hH.tks t L with k|⟨_,k,_⟩
  ·exact .inl k
  ·right
   rcases k with y|⟨i,hi,y⟩|⟨t',y,I,H,h4⟩
   ·exact .inl y
   ·exact .inr (.inl ⟨i,hi,by rw[<-h.bk i hi];exact y⟩)
   ·rcases h.tok y I with g|⟨u,_,g1,_,g3⟩
    ·exact absurd g H
    ·rw[g1]at H h4;exact .inr (.inr ⟨u,g3,H,h4⟩)
 have J:∀t∈l7 (cr mt) (bN lo hi c.tk),t∈c.tk/\¬(lo<=t/\t<hi)/\t∉cr mt:=fun t L=>by obtain⟨y,I⟩:=mC.1 L;obtain⟨H,h4⟩:=bC.1 y;exact⟨H,h4,I⟩
 have U:∀t∈c.tk,t∉cr mt->(x.τ t).2.1=(x.τ t).2.2\/((x.τ t).1<w.heap.size/\(∀i,i<m.length->(x.bk (m.getD i 0)).1≠(x.τ t).1)/\(∀u∈cr mt,(x.τ u).2.1=(x.τ u).2.2\/(x.τ u).1≠(x.τ t).1)):=by
  intro t L c4;rcases z.tks t L with y|⟨⟨c,e,fl,fh,hO,_⟩,_⟩
  ·exact .inl y
  ·by_cases he:(x.τ t).2.1=(x.τ t).2.2
   ·exact .inl he
   ·refine .inr ⟨hO.lt,fun i hi e'=> ?_,fun u hu=> ?_⟩
    ·obtain⟨ob,b7⟩:=h.ob i hi
     rcases z.tko t L _ b7 with y|y
     ·exact y e'.symm
     ·exact he y
    ·rcases z.tkd u (h.tk u hu) t L (fun e=>c4 (e ▸ hu))with k|k|k
     ·exact .inr k
     ·exact .inl k
     ·exact absurd k he
 refine⟨hH.per,fun b o v hv=>hG _ _ _ (z.g0 b o v hv), ?_,z.new, ?_, ?_, ?_, ?_, ?_, ?_,hH.os.trans z.os,hH.tape.trans z.tape,hH.output.trans z.output,pK z.size hH.size, ?_,fun i hi=>(a3 i (by omega)).trans (z.pin i hi),z.lay⟩
 ·intro b o v hv
  rcases hH.gm b o v hv with y|y
  ·exact z.gm b o v (by rw[<-h.G];exact y)
  ·exact .inr (a6 b y)
 ·intro p O
  rcases ak.1 O with O|O
  ·obtain⟨r,Q,rfl,hb⟩:=a1 p O
   obtain⟨y,I,H⟩:=hH.obs r Q;refine⟨y.renF (x2:=⟨x'.G,β2,τ2⟩) (fun _ _ _ h=>h) (E _ (a2 r Q).1) (fun k hk=>E k ((a2 r Q).2.1 k hk)) (fun t L=>F t ((a2 r Q).2.2 t L)), ?_,fun off=> ?_⟩
   ·show C.mine (β2 (iw D m r.1)).1;rw[E _ (a2 r Q).1];exact a6 _ I
   ·show x'.G (β2 (iw D m r.1)).1 off=none;rw[E _ (a2 r Q).1];exact H off
  ·obtain⟨ob,y,I,H,h4,h5,h6,h7⟩:=Z p O
   obtain⟨g1,g2,g3⟩:=z.obs _ y;obtain⟨k1,k2,_⟩:=b3 _ h7 h5 h6;have hb:β2 p.1=x.bk p.1:=a3 _ H;refine⟨?_,by show C.mine (β2 p.1).1;rw[hb];exact g2,fun off=>by show x'.G (β2 p.1).1 off=none;rw[hb];exact k2 g3 off⟩;rw[I];exact dx.of_heap (x':=⟨x'.G,β2,τ2⟩) g1 k1 hG a3 a4 H
 ·rw[df,List.nodup_append]
  refine⟨?_, ?_, ?_⟩
  ·rw[List.map_map]
   have d3:=gn.1 hH.nd;refine gn.2 (gg.imp_of_mem (fun{p r} O Q c3=> ?_) d3);intro e;simp only[Function.comp]at e;have:(x'.bk p.1).1=(x'.bk r.1).1:=by rw[<-E _ (a2 p O).1,<-E _ (a2 r Q).1,e]
   exact c3 (hH.inj p O r Q this)
  ·have y:(eY m (bm lo hi c.ob)).Sublist (bm lo hi c.ob):=gP _ _
   refine vm.sublist (y.map cI) ?_;rw[eD];exact z.nd.filter _
  ·intro o1 y o2 I e
   subst e;obtain⟨p,O,rfl⟩:=aQ.1 y;obtain⟨r,Q,c7⟩:=aQ.1 I;obtain⟨u,hu,rfl⟩:=aQ.1 O;obtain⟨ob,k1,k2,k3,k4,_⟩:=Z r Q;simp only at c7
   by_cases b8:u.1<m.length
   ·apply k4;rw[c7];show iw D m u.1∈m;unfold iw;rw[if_pos b8];exact fH b8
   ·apply k3;rw[c7];show lo<=iw D m u.1/\iw D m u.1<hi
    unfold iw;rw[if_neg b8];have:=(a2 u hu).1;omega
 ·intro p O r Q a0
  change (β2 p.1).1=(β2 r.1).1 at a0;rcases ak.1 O with O|O<;>rcases ak.1 Q with Q|Q
  ·obtain⟨p',c6,rfl,hb⟩:=a1 p O
   obtain⟨r',b6,rfl,e1⟩:=a1 r Q;rw[hb,e1]at a0;have:=hH.inj p' c6 r' b6 a0;simp only;rw[this]
  ·obtain⟨p',c6,rfl,hb⟩:=a1 p O
   obtain⟨ob,k1,k2,k3,k4,k5,k6,k7⟩:=Z r Q;rw[hb,a3 _ k3]at a0;rcases W p' c6 with y|⟨i,hi,y⟩|⟨u,hu,y,I⟩
   ·omega
   ·exact absurd (y.trans a0) (k5 i hi)
   ·rcases k6 u hu with g|g
    ·exact absurd g y
    ·exact absurd (I.trans a0) g
  ·obtain⟨r',b6,rfl,hb⟩:=a1 r Q
   obtain⟨ob,k1,k2,k3,k4,k5,k6,k7⟩:=Z p O;rw[hb,a3 _ k3]at a0;rcases W r' b6 with y|⟨i,hi,y⟩|⟨u,hu,y,I⟩
   ·omega
   ·exact absurd (y.trans a0.symm) (k5 i hi)
   ·rcases k6 u hu with g|g
    ·exact absurd g y
    ·exact absurd (I.trans a0.symm) g
  ·obtain⟨ob,k1,k2,k3,_⟩:=Z p O
   obtain⟨d4,d9,e5,e2,_⟩:=Z r Q;rw[a3 _ k3,a3 _ e2]at a0;exact z.inj (p.1,ob) k1 (r.1,d4) d9 a0
 ·intro t L
  rcases ak.1 L with L|L
  ·obtain⟨u,hu,rfl⟩:=aQ.1 L
   have:=hH.tks u hu;unfold gH at this ⊢;simp only[F u (a7 u hu)];exact this.imp id fun⟨y,I,H⟩=>⟨y,a6 _ I,H⟩
  ·obtain⟨y,I,H⟩:=J t L
   have:=z.tks t y;unfold gH at this ⊢;simp only[a4 t I];rcases this with g|⟨⟨c,e,fl,fh,hO,hc⟩,h4,h5⟩
   ·exact .inl g
   ·rcases U t y H with g|⟨k1,k2,k3⟩
    ·exact .inl g
    ·obtain⟨g1,_,g2⟩:=b3 _ k1 k2 k3
     exact .inr ⟨⟨c,e,fl,fh,hO.of_heap g1,hc⟩,h4,fun o e0 d8=>g2 o (h5 o e0 d8)⟩
 ·intro t L p O
  rcases ak.1 L with L|L<;>rcases ak.1 O with O|O
  ·obtain⟨u,hu,rfl⟩:=aQ.1 L
   obtain⟨r,Q,rfl,hb⟩:=a1 p O;show(τ2 (j7 D u)).1≠(β2 (iw D m r.1)).1\/(τ2 (j7 D u)).2.1=(τ2 (j7 D u)).2.2;rw[F u (a7 u hu),E _ (a2 r Q).1];exact hH.tko u hu r Q
  ·obtain⟨u,hu,rfl⟩:=aQ.1 L
   obtain⟨ob,k1,k2,k3,k4,k5,k6,k7⟩:=Z p O;show(τ2 (j7 D u)).1≠(β2 p.1).1\/(τ2 (j7 D u)).2.1=(τ2 (j7 D u)).2.2;rw[F u (a7 u hu),a3 _ k3];rcases a5 u hu with g|g|⟨i,hi,g⟩|⟨v,hv,g1,g2⟩
   ·exact .inr g
   ·left;intro e;omega
   ·left;intro e;exact k5 i hi (g.trans e)
   ·left;intro e
    rcases k6 v hv with k|k
    ·exact g1 k
    ·exact k (g2.trans e)
  ·obtain⟨y,I,H⟩:=J t L
   obtain⟨r,Q,rfl,hb⟩:=a1 p O;show(τ2 t).1≠(β2 (iw D m r.1)).1\/(τ2 t).2.1=(τ2 t).2.2;rw[a4 t I,E _ (a2 r Q).1];rcases U t y H with g|⟨k1,k2,k3⟩
   ·exact .inr g
   ·left;intro e
    rcases W r Q with g|⟨i,hi,g⟩|⟨v,hv,g1,g2⟩
    ·omega
    ·exact k2 i hi (g.trans e.symm)
    ·rcases k3 v hv with k|k
     ·exact g1 k
     ·exact k (g2.trans e.symm)
  ·obtain⟨y,I,H⟩:=J t L
   obtain⟨ob,k1,k2,k3,_⟩:=Z p O;show(τ2 t).1≠(β2 p.1).1\/(τ2 t).2.1=(τ2 t).2.2;rw[a4 t I,a3 _ k3];exact z.tko t y (p.1,ob) k1
 ·intro t L u hu d7
  show kZ (τ2 t) (τ2 u)\/(τ2 t).2.1=(τ2 t).2.2\/(τ2 u).2.1=(τ2 u).2.2;rcases ak.1 L with L|L<;>rcases ak.1 hu with hu|hu
  ·obtain⟨t',a8,rfl⟩:=aQ.1 L
   obtain⟨u',a9,rfl⟩:=aQ.1 hu;rw[F t' (a7 t' a8),F u' (a7 u' a9)];exact hH.tkd t' a8 u' a9 (fun e=>d7 (by rw[e]))
  ·obtain⟨t',a8,rfl⟩:=aQ.1 L
   obtain⟨y,I,H⟩:=J u hu;rw[F t' (a7 t' a8),a4 u I];rcases U u y H with k|⟨k1,k2,k3⟩
   ·exact .inr (.inr k)
   ·rcases a5 t' a8 with g|g|⟨i,hi,g⟩|⟨v,hv,g1,g2⟩
    ·exact .inr (.inl g)
    ·exact .inl fun e=>by omega
    ·exact .inl fun e=>k2 i hi (g.trans e)
    ·refine .inl fun e=> ?_
     rcases k3 v hv with k|k
     ·exact g1 k
     ·exact k (g2.trans e)
  ·obtain⟨u',a9,rfl⟩:=aQ.1 hu
   obtain⟨y,I,H⟩:=J t L;rw[F u' (a7 u' a9),a4 t I];rcases U t y H with k|⟨k1,k2,k3⟩
   ·exact .inr (.inl k)
   ·rcases a5 u' a9 with g|g|⟨i,hi,g⟩|⟨v,hv,g1,g2⟩
    ·exact .inr (.inr g)
    ·exact .inl fun e=>by omega
    ·exact .inl fun e=>k2 i hi (g.trans e.symm)
    ·refine .inl fun e=> ?_
     rcases k3 v hv with k|k
     ·exact g1 k
     ·exact k (g2.trans e.symm)
  ·obtain⟨y,I,_⟩:=J t L
   obtain⟨H,h4,_⟩:=J u hu;rw[a4 t I,a4 u h4];exact z.tkd t y u H d7
 ·intro b hb
  have b4:¬(Ctx.took x2 w m.length mt.length).mine b:=fun h=>hb (a6 b h)
  exact(hH.ext b b4).trans (z.ext b hb)
end Go.Sy
namespace Go.Sy
variable [ba]
variable {P : Program} {C : Ctx} {x : Sit} {a : Act} {w : World} {N : Nat} {c c' : CSt} {s : St}
theorem vp(t:Tok):t.ren (fun k=>k)=t:=by cases t<;>rfl
theorem xah(sv:SV):sv.ren (fun k=>k) (fun k=>k)=sv:=by
 refine SV.rec (motive_1:=fun sv=>sv.ren (fun k=>k) (fun k=>k)=sv) (motive_2:=fun _=>True) (motive_3:=fun l=>SV.renL (fun k=>k) (fun k=>k) l=l)
  ?_ ?_ ?_ ?_ ?_ ?_ ?_ ?_ ?_ ?_ ?_ ?_ ?_ ?_ ?_ ?_ ?_ ?_ ?_ ?_ sv
 all_goals intros
 all_goals first
  |trivial
  |rfl
  |(simp only[SV.ren,SV.renL,vp];done)
  |(simp only[SV.ren,SV.renL, *])
theorem Z4{q:eg}(h:q.small=true):(∀p∈q.os,p.1<1000/\(∀k∈p.2.ids,k<1000)/\∀k∈p.2.toks,k<1000)/\(∀k∈q.r.ids,k<1000)/\(∀k∈q.r.toks,k<1000)/\∀k∈q.tk,k<1000:=by simp only[eg.small,aB,aT,decide_eq_true_eq]at h;obtain⟨⟨⟨y,F⟩,E⟩,H⟩:=h;exact⟨fun p z=>⟨(y p z).1.1,(y p z).1.2,(y p z).2⟩,F,E,H⟩
theorem m7{d:t9}{m:t8}{mt:List t9}{q:eg}{x2 x':Sit}{w':World}{v:Value}(hM:aM C x s a w)(H:Sim N c s)(hd:∀k,d=some k->k<N)(h:D9 x x2 c m mt)
 (hH:cW (Ctx.took x2 w m.length mt.length) x' q.os q.tk w') (E:Rep x' q.r v) (L:∀p∈q.os,p.2.wf=true) (hg:∀i,i<m.length->x'.bk i=x2.bk i) (Z:∀o∈m,inR (d.getD 0) o=false) (hs:q.small=true):
 M C N (jI c d m (cr mt) q) (a.put d v) w':=by
 obtain⟨s1,W,s3,s4⟩:=Z4 hs;have hE:=H.exact hM;obtain⟨I,g1,g2,g3,g4,g5,g6,g7⟩:=vo hE.heap h hH Z s1 s4 hg
 let Q:CSt:=⟨cR ((d.getD 0+1)*1000) ((d.getD 0+2)*1000) c.tm,qr (eY m (bm ((d.getD 0+1)*1000) ((d.getD 0+2)*1000) c.ob)) (oj (d.getD 0) m q.os),
  qt (l7 (cr mt) (bN ((d.getD 0+1)*1000) ((d.getD 0+2)*1000) c.tk)) (qm (d.getD 0) q.tk)⟩
 have U:Inv N Q:=by
  refine⟨fun p y=> ?_,zo ?_,fun p y=> ?_⟩
  ·obtain⟨r,E,e⟩:=jg y
   rw[e];exact H.inv.dom r E
  ·exact gg.sublist ((gP _ _).map cI) (ua H.inv.so)
  ·rcases mB y with e|e
   ·rw[uq]at e
    obtain⟨r,E,rfl⟩:=aQ.1 e;exact xf (L r E)
   ·obtain⟨_,ob,F,h2⟩:=co (jh.1 e).1
    rw[h2];exact pe (H.inv.wf _ F)
 have J:aM C I (Q.st N) a w':=by
  refine⟨⟨?_,fun i hi=> ?_⟩,hM.defers,g7.only (fun p y=> ?_) (iQ U.so) (fun t O=> ?_)⟩
  ·have:=hE.tm.1;simpa[CSt.st]using this
  ·have z:i<N:=by simpa[CSt.st]using hi
   have F:=hE.tm.2 i (by simpa[CSt.st]using z);simp only[CSt.st,aa,aR,cL z,bo,bj]at F ⊢;have e:Q.get i=(c.get i).purge ((d.getD 0+1)*1000) ((d.getD 0+2)*1000):=fS _ _ i c.tm;rw[e];exact F.mono (x':=I) g2 g5 g6
  ·rcases mB y with e|e
   ·exact ak.2 (.inl e)
   ·exact ak.2 (.inr e)
  ·rcases qM.1 O with e|e
   ·exact ak.2 (.inl e)
   ·exact ak.2 (.inr e)
 refine⟨I,_,J.put d (c:=q.r.ren (iw (d.getD 0) m) (j7 (d.getD 0))) ?_,(Sim.of U).put hd _⟩;exact Rep.renF (x:=x') (x2:=I) (fun b o v hv=>by rw[g1];exact hv) E (fun k hk=>g3 k (W k hk)) (fun t O=>g4 t (s3 t O))
theorem wx{call:cU}{g:Nat}{d:t9}{a_:t7}{vs:LAa}(hM:aM C x s a w)(hS:Sim N c s)(hd:∀k,d=some k->k<N)(Z:∀a_ os k q,call g a_ os k=some q->ma P g a_ os k (· =q))
 (E:lZ c d (call g (SV.bareL a_) [] 0)=some c') (L:cy x a_ vs):Calls P g ⟨vs⟩ w fun en w'=>∃v,en= .returned v/\M C N c' (a.put d v) w':=by
 cases hq:call g (SV.bareL a_) [] 0 with
 |none=>rw[hq]at E;cases E
 |some q=>
  rw[hq]at E
  have hb:cy x (SV.bareL a_) vs:=by rw[kh];refine⟨by simpa using L.1,fun i hi=> ?_⟩;rw[aU _ (by rfl)];exact(L.2 i (by simpa using hi)).bare rfl rfl
  obtain⟨_,J⟩:=Z _ _ _ _ hq
  by_cases y:q.bare=true
  ·simp only[lZ,y,nu,aq.injEq]at E
   subst E;have O:=tR (m:=[]) (os:=[]) (mo:=fun k=>k) (mt:=fun k=>k) hM (fun i hi=>by simp at hi) rfl (by simp) (fun i hi=>by simp at hi);refine(J (Ctx.callee x w [] (x.back (fun k=>k) (fun k=>k)).bk) x w vs rfl rfl ?_ (by simp) (by simp) O hb).mono ?_
   ·rintro b (h|⟨i,hi,_⟩)
    ·exact .inl h
    ·simp at hi
   ·rintro en w' ⟨v,x',q',rfl,H,hr,U,I,_⟩
    subst H;simp only[eg.bare,aB,List.isEmpty_iff]at y;obtain⟨⟨⟨b1,b2⟩,b3⟩,b4⟩:=y
    obtain⟨hG,hA⟩:=wt (m:=[]) (os:=[]) (mo:=fun k=>k) (mt:=fun k=>k) (lo:=0) (hi:=0) (β2:=x.bk) (τ2:=x.τ) hM rfl (fun i hi=>by simp at hi) U (fun i hi=>by simp at hi) (fun i hi=>by omega) (fun _ _=>rfl) (fun _ _=>rfl)
     (fun p z=>by rw[b1]at z;cases z) (fun p z=>by rw[b1]at z;cases z) (fun p z=>by rw[b1]at z;cases z) (fun p z=>by rw[b1]at z;cases z) (fun t F=>by rw[b2]at F;cases F)
    have W:cW C ⟨x'.G,x.bk,x.τ⟩ s.ob s.tk w':=by
     refine hA.only (fun p z=> ?_) hM.heap.nd (fun t F=> ?_)
     ·exact ak.2 (.inr (jh.2 ⟨by rw[EX];exact z,by simp⟩))
     ·exact ak.2 (.inr (bC.2 ⟨F,by omega⟩))
    refine⟨v,rfl,⟨x'.G,x.bk,x.τ⟩,_, ?_,hS.put hd q'.r⟩;refine aM.put ⟨cy.grow (x:=x) (x':=⟨x'.G,x.bk,x.τ⟩) hG rfl rfl hM.tm,hM.defers,W⟩ d ?_;have:=Rep.renF (x:=x') (x2:=⟨x'.G,x.bk,x.τ⟩) (mo:=fun k=>k) (mt:=fun k=>k) (fun _ _ _ h=>h) hr (fun k Q=>by rw[b3]at Q;cases Q) (fun t F=>by rw[b4]at F;cases F);rwa[xah]at this
  ·have a0:q.bare=false:=by simpa using y
   simp only[lZ,a0,nu]at E;cases hsm:q.small with
   |false=>rw[hsm]at E;cases E
   |true=>
    rw[hsm]at E;simp only[wz,aq.injEq]at E;subst E;have hE:=hS.exact hM;have hT:D9 x x c [] []:=⟨rfl,fun i hi=>by simp at hi,fun k Q=>by simp at Q,by simp,fun i hi=>by simp at hi,by simp[cr],fun t F=>by simp[cr]at F⟩;refine(J (Ctx.took x w 0 0) x w vs rfl rfl ?_ (by simp) (by simp) (qB hE.heap hT rfl (fun i hi=>by simp at hi)) hb).mono ?_
    ·rintro b h;exact h
    ·rintro en w' ⟨v,x',q',rfl,H,hr,U,I,_⟩
     subst H;exact⟨v,rfl,m7 hM hS hd hT U hr I (fun i hi=>by simp at hi) (fun o ho=>by simp at ho) hsm⟩
theorem vy{call:cU}{sg:Sig}{g:Nat}{d:t9}{a_:t7}{vs:LAa}(hM:aM C x s a w)(hS:Sim N c s)(hd:∀k,d=some k->k<N)(c4:∀a_ os k q,call g a_ os k=some q->ma P g a_ os k (· =q))
 (F:jz call sg d g (c,a_)=some c') (b7:cy x a_ vs):Calls P g ⟨vs⟩ w fun en w'=>∃v,en= .returned v/\M C N c' (a.put d v) w':=by
 simp only[jz]at F;generalize hz:jM c.tk sg.own 50 0 a_=z at F;obtain⟨I,E⟩:=z;simp only[nh]at F;generalize dz c 60 [] (SV.idsL I)=m at F;cases ho:gq c m with
 |none=>rw[ho]at F;cases F
 |some J=>
  rw[ho]at F;simp only[lf]at F;generalize W:dQ c.tk (50+E.length) J=z2 at F;obtain⟨os,H⟩:=z2;simp only[ng]at F;cases hb:(nW (SV.idsL I++fB os) m&&dq m&&dq (cr (E++H))&&decide (m.length<=40)&&m.all fun o=> !inR (d.getD 0) o)with
  |false=>rw[hb]at F;cases F
  |true=>
   rw[hb]at F;simp only[nf]at F;simp only[aB,decide_eq_true_eq,aT,du]at hb;obtain⟨⟨⟨⟨a3,b4⟩,b5⟩,d3⟩,b8⟩:=hb;cases hq:call g (SV.renL (gz m) id I) (dX (gz m) id os) (E.length+H.length)with
   |none=>rw[hq]at F;cases F
   |some q=>
    rw[hq]at F;simp only[oe]at F;cases hsm:q.small with
    |false=>rw[hsm]at F;cases F
    |true=>
     rw[hsm]at F;simp only[vB,aq.injEq]at F;subst F;have hE:=hS.exact hM;obtain⟨d4,c3⟩:=pq ho
     let τ2:Nat->Nat×Nat×Nat:=fun t=>if 50<=t/\t<50+(E++H).length then Nl x ((E++H).getD (t-50) none)else(0,0,0)
     let x1:Sit:=⟨x.G,x.bk,τ2⟩
     let x2:Sit:=⟨x.G,fun i=>x.bk (m.getD i 0),τ2⟩
     have hτ:∀y:Sit,y.τ=τ2->nO x y 50 (E++H):=by
      intro y hy k hk;rw[hy];show(if _ then _ else _)=_;rw[if_pos ⟨by omega,by omega⟩]
      congr 2;omega
     have Q:∀i,i<m.length->(m.getD i 0,J.getD i (.rc []))∈c.ob:=fun i hi=>gZ (c3 i hi)
     have O:=tY a3;have a0:=jf b4
     have hT:D9 x x2 c m (E++H):=by
      refine⟨rfl,fun _ _=>rfl,hτ x2 rfl,a0,fun i hi=>⟨_,Q i hi⟩,jf b5,fun t ht=> ?_⟩;rw[fy,ak]at ht;rcases ht with ht|ht
      ·have:=nU (tk:=c.tk) (own:=sg.own) (cs:=a_) (j:=50) (i:=0) t (by rw[hz];exact ht)
       exact this
      ·have:=mw (tk:=c.tk) (obs:=J) (j:=50+E.length) t (by rw[W];exact ht)
       exact this
     have Z:=hτ x1 rfl
     have a6:cy x1 I vs:=by have:=lN (x:=x) (x1:=x1) rfl rfl (tk:=c.tk) (own:=sg.own) (j:=50) (i:=0) b7 (by rw[hz];exact Z.left);rwa[hz]at this
     have hβ:∀o∈m,x2.bk (gz m o)=x.bk o:=fun o ho=>by show x.bk (m.getD (gz m o) 0)=_;rw[(mh ho).2]
     have b3:cy x2 (SV.renL (gz m) id I) vs:=by
      rw[eW];refine⟨by simpa using a6.1,fun i hi=> ?_⟩;have a4:i<I.length:=by simpa using hi
      rw[aU _ (by rfl)];exact Rep.renF (x:=x1) (x2:=x2) (fun _ _ _ h=>h) (a6.2 i a4) (fun k hk=>hβ k (O k (ak.2 (.inl (kV a4 k hk))))) (fun t _=>rfl)
     obtain⟨a1,L⟩:=ld (x:=x) (x1:=x1) (w:=w) rfl rfl (tk:=c.tk) (obs:=J) (j:=50+E.length) (f:=fun i=>m.getD i 0)
      (fun i hi=>(hE.heap.obs _ (Q i (by omega))).1) (by rw[W];exact Z.right)
     rw[W]at a1 L;simp only at a1 L
     have a8:∀i,i<m.length->dx x2 w i ((dX (gz m) id os).getD i (.rc [])):=by
      intro i hi;have h1:=L i (by omega);have a7:i<os.length:=by omega
      have e:(dX (gz m) id os).getD i (.rc [])=(os.getD i (.rc [])).ren (gz m) id:=by rw[fW,aa,aa,aR,ab a7];rfl
      rw[e];have a2:=fH (m:=m) hi;have c7:os.getD i (.rc [])∈os:=by rw[aa,ab a7];exact bn _
      have h2:=h1.renF (x2:=x2) (mo:=gz m) (mt:=id) (fun _ _ _ h=>h) (hβ _ a2) (fun k hk=>hβ k (O k (ak.2 (.inr (oC c7 k hk))))) (fun t _=>rfl);have e2:gz m (m.getD i 0)=i:=li a0 (mh a2).1 hi (mh a2).2;rwa[e2]at h2
     have a9:(dX (gz m) id os).length=m.length:=by rw[fW,aS];omega
     obtain⟨_,b2⟩:=c4 _ _ _ _ hq;have a5:E.length+H.length=(E++H).length:=by simp
     rw[a5]at b2;refine(b2 (Ctx.took x2 w m.length (E++H).length) x2 w vs rfl rfl ?_ (by omega) ?_ (qB hE.heap hT a9 a8) b3).mono ?_
     ·rintro b h;rw[a9];exact h
     ·intro o U
      rw[fW]at U;obtain⟨r,hr,rfl⟩:=aQ.1 U;refine xf ?_
      have:=mu (tk:=c.tk) (obs:=J) (j:=50+E.length) (fun o h'=>by obtain⟨i,hi,rfl⟩:=bM h';have:=hS.inv.wf _ (Q i (by omega));simpa[aa,ab hi]using this) r (by rw[W];exact hr)
      exact this
     ·rintro en w' ⟨v,x',q',rfl,b6,hr,hH,c6,hg⟩
      subst b6;exact⟨v,rfl,m7 hM hS hd hT hH hr c6 (fun i hi=>hg i (by omega)) (fun o U=>b8 o U) hsm⟩
theorem tU{call:cU}{sg:Sig}{g:Nat}{d:t9}{a_:t7}{vs:LAa}(hM:aM C x s a w)(E:Sim N c s)(hd:∀k,d=some k->k<N)(y:∀a_ os k q,call g a_ os k=some q->ma P g a_ os k (· =q))
 (h:gX call sg c d g a_=some c') (z:cy x a_ vs):Calls P g ⟨vs⟩ w fun en w'=>∃v,en= .returned v/\M C N c' (a.put d v) w':=by
 unfold gX at h;generalize ((SV.idsL a_).isEmpty&&sg.own.isEmpty)=b at h;cases b with
 |true=>exact wx hM E hd y h z
 |false=>simp only[jH]at h;obtain⟨x1,J,F,I,H⟩:=i0 (l:=iG sg.raw 0 a_) hM E z;exact vy F I hd y h H
end Go.Sy
namespace Go.Sy
variable [ba]
variable {P : Program} {C : Ctx} {x : Sit} {a : Act} {w : World} {N : Nat} {c c' : CSt} {s : St} {call : cU} {sg : Nat -> Sig}
def fV(P:Program)(call:cU):Prop:=∀g a_ os k q,call g a_ os k=some q->ma P g a_ os k (· =q)
theorem wG{sg:Sig}{d:t9}{g:Nat}{a_:t7}(h:gX call sg c d g a_=some c'):∃J os k q,call g J os k=some q:=by
 unfold gX at h;generalize ((SV.idsL a_).isEmpty&&sg.own.isEmpty)=b at h;cases b with
 |true=>
  simp only[jH]at h;cases hq:call g (SV.bareL a_) [] 0 with
  |none=>rw[hq]at h;cases h
  |some q=>exact⟨_,_,_,q,hq⟩
 |false=>
  simp only[jH]at h;generalize eF c a_ (iG sg.raw 0 a_)=z at h;obtain⟨c1,I⟩:=z;simp only[jz]at h;generalize jM c1.tk sg.own 50 0 I=z at h;obtain⟨y,E⟩:=z;simp only[nh]at h;cases ho:gq c1 (dz c1 60 [] (SV.idsL y))with
  |none=>rw[ho]at h;cases h
  |some H=>
   rw[ho]at h;simp only[lf]at h;generalize dQ c1.tk (50+E.length) H=z at h;obtain⟨os,F⟩:=z;simp only[ng]at h;generalize (nW (SV.idsL y++fB os) (dz c1 60 [] (SV.idsL y))&&dq (dz c1 60 [] (SV.idsL y))&&dq (cr (E++F))&&decide ((dz c1 60 [] (SV.idsL y)).length<=40)&&(dz c1 60 [] (SV.idsL y)).all fun o=> !inR (d.getD 0) o)=b at h;cases b with
   |false=>cases h
   |true=>
    simp only[nf]at h;cases hq:call g (SV.renL (gz (dz c1 60 [] (SV.idsL y))) id y) (dX (gz (dz c1 60 [] (SV.idsL y))) id os) (E.length+F.length)with
    |none=>rw[hq]at h;cases h
    |some q=>exact⟨_,_,_,q,hq⟩
theorem cW.freeze{ob:List (Nat×aC)}{tk:t8}(h:cW C x ob tk w){b:Nat}(hb:C.mine b)(ho:∀p∈ob,(x.bk p.1).1≠b)(ht:∀t∈tk,(x.τ t).1≠b\/(x.τ t).2.1=(x.τ t).2.2)(off n:Nat):
 cW C x ob tk (w.freeze ⟨b,off,none⟩ n):=by
 have z:∀y,y≠b->(w.freeze ⟨b,off,none⟩ n).heap[y]? =w.heap[y]? :=by
  intro y J;unfold World.freeze;split
  ·rfl
  ·simp only[Array.getElem?_modify,if_neg (Ne.symm J)]
 have F:∀y i,(w.freeze ⟨b,off,none⟩ n).cell? ⟨y,i,none⟩=w.cell? ⟨y,i,none⟩:=by
  intro y i
  by_cases J:y=b
  ·subst J
   unfold World.freeze;split
   ·rfl
   ·simp only[World.cell?,Array.getElem?_modify,if_true]
    cases hw:w.heap[y]? with
    |none=>rfl
    |some q=>cases q<;>rfl
  ·exact db (z y J)
 have Q:(w.freeze ⟨b,off,none⟩ n).heap.size=w.heap.size:=by unfold World.freeze;split<;>simp
 have E:(w.freeze ⟨b,off,none⟩ n).os=w.os/\(w.freeze ⟨b,off,none⟩ n).tape=w.tape/\(w.freeze ⟨b,off,none⟩ n).output=w.output:=by unfold World.freeze;split<;>exact⟨rfl,rfl,rfl⟩
 refine⟨fun y i v hv=>by rw[F];exact h.per y i v hv,h.g0,h.gm,h.new,fun p W=> ?_,h.nd,h.inj,fun t H=> ?_,h.tko,h.tkd,E.1.trans h.os,E.2.1.trans h.tape,E.2.2.trans h.output,by rw[Q];exact h.size,fun y I=> ?_,h.pin,h.lay⟩
 ·obtain⟨⟨O,e,fl,fh,U,r⟩,q⟩:=h.obs p W
  exact⟨⟨O,e,fl,fh,U.of_heap (z _ (ho p W)),r⟩,q⟩
 ·rcases h.tks t H with Z|⟨⟨O,e,fl,fh,U,h2⟩,h3⟩
  ·exact .inl Z
  ·rcases ht t H with L|L
   ·exact .inr ⟨⟨O,e,fl,fh,U.of_heap (z _ L),h2⟩,h3⟩
   ·exact .inl L
 ·rw[z y (fun e=>I (e ▸ hb))];exact h.ext y I
theorem OX{o:Oper}{q:Arg}(y:bq P o=some (.slid q)):∃z X e,o.op= .convert z z X/\P.underlying z=some (.slice e)/\lC P e=true/\bp P z X=some q:=by
 cases ho:o.op with
 |convert z dst X=>
  simp only[bq,ho]at y;split at y<;>try (cases y;done)
  ·split at y<;>cases y
  ·split at y<;>cases y
  ·rename_i e H I hd hX
   split at y<;>try (cases y;done)
   rename_i E;simp only[aB,decide_eq_true_eq]at E;obtain⟨rfl,F⟩:=E;cases y;exact⟨z,X,e,rfl,hd,F,hX⟩
 |_=>exfalso;exact absurd y (by
  intro y;simp only[bq,ho]at y
  first
   |(cases y;done)
   |(obtain⟨_,_,h⟩:=ah.1 y;cases h;done)
   |(repeat' split at y)<;>first|(cases y;done)|contradiction|(obtain⟨_,_,h⟩:=ah.1 y;first|(cases h;done)|(split at h<;>cases h;done)))
theorem ES{o:Oper}{E:List Arg}(y:bq P o=some (.newB E)):False:=by
 cases ho:o.op with
 |buildSlice t len z=>
  simp only[bq,ho]at y;split at y<;>try (cases y;done)
  split at y<;>try (cases y;done)
  split at y<;>try (cases y;done)
  obtain⟨_,_,h⟩:=ah.1 y;split at h<;>cases h
 |_=>
  simp only[bq,ho]at y
  first
   |(cases y;done)
   |(obtain⟨_,_,h⟩:=ah.1 y;cases h;done)
   |(repeat' split at y)<;>first|(cases y;done)|contradiction|(obtain⟨_,_,h⟩:=ah.1 y;first|(cases h;done)|(split at h<;>cases h;done))
theorem CL{o:Oper}{z:t7}{b:Nat}{q y:Arg}(E:bq P o=some (.appO z b q y)):False:=by
 cases ho:o.op with
 |buildSlice t len F=>
  simp only[bq,ho]at E;split at E<;>try (cases E;done)
  split at E<;>try (cases E;done)
  split at E<;>try (cases E;done)
  obtain⟨_,_,h⟩:=ah.1 E;split at h<;>cases h
 |_=>
  simp only[bq,ho]at E
  first
   |(cases E;done)
   |(obtain⟨_,_,h⟩:=ah.1 E;cases h;done)
   |(repeat' split at E)<;>first|(cases E;done)|contradiction|(obtain⟨_,_,h⟩:=ah.1 E;first|(cases h;done)|(split at h<;>cases h;done))
theorem xfY{ops:Array Oper}{o:Oper}{i:SI}(h:fQ P ops o=some i):i.er=i:=by
 obtain⟨E,_,_⟩:=ks h;obtain⟨d,g,op⟩:=i
 have:op.er=op:=by
  cases op with
  |appO z b q y=>
   rcases E with E|⟨xs,e,_⟩
   ·exact(CL E).elim
   ·cases e
  |_=>rfl
 show SI.mk d g op.er=_;rw[this]
theorem vF{o:Oper}{q:Arg}(h:M C N c a w)(hr:bq P o=some (.slid q))(hd:∀k,o.dst=some k->k<N)(z:ql c o.dst (c.ev q)=some c'){K:LAf}{Q:LAe}(hK:∀a w,M C N c' a w->K a w):o.wp P a w K Q:=by
 obtain⟨x,s,hM,L⟩:=h;unfold ql at z;split at z<;>try (cases z;done)
 rename_i y off n cap hq;unfold og at z;split at z<;>try (cases z;done)
 rename_i l hl;split at z<;>try (cases z;done)
 rename_i H;obtain⟨hb,rfl⟩:=H;cases z;obtain⟨a5,X,e,ho,hu,h8,hX⟩:=OX hr;have hv:=aJ hM hX;rw[L.ev,hq]at hv;obtain⟨cp,a6,a4,U,W,a3⟩:=hv.psl_inv;have E:s.look y=some (.bar l):=(L.look y).trans hl;obtain⟨cc,e',fl,fh,hO,a7,_⟩:=eo hM E;have a0:=hM.heap.obs _ (cO E);obtain⟨x',⟨hβ,hτ⟩,hp,Z,F,J⟩:=ow hl (fun cs e=>by cases e) hM L
 have I:Rep x' (.byt ((l.drop off).take n) .clip) (a.eval X):=by have:=hp _ _ hv;simpa only[SV.pub,if_true,v6,true_and,if_pos hb]using this
 have h1:∀p∈Z.ob,(x'.bk p.1).1≠(x.bk y).1:=by intro p a2 e;rw[hβ]at e;have h2:Z.look p.1=some p.2:=oF F.heap.nd a2;rw[J.look]at h2;obtain⟨h3,q',h4,_⟩:=kd (gZ h2);have h5:=iT (iQ L.inv.so) h4;exact h3 (hM.heap.inj (p.1,q') (cO ((L.look p.1).trans h5)) _ (cO E) e)
 have h2:∀t∈Z.tk,(x'.τ t).1≠(x.bk y).1\/(x'.τ t).2.1=(x'.τ t).2.2:=by intro t ht;rw[hτ];exact hM.heap.tko t ((L.tk t).2 ((J.tk t).1 ht)) _ (cO E)
 have a1:aM C x' Z a (w.freeze ⟨(x.bk y).1,cc.size,none⟩ 1):=⟨F.tm,F.defers,F.heap.freeze a0.2.1 h1 h2 _ _⟩
 have O:(execOp a.eval o).run P w= .ok (.value (a.eval X)) (w.freeze ⟨(x.bk y).1,cc.size,none⟩ 1):=by have hm:(markStringish ⟨(x.bk y).1,U,none⟩).run P w= .ok () (w.freeze ⟨(x.bk y).1,cc.size,none⟩ 1):=eh (e:=e') (by simp only[World.shape?,hO.1]);simp only[execOp,ho,W,convert,az,run_underlying hu,aj,beq_self_eq_true,run_underlying (iV h8),hm,aF]
 refine cQ ⟨a.eval X,_,x',_,O,.inl rfl,a1.put o.dst I⟩ (k:=Sim N _) ?_ hK;have e1:(c.publish y []).1=⟨lx y (.bar l) c.tm,kQ y (.bar l) c.ob,c.tk⟩:=by unfold CSt.publish;rw[hl]
 rw[e1];exact J.put hd _
theorem oD{o:Oper}{O:List Arg}(h:M C N c a w)(L:bq P o=some (.litB O))(hd:∀k,o.dst=some k->k<N)(z:nq c o.dst (toB (evL c O))=some c'){K:LAf}{Q:LAe}(hK:∀a w,M C N c' a w->K a w):o.wp P a w K Q:=by
 obtain⟨x,s,hM,J⟩:=h;rw[J.evL]at z;unfold nq at z;split at z<;>try (cases z;done)
 rename_i k l U W;cases z;obtain⟨t,len,F,Z⟩:=PR L;obtain⟨r,e,E,H,y⟩:=vN hM Z L W
 have I:=hM.newObj (d:=k+100) o.dst (by omega) (.bar l) (val:= .psl (k+100) 1 0 l.length (some l.length)) (u:= .slice (some ⟨w.heap.size,0,none⟩) l.length l.length) (t:=e) H (fun i hi=>by
  show cE x.G (.u8 (l.getD i 0)) _;rw[y i hi];exact .u8 _) (by
  have:=Rep.psl (x:=x.newO (k+100) w.heap.size) (k+100) 1 0 l.length (some l.length) 0 l.length (.inr rfl) (aN _) (fun _ e=>by cases e;rfl) (fun e=>by cases e);rwa[iR]at this)
 refine cQ ⟨_,_,_,_,E,.inl rfl,I⟩ (k:=Sim N _) ?_ hK;have:=J.app hd (e:= {val:= .psl (k+100) 1 0 l.length (some l.length),new:=some (.bar l)}) (f:= {pre:=True,val:= .psl (k+100) 1 0 l.length (some l.length),new:=some (.bar l)}) ⟨rfl,rfl,rfl,rfl,rfl⟩ ⟨fun ob he=>by cases he;rfl,.inl rfl⟩;rw[U]at this ⊢;exact this
theorem FH(hM:aM C x s a w)(y:Sim N c s){g:Nat}{t:Bool}(h:c.get g= .bool t):a.tmps[g]? =some (.bool t):=(FK hM (by rw[y.get];exact h)).2.1
theorem tH{ops:Array Oper}{o:Oper}{j g:Nat}{b:Bool}(h:o.guard=some (j,b))(E:(ops[j]?).bind (·.dst)=some g)(y:∀t,a.tmps[g]? ≠some (.bool t)):Region.wanted o (yielded ops a.tmps)=false:=by
 have z:yielded ops a.tmps j=none:=by
  unfold yielded;rw[E,cP];cases hv:a.tmps[g]? with
  |none=>rfl
  |some v=>
   cases v with
   |bool t=>exact absurd hv (y t)
   |_=>rfl
 simp only[Region.wanted,h,z];rfl
theorem up{x:Sit}:Rep x (.tup []) undef:= .tup [] [] rfl fun i hi=>by simp at hi
theorem FJ(hM:aM C x s a w)(z:Sim N c s){g:Nat}(h:c.get g= .tup []):∀t,a.tmps[g]? ≠some (.bool t):=by
 intro t E;have y:=hM.slot g;rw[z.get,h]at y
 have F:a.tmps.getD g undef= .bool t:=by rw[bg,E];rfl
 replace y:Rep x (.tup []) (a.tmps.getD g undef):=y;rw[F]at y;cases y with
 |dat _ _ h _=>cases h
theorem Gn{o:Oper}{q:Arg}(y:bq P o=some (.s2b q)):∃z dst X e,o.op= .convert z dst X/\P.underlying z=some .string/\P.underlying dst=some (.slice e)/\lC P e=true/\bp P z X=some q:=by
 cases ho:o.op with
 |convert z dst X=>
  simp only[bq,ho]at y;split at y<;>try (cases y;done)
  ·split at y<;>cases y
  ·rename_i e H F hd hX
   split at y<;>try (cases y;done)
   rename_i E;cases y;exact⟨z,dst,X,e,rfl,F,hd,E,hX⟩
  ·split at y<;>cases y
 |_=>exfalso;exact absurd y (by
  intro y;simp only[bq,ho]at y
  first
   |(cases y;done)
   |(obtain⟨_,_,h⟩:=ah.1 y;cases h;done)
   |(repeat' split at y)<;>first|(cases y;done)|contradiction|(obtain⟨_,_,h⟩:=ah.1 y;first|(cases h;done)|(split at h<;>cases h;done)))
theorem xcY{o:Oper}{z:t7}{b:Nat}{q r:Arg}(y:bq P o=some (.app z b q r)):∃E,o.op= .call E/\E.callee= .builtin .append:=by
 cases ho:o.op with
 |call E=>
  refine⟨E,rfl, ?_⟩;cases hb:E.callee with
  |builtin F=>
   cases F with
   |append=>rfl
   |_=>
    exfalso;simp only[bq,ho,hb]at y
    first
     |(cases y;done)
     |(repeat' split at y)<;>first|(cases y;done)|contradiction
  |_=>
   exfalso;simp only[bq,ho,hb]at y
   first
    |(cases y;done)
    |(repeat' split at y)<;>first|(cases y;done)|contradiction
 |_=>exfalso;exact absurd y (by
  intro y;simp only[bq,ho]at y
  first
   |(cases y;done)
   |(obtain⟨_,_,h⟩:=ah.1 y;cases h;done)
   |(repeat' split at y)<;>first|(cases y;done)|contradiction|(obtain⟨_,_,h⟩:=ah.1 y;first|(cases h;done)|(split at h<;>cases h;done)))
theorem aM.newObjF(hM:aM C x s a w){d:Nat}(E:t9)(y:100<=d){cv:LAb}{t:TypeId}{fl fh:Nat}(obj:aC){val:SV}{u:Value}(U:∀i,i<cv.size->¬(fl<=i/\i<fh))(L:obj.size<=cv.size)(H:∀k,k<obj.size->cj x obj k (cv.getD k undef))
 (z:obj.arrB=true->¬(fl<=cv.size/\cv.size<fh)) (Q:Rep (x.newO d w.heap.size cv.size) val u) {w':World} (I:w'.heap=(w.alloc (.cells cv t (fl,fh))).heap) (F:w'.os=w.os) (O:w'.tape=w.tape) (J:w'.output=w.output):
 aM C (x.newO d w.heap.size cv.size) (((s.purge d (d+1)).addO d (obj.purge d (d+1))).put E val) (a.put E u) w':=by
 refine aM.put ⟨?_,hM.defers, ?_⟩ E Q
 ·exact cy.mono (x:=x) (x':=x.newO d w.heap.size cv.size) (lo:=d) (hi:=d+1) (fun _ _ _ h=>h) (Sit.newO_ne x d _) (fun _ _=>rfl) hM.tm
 ·exact cW.congr (w:=w.alloc (.cells cv t (fl,fh))) (hM.heap.allocO d y obj U L H (aN _) z) I F O J
theorem aM.drew(hM:aM C x s a w):aM C x s a w.drew:=⟨hM.tm,hM.defers,hM.heap.drew⟩
theorem wb{o:Oper}{q:Arg}(h:M C N c a w)(hr:bq P o=some (.s2b q))(hd:∀k,o.dst=some k->k<N)(F:PB c o.dst (c.ev q)=some c'){K:LAf}{Q:LAe}(hK:∀a w,M C N c' a w->K a w):o.wp P a w K Q:=by
 obtain⟨x,s,hM,Z⟩:=h;unfold PB at F;split at F<;>try (cases F;done)
 rename_i k l hk hl;cases F;obtain⟨a0,dst,X,e,ho,hs,H,h8,hX⟩:=Gn hr;have U:=iV h8;have W:=aJ hM hX;rw[Z.ev,hl]at W;have hf:(Question.appendCap (ByteArray.mk ⟨l⟩).size 0 e).forced=false:=rfl
 obtain⟨cp,I,J⟩:∃cp,(Question.appendCap (ByteArray.mk ⟨l⟩).size 0 e).cut (w.tape w.drawn (Question.appendCap (ByteArray.mk ⟨l⟩).size 0 e))=cp/\l.length<=cp:=by
  refine⟨_,rfl, ?_⟩;simp only[Question.cut];have:(ByteArray.mk ⟨l⟩).size=l.length:=by simp[ByteArray.size]
  omega
 let cs:LAb:=(ByteArray.mk ⟨l⟩).data.map (fun b=> .int .u8 b.toNat)++dO (cp-(ByteArray.mk ⟨l⟩).size) (.int .u8 0)
 have E:(ByteArray.mk ⟨l⟩).size=l.length:=by simp[ByteArray.size]
 have L:cs.size=cp:=by simp[cs,E];omega
 have z:∀i,i<l.length->cs[i]? =some (.int .u8 (l.getD i 0).toNat):=by intro i hi;simp only[cs];rw[Array.getElem?_append_left (by simpa using hi)];simp[hi,aa]
 have y:(execOp a.eval o).run P w= .ok (.value (.slice (some ⟨w.heap.size,0,none⟩) l.length cp)) ((w.drew.alloc (.cells cs e (0,0))).freeze ⟨w.heap.size,cs.size,none⟩ 1):=by simp only[execOp,ho,W.str_inv,convert,az,run_underlying hs,run_underlying H,aj,run_underlying U,Conv.stringToBytes,run_choose_drew,hf,aI,if_false,I,newRow,run_newObj_alloc,aF];rw[eh (e:=e) (n:=cs.size) (by simp only[World.shape?];rw[dw])];simp only[aj,E];rfl
 have O:=hM.drew.newObjF (d:=k+100) o.dst (by omega) (.bar l) (cv:=cs) (t:=e) (fl:=cs.size) (fh:=cs.size+1) (val:= .psl (k+100) 1 0 l.length none) (u:= .slice (some ⟨w.heap.size,0,none⟩) l.length cp) (fun i hi h=>by omega) (by simp only[aC.size];omega) (fun i hi=>by
  simp only[aC.size]at hi;show cE x.G (.u8 (l.getD i 0)) _;have:cs.getD i undef= .int .u8 (l.getD i 0).toNat:=by rw[bg,z i hi];rfl
  rw[this];exact .u8 _) (fun h=>by cases h) (by
  have:=Rep.psl (x:=x.newO (k+100) w.drew.heap.size cs.size) (k+100) 1 0 l.length none 0 cp (.inr rfl) J (fun _ e=>by cases e) (fun _=> .inr (by rw[mf,L];omega));rw[iR]at this;exact this) (gr w.drew cs e) rfl rfl rfl
 refine cQ ⟨_,_,_,_,y,.inl rfl,O⟩ (k:=Sim N _) ?_ hK;have:=Z.app hd (e:= {val:= .psl (k+100) 1 0 l.length none,new:=some (.bar l)}) (f:= {pre:=True,val:= .psl (k+100) 1 0 l.length none,new:=some (.bar l)}) ⟨rfl,rfl,rfl,rfl,rfl⟩ ⟨fun ob U=>by cases U;rfl,.inl rfl⟩;rw[hk]at this ⊢;exact this
theorem vu{o:Oper}{q:Arg}(h:M C N c a w)(hr:bq P o=some (.s2b q))(hd:∀k,o.dst=some k->k<N)(I:OK c o.dst (c.ev q)=some c'){K:LAf}{Q:LAe}(hK:∀a w,M C N c' a w->K a w):o.wp P a w K Q:=by
 obtain⟨x,s,hM,hS⟩:=h;unfold OK at I;split at I<;>try (cases I;done)
 rename_i k l hk hl;cases I;obtain⟨a3,dst,X,e,ho,hs,L,h8,hX⟩:=Gn hr;have he:=iV h8;have J:=aJ hM hX;rw[hS.ev,hl]at J;have hf:(Question.appendCap (ByteArray.mk ⟨l⟩).size 0 e).forced=false:=rfl
 obtain⟨cp,O,W⟩:∃cp,(Question.appendCap (ByteArray.mk ⟨l⟩).size 0 e).cut (w.tape w.drawn (Question.appendCap (ByteArray.mk ⟨l⟩).size 0 e))=cp/\l.length<=cp:=by
  refine⟨_,rfl, ?_⟩;simp only[Question.cut];have:(ByteArray.mk ⟨l⟩).size=l.length:=by simp[ByteArray.size]
  omega
 let cs:LAb:=(ByteArray.mk ⟨l⟩).data.map (fun b=> .int .u8 b.toNat)++dO (cp-(ByteArray.mk ⟨l⟩).size) (.int .u8 0)
 have F:(ByteArray.mk ⟨l⟩).size=l.length:=by simp[ByteArray.size]
 have a4:cs.size=cp:=by simp[cs,F];omega
 have E:∀i,i<l.length->cs[i]? =some (.int .u8 (l.getD i 0).toNat):=by intro i hi;simp only[cs];rw[Array.getElem?_append_left (by simpa using hi)];simp[hi,aa]
 have z:(execOp a.eval o).run P w= .ok (.value (.slice (some ⟨w.heap.size,0,none⟩) l.length cp)) ((w.drew.alloc (.cells cs e (0,0))).freeze ⟨w.heap.size,cs.size,none⟩ 1):=by simp only[execOp,ho,J.str_inv,convert,az,run_underlying hs,run_underlying L,aj,run_underlying he,Conv.stringToBytes,run_choose_drew,hf,aI,if_false,O,newRow,run_newObj_alloc,aF];rw[eh (e:=e) (n:=cs.size) (by simp only[World.shape?];rw[dw])];simp only[aj,F];rfl
 have hG:∀o,x.G w.heap.size o=none:=by
  intro o;cases hg:x.G w.heap.size o with
  |none=>rfl
  |some v=>exact absurd (hM.heap.ltG hg) (by omega)
 have U:=hM.heap.newD_le cs l.length;have hH:cW C (x.newD w.heap.size cs l.length) s.ob s.tk (w.drew.alloc (.cells cs e (cs.size,cs.size+1))):=hM.heap.drew.allocD l.length;have H:eQ (w.drew.alloc (.cells cs e (cs.size,cs.size+1))) w.heap.size cs e cs.size (cs.size+1):=⟨dw (w:=w.drew),fun i _ h=>by omega⟩
 have a0:cW C ((x.newD w.heap.size cs l.length).newT (k+100) w.heap.size l.length cp) (bm (k+100) (k+100+1) s.ob) ((k+100)::bN (k+100) (k+100+1) s.tk) (w.drew.alloc (.cells cs e (cs.size,cs.size+1))):=by
  refine hH.addT (k+100) w.heap.size _ _ (.inr ⟨⟨cs,e,_,_,H,by omega⟩,hM.heap.new _ hM.heap.size,fun o J h2=> ?_⟩) (.inr fun p hp _=> ?_) (.inr fun u hu _=> ?_)
  ·simp only[Sit.newD];rw[if_neg (by omega)];exact hG o
  ·obtain⟨⟨c2,e2,Z,a1,y,_⟩,_⟩:=hM.heap.obs p hp
   have:=y.lt;show w.heap.size≠(x.bk p.1).1;omega
  ·rcases hM.heap.tks u hu with h|⟨⟨c2,e2,Z,a1,y,_⟩,_⟩
   ·exact .inr h
   ·have:=y.lt
    exact .inl (by show w.heap.size≠(x.τ u).1;omega)
 have a2:aM C ((x.newD w.heap.size cs l.length).newT (k+100) w.heap.size l.length cp) ((s.grew .no (k+100)).put o.dst (.byt l (.id (k+100)))) (a.put o.dst (.slice (some ⟨w.heap.size,0,none⟩) l.length cp)) ((w.drew.alloc (.cells cs e (0,0))).freeze ⟨w.heap.size,cs.size,none⟩ 1):=by
  refine aM.put ⟨?_,hM.defers, ?_⟩ o.dst ?_
  ·exact cy.mono (x:=x) (x':=(x.newD w.heap.size cs l.length).newT (k+100) w.heap.size l.length cp) (lo:=k+100) (hi:=k+100+1) U (fun _ _=>rfl) (Sit.newT_ne (x.newD w.heap.size cs l.length) (k+100) _ _ _) hM.tm
  ·exact cW.congr (w:=w.drew.alloc (.cells cs e (cs.size,cs.size+1))) a0 (gr w.drew cs e) rfl rfl rfl
  ·refine .dat _ _ (.byt l _ w.heap.size 0 cp l.length rfl W fun i hi=> ?_) ⟨_,l.length,cp,rfl,.inr ⟨w.heap.size,0,rfl, ?_⟩⟩
   ·show(x.newD w.heap.size cs l.length).G w.heap.size (0+i)=_
    simp only[Sit.newD];rw[if_pos ⟨trivial,by omega⟩,cf];exact E i hi
   ·rw[Sit.newT_eq,iu,iu,cf,cf]
 refine cQ ⟨_,_,_,_,z,.inl rfl,a2⟩ (k:=Sim N _) ?_ hK;have:=hS.app hd (e:= {val:= .byt l (.id (k+100)),tok:=true}) (f:= {pre:=True,val:= .byt l (.id (k+100)),tok:=true}) ⟨rfl,rfl,rfl,rfl,rfl⟩ ⟨fun ob he=>(by cases he),.inl rfl⟩;rw[hk]at this ⊢;exact this
theorem rz(hM:aM C x s a w){t u I:TypeId}{d2:TypeDesc}{n F:Nat}{zs:LAa}(hd:P.underlying t=some (.slice I))(hu:P.underlying u=some d2)(a6:(∃e',d2= .slice e')\/d2= .string)(hn:fi P I=some n)(hb:sB P I=some F)
 (hz:fN P I=some zs) (hb0:F≠0) (hzl:zs.length=n) {ty:TypeId} {X Y:Value} {fl h:t7} {ns:LAa} {len m cap:Nat} (hX:Ce x.G n fl X len cap)
 (W:∀w',w'.heap=w.heap->(Builtin.lenOf Y).run P w'= .ok m w') (H:∀w',w'.heap=w.heap->(Builtin.firstCells n m Y).run P w'= .ok ns.toArray w') (a9:ns.length=m*n) (y:New x ns h) (J:(len+m)*F<=140737488355328) (hc:¬len+m<=cap):
 ∃L cv,len+m<=L/\(Builtin.append_ #[t,u] ty #[X,Y]).run P w= .ok (.slice (some ⟨w.heap.size,0,none⟩) (len+m) L) (w.drew.alloc (.cells cv I (0,0)))/\((fl++h).length<=cv.size/\L*n<=cv.size)/\∀k,k<(fl++h).length->cE x.G ((fl++h).getD k .undef) (cv.getD k undef):=by
 obtain⟨Z,b8,a2⟩:=hX;obtain⟨z,b6,b2⟩:=cC hz
 obtain⟨i,hi,a3⟩:∃i,P.info? I=some i/\i.bytes=F:=by
  unfold sB at hb;cases hi:P.info? I with
  |none=>simp[hi]at hb
  |some i=>simp[hi]at hb;exact⟨i,rfl,hb⟩
 obtain⟨bs,a5⟩:∃bs,X= .slice bs len cap:=by
  rcases a2 with⟨b,off,rfl,_⟩|⟨⟨a,rfl⟩,rfl,rfl⟩
  ·exact⟨_,rfl⟩
  ·exact⟨_,rfl⟩
 subst a5;have b7:h.length=m*n:=by rw[y.len,a9]
 obtain⟨os,b4,E,a0⟩:∃os:LAa,(∀w',w'.heap=w.heap->(Builtin.firstCells n len (.slice bs len cap)).run P w'= .ok os.toArray w')/\os.length=fl.length/\∀k,k<fl.length->cE x.G (fl.getD k .undef) (os.getD k undef):=by
  rcases a2 with⟨b,off,Q,hr⟩|⟨Q,h1,h2⟩
  ·simp only[Value.slice.injEq]at Q
   obtain⟨rfl,_⟩:=Q;refine⟨(bU (len*n)).map fun k=>(w.cell? ⟨b,off+k,none⟩).getD undef,fun w' a7=> ?_,by simp[Z],fun k U=> ?_⟩
   ·simp only[Builtin.firstCells]
    refine run_loadCells w' _ _ _ fun j hj=> ?_
    rw[cZ,db (w:=w) (by rw[a7])];obtain⟨v,hv,_⟩:=hr j (by omega);rw[hM.heap.per _ _ _ hv];rfl
   ·obtain⟨v,hv,b5⟩:=hr k U
    have:((bU (len*n)).map fun k=>(w.cell? ⟨b,off+k,none⟩).getD undef).getD k undef=v:=by rw[aa];simp[show k<len*n from by omega,hM.heap.per _ _ _ hv]
    rw[this];exact b5
  ·obtain⟨a,Q⟩:=Q
   simp only[Value.slice.injEq]at Q;obtain⟨rfl,rfl,_⟩:=Q;have:fl=[]:=cx.1 (by rw[<-Z,h1,iF]);subst this;exact⟨[],fun w' _=>by cases bs<;>simp only[Builtin.firstCells,iF]<;>rfl,rfl,fun k U=>by simp at U⟩
 obtain⟨L,b3,a1⟩:=ib (t:=t) (u:=u) (ty:=ty) (Y:=Y) hd hu a6 hn hi a3 hb0 b2 W H b4 hc J;refine⟨L,_,b3,a1, ?_,fun k U=> ?_⟩
 ·have a4:z.cells.size=n:=by rw[<-aO,b6];exact hzl
  have e3:len*n+m*n+(L-(len+m))*n=L*n:=by rw[<-bA,<-bA];congr 1;omega
  simp only[af,Array.size_append,List.size_toArray,E,<-y.len,dP,a4];omega
 ·have a8:k<os.length+ns.length:=by rw[E,<-y.len,<-af];exact U
  rw[bg,ii os ns _ k a8]
  by_cases O:k<fl.length
  ·have e1:(fl++h).getD k .undef=fl.getD k .undef:=by simp only[aa,bc O]
   have e2:((os++ns)[k]?).getD undef=os.getD k undef:=by simp only[aa,bc (show k<os.length by omega)]
   rw[e1,e2];exact a0 k O
  ·have e1:(fl++h).getD k .undef=h.getD (k-fl.length) .undef:=by simp only[aa,bw (Nat.le_of_not_lt O)]
   have e2:((os++ns)[k]?).getD undef=ns.getD (k-fl.length) undef:=by simp only[aa,bw (show os.length<=k by omega),E]
   rw[e1,e2];exact y.rep _ (by rw[af]at U;omega)
theorem kz{n:Nat}{fl:t7}{X:Value}{len cap:Nat}(hX:Ce x.G n fl X len cap)(y:de x n .clip X):cap=len:=by
 obtain⟨a,k,E⟩:=y;obtain⟨_,_,z⟩:=hX;rcases z with⟨b,off,h,_⟩|⟨h,h1,h2⟩
 ·rw[h]at E;simp only[Value.slice.injEq]at E;omega
 ·omega
theorem jT(o:Nat)(obj:aC):∀l:List (Nat×aC),bm o (o+1) (setO o obj l)=bm o (o+1) l
 |[]=>rfl
 |p::r=>by
  simp only[setO]
  by_cases h:p.1=o
  ·rw[if_pos h]
   simp only[bm];rw[if_pos (by omega),if_pos (by omega)]
  ·rw[if_neg h]
   simp only[bm];rw[if_neg (by omega),if_neg (by omega),jT o obj r]
theorem v9{o:Oper}{z:t7}{h7 F sz n:Nat}{r q:Arg}(h:M C N c a w)(hr:bq P o=some (.app z h7 r q))(hd:∀k,o.dst=some k->k<N)(hx:c.ev r= .psl F sz 0 n none)
 (hc:M0 c z h7 F sz n o.dst (fE c z.length (.psl F sz 0 n none)) (fE c z.length (c.ev q)) (dH c (.psl F sz 0 n none)) (dH c (c.ev q))=some c') {K:LAf} {Q:LAe} (hK:∀a w,M C N c' a w->K a w):o.wp P a w K Q:=by
 obtain⟨x,s,hM,hS⟩:=h;obtain⟨X,Y,t,u,el,d2,zs,I,b7,_⟩:=Rg hr (.inl rfl) a;have b7:=b7 rfl;have h1:=aJ hM I.hX;have h2:=aJ hM I.hY;rw[hS.ev,hx]at h1;unfold M0 at hc;split at hc<;>try (cases hc;done)
 ·rename_i k L E hk a2 e8
  rw[aH]at hc;obtain⟨⟨rfl,J,b2⟩,hc⟩:=hc;obtain⟨p0,d6,f2⟩:=j5 hS a2;obtain⟨p1,a7,d9⟩:=j5 hS e8;rw[<-hS.ev]at a7;obtain⟨os,g0,n0,s0⟩:=ph (P:=P) hM h1 d6 f2;obtain⟨ns,g1,n1,s1⟩:=ph (P:=P) hM h2 a7 d9
  obtain⟨W,hl,g7,b6⟩:∃W,c.look F=some (.arr z.length W)/\n<=W.length/\L=W.take n:=by
   simp only[fE]at a2;split at a2
   ·rename_i i4 W hl
    obtain⟨⟨_,e1,e2⟩,e3⟩:=bI a2;exact⟨W,by rw[hl,<-e1],by omega,by rw[<-e3];rfl⟩
   ·cases a2
  obtain⟨cp,g6,U,d7,a5,c7⟩:=h1.psl_invK;have a6:ns.length=E.length*z.length:=by rw[<-n1.len,bG g1]
  have c4:os.length=n*z.length:=by rw[<-n0.len,bG g0,J]
  have a9:s.look F=some (.arr z.length W):=(hS.look F).trans hl;obtain⟨cc,e,fl,fh,hO,⟨h8,c6,g9⟩,a4⟩:=eo hM a9;have b3:∀y∈L++E,y.length=z.length:=fun y hy=>(ak.1 hy).elim (g0 y) (g1 y)
  have i1:∀y∈W,y.length=z.length:=hS.rows hl;have hN:=n0.append n1;rw[<-bX]at hN;have H:(aC.arr z.length (L++E)).size=(n+E.length)*z.length:=by simp only[aC.size,af,J]
  have O:=(hS.purge F (F+1)).app (d:=o.dst) hd (e:= {val:= .psl (k+100) z.length 0 (n+E.length) none,new:=some (.arr z.length (L++E))}) (f:= {pre:=True,val:= .psl (k+100) z.length 0 (n+E.length) none,new:=some (.arr z.length (L++E))}) ⟨rfl,rfl,rfl,rfl,rfl⟩ ⟨fun ob he=>by cases he;exact iP.2 b3,.inl rfl⟩;have e0:=aq.inj hc;subst e0;have b5:=I.ex;rw[d7]at b5;have e5:(n+E.length)*z.length=n*z.length+E.length*z.length:=bA _ _ _
  by_cases Z:n+E.length<=cp
  ·have b4:n*z.length+ns.length<=cc.size:=by
    rcases c7 with h0|h0
    ·have h3:n=0:=by omega
     have h4:E.length=0:=by omega
     rw[a6,h3,h4];omega
    ·have h3:(n+E.length)*z.length<=cp*z.length:=bz _ Z
     rw[a6];omega
   obtain⟨q1,q2,q3,q4,q5⟩:=eX ((x.bk F).1) ns w (n*z.length);obtain⟨c2,f3,b8,f1⟩:=eA ns w (n*z.length) cc hO b4
   have f6:aM C x (s.setO F (.arr z.length (L++E))) a (cg w ((x.bk F).1) (n*z.length) ns):=
    ⟨hM.tm,hM.defers,hM.heap.block (cO a9) q1 q2 q3 q4 q5 ⟨c2,e,fl,fh,f3,⟨by rw[H,b8];omega,by rw[b8];exact c6,fun h=>by rw[b8];exact g9 rfl⟩,fun i hi=>by
     rw[H]at hi;rw[f1 i];have i3:i<(L++E).length*z.length:=by rw[af,J];exact hi
     show cE x.G ((((L++E)).getD (i/z.length) []).getD (i % z.length) .undef) _;rw[<-cG _ b3 i i3,bX];have h5:L.flatten.length=n*z.length:=by rw[bG g0,J]
     by_cases c3:n*z.length<=i
     ·rw[if_pos ⟨c3,by omega⟩]
      have:=n1.rep (i-n*z.length) (by rw[bG g1];omega);rw[aa,bw (by omega),h5,<-aa];exact this
     ·rw[if_neg (fun h=>c3 h.1)]
      have j1:n*z.length<=W.length*z.length:=bz _ g7;have h3:=a4 i (by simp only[aC.size];omega);change cE x.G ((W.getD (i/z.length) []).getD (i % z.length) .undef) _ at h3;rw[<-cG W i1 i (by omega)]at h3;rw[aa,bc (by omega),b6]
      have e6:W.flatten[i]? =(W.take n).flatten[i]? :=by
       have:W.flatten=(W.take n).flatten++(W.drop n).flatten:=by rw[<-bX,fY]
       rw[this,bc (by rw[<-b6];omega)]
      rw[<-e6,<-aa];exact h3⟩⟩
   have d3:=f6.move (d:=k+100) (by omega) (obj:= .arr z.length (L++E)) (by show(setO F _ s.ob).lookup F=_;have h3:s.ob.lookup F=some (.arr z.length W):=a9;rw[ie,if_pos ⟨rfl,by rw[h3];rfl⟩]) (fun cs e=>by cases e)
   have f0:(s.setO F (.arr z.length (L++E))).purge F (F+1)=s.purge F (F+1):=by simp only[St.purge,St.setO,jT]
   rw[f0]at d3;have d4:(x.newO (k+100) (x.bk F).1 (x.bk F).2).bk (k+100)=x.bk F:=if_pos rfl
   have hv:Rep (x.newO (k+100) (x.bk F).1 (x.bk F).2) (.psl (k+100) z.length 0 (n+E.length) none) (.slice (some ⟨(x.bk F).1,U,none⟩) (n+E.length) cp):=by have:=Rep.psl (x:=x.newO (k+100) (x.bk F).1 (x.bk F).2) (k+100) z.length 0 (n+E.length) none U cp a5 Z (fun _ e=>by cases e) (fun _=>by rw[d4];exact c7);rw[d4]at this;exact this
   have e9:=d3.put o.dst hv
   have a3:=fP (P:=P) (t:=t) (u:=u) (ty:=o.type) (Y:=a.eval Y) (bs:=some ⟨(x.bk F).1,U,none⟩) (len:=n) (m:=E.length) (cap:=cp) (w1:=cg w ((x.bk F).1) (n*z.length) ns) I.hd I.hu b7 I.hn (s1.len w rfl) (s1.cells w rfl) Z (by
    simp only[cZ]
    by_cases f5:cp=0
    ·have:ns=[]:=cx.1 (by
      rw[a6];have:E.length=0:=by omega
      rw[this,iF])
     rw[this];simp[storeCells,cg]
    ·rw[a5.resolve_left f5,iF,cf]
     exact ez (n*z.length) ns w cc 0 hO (by omega) n1.one)
   refine cQ ⟨_,_,_,.value _, ?_,.inl rfl,e9⟩ (k:=Sim N _) ?_ hK
   ·rw[b5];simp only[az,a3,aj,aF]
   ·rw[hk]at O ⊢
    exact O
  ·obtain⟨i,hi,d8⟩:=ry I.hby
   obtain⟨zv,g4,g3⟩:=cC I.hz
   obtain⟨nc,d5,a3⟩:=ib (P:=P) (t:=t) (u:=u) (ty:=o.type) (Y:=a.eval Y) (bs:=some ⟨(x.bk F).1,U,none⟩) (len:=n) (m:=E.length) (cap:=cp) (os:=os) (ns:=ns) I.hd I.hu b7 I.hn hi d8 I.hb0 g3 s1.len s1.cells (by have:=s0.cells;rw[d7,J]at this;exact this) Z b2
   have f7:zv.cells.size=z.length:=by rw[<-aO,g4];exact I.hzl.symm
   have a8:(os.toArray++ns.toArray++Builtin.zeroCells zv.cells (nc-(n+E.length))).size=nc*z.length:=by simp only[Array.size_append,List.size_toArray,dP,f7,c4,a6];rw[<-bA,<-bA];congr 1;omega
   have g5:=(hM.purge F (F+1)).drew.newObjF (d:=k+100) o.dst (by omega) (.arr z.length (L++E)) (cv:=os.toArray++ns.toArray++Builtin.zeroCells zv.cells (nc-(n+E.length))) (t:=el) (fl:=0) (fh:=0) (val:= .psl (k+100) z.length 0 (n+E.length) none) (u:= .slice (some ⟨w.heap.size,0,none⟩) (n+E.length) nc) (fun i hi h=>by omega) (by
    rw[H,a8];exact bz _ d5) (fun i hi=>by
    rw[H]at hi;have h3:=Ds b3 hN i (by rw[af,J];exact hi)
    have e7:(os.toArray++ns.toArray++Builtin.zeroCells zv.cells (nc-(n+E.length))).getD i undef=(⟨os++ns⟩:LAb).getD i undef:=by rw[bg,ii os ns _ i (by rw[c4,a6];omega),bg];simp
    rw[e7];exact h3) (fun _ h=>by omega) (by
    have:=Rep.psl (x:=x.newO (k+100) w.drew.heap.size (os.toArray++ns.toArray++Builtin.zeroCells zv.cells (nc-(n+E.length))).size) (k+100) z.length 0 (n+E.length) none 0 nc (.inr (by omega)) d5 (fun _ e=>by cases e) (fun _=> .inr (by rw[mf,a8];omega));rw[iR]at this;exact this) (w':=w.drew.alloc (.cells (os.toArray++ns.toArray++Builtin.zeroCells zv.cells (nc-(n+E.length))) el (0,0))) rfl rfl rfl rfl
   refine cQ ⟨_,_,_,.value _, ?_,.inl rfl,g5⟩ (k:=Sim N _) ?_ hK
   ·rw[b5];simp only[az,a3,aj,aF]
   ·rw[hk]at O ⊢
    exact O
 ·rename_i k L E hk _ a2 e8
  rw[aH]at hc;obtain⟨⟨h6,rfl,J,b2⟩,hc⟩:=hc;obtain⟨p0,d6,f2⟩:=iM hS a2;obtain⟨p1,a7,d9⟩:=iM hS e8;rw[<-hS.ev]at a7;obtain⟨a0,b0⟩:=eZ (P:=P) hM h1 d6 f2;obtain⟨a1,b1⟩:=eZ (P:=P) hM h2 a7 d9
  obtain⟨W,hl,g7,b6⟩:∃W,c.look F=some (.bar W)/\n<=W.length/\L=W.take n:=by
   simp only[dH]at a2;split at a2
   ·rename_i W hl
    obtain⟨⟨_,e2⟩,e3⟩:=bI a2;exact⟨W,hl,by omega,by rw[<-e3];rfl⟩
   ·cases a2
  obtain⟨cp,g6,U,d7,a5,c7⟩:=h1.psl_invK;have g2:=kv (x:=x) E;have i2:=kv (x:=x) L;have a6:(E.map fun b=>Value.int .u8 b.toNat).length=E.length:=aS ..;have c4:(L.map fun b=>Value.int .u8 b.toNat).length=n:=by rw[aS,J]
  have h9:∀w':World,w'.heap=w.heap->(Builtin.firstCells 1 n (a.eval X)).run P w'= .ok (L.map fun b=>Value.int .u8 b.toNat).toArray w':=fun w' f4=>by have:=b0 n (by omega) w' f4;rwa[bT (by omega)]at this
  have g8:∀w':World,w'.heap=w.heap->(Builtin.firstCells 1 E.length (a.eval Y)).run P w'= .ok (E.map fun b=>Value.int .u8 b.toNat).toArray w':=fun w' f4=>by have:=b1 E.length (aN _) w' f4;rwa[bB]at this
  generalize (E.map fun b=>Value.int .u8 b.toNat)=ns at*;generalize (L.map fun b=>Value.int .u8 b.toNat)=os at*;have a9:s.look F=some (.bar W):=(hS.look F).trans hl;obtain⟨cc,e,fl,fh,hO,⟨h8,c6, -⟩,a4⟩:=eo hM a9;simp only[aC.size]at h8 a4;have H:(aC.bar (L++E)).size=n+E.length:=by simp only[aC.size,af,J]
  have O:=(hS.purge F (F+1)).app (d:=o.dst) hd (e:= {val:= .psl (k+100) 1 0 (n+E.length) none,new:=some (.bar (L++E))}) (f:= {pre:=True,val:= .psl (k+100) 1 0 (n+E.length) none,new:=some (.bar (L++E))}) ⟨rfl,rfl,rfl,rfl,rfl⟩ ⟨fun ob he=>by cases he;rfl,.inl rfl⟩;have e0:=aq.inj hc;subst e0;have b5:=I.ex;rw[d7]at b5 h9;have e4:=I.hn;rw[h6]at e4
  by_cases Z:n+E.length<=cp
  ·have b4:n+ns.length<=cc.size:=by
    rcases c7 with h0|h0
    ·omega
    ·omega
   obtain⟨q1,q2,q3,q4,q5⟩:=eX ((x.bk F).1) ns w n;obtain⟨c2,f3,b8,f1⟩:=eA ns w n cc hO b4
   have f6:aM C x (s.setO F (.bar (L++E))) a (cg w ((x.bk F).1) n ns):=
    ⟨hM.tm,hM.defers,hM.heap.block (cO a9) q1 q2 q3 q4 q5 ⟨c2,e,fl,fh,f3,⟨by rw[H,b8];omega,by rw[b8];exact c6,fun h=>by cases h⟩,fun i hi=>by
     rw[H]at hi;rw[f1 i];show cE x.G (.u8 ((L++E).getD i 0)) _
     by_cases c3:n<=i
     ·rw[if_pos ⟨c3,by omega⟩]
      have:=g2.rep (i-n) (by rw[aS];omega);rw[eC _ _ (by omega:i-n<E.length)]at this;rw[aa,bw (by omega),J,<-aa];exact this
     ·rw[if_neg (fun h=>c3 h.1)]
      have h3:=a4 i (by omega);change cE x.G (.u8 (W.getD i 0)) _ at h3;rw[aa,bc (by omega),b6,bE,if_pos (by omega),<-aa];exact h3⟩⟩
   have d3:=f6.move (d:=k+100) (by omega) (obj:= .bar (L++E)) (by show(setO F _ s.ob).lookup F=_;have h3:s.ob.lookup F=some (.bar W):=a9;rw[ie,if_pos ⟨rfl,by rw[h3];rfl⟩]) (fun cs e=>by cases e)
   have f0:(s.setO F (.bar (L++E))).purge F (F+1)=s.purge F (F+1):=by simp only[St.purge,St.setO,jT]
   rw[f0]at d3;have d4:(x.newO (k+100) (x.bk F).1 (x.bk F).2).bk (k+100)=x.bk F:=if_pos rfl
   have hv:Rep (x.newO (k+100) (x.bk F).1 (x.bk F).2) (.psl (k+100) 1 0 (n+E.length) none) (.slice (some ⟨(x.bk F).1,U,none⟩) (n+E.length) cp):=by have:=Rep.psl (x:=x.newO (k+100) (x.bk F).1 (x.bk F).2) (k+100) 1 0 (n+E.length) none U cp a5 Z (fun _ e=>by cases e) (fun _=>by rw[d4];exact c7);rw[d4]at this;exact this
   have e9:=d3.put o.dst hv
   have a3:=fP (P:=P) (t:=t) (u:=u) (ty:=o.type) (Y:=a.eval Y) (bs:=some ⟨(x.bk F).1,U,none⟩) (len:=n) (m:=E.length) (cap:=cp) (w1:=cg w ((x.bk F).1) n ns) I.hd I.hu b7 e4 (a1 w rfl) (g8 w rfl) Z (by
    simp only[cZ]
    by_cases f5:cp=0
    ·have:ns=[]:=cx.1 (by omega)
     rw[this];simp[storeCells,cg]
    ·rw[a5.resolve_left f5,iF,cf,iu]
     exact ez n ns w cc 0 hO (by omega) g2.one)
   refine cQ ⟨_,_,_,.value _, ?_,.inl rfl,e9⟩ (k:=Sim N _) ?_ hK
   ·rw[b5];simp only[az,a3,aj,aF]
   ·rw[hk]at O ⊢
    exact O
  ·obtain⟨i,hi,d8⟩:=ry I.hby
   obtain⟨zv,g4,g3⟩:=cC I.hz;obtain⟨nc,d5,a3⟩:=ib (P:=P) (t:=t) (u:=u) (ty:=o.type) (Y:=a.eval Y) (bs:=some ⟨(x.bk F).1,U,none⟩) (len:=n) (m:=E.length) (cap:=cp) (os:=os) (ns:=ns) I.hd I.hu b7 e4 hi d8 I.hb0 g3 a1 g8 h9 Z b2;have f7:zv.cells.size=1:=by rw[<-aO,g4,<-h6];exact I.hzl.symm
   have a8:(os.toArray++ns.toArray++Builtin.zeroCells zv.cells (nc-(n+E.length))).size=nc:=by simp only[Array.size_append,List.size_toArray,dP,f7,c4,a6];omega
   have g5:=(hM.purge F (F+1)).drew.newObjF (d:=k+100) o.dst (by omega) (.bar (L++E)) (cv:=os.toArray++ns.toArray++Builtin.zeroCells zv.cells (nc-(n+E.length))) (t:=el) (fl:=0) (fh:=0) (val:= .psl (k+100) 1 0 (n+E.length) none) (u:= .slice (some ⟨w.heap.size,0,none⟩) (n+E.length) nc) (fun i hi h=>by omega) (by
    rw[H,a8];exact d5) (fun i hi=>by
    rw[H]at hi;show cE x.G (.u8 ((L++E).getD i 0)) _;rw[bg,ii os ns _ i (by rw[c4,a6];omega)]
    by_cases c3:i<n
    ·rw[bc (by omega),<-aa]
     have:=i2.rep i (by rw[aS];omega);rw[eC _ _ (by omega:i<L.length)]at this;rw[aa (l:=L++E),bc (by omega),<-aa];exact this
    ·rw[bw (by omega),c4,<-aa]
     have:=g2.rep (i-n) (by rw[aS];omega);rw[eC _ _ (by omega:i-n<E.length)]at this;rw[aa (l:=L++E),bw (by omega),J,<-aa];exact this) (fun h _=>by cases h) (by
    have:=Rep.psl (x:=x.newO (k+100) w.drew.heap.size (os.toArray++ns.toArray++Builtin.zeroCells zv.cells (nc-(n+E.length))).size) (k+100) 1 0 (n+E.length) none 0 nc (.inr (by omega)) d5 (fun _ e=>by cases e) (fun _=> .inr (by rw[mf,a8];omega));rw[iR]at this;exact this) (w':=w.drew.alloc (.cells (os.toArray++ns.toArray++Builtin.zeroCells zv.cells (nc-(n+E.length))) el (0,0))) rfl rfl rfl rfl
   refine cQ ⟨_,_,_,.value _, ?_,.inl rfl,g5⟩ (k:=Sim N _) ?_ hK
   ·rw[b5];simp only[az,a3,aj,aF]
   ·rw[hk]at O ⊢
    exact O
theorem oA{o:Oper}{z:t7}{b8:Nat}{r q:Arg}(h:M C N c a w)(L:bq P o=some (.app z b8 r q))(hd:∀k,o.dst=some k->k<N)(F:qJ c o.dst z b8 q (c.ev r)=some c'){K:LAf}{Q:LAe}(hK:∀a w,M C N c' a w->K a w):o.wp P a w K Q:=by
 by_cases a9:∃o' Z n,c.ev r= .psl o' Z 0 n none
 ·obtain⟨o',Z,n,hx⟩:=a9
  rw[hx]at F;exact v9 h L hd hx F hK
 obtain⟨x,s,hM,hS⟩:=h;obtain⟨cl,ho,hb⟩:=xcY L;simp only[bq,ho,hb]at L;split at L<;>try (cases L;done)
 rename_i X Y t u hX ht;split at L<;>try (cases L;done)
 rename_i el d2 r' q' a7 hu d8 e0;split at L<;>try (cases L;done)
 rename_i n d7 z' hn hby hz
 rw[aH]at L;obtain⟨a4,L⟩:=L;simp only[aB,decide_eq_true_eq]at a4;obtain⟨⟨hb0,hn0⟩,d3⟩:=a4;obtain⟨zs,d4,e3,_⟩:=i6 hz;have hzl:zs.length=n:=by omega
 obtain⟨a8,rfl,rfl,rfl,rfl⟩:((∃e',d2= .slice e')\/d2= .string)/\z'=z/\d7=b8/\r'=r/\q'=q:=by
  split at L<;>try (cases L;done)
  ·cases L;exact⟨.inl ⟨_,rfl⟩,rfl,rfl,rfl,rfl⟩
  ·rw[aH]at L
   obtain⟨_,L⟩:=L;cases L;exact⟨.inr rfl,rfl,rfl,rfl,rfl⟩
 have W:=aJ hM d8;have h2:=aJ hM e0;have ea:cl.args= #[X,Y]:=by apply dI;simpa using hX
 have et:cl.argTypes= #[t,u]:=by apply dI;simpa using ht
 have b5:=fC (a:=a) ho hb _ rfl;rw[ea,et]at b5;have em: #[X,Y].map a.eval= #[a.eval X,a.eval Y]:=by simp
 rw[em]at b5
 have U:∀{v w'},(Builtin.append_ #[t,u] o.type #[a.eval X,a.eval Y]).run P w= .ok v w'->(execOp a.eval o).run P w= .ok (.value v) w':=by intro v w' E;rw[b5];simp[E]
 rw[hS.ev]at W
 have fin:∀{k nc cv}(obj:aC)(Z m:Nat),o.dst=some k->m<=nc->(Builtin.append_ #[t,u] o.type #[a.eval X,a.eval Y]).run P w= .ok (.slice (some ⟨w.heap.size,0,none⟩) m nc) (w.drew.alloc (.cells cv el (0,0)))->
  obj.size<=cv.size->nc*Z<=cv.size->(∀i,i<obj.size->cj x obj i (cv.getD i undef))->obj.wf=true->c'=c.app (some k) {val:= .psl (k+100) Z 0 m none,new:=some obj}->o.wp P a w K Q:=by
  intro k nc cv obj Z m hk a6 E a1 e2 H d9 d5;subst d5
  have e1:=hM.drew.newObjF (d:=k+100) o.dst (by omega) obj (cv:=cv) (t:=el) (fl:=0) (fh:=0) (val:= .psl (k+100) Z 0 m none) (u:= .slice (some ⟨w.heap.size,0,none⟩) m nc) (fun i hi h=>by omega) a1 H (fun _ h=>by omega) (by have:=Rep.psl (x:=x.newO (k+100) w.drew.heap.size cv.size) (k+100) Z 0 m none 0 nc (.inr (by omega)) a6 (fun _ e=>by cases e) (fun _=> .inr (by rw[mf];omega));rw[iR]at this;exact this) (w':=w.drew.alloc (.cells cv el (0,0))) rfl rfl rfl rfl
  refine cQ ⟨_,_,_,_,U E,.inl rfl,e1⟩ (k:=Sim N _) ?_ hK;have:=hS.app hd (e:= {val:= .psl (k+100) Z 0 m none,new:=some obj}) (f:= {pre:=True,val:= .psl (k+100) Z 0 m none,new:=some obj}) ⟨rfl,rfl,rfl,rfl,rfl⟩ ⟨fun ob he=>by cases he;exact d9,.inl rfl⟩;rw[hk]at this ⊢;exact this
 unfold qJ at F;split at F<;>try (cases F;done)
 ·rename_i l tk hl
  rw[aH]at F;obtain⟨rfl,F⟩:=F;unfold PA at F;split at F<;>try (cases F;done)
  rename_i k l' hk c3;split at F<;>try (cases F;done)
  rename_i c7;have c7:z'.length=1:=Classical.not_not.1 c7;obtain rfl:n=1:=by omega
  obtain⟨p,O,b6⟩:=iM hS c3;rw[<-hS.ev]at O;rw[hl]at W;obtain⟨g1,g2⟩:=eZ (P:=P) hM h2 O b6;obtain⟨_,_,_,_,_,a5⟩:=W.byt_inv;obtain⟨cap,hF,_⟩:=uP (W.data rfl)
  by_cases I:l'=[]
  ·rw[if_pos I]at F
   cases F;subst I
   obtain⟨bs,b3⟩:∃bs,a.eval X= .slice bs l.length cap:=by
    rcases hF.2.2 with⟨b,off,h,_⟩|⟨h,W,h2⟩
    ·exact⟨_,h⟩
    ·exact⟨_,by rw[h.choose_spec,W,h2]⟩
   have a2:=kz hF a5;rw[b3]at W U
   have E:=fP (P:=P) (t:=t) (u:=u) (ty:=o.type) (Y:=a.eval Y) (ns:=[]) (w:=w) (w1:=w) (m:=0) (bs:=bs) (len:=l.length) (cap:=cap) a7 hu a8 hn (g1 w rfl) (by have:=g2 0 (aN _) w rfl;simpa using this) (by omega) (by cases bs<;>rfl)
   refine cQ ⟨_,_,_,_,U E,.inl rfl,hM.put o.dst W⟩ (k:=Sim N _) ?_ hK;have:=hS.put hd (.byt l .clip);rw[hk]at this ⊢;exact this
  ·rw[if_neg I]at F
   rw[aH]at F;obtain⟨⟨rfl,a3⟩,F⟩:=F;have a2:=kz hF a5;have c6:0<l'.length:=mb.2 I
   obtain⟨nc,cv,a6,E,a1,H⟩:=rz (ty:=o.type) hM a7 hu a8 hn hby d4 hb0 hzl hF g1 (fun w' b7=>by have:=g2 l'.length (aN _) w' b7;rwa[bB]at this) (by simp) (kv l') (by omega) (by omega)
   refine fin (.bar (l++l')) 1 _ hk a6 E (by simp only[aC.size];simpa using a1.1) a1.2 (fun i hi=> ?_) rfl (aq.inj F).symm;simp only[aC.size]at hi;have:=H i (by simpa using hi);rw[<-df,eC _ _ hi]at this;exact this
 ·rename_i Z l tk hl
  rw[aH]at F;obtain⟨rfl,F⟩:=F;unfold Pz at F;split at F<;>try (cases F;done)
  rename_i k l' hk c3;obtain⟨p,O,b6⟩:=j5 hS c3;rw[<-hS.ev]at O;rw[hl]at W;obtain⟨a0,g1,ns,b2,g2⟩:=gM (P:=P) hM h2 O b6;obtain⟨_,_,_,_,_,a5⟩:=W.lst_inv;obtain⟨cap,hF,_,b4⟩:=pB (W.data rfl)
  by_cases I:l'=[]
  ·rw[if_pos I]at F
   cases F;subst I
   obtain⟨bs,b3⟩:∃bs,a.eval X= .slice bs l.length cap:=by
    rcases hF.2.2 with⟨b,off,h,_⟩|⟨h,W,h2⟩
    ·exact⟨_,h⟩
    ·exact⟨_,by rw[h.choose_spec,W,h2]⟩
   have a2:=kz hF a5;rw[b3]at W U
   have E:=fP (P:=P) (t:=t) (u:=u) (ty:=o.type) (Y:=a.eval Y) (ns:=[]) (w:=w) (w1:=w) (m:=0) (bs:=bs) (len:=l.length) (cap:=cap) a7 hu a8 hn (g1 w rfl) (by have:=g2 0 (aN _) w rfl;rw[d3]at this;simpa using this) (by omega) (by cases bs<;>rfl)
   refine cQ ⟨_,_,_,_,U E,.inl rfl,hM.put o.dst W⟩ (k:=Sim N _) ?_ hK;have:=hS.put hd (.lst Z l .clip);rw[hk]at this ⊢;exact this
  ·rw[if_neg I]at F
   rw[aH]at F;obtain⟨⟨rfl,a3⟩,F⟩:=F;obtain rfl:n=z'.length:=by omega
   have a2:=kz hF a5;have c6:0<l'.length:=mb.2 I;have c4:ns.length=l'.length*z'.length:=by rw[<-b2.len,bG a0]
   obtain⟨nc,cv,a6,E,a1,H⟩:=rz (ty:=o.type) hM a7 hu a8 hn hby d4 hb0 hzl hF g1 (fun w' b7=>by have:=g2 l'.length (aN _) w' b7;rwa[<-c4,bB]at this) c4 b2 a3 (by omega)
   have J:∀y∈l++l',y.length=z'.length:=fun y hy=>(ak.1 hy).elim (b4 y) (a0 y)
   have d6:(l++l').length*z'.length=(l.flatten++l'.flatten).length:=by rw[<-bX,bG J]
   refine fin (.arr z'.length (l++l')) z'.length _ hk a6 E (by simp only[aC.size];omega) a1.2 (fun i hi=> ?_) (iP.2 J) (aq.inj F).symm;simp only[aC.size]at hi;have:=H i (by omega);rw[<-bX,cG _ J i hi]at this;exact this
 ·rename_i o' Z n hl
  exact absurd ⟨o',Z,n,hl⟩ a9
theorem qK(I:fV P call){o:Oper}{so:SOp}(h:M C N c a w)(H:qx P o so.er)(hd:∀k,o.dst=some k->k<N)(E:opC call sg c o.dst so=some c'){K:LAf}{Q:LAe}(hK:∀a w,M C N c' a w->K a w):o.wp P a w K Q:=by
 by_cases J:∃z b q y,so= .appO z b q y
 ·obtain⟨z,b,q,y,rfl⟩:=J
  exact oA h (H.old (by intro U e;cases e)) hd E hK
 have a4:so.er=so:=by cases so<;>first|rfl|exact absurd ⟨_,_,_,_,rfl⟩ J
 rw[a4]at H
 by_cases L:∃U,so= .newB U
 ·obtain⟨U,rfl⟩:=L
  rcases H with O|⟨ys,e,O⟩
  ·exact(ES O).elim
  ·cases e
   exact oD h O hd E hK
 have O:=H.old fun U e=>L ⟨U,e⟩
 by_cases Z:∃q,so= .slid q
 ·obtain⟨q,rfl⟩:=Z
  exact vF h O hd E hK
 by_cases a1:∃f a_,so= .call f a_
 ·obtain⟨f,a_,rfl⟩:=a1
  simp only[opC]at E;split at E<;>try (cases E;done)
  rename_i g c1 c2 hg;obtain⟨x,s,hM,hS⟩:=h;obtain⟨cl,F,ho,hb,h1,h2,h3⟩:=F5 O;obtain⟨a6,a5,k',q',a3⟩:=wG E;have a2:eu P g=true:=(I _ _ _ _ _ a3).1;obtain⟨vs,W,a0⟩:=Dh hM ho hb h1 h2 h3 (by rw[hS.ev];exact hg) a2;rw[<-hS.evL]at a0;exact tF W (tU hM hS hd (I g) E a0) hK
 ·refine xd8 h O hd ?_ hK
  cases so with
  |call f a_=>exact absurd ⟨f,a_,rfl⟩ a1
  |newB U=>exact absurd ⟨U,rfl⟩ L
  |slid q=>exact absurd ⟨q,rfl⟩ Z
  |appO z b q y=>exact absurd ⟨_,_,_,_,rfl⟩ J
  |_=>exact E
theorem wa{o:Oper}{z:Nat}{W:List Arg}(h:M C N c a w)(E:bq P o=some (.lit z W))(hd:∀k,o.dst=some k->k<N)(I:Py c z o.dst (rows z (evL c W))=some c'){K:LAf}{Q:LAe}(hK:∀a w,M C N c' a w->K a w):o.wp P a w K Q:=by
 obtain⟨x,s,hM,U⟩:=h;rw[U.evL]at I;unfold Py at I;split at I<;>try (cases I;done)
 rename_i k l hk Z;cases I
 obtain⟨t,len,y,L⟩:∃t len y,o.op= .buildSlice t len y:=by
  cases L:o.op with
  |buildSlice t len y=>exact⟨t,len,y,rfl⟩
  |_=>exfalso;exact absurd E (by
   intro E;simp only[bq,L]at E
   first
    |(cases E;done)
    |(obtain⟨_,_,h⟩:=ah.1 E;cases h;done)
    |(repeat' split at E)<;>first|(cases E;done)|contradiction|(obtain⟨_,_,h⟩:=ah.1 E;first|(cases h;done)|(split at h<;>cases h;done)))
 obtain⟨r,e,J,a0,F,H⟩:=vM hM L E Z
 have O:=hM.newObj (d:=k+100) o.dst (by omega) (.arr z l) (val:= .psl (k+100) z 0 l.length (some l.length)) (u:= .slice (some ⟨w.heap.size,0,none⟩) l.length l.length) (t:=e) (by simp only[aC.size];omega) (fun i hi=>H i hi) (by have:=Rep.psl (x:=x.newO (k+100) w.heap.size) (k+100) z 0 l.length (some l.length) 0 l.length (.inr (by omega)) (aN _) (fun _ e=>by cases e;rfl) (fun e=>by cases e);rwa[iR]at this)
 refine cQ ⟨_,_,_,_,J,.inl rfl,O⟩ (k:=Sim N _) ?_ hK;have:=U.app hd (e:= {val:= .psl (k+100) z 0 l.length (some l.length),new:=some (.arr z l)}) (f:= {pre:=True,val:= .psl (k+100) z 0 l.length (some l.length),new:=some (.arr z l)}) ⟨rfl,rfl,rfl,rfl,rfl⟩ ⟨fun ob he=>by cases he;exact iP.2 F,.inl rfl⟩;rw[hk]at this ⊢;exact this
theorem v8{ops:Array Oper}{n:Nat}{o:Oper}{i:SI}(h:M C N c a w)(hi:i.ok N=true)(Z:ops[n]? =some o)(U:fQ P ops o=some i)(F:rZ c i=some c'){K:LAf}{Q:LAe}
 (hK:∀a w,M C N c' a w->K a w):wpOp P ops Q n K a w:=by
 obtain⟨I,h2,h3⟩:=ks U
 have hd:∀k,i.dst=some k->k<N:=by intro k L;unfold SI.ok at hi;rw[L]at hi;simpa using hi
 unfold wpOp;rw[Z];simp only;unfold rZ at F;split at F<;>try (cases F;done)
 rename_i O;rcases h3 with⟨_,J⟩|⟨j,b,g,hg',_⟩
 ·rw[jQ J,if_pos rfl]
  rw[h2]at F hd;left;unfold xic at F;split at F<;>try (cases F;done)
  ·rename_i sz H E
   exact wa h (I.old (fun H e=>by rw[e]at E;cases E)|>fun e=>by rw[E]at e;exact e) hd F hK
  ·rename_i H E
   exact oD h (I.old (fun H e=>by rw[e]at E;cases E)|>fun e=>by rw[E]at e;exact e) hd F hK
  ·rename_i q E
   exact wb h (I.old (fun H e=>by rw[e]at E;cases E)|>fun e=>by rw[E]at e;exact e) hd F hK
  ·rename_i z W q y E
   exact oA h (I.old (fun H e=>by rw[e]at E;cases E)|>fun e=>by rw[E]at e;exact e) hd F hK
 ·rw[O]at hg';cases hg'
theorem vt{ops:Array Oper}{n:Nat}{o:Oper}{i:SI}(h:M C N c a w)(hi:i.ok N=true)(L:ops[n]? =some o)(J:fQ P ops o=some i)(y:zg c i=some c'){K:LAf}{Q:LAe}
 (hK:∀a w,M C N c' a w->K a w):wpOp P ops Q n K a w:=by
 obtain⟨F,U,O⟩:=ks J
 have hd:∀k,i.dst=some k->k<N:=by intro k H;unfold SI.ok at hi;rw[H]at hi;simpa using hi
 unfold wpOp;rw[L];simp only;unfold zg at y;split at y<;>try (cases y;done)
 rename_i I;rcases O with⟨_,E⟩|⟨j,b,g,hg',_⟩
 ·rw[jQ E,if_pos rfl]
  rw[U]at y hd;left;unfold xhe at y;split at y<;>try (cases y;done)
  ·rename_i q z
   exact vu h (F.old (fun W e=>by rw[e]at z;cases z)|>fun e=>by rw[z]at e;exact e) hd y hK
 ·rw[I]at hg';cases hg'
theorem gh(E:fV P call){ops:Array Oper}{n:Nat}{o:Oper}{i:SI}(h:M C N c a w)(hi:i.ok N=true)(ho:ops[n]? =some o)(hr:fQ P ops o=some i.er)(y:dy call sg c i=some c'){K:LAf}{Q:LAe}
 (hK:∀a w,M C N c' a w->K a w):wpOp P ops Q n K a w:=by
 obtain⟨J,F,U⟩:=ks hr;change qx P o i.op.er at J;change i.dst=o.dst at F;change (i.g=none/\o.guard=none\/∃j b g,i.g=some (g,b)/\o.guard=some (j,b)/\(ops[j]?).bind (·.dst)=some g)at U
 have hd:∀k,i.dst=some k->k<N:=by intro k Z;unfold SI.ok at hi;rw[Z]at hi;simpa using hi
 unfold wpOp;rw[ho];simp only;unfold dy at y;rcases U with⟨L,z⟩|⟨j,b,g,L,z,hdg⟩
 ·rw[L]at y
  rw[jQ z,if_pos rfl];rw[F]at y hd;exact .inl (qK E h J hd y hK)
 ·rw[L]at y
  simp only at y;split at y<;>try (cases y;done)
  rotate_left
  ·rename_i O
   cases y;obtain⟨x,s,hM,I⟩:=h;rw[tH z hdg (FJ hM I O),if_neg (by simp)];rw[F]at hd;rw[F]at hK;exact hK _ _ ⟨x,_,hM.put o.dst up,I.put hd _⟩
  rename_i t O;have W:a.tmps[g]? =some (.bool t):=by obtain⟨x,s,hM,I⟩:=h;exact FH hM I O
  rw[tG z hdg W];split at y
  ·rename_i H
   subst H;rw[if_pos (by simp)];rw[F]at y hd;exact .inl (qK E h J hd y hK)
  ·rename_i H
   cases y;rw[if_neg (by simpa using H)];obtain⟨x,s,hM,I⟩:=h;rw[F]at hd;rw[F]at hK;exact hK _ _ ⟨x,_,hM.put o.dst up,I.put hd _⟩
theorem iZ(y:fV P call){ops:Array Oper}{n:Nat}{o:Oper}{i:SI}(h:M C N c a w)(hi:i.ok N=true)(F:ops[n]? =some o)(z:fQ P ops o=some i)(E:dy call sg c i=some c'){K:LAf}{Q:LAe}
 (hK:∀a w,M C N c' a w->K a w):wpOp P ops Q n K a w:=gh y h hi F (by rw[xfY z];exact z) E hK
theorem gy{d:t9}{g:Nat}{t:Bool}{v:SV}(hd:d≠some g)(h:c.get g= .bool t):(c.put d v).get g= .bool t:=by
 cases d with
 |none=>exact h
 |some k=>rw[gD,if_neg (fun e=>hd (by rw[e]))];exact h
theorem CZ{d:t9}{g:Nat}{u v:SV}(hd:d≠some g)(h:c.get g=u):(c.put d v).get g=u:=by
 cases d with
 |none=>exact h
 |some k=>rw[gD,if_neg (fun e=>hd (by rw[e]))];exact h
theorem gU{g lo hi:Nat}{t:Bool}{l:List (Nat×SV)}(h:ei l g= .bool t):ei (cR lo hi l) g= .bool t:=by rw[fS,h];rfl
theorem iU{d:t9}{g:Nat}{t:Bool}{e:nP}(hd:d≠some g)(h:c.get g= .bool t):(c.app d e).get g= .bool t:=by
 have wr:∀(l:List (Nat×aC))(c:CSt),(c.wr l).tm=c.tm:=by
  intro l;induction l with
  |nil=>intro c;rfl
  |cons p r y=>intro c;simp only[CSt.wr];rw[y]
 unfold CSt.app;split
 ·exact gy (c:=⟨_,_,_⟩) hd (gU h)
 ·exact gy (c:=⟨_,_,_⟩) hd (gU h)
 ·refine gy hd ?_
  show ei (c.wr e.wr).tm g=_;rw[wr];exact h
theorem oH{d:t9}{g:Nat}{t:Bool}{m mt:t8}{q:eg}(hd:d≠some g)(h:c.get g= .bool t):(jI c d m mt q).get g= .bool t:=gy (c:=⟨_,_,_⟩) hd (gU h)
theorem lB{g o:Nat}{t:Bool}{vs:t7}(h:c.get g= .bool t):(c.publish o vs).1.get g= .bool t:=by
 have k:∀obj,ei (lx o obj c.tm) g= .bool t:=fun obj=>by rw[kf];have:ei c.tm g= .bool t:=h;rw[this];rfl
 unfold CSt.publish;split
 ·exact k _
 ·exact k _
 ·exact h
theorem mT{g:Nat}{t:Bool}:∀{l:t8}{c:CSt}{vs:t7},c.get g= .bool t->(eF c vs l).1.get g= .bool t
 |[],_,_,h=>h
 |o::r,c,vs,h=>by show(eF (c.publish o vs).1 (c.publish o vs).2 r).1.get g=_;exact mT (lB h)
theorem C1{sg:Sig}{d:t9}{g n:Nat}{a_:t7}{t:Bool}(y:gX call sg c d n a_=some c')(hd:d≠some g)(h:c.get g= .bool t):c'.get g= .bool t:=by
 unfold gX at y;generalize ((SV.idsL a_).isEmpty&&sg.own.isEmpty)=b at y;cases b with
 |true=>
  simp only[jH]at y;cases hq:call n (SV.bareL a_) [] 0 with
  |none=>rw[hq]at y;cases y
  |some q=>
   rw[hq]at y;simp only[lZ]at y;cases hb:q.bare with
   |true=>rw[hb]at y;cases y;exact gy hd h
   |false=>
    rw[hb]at y;simp only[nu]at y;cases hs:q.small with
    |true=>rw[hs]at y;cases y;exact oH hd h
    |false=>rw[hs]at y;cases y
 |false=>
  simp only[jH]at y;have L:=mT (l:=iG sg.raw 0 a_) (vs:=a_) h;generalize eF c a_ (iG sg.raw 0 a_)=z at y L;obtain⟨c1,J⟩:=z;simp only[jz]at y;generalize jM c1.tk sg.own 50 0 J=z at y;obtain⟨F,E⟩:=z;simp only[nh]at y;generalize dz c1 60 [] (SV.idsL F)=m at y;cases ho:gq c1 m with
  |none=>rw[ho]at y;cases y
  |some I=>
   rw[ho]at y;simp only[lf]at y;generalize dQ c1.tk (50+E.length) I=z at y;obtain⟨os,H⟩:=z;simp only[ng]at y;generalize (nW (SV.idsL F++fB os) m&&dq m&&dq (cr (E++H))&&decide (m.length<=40)&&m.all fun o=> !inR (d.getD 0) o)=b at y;cases b with
   |false=>cases y
   |true=>
    simp only[nf]at y;cases hq:call n (SV.renL (gz m) id F) (dX (gz m) id os) (E.length+H.length)with
    |none=>rw[hq]at y;cases y
    |some q=>
     rw[hq]at y;simp only[oe]at y;cases hs:q.small with
     |true=>rw[hs]at y;cases y;exact oH hd L
     |false=>rw[hs]at y;cases y
theorem C0{d:t9}{g:Nat}{z:t7}{b:Nat}{y:Arg}{v:SV}{t:Bool}(E:qJ c d z b y v=some c')(hd:d≠some g)(h:c.get g= .bool t):c'.get g= .bool t:=by
 unfold qJ at E;split at E<;>try (cases E;done)
 ·split at E<;>try (cases E;done)
  unfold PA at E;split at E<;>try (cases E;done)
  split at E<;>try (cases E;done)
  split at E
  ·cases E;exact gy hd h
  ·split at E<;>try (cases E;done)
   cases E;exact iU hd h
 ·split at E<;>try (cases E;done)
  unfold Pz at E;split at E<;>try (cases E;done)
  split at E
  ·cases E;exact gy hd h
  ·split at E<;>try (cases E;done)
   cases E;exact iU hd h
 ·unfold M0 at E
  split at E<;>try (cases E;done)
  ·split at E<;>try (cases E;done)
   cases E;exact iU hd (gU h)
  ·split at E<;>try (cases E;done)
   cases E;exact iU hd (gU h)
theorem PS{d:t9}{g:Nat}{o:SOp}{t:Bool}(E:opC call sg c d o=some c')(hd:d≠some g)(h:c.get g= .bool t):c'.get g= .bool t:=by
 have e:mY c d (dJ c d o)=some c'->c'.get g= .bool t:=by
  intro E;cases he:dJ c d o with
  |none=>rw[he]at E;cases E
  |some e=>rw[he]at E;cases E;exact iU hd h
 cases o with
 |call f a_=>
  simp only[opC]at E;split at E<;>try (cases E;done)
  exact C1 E hd h
 |appO z b q y=>exact C0 E hd h
 |newB F=>
  simp only[opC]at E;unfold nq at E;split at E<;>try (cases E;done)
  cases E;exact iU hd h
 |slid q=>
  simp only[opC]at E;unfold ql at E;split at E<;>try (cases E;done)
  unfold og at E;split at E<;>try (cases E;done)
  split at E<;>try (cases E;done)
  cases E;exact gy hd (lB h)
 |_=>exact e E
theorem uz{g:Nat}{b:Bool}{i:SI}(h:i.okG N g b=true):(∀k,i.dst=some k->k<N)/\i.g=some (g,b)/\i.dst≠some g:=by
 simp only[SI.okG,aB,decide_eq_true_eq]at h;obtain⟨⟨z,y⟩,H⟩:=h;refine⟨fun k E=> ?_, ?_,H⟩
 ·unfold SI.ok at z;rw[E]at z;simpa using z
 ·split at y
  ·rename_i I J F
   simp only[aB,decide_eq_true_eq,beq_iff_eq]at y;rw[F,y.1,y.2]
  ·cases y
theorem CP(U:fV P call){ops:Array Oper}{y E:LAc}(hl:ji (fQ P ops) ops.toList=some y){Q:LAe}{g:Nat}{b:Bool}{c1:CSt}
 (fin:∀(m n:Nat),n+m=ops.size->E=y.drop n->∀a w,M C N c1 a w->wpOps P ops Q (List.range' n m) a w):
 ∀(l:LAc)(m n:Nat)(c:CSt)(a:Act)(w:World),n+m=ops.size->l++E=y.drop n->(∀i∈l,i.okG N g b=true)->M C N c a w->c.get g= .bool b->plC call sg l c=some c1->wpOps P ops Q (List.range' n m) a w:=by
 obtain⟨J,O⟩:=eH hl;intro l;induction l with
 |nil=>intro m n c a w hn H _ hM _ z;rw[MY]at z;cases z;exact fin m n hn H a w hM
 |cons i l Z=>
  intro m n c a w hn H L hM ht z;obtain⟨g1,g2,g3⟩:=uz (L i (aw ..));simp only[aV]at H
  have F:n<y.length:=by
   rcases bL n y.length with h|h
   ·exact h
   ·rw[br h]at H;cases H
  rw[aY F]at H;obtain⟨a3,a1⟩:=jp.inj H;have I:n<ops.toList.length:=by omega
  obtain⟨m',rfl⟩:∃m',m=m'+1:=⟨m-1,by rw[J,aO]at F;omega⟩;simp only[List.range'_succ];rw[wpOps_cons];rw[plC]at z;cases h1:opC call sg c i.dst i.op with
  |none=>rw[h1,BI]at z;cases z
  |some c2=>
   rw[h1,BH]at z;have a0:dy call sg c i=some c2:=by unfold dy;rw[g2];simp only[ht,if_true];exact h1
   have W:i.ok N=true:=by
    unfold SI.ok;cases hdd:i.dst with
    |none=>rfl
    |some k=>simpa using g1 k hdd
   refine iZ U hM W (o:=ops.toList[n]) (by rw[<-cY,ab I]) (by rw[a3];exact O n I F) a0 ?_;intro a' w' a2;exact Z m' (n+1) c2 a' w' (by omega) a1 (fun j hj=>L j (an _ hj)) a2 (PS h1 g3 ht) z
theorem qA(O:fV P call){ops:Array Oper}{y z:LAc}(hl:ji (fQ P ops) ops.toList=some y){Q:LAe}{g:Nat}{b:Bool}{v:SV}(U:v= .tup []\/∃t,v= .bool t/\t≠b){c1:CSt}
 (fin:∀(m n:Nat),n+m=ops.size->z=y.drop n->∀a w,M C N c1 a w->wpOps P ops Q (List.range' n m) a w):
 ∀(l:LAc)(m n:Nat)(c:CSt)(a:Act)(w:World),n+m=ops.size->l++z=y.drop n->(∀i∈l,i.okG N g b=true)->M C N c a w->c.get g=v->unL c l=c1->wpOps P ops Q (List.range' n m) a w:=by
 obtain⟨I,L⟩:=eH hl;intro l;induction l with
 |nil=>intro m n c a w hn F _ hM _ Z;cases Z;exact fin m n hn F a w hM
 |cons i l a0=>
  intro m n c a w hn F J hM ht Z;obtain⟨g1,g2,g3⟩:=uz (J i (aw ..));simp only[aV]at F
  have E:n<y.length:=by
   rcases bL n y.length with h|h
   ·exact h
   ·rw[br h]at F;cases F
  rw[aY E]at F;obtain⟨a4,a2⟩:=jp.inj F;have H:n<ops.toList.length:=by omega
  obtain⟨m',rfl⟩:∃m',m=m'+1:=⟨m-1,by rw[I,aO]at E;omega⟩;simp only[List.range'_succ];rw[wpOps_cons]
  have a1:dy call (fun _=> {}) c i=some (c.put i.dst (.tup [])):=by
   unfold dy;rw[g2];simp only[ht];rcases U with rfl|⟨t,rfl,htb⟩
   ·rfl
   ·simp only[htb,if_false]
  have W:i.ok N=true:=by
   unfold SI.ok;cases hdd:i.dst with
   |none=>rfl
   |some k=>simpa using g1 k hdd
  refine iZ O hM W (o:=ops.toList[n]) (by rw[<-cY,ab H]) (by rw[a4];exact L n H E) a1 ?_;intro a' w' a3;exact a0 m' (n+1) _ a' w' (by omega) a2 (fun j hj=>J j (an _ hj)) a3 (CZ g3 ht) Z
theorem we(Z:fV P call){ops:Array Oper}{y:LAc}(hl:ji (fQ P ops) ops.toList=some y){Q:LAe}:
 ∀(l:List RI)(m n:Nat),n+m=ops.size->erL l=y.drop n->l.all (RI.ok N)=true->∀{c:CSt}{a:Act}{w:World},M C N c a w->fD call sg l c=some c'->(∀a w,M C N c' a w->Q .normal a w)->wpOps P ops Q (List.range' n m) a w:=by
 obtain⟨W,a0⟩:=eH hl;intro l;induction l with
 |nil=>
  intro m n hn E _ c a w hM z hQ;have h1:y.length<=n:=List.drop_eq_nil_iff.1 E.symm;rw[W,aO]at h1;have:m=0:=by omega
  subst this;simp only[List.range'_zero,wpOps];rw[BD]at z;cases z;exact hQ _ _ hM
 |cons q r ih=>
  intro m n hn E a4 c a w hM z hQ;rw[iv,aB]at a4;obtain⟨U,I⟩:=a4;cases q with
  |dir q=>
   rw[BF]at z;cases hd:qj c q with
   |none=>rw[hd,kT]at z;cases z
   |some c1=>rw[hd,kR,pr]at z;exact ih m n hn E I (oT hM hd) z hQ
  |own i F=>
   rw[BC]at z;simp only[erL]at E
   have H:n<y.length:=by
    rcases bL n y.length with h|h
    ·exact h
    ·rw[br h]at E;cases E
   rw[aY H]at E;obtain⟨a2,a1⟩:=jp.inj E;have O:n<ops.toList.length:=by omega
   obtain⟨m',rfl⟩:∃m',m=m'+1:=⟨m-1,by rw[W,aO]at H;omega⟩;simp only[List.range'_succ];rw[wpOps_cons];cases hs:rZ c i with
   |none=>rw[hs,kT]at z;cases z
   |some c1=>rw[hs,kR]at z;refine v8 hM U (o:=ops.toList[n]) (by rw[<-cY,ab O]) (by rw[a2];exact a0 n O H) hs ?_;intro a' w' L;exact ih m' (n+1) (by omega) a1 I (L.kill F) z hQ
  |tks i F=>
   rw[BB]at z;simp only[erL]at E
   have H:n<y.length:=by
    rcases bL n y.length with h|h
    ·exact h
    ·rw[br h]at E;cases E
   rw[aY H]at E;obtain⟨a2,a1⟩:=jp.inj E;have O:n<ops.toList.length:=by omega
   obtain⟨m',rfl⟩:∃m',m=m'+1:=⟨m-1,by rw[W,aO]at H;omega⟩;simp only[List.range'_succ];rw[wpOps_cons];cases hs:zg c i with
   |none=>rw[hs,kT]at z;cases z
   |some c1=>rw[hs,kR]at z;refine vt hM U (o:=ops.toList[n]) (by rw[<-cY,ab O]) (by rw[a2];exact a0 n O H) hs ?_;intro a' w' L;exact ih m' (n+1) (by omega) a1 I (L.kill F) z hQ
  |op i F=>
   rw[M1]at z;simp only[erL]at E
   have H:n<y.length:=by
    rcases bL n y.length with h|h
    ·exact h
    ·rw[br h]at E;cases E
   rw[aY H]at E;obtain⟨a2,a1⟩:=jp.inj E;have O:n<ops.toList.length:=by omega
   obtain⟨m',rfl⟩:∃m',m=m'+1:=⟨m-1,by rw[W,aO]at H;omega⟩;simp only[List.range'_succ];rw[wpOps_cons];cases hs:dy call sg c i with
   |none=>rw[hs,kT]at z;cases z
   |some c1=>rw[hs,kR]at z;refine iZ Z hM U (o:=ops.toList[n]) (by rw[<-cY,ab O]) (by rw[a2];exact a0 n O H) hs ?_;intro a' w' L;exact ih m' (n+1) (by omega) a1 I (L.kill F) z hQ
  |grp g b l F=>
   rw[BE]at z;cases hs:oM call sg b l c (c.get g)with
   |none=>rw[hs,kT]at z;cases z
   |some c1=>
    rw[hs,kR]at z;unfold oM at hs;have a5:=hs;split at hs<;>try (cases hs;done)
    rotate_left
    ·rename_i ht
     have J:∀i∈l,i.okG N g b=true:=by simpa[RI.ok]using U
     have fin:∀(m n:Nat),n+m=ops.size->erL r=y.drop n->∀a w,M C N c1 a w->wpOps P ops Q (List.range' n m) a w:=fun m n hn E a w L=>ih m n hn E I (L.kill F) z hQ
     simp only[erL]at E;cases hs;exact qA Z hl (.inl rfl) fin l m n c a w hn E J hM ht rfl
    rename_i t ht;have J:∀i∈l,i.okG N g b=true:=by simpa[RI.ok]using U
    have fin:∀(m n:Nat),n+m=ops.size->erL r=y.drop n->∀a w,M C N c1 a w->wpOps P ops Q (List.range' n m) a w:=fun m n hn E a w L=>ih m n hn E I (L.kill F) z hQ
    simp only[erL]at E;split at hs
    ·rename_i a3
     exact CP Z hl fin l m n c a w hn E J hM (by rw[ht,a3]) hs
    ·rename_i a3
     cases hs;exact qA Z hl (.inr ⟨t,rfl,a3⟩) fin l m n c a w hn E J hM ht rfl
end Go.Sy
