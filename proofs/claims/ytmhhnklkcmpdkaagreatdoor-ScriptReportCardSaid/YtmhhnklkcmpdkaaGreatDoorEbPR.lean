/- A sound engine for Go code. No condition. -/
import Derived.Test.YtmhhnklkcmpdkaaGreatDoorEaPR
import Derived.LoopN
open Array renaming ext' -> jQ, getD -> lU, getD_eq_getD_getElem? -> bT, getElem?_eq_getElem -> iK, getElem?_eq_some_iff -> cz, getElem?_modify -> dz, getElem?_toList -> dy, length_toList -> bf, replicate -> eE
open Bool renaming and_eq_true -> aE, false_eq_true -> aP, not_eq_true' -> dE, not_true -> vq, or_eq_true -> kg
open List renaming Nodup -> Bm, Pairwise -> gx, Sublist -> qE, all_eq_true -> aZ, append_nil -> bO, cons_append -> aL, contains_eq_mem -> fV, drop_eq_getElem_cons -> bD, drop_eq_nil_of_le -> ez, drop_take -> Kd, filter_cons -> fb, filter_eq_self -> gF, getD_cons_succ -> cZ, getD_cons_zero -> gD, getD_eq_getElem?_getD -> aa, getElem?_append_left -> cn, getElem?_append_right -> cO, getElem?_drop -> bH, getElem?_eq_getElem -> ac, getElem?_eq_none -> fI, getElem?_map -> aR, getElem?_range -> cN, getElem?_set -> lx, getElem?_take -> bZ, getElem_mem -> aF, getElem_of_mem -> cr, length_append -> af, length_cons -> ai, length_drop -> aQ, length_eq_zero_iff -> cD, length_map -> av, length_range -> uj, length_set -> bM, length_take -> aw, map_append -> b9, map_cons -> ax, mem_append -> am, mem_cons -> aq, mem_cons_of_mem -> an, mem_cons_self -> aD, mem_map -> aS, mem_map_of_mem -> co, mem_of_mem_drop -> ny, mem_of_mem_take -> cg, mem_range -> gO, mem_singleton -> bC, nil_append -> aA, nodup_cons -> fT, not_mem_nil -> cY, pairwise_append -> iQ, pairwise_cons -> bY, pairwise_iff_getElem -> rx, pairwise_map -> iu, range -> bQ, range' -> uY, replicate -> aB, take_length -> cG
open Nat renaming add_assoc -> gP, add_mul -> bW, add_zero -> fJ, le_max_right -> CE, le_refl -> aM, le_trans -> fi, lt_or_ge -> bq, min_eq_left -> rp, mod_eq_of_lt -> ek, mul_comm -> dr, mul_le_mul_right -> cm, mul_one -> gI, succ_mul -> eX, zero_add -> de
open Go.Op renaming bytesLess -> dw
open Option renaming bind_some -> dm, getD_some -> bn, ite_none_right_eq_some -> bg, map_eq_some_iff -> aj, map_some -> bz, some -> ay
open Prod renaming fst -> cV
open Go.Result renaming andThen_ok -> ao
open Go.Sem renaming run_bind -> aH, run_pure -> aU
open UInt8 renaming ofNat -> eL
set_option linter.unusedVariables false
set_option linter.unusedSimpArgs false
set_option linter.unnecessarySimpa false
set_option linter.unusedSectionVars false
namespace Go.Sy
variable [bl]
structure CSt where
 tm:List (Nat×SV)
 ob:List (Nat×aG)
 tk:List Nat
abbrev LBa:=Option CSt
def fD:List (Nat×SV)->Nat->SV
 |[],_=> .undef
 |p::r,n=>if p.1=n then p.2 else fD r n
def lr:List (Nat×SV)->Nat->SV->List (Nat×SV)
 |[],n,v=> [(n,v)]
 |p::r,n,v=>if n<p.1 then(n,v)::p::r else if n=p.1 then(n,v)::r else p::lr r n v
def Be:List (Nat×SV)->LAb->List (Nat×SV)
 |[],_=> []
 |p::r,l=>if l.contains p.1 then Be r l else p::Be r l
def jK:List (Nat×aG)->Nat->Option aG
 |[],_=>none
 |p::r,n=>if p.1=n then some p.2 else jK r n
def kp:List (Nat×aG)->Nat->aG->List (Nat×aG)
 |[],n,v=> [(n,v)]
 |p::r,n,v=>if n<p.1 then(n,v)::p::r else if n=p.1 then(n,v)::r else p::kp r n v
def pw:LAb->Nat->LAb
 |[],n=> [n]
 |p::r,n=>if n<p then n::p::r else if n=p then p::r else p::pw r n
def eA(lo hi:Nat):List (Nat×SV)->List (Nat×SV)
 |[]=> []
 |p::r=>(p.1,p.2.purge lo hi)::eA lo hi r
def CSt.get(c:CSt)(n:Nat):SV:=fD c.tm n
def CSt.ev(c:CSt):Arg->SV
 | .t n=>c.get n
 | .c v=>v
 | .f g=> .fn g [] []
def evL(c:CSt):List Arg->LAa
 |[]=> []
 |a::r=>c.ev a::evL c r
def CSt.put(c:CSt)(d:LAc)(v:SV):CSt:=
 match d with
 |some d=>⟨lr c.tm d v,c.ob,c.tk⟩
 |none=>c
def CSt.look(c:CSt)(o:Nat):Option aG:=jK c.ob o
def CSt.purge(c:CSt)(lo hi:Nat):CSt:=⟨eA lo hi c.tm,bV lo hi c.ob,df lo hi c.tk⟩
def CSt.kill(c:CSt)(l:LAb):CSt:=
 match l with
 |[]=>c
 |l=>⟨Be c.tm l,c.ob,c.tk⟩
def gd{α:Type}(p:Prop)[Decidable p](v:α):Option α:=if p then some v else none
def Cg(op:BinOp)(k:IntKind)(a b:Int):Option SV:=
 match op with
 | .add=>some (.int k (k.wrap (a+b)))
 | .sub=>some (.int k (k.wrap (a-b)))
 | .mul=>some (.int k (k.wrap (a*b)))
 | .quo=>gd (b≠0) (.int k (k.wrap (a.tdiv b)))
 | .rem=>gd (b≠0) (.int k (a.tmod b))
 | .and=>some (.int k (cy .and k a b))
 | .or=>some (.int k (cy .or k a b))
 | .xor=>some (.int k (cy .xor k a b))
 | .andNot=>some (.int k (cy .andNot k a b))
 | .shl=>gd (0<=b) (.int k (k.wrap (a*2^(min b.toNat k.bits))))
 | .shr=>gd (0<=b) (.int k (a.fdiv (2^(min b.toNat k.bits))))
 | .eql=>some (.bool (decide (a=b)))
 | .neq=>some (.bool (decide (a≠b)))
 | .lss=>some (.bool (decide (a<b)))
 | .leq=>some (.bool (decide (a<=b)))
 | .gtr=>some (.bool (decide (b<a)))
 | .geq=>some (.bool (decide (b<=a)))
def DR(op:BinOp)(a b:UInt8):Option SV:=
 match op with
 | .add=>some (.u8 (a+b))
 | .sub=>some (.u8 (a-b))
 | .mul=>some (.u8 (a*b))
 | .quo=>gd (b≠0) (.u8 (a/b))
 | .rem=>gd (b≠0) (.u8 (a % b))
 | .and=>some (.u8 (a&&&b))
 | .or=>some (.u8 (a|||b))
 | .xor=>some (.u8 (a^^^b))
 | .andNot=>some (.u8 (a&&& ~~~b))
 | .eql=>some (.bool (decide (a=b)))
 | .neq=>some (.bool (decide (a≠b)))
 | .lss=>some (.bool (decide (a<b)))
 | .leq=>some (.bool (decide (a<=b)))
 | .gtr=>some (.bool (decide (b<a)))
 | .geq=>some (.bool (decide (b<=a)))
 |_=>none
def NC(op:BinOp)(a:UInt8)(b:Int):Option SV:=
 match op with
 | .shl=>gd (0<=b) (.u8 (eL (a.toNat*2^(min b.toNat 8))))
 | .shr=>gd (0<=b) (.u8 (eL (a.toNat/2^(min b.toNat 8))))
 |_=>none
def NF(op:BinOp)(a b:t8):Option SV:=
 match op with
 | .add=>gd (a.length+b.length<=9223372036854775807) (.str (a++b))
 | .eql=>some (.bool (decide (a=b)))
 | .neq=>some (.bool (decide (a≠b)))
 | .lss=>some (.bool (dw a b))
 | .leq=>some (.bool (dw a b||decide (a=b)))
 | .gtr=>some (.bool (!(dw a b||decide (a=b))))
 | .geq=>some (.bool (!dw a b))
 |_=>none
def pF:BinOp->Bool
 | .shl| .shr=>true
 |_=>false
def Km(op:BinOp):SV->SV->Option SV
 | .int k a,.int k' b=>if pF op=true\/k=k' then Cg op k a b else none
 | .u8 a,.int _ b=>NC op a b
 | .u8 a,.u8 b=>DR op a b
 | .str a,.str b=>NF op a b
 |_,_=>none
def oM(c:CSt)(n:Nat)(y:Bool):SV->Option SV
 | .pp cs=>gd (n<=cs.length) (eN y n (cs.map SV.data))
 | .ptr o off=>match c.look o with
  |some (.rc cs)=>gd (off+n<=cs.length) (eN y n (cs.drop off))
  |some (.arr _ xs)=>gd (off=0/\n<=xs.flatten.length) (eN y n (xs.flatten.map SV.data))
  |some (.bar l)=>gd (off=0/\n<=l.length) (eN y n (l.map .u8))
  |none=>none
 | .ap o sz i j=>match c.look o with
  |some (.arr sz' xs)=>gd (sz=sz'/\i<xs.length/\j+n<=sz) (eN y n (((xs.getD i []).drop j).map SV.data))
  |some (.bar l)=>gd (sz=1/\j=0/\n=1/\i<l.length) (eN y n [.u8 (l.getD i 0)])
  |some (.rc cs)=>gd (i*sz+j+n<=cs.length) (eN y n (cs.drop (i*sz+j)))
  |_=>none
 |_=>none
def mg(c:CSt)(x:Option Arg)(y:Int):Option Int:=
 match x with
 |none=>some y
 |some a=>(c.ev a).num
def ur(c:CSt)(sz:Nat)(x:SV)(lo hi z:Option Arg):Option SV:=
 match x with
 | .byt l t=>
  match mg c lo 0,mg c hi l.length,mg c z l.length with
  |some a,some b,some m=>gd (0<=a/\a<=b/\b<=m/\m<=l.length/\sz=1/\(z.isSome=true->b=m)) (.byt ((l.take b.toNat).drop a.toNat) (ol t hi.isNone z.isSome))
  |_,_,_=>none
 | .lst y l t=>
  match mg c lo 0,mg c hi l.length,mg c z l.length with
  |some a,some b,some m=>gd (0<=a/\a<=b/\b<=m/\m<=l.length/\sz=y/\(z.isSome=true->b=m)) (.lst sz ((l.take b.toNat).drop a.toNat) (ol t hi.isNone z.isSome))
  |_,_,_=>none
 | .psl o y off n none=>
  match mg c lo 0,mg c hi n,z with
  |some a,some b,none=>gd (0<=a/\a<=b/\b<=n/\sz=y) (.psl o sz (off+a.toNat) (b.toNat-a.toNat) none)
  |_,_,_=>none
 | .psl o y off n (some cap)=>
  match mg c lo 0,mg c hi n,mg c z cap with
  |some a,some b,some m=>gd (0<=a/\a<=b/\b<=m/\m<=cap/\sz=y) (.psl o sz (off+a.toNat) (b.toNat-a.toNat) (some (m.toNat-a.toNat)))
  |_,_,_=>none
 |_=>none
def gn(c:CSt):SV->Option t8
 | .byt l _=>some l
 | .str l=>some l
 | .psl o sz off n _=>match c.look o with
  |some (.bar l)=>gd (sz=1/\off+n<=l.length) ((l.drop off).take n)
  |_=>none
 |_=>none
def lF(c:CSt)(sz:Nat):SV->Option f9
 | .lst y z _=>gd (sz=y) z
 | .psl o y off n _=>match c.look o with
  |some (.arr sz'' z)=>gd (sz=y/\sz=sz''/\off+n<=z.length) ((z.drop off).take n)
  |_=>none
 |_=>none
def psC(c:CSt):List (Nat×Nat×Arg)->List (Nat×Nat×SV)
 |[]=> []
 |(o,n,x)::r=>(o,n,c.ev x)::psC c r
def jz(t:Bool)(a b:SV):SV:=if t=true then a else b
def du(c:CSt):SOp->Option SV
 | .mov x=>some (c.ev x)
 | .build z J=>(jM z (psC c J)).map .agg
 | .lit sz F=>(rows sz (evL c F)).map fun r=> .lst sz r .clip
 | .litB F=>(toB (evL c F)).map fun r=> .byt r .clip
 | .load n I a=>oM c n I (c.ev a)
 | .nchk x=>match c.ev x with
  | .ptr o off=>some (.ptr o off)
  | .ap o sz i j=>some (.ap o sz i j)
  | .pp cs=>some (.pp cs)
  | .fn f a b=>some (.fn f a b)
  |_=>none
 | .bin op x y=>Km op (c.ev x) (c.ev y)
 | .eqS H K x y=>match c.ev x,c.ev y with
  | .agg cs,.agg ds=>(fE K cs ds).map fun b=> .bool (if H then !b else b)
  |_,_=>none
 | .un op x=>Bp op (c.ev x)
 | .toInt k x=>jk k (c.ev x)
 | .slid _=>none
 | .newB _=>none
 | .isni H x=>match c.ev x with| .nili=>some (.bool (!H))| .ife=>some (.bool H)|_=>none
 | .s2b x=>match c.ev x with| .str l=>some (.byt l .no)|_=>none
 | .b2s x=>match c.ev x with
  | .str _=>none
  |v=>(gn c v).map .str
 | .mkfn f a b=>some (.fn f (evL c a) (evL c b))
 | .slcS x lo hi=>match c.ev x with
  | .str l=>match mg c lo 0,mg c hi l.length with
   |some a,some b=>gd (0<=a/\a<=b/\b<=l.length) (.str ((l.take b.toNat).drop a.toNat))
   |_,_=>none
  |_=>none
 | .slcL sz x lo hi Q=>ur c sz (c.ev x) lo hi Q
 | .faddr off x=>match c.ev x with
  | .ptr o k=>some (.ptr o (k+off))
  | .ap o sz i j=>some (.ap o sz i (j+off))
  | .pp cs=>some (.pp (cs.drop off))
  |_=>none
 | .iaddrL sz x i=>match c.ev x,(c.ev i).num with
  | .byt l _,some n=>gd (0<=n/\n<l.length/\sz=1) (.pp [.u8 (l.getD n.toNat 0)])
  | .lst sz' F _,some n=>gd (0<=n/\n<F.length/\sz=sz') (.pp (F.getD n.toNat []))
  | .psl o sz' off k _,some n=>gd (0<=n/\n<k/\sz=sz') (.ap o sz (off+n.toNat) 0)
  |_,_=>none
 | .iaddrA len sz x i=>match c.ev x,(c.ev i).num with
  | .ptr o off,some n=>match c.look o with
   |some (.rc _)=>gd (0<=n/\n<len) (.ptr o (off+n.toNat*sz))
   |some _=>gd (off=0/\0<=n/\n<len) (.ap o sz n.toNat 0)
   |none=>none
  | .pp cs,some n=>gd (0<=n/\n<len/\cs.length=len*sz) (.pp (cs.drop (n.toNat*sz)))
  |_,_=>none
 | .idxA len sz I x i=>match c.ev x,(c.ev i).num with
  | .agg cs,some n=>gd (0<=n/\n<len/\cs.length=len*sz) (eN I sz (cs.drop (n.toNat*sz)))
  |_,_=>none
 | .idxS x i=>match c.ev x,(c.ev i).num with
  | .str l,some n=>gd (0<=n/\n<l.length) (.u8 (l.getD n.toNat 0))
  |_,_=>none
 | .ext x i=>match c.ev x with
  | .tup vs=>gd (i<vs.length) (vs.getD i .undef)
  |_=>none
 | .len b x=>(lI b (c.ev x)).map fun n=> .int .i64 (n:Nat)
 | .mini x y=>match c.ev x,c.ev y with
  | .int k a,.int k' b=>if k=k' then some (.int k (if b<a then b else a))else none
  |_,_=>none
 | .maxi x y=>match c.ev x,c.ev y with
  | .int k a,.int k' b=>if k=k' then some (.int k (if a<b then b else a))else none
  |_,_=>none
 |_=>none
structure uX where
 val:SV
 wr:List (Nat×aG):=[]
 new:Option aG:=none
 eat:Tok:= .no
 tok:Bool:=false
def Arg.isT:Arg->Bool
 | .t _=>true
 |_=>false
def aG.wf:aG->Bool
 | .arr sz y=>y.all fun x=>decide (x.length=sz)
 |_=>true
def mV(c:CSt)(n:Nat)(v:LAa):SV->Option uX
 | .ptr o off=>match c.look o with
  |some (.rc cs)=>gd (off+n<=cs.length/\v.length=n/\v.all SV.one=true) {val:= .undef,wr:=[(o,.rc (iy cs off v))]}
  |some (.arr sz xs)=>gd (off=0/\n=xs.length*sz/\v.length=n/\v.all SV.isData=true) {val:= .undef,wr:=[(o,.arr sz (ld sz xs.length (v.map SV.data)))]}
  |some (.bar l)=>match toB v with
   |some y=>gd (off=0/\n=l.length/\y.length=n) {val:= .undef,wr:=[(o,.bar y)]}
   |none=>none
  |_=>none
 | .ap o sz i j=>match c.look o with
  |some (.arr sz' xs)=>gd (sz=sz'/\i<xs.length/\j+n<=sz/\v.length=n/\v.all SV.isData=true) {val:= .undef,wr:=[(o,.arr sz' (iM sz xs i j n (v.map SV.data)))]}
  |some (.bar l)=>match v with
   |[.u8 b]=>gd (sz=1/\j=0/\n=1/\i<l.length) {val:= .undef,wr:=[(o,.bar (l.set i b))]}
   |_=>none
  |_=>none
 |_=>none
def Tok.readyC(c:CSt):Tok->Bool
 | .no=>false
 | .clip=>true
 | .id t=>c.tk.contains t
def fF(c:CSt)(d:LAc):SOp->Option uX
 | .new o=>match d with
  |some d=>gd (o.wf=true) {val:= .ptr (d+100) 0,new:=some o}
  |none=>none
 | .box x=>match d with
  |some d=>some {val:= .ptr (d+100) 0,new:=some (.rc (c.ev x).cells)}
  |none=>none
 | .mk z bytes n m=>match d,c.ev n,c.ev m with
  |some d,.int _ n,.int _ m=>gd (0<=n/\n<=m/\bytes*m<=140737488355328/\m<=9223372036854775807) {val:= .psl (d+100) z.length 0 n.toNat (some m.toNat),new:=some (.arr z.length (aB m.toNat z))}
  |_,_,_=>none
 | .mkB n m=>match d,c.ev n,c.ev m with
  |some d,.int _ n,.int _ m=>gd (0<=n/\n<=m/\m<=140737488355328) {val:= .psl (d+100) 1 0 n.toNat (some m.toNat),new:=some (.bar (aB m.toNat 0))}
  |_,_,_=>none
 | .store n a x=>if(c.ev x).isDef=true then mV c n (c.ev x).cells (c.ev a)else none
 | .app z bytes x y=>match d with
  |some d=>match c.ev x with
   | .byt l t=>(gn c (c.ev y)).bind fun F=>gd (z.length=1/\bytes=1/\t.readyC c=true/\l.length+F.length<=140737488355328) {val:= .byt (l++F) (.id (d+100)),eat:=t,tok:=true}
   | .lst H l t=>(lF c z.length (c.ev y)).bind fun F=>gd (z.length=H/\t.readyC c=true/\(l.length+F.length)*bytes<=140737488355328) {val:= .lst z.length (l++F) (.id (d+100)),eat:=t,tok:=true}
   |_=>none
  |none=>none
 | .cpy sz x y=>match c.ev x with
  | .psl o H off n _=>match c.look o with
   |some (.bar l)=>(gn c (c.ev y)).bind fun F=>gd (sz=1/\H=1/\off+n<=l.length) {val:= .int .i64 (min F.length n:Nat),wr:=[(o,.bar (l.take off++F.take n++l.drop (off+(F.take n).length)))]}
   |some (.arr sz'' xs)=>(lF c sz (c.ev y)).bind fun F=>gd (y.isT=true/\sz=H/\sz=sz''/\off+n<=xs.length) {val:= .int .i64 (min F.length n:Nat),wr:=[(o,.arr sz (xs.take off++F.take n++xs.drop (off+(F.take n).length)))]}
   |_=>none
  |_=>none
 | .pick k a b=>match c.ev k with
  | .bool t=>some {val:=jz t (c.ev a) (c.ev b)}
  |_=>none
 | .call _ _=>none
 |so=>match du c so with
  |some v=>some {val:=v}
  |none=>none
def CSt.wr(c:CSt):List (Nat×aG)->CSt
 |[]=>c
 |p::r=>CSt.wr ⟨c.tm,kp c.ob p.1 p.2,c.tk⟩ r
def CSt.app(c:CSt)(d:LAc)(e:uX):CSt:=
 match e.new,e.tok with
 |some o,_=>CSt.put ⟨eA (d.getD 0+100) (d.getD 0+101) c.tm,kp (bV (d.getD 0+100) (d.getD 0+101) c.ob) (d.getD 0+100) (o.purge (d.getD 0+100) (d.getD 0+101)),df (d.getD 0+100) (d.getD 0+101) c.tk⟩ d e.val
 |none,true=>CSt.put ⟨eA (d.getD 0+100) (d.getD 0+101) c.tm,bV (d.getD 0+100) (d.getD 0+101) c.ob,pw (df (d.getD 0+100) (d.getD 0+101) (e.eat.eat c.tk)) (d.getD 0+100)⟩ d e.val
 |none,false=>(c.wr e.wr).put d e.val
mutual
def SV.bare:SV->SV
 | .byt l _=> .byt l .no
 | .lst sz y _=> .lst sz y .no
 | .agg cs=> .agg (SV.bareL cs)
 | .tup cs=> .tup (SV.bareL cs)
 | .fn f a b=> .fn f (SV.bareL a) (SV.bareL b)
 |v=>v
def SV.bareL:LAa->LAa
 |[]=> []
 |v::r=>v.bare::SV.bareL r
end
def BV(y:aG)(sz off n:Nat)(cap:LAc):SV:=
 match y with
 | .arr z F=>if z=sz/\off+n<=F.length then .lst sz ((F.drop off).take n) (if cap=some n then .clip else .no)else .undef
 | .bar l=>if sz=1/\off+n<=l.length then .byt ((l.drop off).take n) (if cap=some n then .clip else .no)else .undef
 | .rc _=> .undef
mutual
def SV.pub(o:Nat)(y:aG):SV->SV
 | .psl z sz off n cap=>if z=o then BV y sz off n cap else .psl z sz off n cap
 | .ptr z off=>if z=o then .undef else .ptr z off
 | .ap z sz i j=>if z=o then .undef else .ap z sz i j
 | .agg cs=> .agg (SV.pubL o y cs)
 | .tup cs=> .tup (SV.pubL o y cs)
 | .fn f a b=> .fn f (SV.pubL o y a) (SV.pubL o y b)
 |v=>v
def SV.pubL(o:Nat)(y:aG):LAa->LAa
 |[]=> []
 |v::r=>v.pub o y::SV.pubL o y r
end
def nU(o:Nat)(y:aG):List (Nat×SV)->List (Nat×SV)
 |[]=> []
 |p::r=>(p.1,p.2.pub o y)::nU o y r
def qN(o:Nat)(y:aG):aG->aG
 | .rc cs=> .rc (SV.pubL o y cs)
 |ob=>ob
def nf(o:Nat)(y:aG):List (Nat×aG)->List (Nat×aG)
 |[]=> []
 |p::r=>if p.1=o then nf o y r else(p.1,qN o y p.2)::nf o y r
def CSt.publish(c:CSt)(o:Nat)(vs:LAa):CSt×LAa:=
 match c.look o with
 |some (.arr sz xs)=>(⟨nU o (.arr sz xs) c.tm,nf o (.arr sz xs) c.ob,c.tk⟩,SV.pubL o (.arr sz xs) vs)
 |some (.bar l)=>(⟨nU o (.bar l) c.tm,nf o (.bar l) c.ob,c.tk⟩,SV.pubL o (.bar l) vs)
 |_=>(c,vs)
def iR:SV->LAb
 | .psl o _ _ _ _=> [o]
 |_=> []
def yT:LAa->LAb
 |[]=> []
 |v::r=>iR v++yT r
def oT(raw:LAb)(i:Nat):SV->LAb
 | .psl o _ _ _ _=>if raw.contains i=true then []else [o]
 | .agg cs=>if raw.contains i=true then []else yT cs
 |_=> []
def kh(raw:LAb):Nat->LAa->LAb
 |_,[]=> []
 |i,v::r=>oT raw i v++kh raw (i+1) r
def fP(c:CSt)(vs:LAa):LAb->CSt×LAa
 |[]=>(c,vs)
 |o::r=>fP (c.publish o vs).1 (c.publish o vs).2 r
def Tok.kc:Tok->Bool->Tok
 | .clip,b=>if b=true then .clip else .no
 | .no,_=> .no
 | .id _,_=> .no
def SV.kclip:SV->SV
 | .lst sz y t=> .lst sz y (t.kc y.isEmpty)
 | .byt l t=> .byt l (t.kc l.isEmpty)
 |v=>v.bare
def lP(tk:LAb)(j:Nat):SV->SV×List LAc
 | .agg cs=>(.agg (cs.map SV.kclip),[])
 | .byt l .no=>(.byt l .no,[])
 | .byt l .clip=>(.byt l (.id j),[none])
 | .byt l (.id t)=>if tk.contains t=true then(.byt l (.id j),[some t])else(.byt l .no,[])
 | .lst sz xs .no=>(.lst sz xs .no,[])
 | .lst sz xs .clip=>(.lst sz xs (.id j),[none])
 | .lst sz xs (.id t)=>if tk.contains t=true then(.lst sz xs (.id j),[some t])else(.lst sz xs .no,[])
 |v=>(v.bare,[])
def yR(j sz:Nat)(y:f9):Bool->SV×List LAc
 |true=>(.lst sz y .clip,[])
 |false=>(.lst sz y (.id j),[none])
def yQ(tk:LAb)(j sz:Nat)(y:f9):Tok->SV×List LAc
 | .clip=>yR j sz y y.isEmpty
 | .no=>lP tk j (.lst sz y .no)
 | .id t=>lP tk j (.lst sz y (.id t))
def vv(tk:LAb)(j:Nat):SV->SV×List LAc
 | .lst sz y t=>yQ tk j sz y t
 |v=>lP tk j v
def lQ(tk:LAb)(own:LAb):Nat->Nat->LAa->LAa×List LAc
 |_,_,[]=>([],[])
 |j,i,v::r=>
  if own.contains i=true then
   ((vv tk j v).1::(lQ tk own (j+(vv tk j v).2.length) (i+1) r).1,(vv tk j v).2++(lQ tk own (j+(vv tk j v).2.length) (i+1) r).2)
  else(v.bare::(lQ tk own j (i+1) r).1,(lQ tk own j (i+1) r).2)
def yb(tk:LAb):Nat->LAa->LAa×List LAc
 |_,[]=>([],[])
 |j,v::r=>((lP tk j v).1::(yb tk (j+(lP tk j v).2.length) r).1,(lP tk j v).2++(yb tk (j+(lP tk j v).2.length) r).2)
def lz(tk:LAb)(j:Nat):aG->aG×List LAc
 | .rc cs=>(.rc (yb tk j cs).1,(yb tk j cs).2)
 |o=>(o,[])
def fe(tk:LAb):Nat->List aG->List aG×List LAc
 |_,[]=>([],[])
 |j,v::r=>((lz tk j v).1::(fe tk (j+(lz tk j v).2.length) r).1,(lz tk j v).2++(fe tk (j+(lz tk j v).2.length) r).2)
def cI:List LAc->LAb
 |[]=> []
 |none::r=>cI r
 |some t::r=>t::cI r
def eP(c:CSt):Nat->LAb->LAb->LAb
 |0,acc,_=>acc
 |_+1,acc,[]=>acc
 |
  f+1,acc,o::t=>if acc.contains o=true then eP c f acc t else
  match c.look o with
  |some ob=>eP c f (acc++ [o]) (t++ob.ids)
  |none=>eP c f acc t
def looks(c:CSt):LAb->Option (List aG)
 |[]=>some []
 |o::r=>match c.look o,looks c r with
  |some ob,some l=>some (ob::l)
  |_,_=>none
def iD:LAb->Nat->Nat
 |[],_=>0
 |p::r,o=>if p=o then 0 else iD r o+1
def gS:List aG->LAb
 |[]=> []
 |o::r=>o.ids++gS r
def eB:LAb->Bool
 |[]=>true
 |a::r=> !r.contains a&&eB r
def rB(a b:LAb):Bool:=a.all b.contains
def fo(mo mt:Nat->Nat):List aG->List aG
 |[]=> []
 |o::r=>o.ren mo mt::fo mo mt r
structure eI where
 r:SV
 os:List (Nat×aG)
 tk:List Nat
structure Sig where
 own:List Nat:=[]
 raw:List Nat:=[]
def vg(ob:List (Nat×aG)):List (Nat×aG)->List (Nat×aG)
 |[]=>ob
 |p::r=>vg (kp ob p.1 p.2) r
def vj(tk:LAb):LAb->LAb
 |[]=>tk
 |t::r=>vj (pw tk t) r
def oQ(l:LAb):LAb->LAb
 |[]=> []
 |t::r=>if l.contains t=true then oQ l r else t::oQ l r
def vd(d:Nat):LAb->LAb
 |[]=> []
 |t::r=>nI d t::vd d r
def eI.small(q:eI):Bool:=q.os.all (fun p=>decide (p.1<1000)&&p.2.ids.all (fun k=>decide (k<1000))&&p.2.toks.all (fun k=>decide (k<1000)))&&q.r.ids.all (fun k=>decide (k<1000))&&q.r.toks.all (fun k=>decide (k<1000))&&q.tk.all (fun k=>decide (k<1000))
def lM(c:CSt)(d:LAc)(m mt:LAb)(q:eI):CSt:=
 CSt.put ⟨eA ((d.getD 0+1)*1000) ((d.getD 0+2)*1000) c.tm,
  vg (gH m (bV ((d.getD 0+1)*1000) ((d.getD 0+2)*1000) c.ob)) (vb (d.getD 0) m q.os),
  vj (oQ mt (df ((d.getD 0+1)*1000) ((d.getD 0+2)*1000) c.tk)) (vd (d.getD 0) q.tk)⟩ d (q.r.ren (km (d.getD 0) m) (nI (d.getD 0)))
abbrev dt:=Nat->LAa->List aG->Nat->Option eI
def eI.bare(q:eI):Bool:=q.os.isEmpty&&q.tk.isEmpty&&q.r.ids.isEmpty&&q.r.toks.isEmpty
def Cp(c:CSt)(d:LAc)(q:eI):Bool->LBa
 |true=>some (lM c d [] [] q)
 |false=>none
def qQ(c:CSt)(d:LAc)(q:eI):Bool->LBa
 |true=>some (c.put d q.r)
 |false=>Cp c d q q.small
def oP(c:CSt)(d:LAc):Option eI->LBa
 |some q=>qQ c d q q.bare
 |none=>none
def BC(c:CSt)(d:LAc)(m mt:LAb)(q:eI):Bool->LBa
 |true=>some (lM c d m mt q)
 |false=>none
def rH(c:CSt)(d:LAc)(m mt:LAb):Option eI->LBa
 |some q=>BC c d m mt q q.small
 |none=>none
def qH(call:dt)(c:CSt)(d:LAc)(g:Nat)(a_:LAa)(z:List LAc)(m:LAb)(os:List aG)(y:List LAc):Bool->LBa
 |true=>rH c d m (cI (z++y)) (call g (SV.renL (iD m) id a_) (fo (iD m) id os) (z.length+y.length))
 |false=>none
def qI(call:dt)(c:CSt)(d:LAc)(g:Nat)(a_:LAa)(y:List LAc)(m:LAb):List aG×List LAc->LBa
 |(os,mt2)=>qH call c d g a_ y m os mt2 (rB (SV.idsL a_++gS os) m&&eB m&&eB (cI (y++mt2))&&decide (m.length<=40)&&m.all fun o=> !inR (d.getD 0) o)
def nG(call:dt)(c:CSt)(d:LAc)(g:Nat)(a_:LAa)(y:List LAc)(m:LAb):Option (List aG)->LBa
 |some os=>qI call c d g a_ y m (fe c.tk (50+y.length) os)
 |none=>none
def qJ(call:dt)(c:CSt)(d:LAc)(g:Nat):LAa×List LAc->LBa
 |(a_,mt1)=>nG call c d g a_ mt1 (eP c 60 [] (SV.idsL a_)) (looks c (eP c 60 [] (SV.idsL a_)))
def lB(call:dt)(sg:Sig)(d:LAc)(g:Nat):CSt×LAa->LBa
 |(c,a_)=>qJ call c d g (lQ c.tk sg.own 50 0 a_)
def lL(call:dt)(sg:Sig)(c:CSt)(d:LAc)(g:Nat)(a_:LAa):Bool->LBa
 |true=>oP c d (call g (SV.bareL a_) [] 0)
 |false=>lB call sg d g (fP c a_ (kh sg.raw 0 a_))
def jp(call:dt)(sg:Sig)(c:CSt)(d:LAc)(g:Nat)(a_:LAa):LBa:=
 lL call sg c d g a_ ((SV.idsL a_).isEmpty&&sg.own.isEmpty)
inductive Dir where
 |kill (l:List Nat)
 |gc (l:List Nat)
 |gcr (lo hi:Nat)
 |pub (n:Nat)
 |tok (n id:Nat)
inductive RI where
 |op (i:SI) (dead:List Nat)
 |grp (g:Nat) (b:Bool) (l:List SI) (dead:List Nat)
 |own (i:SI) (dead:List Nat)
 |tks (i:SI) (dead:List Nat)
 |dir (d:Dir)
structure FI where
 n:Nat
 q:Bool
 i:SI
inductive RC where
 |skip
 |ops (l:List RI)
 |flt (b ds:List Nat) (l:List FI) (dead:List Nat)
 |fla (b ds:List Nat) (l:List FI) (ps:List (List Nat)) (dead:List Nat)
 |seq (a b:RC)
 |cond (c:Arg) (a b:RC)
 |block (id:Nat) (b:RC)
 |loop (b:RC)
 |exit (id:Nat)
 |ret
 |pre (ds:List Dir) (a:RC)
 |post (a:RC) (ds:List Dir)
 |bad
def erL:List RI->LAf
 |[]=> []
 | .op i _::r=>i::erL r
 | .grp _ _ l _::r=>l++erL r
 | .own i _::r=>i::erL r
 | .tks i _::r=>i::erL r
 | .dir _::r=>erL r
def SOp.er(o:SOp):SOp:=o
def SI.er(i:SI):SI:=⟨i.dst,i.g,i.op.er⟩
def J7:List FI->Nat->SI
 |[],_=>⟨none,none,.nchk (.c .undef)⟩
 |f::r,k=>if f.n=k then f.i.er else J7 r k
def unF(l:List FI):LAf:=(bQ l.length).map (J7 l)
def RC.er:RC->ij
 | .skip=> .skip
 | .ops l=> .ops (erL l)
 | .flt b y l _=> .drw b y (unF l)
 | .fla b y l _ _=> .drw b y (unF l)
 | .seq a b=> .seq a.er b.er
 | .cond c a b=> .cond c a.er b.er
 | .block id b=> .block id b.er
 | .loop b=> .loop b.er
 | .exit id=> .exit id
 | .ret=> .ret
 | .pre _ a=>a.er
 | .post a _=>a.er
 | .bad=> .bad
def gcC(c:CSt):LAb->CSt
 |[]=>c
 |o::r=>gcC (c.purge o (o+1)) r
def JS(c:CSt)(n id o:Nat)(y:aG)(v:SV):CSt:=
 ⟨lr (eA id (id+1) (nU o y c.tm)) n v,bV id (id+1) (nf o y c.ob),pw (df id (id+1) c.tk) id⟩
def Qp(c:CSt)(n id o sz off k y:Nat):Option aG->LBa
 |some (.bar l)=>if sz=1/\off+y<=l.length/\k<=y then some (JS c n id o (.bar (l.take (off+k))) (.byt ((l.drop off).take k) (.id id)))else some c
 |some (.arr sz' xs)=>if sz'=sz/\off+y<=xs.length/\k<=y then some (JS c n id o (.arr sz' (xs.take (off+k))) (.lst sz ((xs.drop off).take k) (.id id)))else some c
 |_=>some c
def Qq(c:CSt)(n id:Nat):SV->LBa
 | .byt l t=>match t with
  | .no=>some c
  | .clip=>some ⟨lr (eA id (id+1) c.tm) n (.byt l (.id id)),bV id (id+1) c.ob,pw (df id (id+1) c.tk) id⟩
  | .id t=>if t=id then some c else if c.tk.contains t=true then some ⟨lr (eA id (id+1) c.tm) n (.byt l (.id id)),bV id (id+1) c.ob,pw (df id (id+1) (df t (t+1) c.tk)) id⟩else none
 | .lst sz y t=>match t with
  | .no=>some c
  | .clip=>some ⟨lr (eA id (id+1) c.tm) n (.lst sz y (.id id)),bV id (id+1) c.ob,pw (df id (id+1) c.tk) id⟩
  | .id t=>if t=id then some c else if c.tk.contains t=true then some ⟨lr (eA id (id+1) c.tm) n (.lst sz y (.id id)),bV id (id+1) c.ob,pw (df id (id+1) (df t (t+1) c.tk)) id⟩else none
 | .psl o sz off k (some cp)=>Qp c n id o sz off k cp (c.look o)
 |_=>some c
def wb(c:CSt):Dir->LBa
 | .kill l=>some (c.kill l)
 | .gc l=>some (gcC c l)
 | .gcr lo hi=>some (c.purge lo hi)
 | .pub n=>match c.get n with
  | .psl o _ _ _ _=>some (c.publish o []).1
  |_=>some c
 | .tok n id=>if id=99 then none else Qq c n id (c.get n)
def jE(c:CSt):List Dir->LBa
 |[]=>some c
 |d::r=>match wb c d with
  |some c'=>jE c' r
  |none=>none
inductive Ex where
 |n
 |x (id:Nat)
 |r
abbrev iJ:=Option (Ex×CSt)
def ri(c:CSt)(d:LAc):Option uX->LBa
 |some e=>some (c.app d e)
 |none=>none
def qO(c:CSt):LAc->Option t8->LBa
 |some k,some l=>some (c.app (some k) {val:= .psl (k+100) 1 0 l.length (some l.length),new:=some (.bar l)})
 |_,_=>none
def rI(c:CSt)(d:LAc)(o off n:Nat)(cap:LAc):Option aG->LBa
 |some (.bar l)=>if off+n<=l.length/\cap=some n then some (((c.publish o []).1).put d (.byt ((l.drop off).take n) .clip))else none
 |_=>none
def u9(c:CSt)(d:LAc):SV->LBa
 | .psl o 1 off n cap=>rI c d o off n cap (c.look o)
 |_=>none
def Sk(c:CSt):LAc->SV->LBa
 |some k,.str l=>some (c.app (some k) {val:= .psl (k+100) 1 0 l.length none,new:=some (.bar l)})
 |_,_=>none
def Ye(c:CSt)(z:LAa)(bytes:Nat)(l:t8):LAc->Option t8->LBa
 |some k,some l'=>if z.length≠1 then none else if l'=[]then some (c.put (some k) (.byt l .clip))else if bytes=1/\l.length+l'.length<=140737488355328 then some (c.app (some k) {val:= .psl (k+100) 1 0 (l.length+l'.length) none,new:=some (.bar (l++l'))})else none
 |_,_=>none
def Sj(c:CSt)(d:LAc)(z:LAa)(bytes:Nat)(y:Arg):SV->LBa
 | .byt l t=>if t= .clip then Ye c z bytes l d (gn c (c.ev y))else none
 |_=>none
def opC(call:dt)(sg:Nat->Sig)(c:CSt)(d:LAc)(o:SOp):LBa:=
 match o with
 | .newB y=>qO c d (toB (evL c y))
 | .slid x=>u9 c d (c.ev x)
 | .call f a_=>match c.ev f with
  | .fn g a b=>jp call (sg g) c d g (a++evL c a_++b)
  |_=>none
 |o=>ri c d (fF c d o)
def eO(call:dt)(sg:Nat->Sig)(c:CSt)(i:SI):LBa:=
 match i.g with
 |none=>opC call sg c i.dst i.op
 |some (g,b)=>match c.get g with
  | .bool t=>if t=b then opC call sg c i.dst i.op else some (c.put i.dst (.tup []))
  | .tup []=>some (c.put i.dst (.tup []))
  |_=>none
mutual
def plC(call:dt)(sg:Nat->Sig):LAf->CSt->LBa
 |[],c=>some c
 |i::r,c=>nxP call sg r (opC call sg c i.dst i.op)
def nxP(call:dt)(sg:Nat->Sig):LAf->LBa->LBa
 |r,some c=>plC call sg r c
 |_,none=>none
end
def unL(c:CSt):LAf->CSt
 |[]=>c
 |i::r=>unL (c.put i.dst (.tup [])) r
def sX(call:dt)(sg:Nat->Sig)(b:Bool)(l:LAf)(c:CSt):SV->LBa
 | .bool t=>if t=b then plC call sg l c else some (unL c l)
 | .tup []=>some (unL c l)
 |_=>none
def Si(c:CSt)(sz:Nat)(vs:LAa):LAc->Option f9->LBa
 |some k,some xs=>some (c.app (some k) {val:= .psl (k+100) sz 0 xs.length (some xs.length),new:=some (.arr sz xs)})
 |some k,none=>gd (sz=1/\vs.all SV.one=true) (c.app (some k) {val:= .psl (k+100) 1 0 vs.length (some vs.length),new:=some (.rc vs)})
 |_,_=>none
def xek(c:CSt)(d:LAc):SOp->LBa
 | .lit sz F=>Si c sz (evL c F) d (rows sz (evL c F))
 | .litB F=>qO c d (toB (evL c F))
 | .s2b x=>Sk c d (c.ev x)
 | .app z bytes x y=>Sj c d z bytes y (c.ev x)
 |_=>none
def Qu(c:CSt):LAc->SV->LBa
 |some k,.str l=>some (c.app (some k) {val:= .byt l (.id (k+100)),tok:=true})
 |_,_=>none
def xee(c:CSt)(d:LAc):SOp->LBa
 | .s2b x=>Qu c d (c.ev x)
 |_=>none
def Hs(c:CSt)(i:SI):LBa:=match i.g with
 |none=>xee c i.dst i.op
 |some _=>none
def py(c:CSt)(i:SI):LBa:=match i.g with
 |none=>xek c i.dst i.op
 |some _=>none
mutual
def gU(call:dt)(sg:Nat->Sig):List RI->CSt->LBa
 |[],c=>some c
 | .op i dead::r,c=>nxC call sg dead r (eO call sg c i)
 | .grp g b l dead::r,c=>nxC call sg dead r (sX call sg b l c (c.get g))
 | .own i dead::r,c=>nxC call sg dead r (py c i)
 | .tks i dead::r,c=>nxC call sg dead r (Hs c i)
 | .dir d::r,c=>nxC call sg [] r (wb c d)
def nxC(call:dt)(sg:Nat->Sig)(y:LAb):List RI->LBa->LBa
 |r,some c=>gU call sg r (c.kill y)
 |_,none=>none
end
def eh(c:CSt):SOp->Option SV
 | .pick k a b=>match c.ev k with
  | .bool t=>some (jz t (c.ev a) (c.ev b))
  |_=>none
 |so=>du c so
def qg(c:CSt)(o:SOp)(b:Bool):SV->Option SV
 | .bool t=>if t=b then eh c o else some (.tup [])
 | .tup []=>some (.tup [])
 |_=>none
def qv(c:CSt)(i:SI):Option SV:=match i.g with
 |none=>eh c i.op
 |some (g,b)=>qg c i.op b (c.get g)
def yG(m:Nat)(c:CSt):List FI->Prop
 |[]=>True
 |p::r=>(m/2^p.n % 2=1\/qv c p.i=some (c.get (p.i.dst.getD 0)))/\yG m c r
open Classical in
noncomputable def gdP{α:Type}(p:Prop)(v:α):Option α:=if p then some v else none
mutual
noncomputable def gh(call:dt)(sg:Nat->Sig)(b:LAb):List FI->List FI->CSt->LBa
 |[],_,c=>some c
 |⟨n,true,i⟩::r,ps,c=>A2 call sg b r (⟨n,true,i⟩::ps) c i.dst (qv c i)
 |⟨n,false,i⟩::r,ps,c=>uK call sg b r ps (b.getD n 0) (eO call sg c i)
noncomputable def A2(call:dt)(sg:Nat->Sig)(b:LAb):List FI->List FI->CSt->LAc->Option SV->LBa
 |r,ps,c,d,some v=>gh call sg b r ps (c.put d v)
 |_,_,_,_,none=>none
noncomputable def uK(call:dt)(sg:Nat->Sig)(b:LAb):List FI->List FI->Nat->LBa->LBa
 |r,ps,m,some c=>uL call sg b r ps (gdP (yG m c ps) c)
 |_,_,_,none=>none
noncomputable def uL(call:dt)(sg:Nat->Sig)(b:LAb):List FI->List FI->LBa->LBa
 |r,ps,some c=>gh call sg b r ps c
 |_,_,none=>none
end
def zJ:List FI->Nat->FI
 |[],k=>⟨k,false,⟨none,none,.nchk (.c .undef)⟩⟩
 |f::r,k=>if f.n=k then f else zJ r k
def jH(l:List FI):LAb->List FI
 |[]=> []
 |k::r=>zJ l k::jH l r
noncomputable def qS:LBa->LBa->LBa
 |some a,some b=>gdP (a=b) a
 |_,_=>none
noncomputable def kt(call:dt)(sg:Nat->Sig)(b:LAb)(l:List FI):List LAb->CSt->LBa
 |[],_=>none
 |[p],c=>gh call sg b (jH l p) [] c
 |p::q::r,c=>qS (gh call sg b (jH l p) [] c) (kt call sg b l (q::r) c)
def nrm(y:LAb):LBa->iJ
 |some c=>some (.n,c.kill y)
 |none=>none
def sq(rn:RC->CSt->iJ)(b:RC):iJ->iJ
 |some (.n,c)=>rn b c
 |r=>r
def cnd(rn:RC->CSt->iJ)(a b:RC)(c:CSt):SV->iJ
 | .bool t=>if t=true then rn a c else rn b c
 |_=>none
def blk(id:Nat):iJ->iJ
 |some (.x id',c)=>if id'=id then some (.n,c)else some (.x id',c)
 |r=>r
def lp(rn:RC->CSt->iJ)(b:RC):iJ->iJ
 |some (.n,c)=>rn (.loop b) c
 |r=>r
def prD(rn:RC->CSt->iJ)(a:RC):LBa->iJ
 |some c=>rn a c
 |none=>none
def psD(y:List Dir):iJ->iJ
 |some (.n,c)=>match jE c y with
  |some c'=>some (.n,c')
  |none=>none
 |r=>r
noncomputable def eY(rn:RC->CSt->iJ)(call:dt)(sg:Nat->Sig):RC->CSt->iJ
 | .skip,c=>some (.n,c)
 | .ops l,c=>nrm [] (gU call sg l c)
 | .flt b _ l dead,c=>nrm dead (gh call sg b l [] c)
 | .fla b _ l ps dead,c=>nrm dead (kt call sg b l ps c)
 | .seq a b,c=>sq rn b (rn a c)
 | .cond k a b,c=>cnd rn a b c (c.ev k)
 | .block id b,c=>blk id (rn b c)
 | .loop b,c=>lp rn b (rn b c)
 | .exit id,c=>some (.x id,c)
 | .ret,c=>some (.r,c)
 | .pre ds a,c=>prD rn a (jE c ds)
 | .post a ds,c=>psD ds (rn a c)
 | .bad,_=>none
def SI.ok(N:Nat)(i:SI):Bool:=match i.dst with
 |some d=>decide (d<N)
 |none=>true
def SI.okG(N g:Nat)(b:Bool)(i:SI):Bool:=i.ok N&&(match i.g with|some (g',b')=>decide (g'=g)&&(b'==b)|none=>false)&&decide (i.dst≠some g)
def RI.ok(N:Nat):RI->Bool
 | .op i _=>i.ok N
 | .grp g b l _=>l.all (SI.okG N g b)
 | .own i _=>i.ok N
 | .tks i _=>i.ok N
 | .dir _=>true
def qu(b:LAb)(i j:Nat):Bool:=(b.getD j 0).testBit i
def qL(b:LAb):LAc->List FI->Bool
 |_,[]=>true
 |
  s,f::r=>if f.q then(match s with|some s=>qu b s f.n|none=>true)&&qL b s r
  else(match s with|some s=>qu b s f.n|none=>true)&&qL b (some f.n) r
def MI(b:LAb)(p q:FI):Bool:= !qu b q.n p.n&&(p.q||q.q||qu b p.n q.n)
def sK(b:LAb):List FI->Bool
 |[]=>true
 |p::r=>r.all (MI b p)&&sK b r
def SI.rds(i:SI):LAb:=i.op.args.filterMap (fun| .t n=>some n|_=>none)++(match i.g with|some (g,_)=> [g]|none=> [])
def S8(b:LAb)(l:List FI):Bool:=l.all fun q=> !q.q||(match q.i.dst with|some d=>l.all fun p=> !p.i.rds.contains d||(qu b q.n p.n&&decide (p.n≠q.n))|none=>false)
def P2(b:LAb)(l:List FI):Bool:=qL b none l&&sK b l&&S8 b l&&decide ((l.map FI.n).Nodup)&&l.all (fun f=>decide (f.n<l.length))&&(bQ l.length).all (l.map FI.n).contains
def BN(b:LAb):LAc->List FI->Bool
 |_,[]=>true
 |s,f::r=>if f.q then(match s with|some s=>qu b s f.n|none=>true)&&BN b s r else BN b (some f.n) r
def zK(b:LAb):List FI->Bool
 |[]=>true
 |p::r=>r.all (fun q=> !qu b q.n p.n)&&zK b r
def gL(l:List FI):LAb:=l.filterMap fun f=>if f.q then none else some f.n
def mN(b:LAb):Nat->List LAb->Bool
 |_,[]=>false
 |_,[]::_=>true
 |0,_=>false
 |k+1,A@((h::t)::_)=>(h::t).all fun g=>(h::t).any (fun x=>decide (x≠g)&&qu b x g)||mN b k (A.filterMap fun p=>match p with|x::r=>if x=g then some r else none|[]=>none)
def Qa(b:LAb)(l:List FI)(y:List LAb):Bool:=
 S8 b l&&decide ((l.map FI.n).Nodup)&&l.all (fun f=>decide (f.n<l.length))&&(bQ l.length).all (l.map FI.n).contains&&
 y.all (fun p=>decide p.Nodup&&p.all (l.map FI.n).contains&&(l.map FI.n).all p.contains&&BN b none (jH l p)&&zK b (jH l p))&&mN b l.length (y.map fun p=>gL (jH l p))
def RC.ok(N:Nat):RC->Bool
 | .ops l=>l.all (RI.ok N)
 | .flt b _ l _=>l.all (fun f=>f.i.ok N)&&P2 b l
 | .fla b _ l y _=>l.all (fun f=>f.i.ok N)&&Qa b l y
 | .seq a b=>a.ok N&&b.ok N
 | .cond _ a b=>a.ok N&&b.ok N
 | .block _ b=>b.ok N
 | .loop b=>b.ok N
 | .pre _ a=>a.ok N
 | .post a _=>a.ok N
 |_=>true
inductive RV where
 |tmp (t:Nat)
 |cell (t n:Nat) (ag:Bool)
structure FnC where
 code:RC
 n:Nat
 rs:List RV
 keep:List Nat:=[]
 raw:List Nat:=[]
inductive FnB where
 |code (F:FnC)
 |prim (f:List SV->List aG->Nat->Option eI)
structure iT where
 fn:Nat->Option FnB
 sg:Nat->Sig
def vy(c:CSt):List RV->Option LAa
 |[]=>some []
 | .tmp t::r=>match vy c r with
  |some vs=>some (c.get t::vs)
  |none=>none
 | .cell t n ag::r=>match (if ag=true\/n=1 then oM c n ag (c.get t)else none),vy c r with
  |some v,some vs=>some (v::vs)
  |_,_=>none
def mQ:Nat->LAb
 |0=> []
 |n+1=>mQ n++ [n]
def hJ(k:Nat):List aG->List (Nat×aG)
 |[]=> []
 |o::r=>(k,o)::hJ (k+1) r
def iS(k:Nat)(m:LAb)(o:Nat):Nat:=if o<k then o else 100+iD m o
def tks(b n:Nat):LAb:=(mQ n).map (b+ ·)
def Uy(k:Nat)(vs:LAa)(z:List LAc)(m:LAb)(os:List aG)(y:List LAc):Bool->Option eI
 |true=>some ⟨(kU vs).ren (iS k m) id,(hJ 0 (fo (iS k m) id (os.take k)))++(hJ (100+k) (fo (iS k m) id (os.drop k))),tks 60 (z.length+y.length)⟩
 |false=>none
def Uz(k:Nat)(vs:LAa)(y:List LAc)(m:LAb):List aG×List LAc->Option eI
 |(os,mt2)=>Uy k vs y m os mt2 (rB (SV.idsL vs++gS os) m&&eB m&&eB (cI (y++mt2))&&decide (m.take k=mQ k)&&(m.drop k).all fun o=>decide (k<=o))
def UA(k:Nat)(c:CSt)(vs:LAa)(y:List LAc)(m:LAb):Option (List aG)->Option eI
 |some os=>Uz k vs y m (fe c.tk (60+y.length) os)
 |none=>none
def UB(k:Nat)(c:CSt):LAa×List LAc->Option eI
 |(vs,mt1)=>UA k c vs mt1 (eP c 60 [] (mQ k++SV.idsL vs)) (looks c (eP c 60 [] (mQ k++SV.idsL vs)))
def MW(keep:LAb)(k:Nat)(c:CSt)(vs:LAa):Bool->Option eI
 |true=>some ⟨kU (SV.bareL vs),[],[]⟩
 |false=>UB k c (lQ c.tk keep 60 0 vs)
def Te(keep:LAb)(k:Nat):CSt×LAa->Option eI
 |(c,vs)=>MW keep k c vs (decide (k=0)&&(SV.idsL vs).isEmpty&&keep.isEmpty)
def MX(keep raw:LAb)(k:Nat)(c:CSt):Option LAa->Option eI
 |some vs=>Te keep k (fP c vs (kh raw 0 vs))
 |none=>none
def my(F:FnC)(k:Nat):iJ->Option eI
 |some (.n,c)=>MX F.keep F.raw k c (vy c F.rs)
 |some (.r,c)=>MX F.keep F.raw k c (vy c F.rs)
 |_=>none
def qP:Nat->LAa->List (Nat×SV)
 |_,[]=> []
 |i,v::r=>(i,v)::qP (i+1) r
def vm(args:LAa)(os:List aG)(k:Nat):CSt:=⟨qP 0 args,hJ 0 os,tks 50 k⟩
def Cf(rn:RC->CSt->iJ)(F:FnC)(args:LAa)(os:List aG)(k:Nat):iJ:=if args.length<=F.n then rn F.code (vm args os k)else none
def qR(rn:RC->CSt->iJ):Option FnB->LAa->List aG->Nat->Option eI
 |some (.code F),args,os,k=>my F os.length (Cf rn F args os k)
 |some (.prim f),args,os,k=>f args os k
 |none,_,_,_=>none
noncomputable def iA(T:iT):Nat->RC->CSt->iJ
 |0,_,_=>none
 |n+1,r,c=>eY (iA T n) (fun g args os k=>qR (iA T n) (T.fn g) args os k) T.sg r c
noncomputable def ge(T:iT)(n:Nat):dt:=fun g args os k=>qR (iA T n) (T.fn g) args os k
noncomputable def lim{α:Type}(g:Nat->Option α):Option α:=open Classical in if h:∃n x,g n=some x then g (Classical.choose h)else none
noncomputable def run(T:iT)(r:RC)(c:CSt):iJ:=lim fun n=>iA T n r c
noncomputable def call(T:iT):dt:=fun g args os k=>lim fun n=>ge T n g args os k
def leR(f g:RC->CSt->iJ):Prop:=∀r c x,f r c=some x->g r c=some x
def leC(f g:dt):Prop:=∀a b o k x,f a b o k=some x->g a b o k=some x
theorem Co{c:CSt}{d:LAc}{x:CSt}{a b:Option eI}(h:∀q,a=some q->b=some q)(k:oP c d a=some x):oP c d b=some x:=by
 cases a with
 |none=>cases k
 |some q=>rw[h q rfl];exact k
theorem BD{c:CSt}{d:LAc}{m mt:LAb}{x:CSt}{a b:Option eI}(h:∀q,a=some q->b=some q)(k:rH c d m mt a=some x):rH c d m mt b=some x:=by
 cases a with
 |none=>cases k
 |some q=>rw[h q rfl];exact k
theorem BE{f g:dt}(h:leC f g){c:CSt}{d:LAc}{n:Nat}{a_:LAa}{y:List LAc}{m:LAb}{o:Option (List aG)}{x:CSt}
 (k:nG f c d n a_ y m o=some x):nG g c d n a_ y m o=some x:=by
 cases o with
 |none=>cases k
 |some os=>
  simp only[nG]at k ⊢;generalize fe c.tk (50+y.length) os=z at k ⊢;obtain⟨H,F⟩:=z;simp only[qI]at k ⊢;generalize (rB (SV.idsL a_++gS H) m&&eB m&&eB (cI (y++F))&&decide (m.length<=40)&&m.all fun o=> !inR (d.getD 0) o)=b at k ⊢;cases b with
  |false=>cases k
  |true=>simp only[qH]at k ⊢;exact BD (fun q I=>h _ _ _ _ _ I) k
theorem BA{f g:dt}(h:leC f g){sg:Sig}{d:LAc}{n:Nat}{p:CSt×LAa}{x:CSt}(k:lB f sg d n p=some x):lB g sg d n p=some x:=by obtain⟨c,a_⟩:=p;simp only[lB]at k ⊢;generalize lQ c.tk sg.own 50 0 a_=z at k ⊢;obtain⟨F,y⟩:=z;simp only[qJ]at k ⊢;exact BE h k
theorem Cw{f g:dt}(h:leC f g){sg:Sig}{c:CSt}{d:LAc}{n:Nat}{a_:LAa}{x:CSt}(k:jp f sg c d n a_=some x):jp g sg c d n a_=some x:=by
 unfold jp at k ⊢;generalize ((SV.idsL a_).isEmpty&&sg.own.isEmpty)=b at k ⊢;cases b with
 |true=>exact Co (fun q y=>h _ _ _ _ _ y) k
 |false=>exact BA h k
theorem oH{f g:dt}(h:leC f g){sg:Nat->Sig}{c:CSt}{d:LAc}{o:SOp}{x:CSt}(k:opC f sg c d o=some x):opC g sg c d o=some x:=by
 cases o with
 |call a a_=>simp only[opC]at k ⊢;split at k<;>first|exact Cw h k|cases k
 |_=>exact k
theorem kR{f g:dt}(h:leC f g){sg:Nat->Sig}{c:CSt}{i:SI}{x:CSt}(k:eO f sg c i=some x):eO g sg c i=some x:=by
 unfold eO at k ⊢;split at k
 ·exact oH h k
 ·split at k
  ·split at k
   ·rename_i y;rw[if_pos y];exact oH h k
   ·rename_i y;rw[if_neg y];exact k
  ·exact k
  ·cases k
theorem AK{f g:dt}(h:leC f g){sg:Nat->Sig}:∀{l:LAf}{c x:CSt},plC f sg l c=some x->plC g sg l c=some x:=by
 intro l;induction l with
 |nil=>intro c x k;simpa[plC]using k
 |cons i r y=>
  intro c x k;simp only[plC]at k ⊢;cases hs:opC f sg c i.dst i.op with
  |none=>rw[hs]at k;simp[nxP]at k
  |some c1=>rw[hs]at k;rw[oH h hs];simp only[nxP]at k ⊢;exact y k
theorem vR{f g:dt}(h:leC f g){sg:Nat->Sig}{b:Bool}{l:LAf}{c x:CSt}{v:SV}(k:sX f sg b l c v=some x):sX g sg b l c v=some x:=by
 unfold sX at k ⊢;split at k
 ·split at k
  ·rename_i y;rw[if_pos y];exact AK h k
  ·rename_i y;rw[if_neg y];exact k
 ·exact k
 ·cases k
theorem pQ{f g:dt}(h:leC f g){sg:Nat->Sig}:∀{l:List RI}{c x:CSt},gU f sg l c=some x->gU g sg l c=some x:=by
 intro l;induction l with
 |nil=>intro c x k;simpa[gU]using k
 |cons i r z=>
  intro c x k;cases i with
  |op i y=>
   simp only[gU]at k ⊢;cases hs:eO f sg c i with
   |none=>rw[hs]at k;simp[nxC]at k
   |some c1=>rw[hs]at k;rw[kR h hs];simp only[nxC]at k ⊢;exact z k
  |grp q b l y=>
   simp only[gU]at k ⊢;cases hs:sX f sg b l c (c.get q)with
   |none=>rw[hs]at k;simp[nxC]at k
   |some c1=>rw[hs]at k;rw[vR h hs];simp only[nxC]at k ⊢;exact z k
  |own i y=>
   simp only[gU]at k ⊢;cases hs:py c i with
   |none=>rw[hs]at k;simp[nxC]at k
   |some c1=>rw[hs]at k;simp only[nxC]at k ⊢;exact z k
  |tks i y=>
   simp only[gU]at k ⊢;cases hs:Hs c i with
   |none=>rw[hs]at k;simp[nxC]at k
   |some c1=>rw[hs]at k;simp only[nxC]at k ⊢;exact z k
  |dir d=>
   simp only[gU]at k ⊢;cases hs:wb c d with
   |none=>rw[hs]at k;simp[nxC]at k
   |some c1=>rw[hs]at k;simp only[nxC]at k ⊢;exact z k
theorem kr{f g:dt}(h:leC f g){sg:Nat->Sig}{b:LAb}:∀{l y:List FI}{c x:CSt},gh f sg b l y c=some x->gh g sg b l y c=some x:=by
 intro l;induction l with
 |nil=>intro y c x k;simpa[gh]using k
 |cons i r z=>
  intro y c x k;obtain⟨n,q,i⟩:=i;cases q with
  |true=>
   simp only[gh]at k ⊢;cases hq:qv c i with
   |none=>rw[hq]at k;simp[A2]at k
   |some v=>rw[hq]at k;simp only[A2]at k ⊢;exact z k
  |false=>
   simp only[gh]at k ⊢;cases hs:eO f sg c i with
   |none=>rw[hs]at k;simp[uK]at k
   |some c1=>
    rw[hs]at k;rw[kR h hs];simp only[uK]at k ⊢;cases hg:gdP (yG (b.getD n 0) c1 y) c1 with
    |none=>rw[hg]at k;simp[uL]at k
    |some c2=>rw[hg]at k;simp only[uL]at k ⊢;exact z k
theorem qd{f g:dt}(h:leC f g){sg:Nat->Sig}{b:LAb}{l:List FI}:∀{F:List LAb}{c x:CSt},kt f sg b l F c=some x->kt g sg b l F c=some x
 |[],c,x,k=>by simp[kt]at k
 |[p],c,x,k=>kr h k
 |p::q::r,c,x,k=>by
  simp only[kt]at k ⊢;cases h1:gh f sg b (jH l p) [] c with
  |none=>rw[h1]at k;simp[qS]at k
  |some y=>
   cases h2:kt f sg b l (q::r) c with
   |none=>rw[h1,h2]at k;simp[qS]at k
   |some z=>rw[h1,h2]at k;rw[kr h h1,qd h h2];exact k
theorem rD{rn H:RC->CSt->iJ}{f g:dt}(F:leR rn H)(h:leC f g){sg:Nat->Sig}{r:RC}{c:CSt}{x:Ex×CSt}(k:eY rn f sg r c=some x):eY H g sg r c=some x:=by
 cases r with
 |skip=>exact k
 |ret=>exact k
 |exit id=>exact k
 |ops l=>
  simp only[eY]at k ⊢;cases hs:gU f sg l c with
  |none=>rw[hs]at k;cases k
  |some c1=>rw[hs]at k;rw[pQ h hs];exact k
 |flt b J l I=>
  simp only[eY]at k ⊢;cases hs:gh f sg b l [] c with
  |none=>rw[hs]at k;simp[nrm]at k
  |some c1=>rw[hs]at k;rw[kr h hs];exact k
 |fla b J l Q I=>
  simp only[eY]at k ⊢;cases hs:kt f sg b l Q c with
  |none=>rw[hs]at k;simp[nrm]at k
  |some c1=>rw[hs]at k;rw[qd h hs];exact k
 |seq a b=>
  simp only[eY]at k ⊢;cases hs:rn a c with
  |none=>rw[hs]at k;cases k
  |some p=>
   rw[hs]at k;rw[F _ _ _ hs];obtain⟨e,c1⟩:=p;cases e with
   |n=>exact F _ _ _ k
   |x id=>exact k
   |r=>exact k
 |cond a y z=>
  simp only[eY]at k ⊢;unfold cnd at k ⊢;split at k
  ·split at k
   ·rename_i K;rw[if_pos K];exact F _ _ _ k
   ·rename_i K;rw[if_neg K];exact F _ _ _ k
  ·cases k
 |block id b=>
  simp only[eY]at k ⊢;cases hs:rn b c with
  |none=>rw[hs]at k;cases k
  |some p=>rw[hs]at k;rw[F _ _ _ hs];exact k
 |loop b=>
  simp only[eY]at k ⊢;cases hs:rn b c with
  |none=>rw[hs]at k;cases k
  |some p=>
   rw[hs]at k;rw[F _ _ _ hs];obtain⟨e,c1⟩:=p;cases e with
   |n=>exact F _ _ _ k
   |x id=>exact k
   |r=>exact k
 |pre J a=>
  simp only[eY]at k ⊢;cases hs:jE c J with
  |none=>rw[hs]at k;cases k
  |some c1=>rw[hs]at k;exact F _ _ _ k
 |bad=>cases k
 |post a J=>
  simp only[eY]at k ⊢;cases hs:rn a c with
  |none=>rw[hs]at k;cases k
  |some p=>rw[hs]at k;rw[F _ _ _ hs];exact k
theorem nP{rn y:RC->CSt->iJ}(z:leR rn y){o:Option FnB}{a:LAa}{os:List aG}{k:Nat}{x:eI}(h:qR rn o a os k=some x):qR y o a os k=some x:=by
 cases o with
 |none=>cases h
 |some b=>
  cases b with
  |prim f=>exact h
  |code F=>
   simp only[qR,Cf]at h ⊢;split at h
   ·rename_i H
    rw[if_pos H];cases hs:rn F.code (vm a os k)with
    |none=>rw[hs]at h;cases h
    |some p=>rw[hs]at h;rw[z _ _ _ hs];exact h
   ·cases h
variable {T:iT}
theorem vx:∀n,leR (iA T n) (iA T (n+1))
 |0=>fun r c x h=>by simp[iA]at h
 |n+1=>fun r c x h=>by have y:=vx n;rw[iA]at h ⊢;exact rD y (fun g a os k x h=>nP y h) h
theorem mI{n m:Nat}(h:n<=m):leR (iA T n) (iA T m):=by
 induction m with
 |zero=>
  have:n=0:=by omega
  subst this;exact fun _ _ _ h=>h
 |succ m y=>
  rcases bq n (m+1)with h1|h1
  ·exact fun r c x z=>vx m r c x (y (by omega) r c x z)
  ·have:n=m+1:=by omega
   subst this;exact fun _ _ _ h=>h
theorem eQ{n m:Nat}(h:n<=m):leC (ge T n) (ge T m):=fun _ _ _ _ _ y=>nP (mI h) y
theorem AX{α:Type}{g:Nat->Option α}(F:∀n m x,n<=m->g n=some x->g m=some x){n:Nat}{x:α}(h:g n=some x):lim g=some x:=by have z:∃n x,g n=some x:=⟨n,x,h⟩;unfold lim;rw[dif_pos z];obtain⟨y,H⟩:=Classical.choose_spec z;have h1:=F _ (max n (Classical.choose z)) _ (CE _ _) H;have h2:=F _ (max n (Classical.choose z)) _ (Nat.le_max_left _ _) h;rw[H,<-h1,h2]
theorem MN{α:Type}{g:Nat->Option α}{x:α}(h:lim g=some x):∃n,g n=some x:=by
 unfold lim at h;split at h
 ·exact⟨_,h⟩
 ·cases h
theorem MB{n:Nat}{r:RC}{c:CSt}{x:Ex×CSt}(h:iA T n r c=some x):run T r c=some x:=AX (fun _ _ _ y h=>mI y _ _ _ h) h
theorem iN{r:RC}{c:CSt}{x:Ex×CSt}(h:run T r c=some x):∃n,iA T n r c=some x:=MN h
theorem yL{n:Nat}{g:Nat}{a:LAa}{os:List aG}{k:Nat}{x:eI}(h:ge T n g a os k=some x):call T g a os k=some x:=AX (fun _ _ _ y h=>eQ y _ _ _ _ _ h) h
theorem sM{g:Nat}{a:LAa}{os:List aG}{k:Nat}{x:eI}(h:call T g a os k=some x):∃n,ge T n g a os k=some x:=MN h
theorem MC(n:Nat):leR (iA T n) (run T):=fun _ _ _ h=>MB h
theorem TJ(n:Nat):leC (ge T n) (call T):=fun _ _ _ _ _ h=>yL h
theorem Cx{sg:Sig}{c:CSt}{d:LAc}{g:Nat}{a_:LAa}{x:CSt}(k:jp (call T) sg c d g a_=some x):∃n,jp (ge T n) sg c d g a_=some x:=by
 unfold jp at k ⊢;generalize ((SV.idsL a_).isEmpty&&sg.own.isEmpty)=b at k ⊢;cases b with
 |true=>
  simp only[lL]at k ⊢;cases hq:call T g (SV.bareL a_) [] 0 with
  |none=>rw[hq]at k;cases k
  |some q=>obtain⟨n,K⟩:=sM hq;exact⟨n,by rw[K];rw[hq]at k;exact k⟩
 |false=>
  simp only[lL]at k ⊢;generalize fP c a_ (kh sg.raw 0 a_)=z at k ⊢;obtain⟨c1,J⟩:=z;simp only[lB]at k ⊢;generalize lQ c1.tk sg.own 50 0 J=z at k ⊢;obtain⟨y,F⟩:=z;simp only[qJ]at k ⊢;cases ho:looks c1 (eP c1 60 [] (SV.idsL y))with
  |none=>rw[ho]at k;cases k
  |some os=>
   rw[ho]at k;simp only[nG]at k ⊢;generalize fe c1.tk (50+F.length) os=z at k ⊢;obtain⟨I,H⟩:=z;simp only[qI]at k ⊢;generalize (rB (SV.idsL y++gS I) (eP c1 60 [] (SV.idsL y))&&eB (eP c1 60 [] (SV.idsL y))&&eB (cI (F++H))&&decide ((eP c1 60 [] (SV.idsL y)).length<=40)&&(eP c1 60 [] (SV.idsL y)).all fun o=> !inR (d.getD 0) o)=b at k ⊢;cases b with
   |false=>cases k
   |true=>
    simp only[qH]at k ⊢;cases hq:call T g (SV.renL (iD (eP c1 60 [] (SV.idsL y))) id y) (fo (iD (eP c1 60 [] (SV.idsL y))) id I) (F.length+H.length)with
    |none=>rw[hq]at k;cases k
    |some q=>obtain⟨n,K⟩:=sM hq;exact⟨n,by rw[K];rw[hq]at k;exact k⟩
theorem tN{sg:Nat->Sig}{c:CSt}{d:LAc}{o:SOp}{x:CSt}(k:opC (call T) sg c d o=some x):∃n,opC (ge T n) sg c d o=some x:=by
 cases o with
 |call a a_=>simp only[opC]at k ⊢;split at k<;>first|exact Cx k|cases k
 |_=>exact⟨0,k⟩
theorem rE{sg:Nat->Sig}{c:CSt}{i:SI}{x:CSt}(k:eO (call T) sg c i=some x):∃n,eO (ge T n) sg c i=some x:=by
 unfold eO at k ⊢;split at k
 ·exact tN k
 ·split at k
  ·split at k
   ·rename_i y;simp only[if_pos y];exact tN k
   ·rename_i y;simp only[if_neg y];exact⟨0,k⟩
  ·exact⟨0,k⟩
  ·cases k
theorem Ll{sg:Nat->Sig}:∀{l:LAf}{c x:CSt},plC (call T) sg l c=some x->∃n,plC (ge T n) sg l c=some x:=by
 intro l;induction l with
 |nil=>intro c x k;exact⟨0,by simpa[plC]using k⟩
 |cons i r z=>
  intro c x k;simp only[plC]at k ⊢;cases hs:opC (call T) sg c i.dst i.op with
  |none=>rw[hs]at k;simp[nxP]at k
  |some c1=>rw[hs]at k;simp only[nxP]at k;obtain⟨n,F⟩:=tN hs;obtain⟨m,y⟩:=z k;refine⟨max n m, ?_⟩;rw[oH (eQ (Nat.le_max_left n m)) F];simp only[nxP];exact AK (eQ (CE n m)) y
theorem Ji{sg:Nat->Sig}{b:Bool}{l:LAf}{c x:CSt}{v:SV}(k:sX (call T) sg b l c v=some x):∃n,sX (ge T n) sg b l c v=some x:=by
 unfold sX at k ⊢;split at k
 ·split at k
  ·rename_i y;simp only[if_pos y];exact Ll k
  ·rename_i y;simp only[if_neg y];exact⟨0,k⟩
 ·exact⟨0,k⟩
 ·cases k
theorem I2{sg:Nat->Sig}:∀{l:List RI}{c x:CSt},gU (call T) sg l c=some x->∃n,gU (ge T n) sg l c=some x:=by
 intro l;induction l with
 |nil=>intro c x k;exact⟨0,by simpa[gU]using k⟩
 |cons i r z=>
  intro c x k;cases i with
  |op i y=>
   simp only[gU]at k ⊢;cases hs:eO (call T) sg c i with
   |none=>rw[hs]at k;simp[nxC]at k
   |some c1=>rw[hs]at k;simp only[nxC]at k;obtain⟨n,H⟩:=rE hs;obtain⟨m,F⟩:=z k;refine⟨max n m, ?_⟩;rw[kR (eQ (Nat.le_max_left n m)) H];simp only[nxC];exact pQ (eQ (CE n m)) F
  |grp q b l y=>
   simp only[gU]at k ⊢;cases hs:sX (call T) sg b l c (c.get q)with
   |none=>rw[hs]at k;simp[nxC]at k
   |some c1=>rw[hs]at k;simp only[nxC]at k;obtain⟨n,H⟩:=Ji hs;obtain⟨m,F⟩:=z k;refine⟨max n m, ?_⟩;rw[vR (eQ (Nat.le_max_left n m)) H];simp only[nxC];exact pQ (eQ (CE n m)) F
  |own i y=>
   simp only[gU]at k ⊢;cases hs:py c i with
   |none=>rw[hs]at k;simp[nxC]at k
   |some c1=>rw[hs]at k;simp only[nxC]at k ⊢;exact z k
  |tks i y=>
   simp only[gU]at k ⊢;cases hs:Hs c i with
   |none=>rw[hs]at k;simp[nxC]at k
   |some c1=>rw[hs]at k;simp only[nxC]at k ⊢;exact z k
  |dir d=>
   simp only[gU]at k ⊢;cases hs:wb c d with
   |none=>rw[hs]at k;simp[nxC]at k
   |some c1=>rw[hs]at k;simp only[nxC]at k ⊢;exact z k
theorem pY{sg:Nat->Sig}{b:LAb}:∀{l y:List FI}{c x:CSt},gh (call T) sg b l y c=some x->∃n,gh (ge T n) sg b l y c=some x:=by
 intro l;induction l with
 |nil=>intro y c x k;exact⟨0,by simpa[gh]using k⟩
 |cons i r I=>
  intro y c x k;obtain⟨n,q,i⟩:=i;cases q with
  |true=>
   simp only[gh]at k ⊢;cases hq:qv c i with
   |none=>rw[hq]at k;simp[A2]at k
   |some v=>rw[hq]at k;simp only[A2]at k ⊢;exact I k
  |false=>
   simp only[gh]at k ⊢;cases hs:eO (call T) sg c i with
   |none=>rw[hs]at k;simp[uK]at k
   |some c1=>
    rw[hs]at k;simp only[uK]at k;cases hg:gdP (yG (b.getD n 0) c1 y) c1 with
    |none=>rw[hg]at k;simp[uL]at k
    |some c2=>rw[hg]at k;simp only[uL]at k;obtain⟨m1,F⟩:=rE hs;obtain⟨z,H⟩:=I k;refine⟨max m1 z, ?_⟩;rw[kR (eQ (Nat.le_max_left m1 z)) F];simp only[uK];rw[hg];simp only[uL];exact kr (eQ (CE m1 z)) H
theorem wt{sg:Nat->Sig}{b:LAb}{l:List FI}:∀{F:List LAb}{c x:CSt},kt (call T) sg b l F c=some x->∃n,kt (ge T n) sg b l F c=some x
 |[],c,x,k=>by simp[kt]at k
 |[p],c,x,k=>pY k
 |p::q::r,c,x,k=>by
  simp only[kt]at k ⊢;cases h1:gh (call T) sg b (jH l p) [] c with
  |none=>rw[h1]at k;simp[qS]at k
  |some y=>
   cases h2:kt (call T) sg b l (q::r) c with
   |none=>rw[h1,h2]at k;simp[qS]at k
   |some z=>rw[h1,h2]at k;obtain⟨n,I⟩:=pY h1;obtain⟨m,H⟩:=wt h2;exact⟨max n m,by rw[kr (eQ (Nat.le_max_left n m)) I,qd (eQ (CE n m)) H];exact k⟩
theorem two{r s:RC}{c d:CSt}{x y:Ex×CSt}(h:run T r c=some x)(k:run T s d=some y):∃n,iA T n r c=some x/\iA T n s d=some y:=by obtain⟨n,F⟩:=iN h;obtain⟨m,z⟩:=iN k;exact⟨max n m,mI (Nat.le_max_left n m) _ _ _ F,mI (CE n m) _ _ _ z⟩
theorem Bw{r:RC}{c:CSt}{x:Ex×CSt}(k:eY (run T) (call T) T.sg r c=some x):∃n,eY (iA T n) (ge T n) T.sg r c=some x:=by
 cases r with
 |skip=>exact⟨0,k⟩
 |ret=>exact⟨0,k⟩
 |exit id=>exact⟨0,k⟩
 |ops l=>
  simp only[eY]at k ⊢;cases hs:gU (call T) T.sg l c with
  |none=>rw[hs]at k;cases k
  |some c1=>obtain⟨n,F⟩:=I2 hs;exact⟨n,by rw[F];rw[hs]at k;exact k⟩
 |flt b I l H=>
  simp only[eY]at k ⊢;cases hs:gh (call T) T.sg b l [] c with
  |none=>rw[hs]at k;simp[nrm]at k
  |some c1=>obtain⟨n,F⟩:=pY hs;exact⟨n,by rw[F];rw[hs]at k;exact k⟩
 |fla b I l K H=>
  simp only[eY]at k ⊢;cases hs:kt (call T) T.sg b l K c with
  |none=>rw[hs]at k;simp[nrm]at k
  |some c1=>obtain⟨n,F⟩:=wt hs;exact⟨n,by rw[F];rw[hs]at k;exact k⟩
 |seq a b=>
  simp only[eY]at k ⊢;cases hs:run T a c with
  |none=>rw[hs]at k;cases k
  |some p=>
   rw[hs]at k;obtain⟨e,c1⟩:=p;cases e with
   |n=>obtain⟨n,h1,h2⟩:=two hs k;exact⟨n,by rw[h1];exact h2⟩
   |x id=>obtain⟨n,F⟩:=iN hs;exact⟨n,by rw[F];exact k⟩
   |r=>obtain⟨n,F⟩:=iN hs;exact⟨n,by rw[F];exact k⟩
 |cond a y z=>
  simp only[eY]at k ⊢;unfold cnd at k ⊢;split at k
  ·split at k
   ·rename_i J;simp only[if_pos J];exact iN k
   ·rename_i J;simp only[if_neg J];exact iN k
  ·cases k
 |block id b=>
  simp only[eY]at k ⊢;cases hs:run T b c with
  |none=>rw[hs]at k;cases k
  |some p=>obtain⟨n,F⟩:=iN hs;exact⟨n,by rw[F];rw[hs]at k;exact k⟩
 |loop b=>
  simp only[eY]at k ⊢;cases hs:run T b c with
  |none=>rw[hs]at k;cases k
  |some p=>
   rw[hs]at k;obtain⟨e,c1⟩:=p;cases e with
   |n=>obtain⟨n,h1,h2⟩:=two hs k;exact⟨n,by rw[h1];exact h2⟩
   |x id=>obtain⟨n,F⟩:=iN hs;exact⟨n,by rw[F];exact k⟩
   |r=>obtain⟨n,F⟩:=iN hs;exact⟨n,by rw[F];exact k⟩
 |pre I a=>
  simp only[eY]at k ⊢;cases hs:jE c I with
  |none=>rw[hs]at k;cases k
  |some c1=>rw[hs]at k;exact iN k
 |bad=>cases k
 |post a I=>
  simp only[eY]at k ⊢;cases hs:run T a c with
  |none=>rw[hs]at k;cases k
  |some p=>obtain⟨n,F⟩:=iN hs;exact⟨n,by rw[F];rw[hs]at k;exact k⟩
theorem yy{α:Type}{a b:Option α}(h:∀x,a=some x->b=some x)(k:∀x,b=some x->a=some x):a=b:=by
 cases a with
 |none=>cases b with
  |none=>rfl
  |some x=>exact absurd (k x rfl) (by simp)
 |some x=>exact(h x rfl).symm
theorem jd(r:RC)(c:CSt):run T r c=eY (run T) (call T) T.sg r c:=by
 refine yy (fun x h=> ?_) (fun x h=> ?_)
 ·obtain⟨n,y⟩:=iN h
  cases n with
  |zero=>simp[iA]at y
  |succ n=>rw[iA]at y;exact rD (MC n) (TJ n) y
 ·obtain⟨n,y⟩:=Bw h
  exact MB (n:=n+1) (by rw[iA];exact y)
theorem tu(g:Nat)(a:LAa)(os:List aG)(k:Nat):call T g a os k=qR (run T) (T.fn g) a os k:=by
 refine yy (fun x h=> ?_) (fun x h=> ?_)
 ·obtain⟨n,y⟩:=sM h
  exact nP (MC n) y
 ·cases hF:T.fn g with
  |none=>rw[hF]at h;cases h
  |some b=>
   cases b with
   |prim f=>exact yL (n:=0) (by unfold ge;rw[hF];rw[hF]at h;exact h)
   |code F=>
    rw[hF]at h;simp only[qR,Cf]at h;split at h
    ·rename_i z
     cases hs:run T F.code (vm a os k)with
     |none=>rw[hs]at h;cases h
     |some p=>obtain⟨n,y⟩:=iN hs;refine yL (n:=n) ?_;unfold ge;rw[hF];simp only[qR,Cf,if_pos z];rw[y];rw[hs]at h;exact h
    ·cases h
theorem KX(c:CSt):run T .skip c=some (.n,c):=jd _ _
theorem QT(c:CSt):run T .ret c=some (.r,c):=jd _ _
theorem K5(id:Nat)(c:CSt):run T (.exit id) c=some (.x id,c):=jd _ _
theorem QV(l:List RI)(c:CSt):run T (.ops l) c=nrm [] (gU (call T) T.sg l c):=jd _ _
theorem QX(b F:LAb)(l:List FI)(z:List LAb)(y:LAb)(c:CSt):run T (.fla b F l z y) c=nrm y (kt (call T) T.sg b l z c):=jd _ _
theorem QW(b z:LAb)(l:List FI)(y:LAb)(c:CSt):run T (.flt b z l y) c=nrm y (gh (call T) T.sg b l [] c):=jd _ _
theorem HC(a b:RC)(c:CSt):run T (.seq a b) c=sq (run T) b (run T a c):=jd _ _
theorem K6(k:Arg)(a b:RC)(c:CSt):run T (.cond k a b) c=cnd (run T) a b c (c.ev k):=jd _ _
theorem IV(id:Nat)(b:RC)(c:CSt):run T (.block id b) c=blk id (run T b c):=jd _ _
theorem ab(b:RC)(c:CSt):run T (.loop b) c=lp (run T) b (run T b c):=jd _ _
theorem QU(y:List Dir)(a:RC)(c:CSt):run T (.pre y a) c=prD (run T) a (jE c y):=jd _ _
theorem KZ(a:RC)(y:List Dir)(c:CSt):run T (.post a y) c=psD y (run T a c):=jd _ _
theorem wi{g:Nat}{F:FnC}(h:T.fn g=some (.code F))(a:LAa)(os:List aG)(k:Nat):call T g a os k=my F os.length (Cf (run T) F a os k):=by rw[tu,h];rfl
theorem fH{g:Nat}{f:LAa->List aG->Nat->Option eI}(h:T.fn g=some (.prim f))(a:LAa)(os:List aG)(k:Nat):call T g a os k=f a os k:=by rw[tu,h];rfl
variable {call:dt}{sg:Nat -> Sig}{c:CSt}{d:Option Nat}{k:Nat}
theorem kJ{α:Type}{p:Prop}[Decidable p]{v:α}(h:p):gd p v=some v:=if_pos h
def iX(c:CSt)(d:LAc):Option SV->LBa
 |some v=>some (c.put d v)
 |none=>none
theorem IW(v:SV):iX c d (some v)=some (c.put d v):=rfl
theorem IX:iX c d none=none:=rfl
theorem Ld(l:List (Nat×SV))(o:List (Nat×aG))(t:LAb)(v:SV):CSt.put ⟨l,o,t⟩ (some k) v=⟨lr l k v,o,t⟩:=rfl
theorem Le(v:SV):CSt.put c none v=c:=rfl
theorem XD(l:List (Nat×SV))(o:List (Nat×aG))(t:LAb)(n:Nat):CSt.get ⟨l,o,t⟩ n=fD l n:=rfl
theorem SE(l:List (Nat×SV))(o:List (Nat×aG))(t:LAb)(n:Nat):CSt.look ⟨l,o,t⟩ n=jK o n:=rfl
theorem xiL(n:Nat):c.ev (.t n)=c.get n:=rfl
theorem xiN(v:SV):c.ev (.c v)=v:=rfl
theorem xiM(g:Nat):c.ev (.f g)= .fn g [] []:=rfl
theorem tT:c.kill []=c:=rfl
theorem I7(l:List (Nat×SV))(o:List (Nat×aG))(t:LAb)(n:Nat)(r:LAb):CSt.kill ⟨l,o,t⟩ (n::r)=⟨Be l (n::r),o,t⟩:=rfl
def Kf:Option SV->Option uX
 |some v=>some {val:=v}
 |none=>none
theorem Iw(v:SV):Kf (some v)=some {val:=v}:=rfl
theorem Ix:Kf none=none:=rfl
theorem Ba{so:SOp}{o:Option SV}(h:fF c d so=Kf o):ri c d (fF c d so)=iX c d o:=by rw[h];cases o<;>rfl
theorem Qh(o:Option SV):(match o with|some v=>some {val:=v}|none=>none:Option uX)=Kf o:=by cases o<;>rfl
def JU:SV->Option SV
 | .ptr o off=>some (.ptr o off)
 | .ap o sz i j=>some (.ap o sz i j)
 | .pp cs=>some (.pp cs)
 | .fn f a b=>some (.fn f a b)
 |_=>none
def UM(z:Bool)(y:LAb):SV->SV->Option SV
 | .agg cs,.agg ds=>(fE y cs ds).map fun b=> .bool (if z then !b else b)
 |_,_=>none
def Vn:SV->Option SV
 | .str l=>some (.str l)
 |_=>none
def J1(y:Bool):SV->Option SV
 | .nili=>some (.bool (!y))
 | .ife=>some (.bool y)
 |_=>none
def Ub:SV->Option SV
 | .str l=>some (.byt l .no)
 |_=>none
def UP(c:CSt):SV->Option SV
 | .str _=>none
 |v=>(gn c v).map .str
def Mz(l:t8):Option Int->Option Int->Option SV
 |some a,some b=>gd (0<=a/\a<=b/\b<=l.length) (.str ((l.take b.toNat).drop a.toNat))
 |_,_=>none
def JK(c:CSt)(lo hi:Option Arg):SV->Option SV
 | .str l=>Mz l (mg c lo 0) (mg c hi l.length)
 |_=>none
def zO(off:Nat):SV->Option SV
 | .ptr o k=>some (.ptr o (k+off))
 | .ap o sz i j=>some (.ap o sz i (j+off))
 | .pp cs=>some (.pp (cs.drop off))
 |_=>none
def sV(sz:Nat):SV->Option Int->Option SV
 | .byt l _,some n=>gd (0<=n/\n<l.length/\sz=1) (.pp [.u8 (l.getD n.toNat 0)])
 | .lst sz' xs _,some n=>gd (0<=n/\n<xs.length/\sz=sz') (.pp (xs.getD n.toNat []))
 | .psl o sz' off k _,some n=>gd (0<=n/\n<k/\sz=sz') (.ap o sz (off+n.toNat) 0)
 |_,_=>none
def tU(len sz o off:Nat)(n:Int):Option aG->Option SV
 |some (.rc _)=>gd (0<=n/\n<len) (.ptr o (off+n.toNat*sz))
 |some _=>gd (off=0/\0<=n/\n<len) (.ap o sz n.toNat 0)
 |none=>none
def pG(c:CSt)(len sz:Nat):SV->Option Int->Option SV
 | .ptr o off,some n=>tU len sz o off n (c.look o)
 | .pp cs,some n=>gd (0<=n/\n<len/\cs.length=len*sz) (.pp (cs.drop (n.toNat*sz)))
 |_,_=>none
def J4(len sz:Nat)(y:Bool):SV->Option Int->Option SV
 | .agg cs,some n=>gd (0<=n/\n<len/\cs.length=len*sz) (eN y sz (cs.drop (n.toNat*sz)))
 |_,_=>none
def J3:SV->Option Int->Option SV
 | .str l,some n=>gd (0<=n/\n<l.length) (.u8 (l.getD n.toNat 0))
 |_,_=>none
def UL(i:Nat):SV->Option SV
 | .tup vs=>gd (i<vs.length) (vs.getD i .undef)
 |_=>none
def Um:LAc->Option SV
 |some n=>some (.int .i64 (n:Nat))
 |none=>none
def JV:SV->SV->Option SV
 | .int k a,.int k' b=>if k=k' then some (.int k (if b<a then b else a))else none
 |_,_=>none
def JW:SV->SV->Option SV
 | .int k a,.int k' b=>if k=k' then some (.int k (if a<b then b else a))else none
 |_,_=>none
def zV:Option LAa->Option SV
 |some l=>some (.agg l)
 |none=>none
def Ul(sz:Nat):Option f9->Option SV
 |some r=>some (.lst sz r .clip)
 |none=>none
def JX:Option t8->Option SV
 |some r=>some (.byt r .clip)
 |none=>none
theorem Zl(x:Arg):du c (.mov x)=some (c.ev x):=rfl
theorem Hq(z:LAa)(y:List (Nat×Nat×Arg)):du c (.build z y)=zV (jM z (psC c y)):=by simp only[du];cases jM z (psC c y)<;>rfl
theorem T3(sz:Nat)(y:List Arg):du c (.lit sz y)=Ul sz (rows sz (evL c y)):=by simp only[du];cases rows sz (evL c y)<;>rfl
theorem Mw(y:List Arg):du c (.litB y)=JX (toB (evL c y)):=by simp only[du];cases toB (evL c y)<;>rfl
theorem Vh(n:Nat)(y:Bool)(a:Arg):du c (.load n y a)=oM c n y (c.ev a):=rfl
theorem Vd(x:Arg):du c (.nchk x)=JU (c.ev x):=rfl
theorem Zo(op:BinOp)(x y:Arg):du c (.bin op x y)=Km op (c.ev x) (c.ev y):=rfl
theorem Zn(F:Bool)(z:LAb)(x y:Arg):du c (.eqS F z x y)=UM F z (c.ev x) (c.ev y):=rfl
theorem xfz(op:UnOp)(x:Arg):du c (.un op x)=Bp op (c.ev x):=rfl
theorem Qj(q:IntKind)(x:Arg):du c (.toInt q x)=jk q (c.ev x):=rfl
theorem Vi(y:Bool)(x:Arg):du c (.isni y x)=J1 y (c.ev x):=rfl
theorem Zk(x:Arg):du c (.s2b x)=Ub (c.ev x):=rfl
theorem Zp(x:Arg):du c (.b2s x)=UP c (c.ev x):=rfl
theorem Ve(f:Nat)(a b:List Arg):du c (.mkfn f a b)=some (.fn f (evL c a) (evL c b)):=rfl
theorem Mv(x:Arg)(lo hi:Option Arg):du c (.slcS x lo hi)=JK c lo hi (c.ev x):=by simp only[du];cases c.ev x<;>rfl
theorem Vc(sz:Nat)(x:Arg)(lo hi y:Option Arg):du c (.slcL sz x lo hi y)=ur c sz (c.ev x) lo hi y:=rfl
theorem Qk(off:Nat)(x:Arg):du c (.faddr off x)=zO off (c.ev x):=rfl
theorem Kx(sz:Nat)(x i:Arg):du c (.iaddrL sz x i)=sV sz (c.ev x) (c.ev i).num:=rfl
theorem Ap(len sz:Nat)(x i:Arg):du c (.iaddrA len sz x i)=pG c len sz (c.ev x) (c.ev i).num:=by simp only[du];unfold pG tU;rfl
theorem Vk(len sz:Nat)(y:Bool)(x i:Arg):du c (.idxA len sz y x i)=J4 len sz y (c.ev x) (c.ev i).num:=rfl
theorem Vj(x i:Arg):du c (.idxS x i)=J3 (c.ev x) (c.ev i).num:=rfl
theorem Zm(x:Arg)(i:Nat):du c (.ext x i)=UL i (c.ev x):=rfl
theorem T4(b:Bool)(x:Arg):du c (.len b x)=Um (lI b (c.ev x)):=by simp only[du];cases lI b (c.ev x)<;>rfl
theorem Vf(x y:Arg):du c (.mini x y)=JV (c.ev x) (c.ev y):=rfl
theorem Vg(x y:Arg):du c (.maxi x y)=JW (c.ev x) (c.ev y):=rfl
def SOp.pure:SOp->Bool
 | .new _| .box _| .mk _ _ _ _| .mkB _ _| .store _ _ _| .app _ _ _ _| .cpy _ _ _| .pick _ _ _| .call _ _| .newB _| .slid _=>false
 |_=>true
theorem wa{so:SOp}(h:so.pure=true):fF c d so=Kf (du c so):=by
 cases so<;>first|cases h;done|rfl|exact Qh _
theorem cL{so:SOp}(h:so.pure=true):opC call sg c d so=iX c d (du c so):=by
 have h1:opC call sg c d so=ri c d (fF c d so):=by cases so<;>first|rfl|cases h
 rw[h1];exact Ba (wa h)
theorem Z6(x:Arg):opC call sg c d (.mov x)=iX c d (some (c.ev x)):=cL rfl
theorem Sw(z:LAa)(y:List (Nat×Nat×Arg)):opC call sg c d (.build z y)=iX c d (zV (jM z (psC c y))):=(cL rfl).trans (by rw[Hq])
theorem Z8(sz:Nat)(y:List Arg):opC call sg c d (.lit sz y)=iX c d (Ul sz (rows sz (evL c y))):=(cL rfl).trans (by rw[T3])
theorem Xk(y:List Arg):opC call sg c d (.litB y)=iX c d (JX (toB (evL c y))):=(cL rfl).trans (by rw[Mw])
theorem Xj(n:Nat)(y:Bool)(a:Arg):opC call sg c d (.load n y a)=iX c d (oM c n y (c.ev a)):=cL rfl
theorem Xf(x:Arg):opC call sg c d (.nchk x)=iX c d (JU (c.ev x)):=cL rfl
theorem xae(op:BinOp)(x y:Arg):opC call sg c d (.bin op x y)=iX c d (Km op (c.ev x) (c.ev y)):=cL rfl
theorem xab(F:Bool)(z:LAb)(x y:Arg):opC call sg c d (.eqS F z x y)=iX c d (UM F z (c.ev x) (c.ev y)):=cL rfl
theorem xfZ(op:UnOp)(x:Arg):opC call sg c d (.un op x)=iX c d (Bp op (c.ev x)):=cL rfl
theorem Sr(q:IntKind)(x:Arg):opC call sg c d (.toInt q x)=iX c d (jk q (c.ev x)):=cL rfl
theorem Xe(y:List Arg):opC call sg c d (.newB y)=qO c d (toB (evL c y)):=rfl
theorem Xa(x:Arg):opC call sg c d (.slid x)=u9 c d (c.ev x):=rfl
theorem B9(k:Nat)(l:t8):qO c (some k) (some l)=some (CSt.app c (some k) {val:= .psl (k+100) 1 0 l.length (some l.length),new:=some (.bar l)}):=rfl
theorem ID(o off n:Nat)(cap:LAc):u9 c d (.psl o 1 off n cap)=rI c d o off n cap (c.look o):=rfl
theorem IE(o off n:Nat)(cap:LAc)(l:t8):rI c d o off n cap (some (.bar l))=if off+n<=l.length/\cap=some n then some (((c.publish o []).1).put d (.byt ((l.drop off).take n) .clip))else none:=rfl
theorem Xl(y:Bool)(x:Arg):opC call sg c d (.isni y x)=iX c d (J1 y (c.ev x)):=cL rfl
theorem Z4(x:Arg):opC call sg c d (.s2b x)=iX c d (Ub (c.ev x)):=cL rfl
theorem xaf(x:Arg):opC call sg c d (.b2s x)=iX c d (UP c (c.ev x)):=cL rfl
theorem Xg(f:Nat)(a b:List Arg):opC call sg c d (.mkfn f a b)=iX c d (some (.fn f (evL c a) (evL c b))):=cL rfl
theorem Xb(x:Arg)(lo hi:Option Arg):opC call sg c d (.slcS x lo hi)=iX c d (JK c lo hi (c.ev x)):=(cL rfl).trans (by rw[Mv])
theorem Xc(sz:Nat)(x:Arg)(lo hi y:Option Arg):opC call sg c d (.slcL sz x lo hi y)=iX c d (ur c sz (c.ev x) lo hi y):=cL rfl
theorem Su(off:Nat)(x:Arg):opC call sg c d (.faddr off x)=iX c d (zO off (c.ev x)):=cL rfl
theorem Lr(sz:Nat)(x i:Arg):opC call sg c d (.iaddrL sz x i)=iX c d (sV sz (c.ev x) (c.ev i).num):=cL rfl
theorem Lt(len sz:Nat)(x i:Arg):opC call sg c d (.iaddrA len sz x i)=iX c d (pG c len sz (c.ev x) (c.ev i).num):=(cL rfl).trans (by rw[Ap])
theorem Xn(len sz:Nat)(y:Bool)(x i:Arg):opC call sg c d (.idxA len sz y x i)=iX c d (J4 len sz y (c.ev x) (c.ev i).num):=cL rfl
theorem Xm(x i:Arg):opC call sg c d (.idxS x i)=iX c d (J3 (c.ev x) (c.ev i).num):=cL rfl
theorem xaa(x:Arg)(i:Nat):opC call sg c d (.ext x i)=iX c d (UL i (c.ev x)):=cL rfl
theorem Z9(b:Bool)(x:Arg):opC call sg c d (.len b x)=iX c d (Um (lI b (c.ev x))):=(cL rfl).trans (by rw[T4])
theorem Xh(x y:Arg):opC call sg c d (.mini x y)=iX c d (JV (c.ev x) (c.ev y)):=cL rfl
theorem Xi(x y:Arg):opC call sg c d (.maxi x y)=iX c d (JW (c.ev x) (c.ev y)):=cL rfl
def JT(a b:SV):SV->Option SV
 | .bool t=>some (jz t a b)
 |_=>none
theorem XW(q a b:Arg):fF c d (.pick q a b)=Kf (JT (c.ev a) (c.ev b) (c.ev q)):=by simp only[fF];cases c.ev q<;>rfl
theorem Xd(q a b:Arg):opC call sg c d (.pick q a b)=iX c d (JT (c.ev a) (c.ev b) (c.ev q)):=Ba (XW q a b)
def Im(c:CSt)(k:Nat)(o:aG)(v:SV):CSt:=CSt.app c (some k) {val:=v,new:=some o}
theorem TY(l:List (Nat×SV))(ob:List (Nat×aG))(t:LAb)(o:aG)(v:SV):
 Im ⟨l,ob,t⟩ k o v=⟨lr (eA (k+100) (k+101) l) k v,kp (bV (k+100) (k+101) ob) (k+100) (o.purge (k+100) (k+101)),df (k+100) (k+101) t⟩:=rfl
def lj(c:CSt)(k:Nat)(v:SV):Option aG->LBa
 |some o=>some (Im c k o v)
 |none=>none
theorem JH(v:SV)(o:aG):lj c k v (some o)=some (Im c k o v):=rfl
theorem Z5(o:aG):opC call sg c (some k) (.new o)=lj c k (.ptr (k+100) 0) (gd (o.wf=true) o):=by show ri c (some k) (gd _ _)=_;unfold gd;split<;>rfl
theorem xad(x:Arg):opC call sg c (some k) (.box x)=some (Im c k (.rc (c.ev x).cells) (.ptr (k+100) 0)):=rfl
def mkE(bytes:Nat):SV->SV->Option (Nat×Nat)
 | .int _ n,.int _ m=>gd (0<=n/\n<=m/\bytes*m<=140737488355328/\m<=9223372036854775807) (n.toNat,m.toNat)
 |_,_=>none
def mkS(c:CSt)(k:Nat)(z:LAa):Option (Nat×Nat)->LBa
 |some p=>some (Im c k (.arr z.length (aB p.2 z)) (.psl (k+100) z.length 0 p.1 (some p.2)))
 |none=>none
theorem xf0(z:LAa)(bytes:Nat)(n m:Arg):opC call sg c (some k) (.mk z bytes n m)=mkS c k z (mkE bytes (c.ev n) (c.ev m)):=by show ri c (some k) (fF c (some k) (.mk z bytes n m))=_;simp only[fF];cases h1:c.ev n<;>cases h2:c.ev m<;>first|rfl|(simp only[mkE];unfold gd;split<;>rfl)
def Yf:SV->SV->Option (Nat×Nat)
 | .int _ n,.int _ m=>gd (0<=n/\n<=m/\m<=140737488355328) (n.toNat,m.toNat)
 |_,_=>none
def xem(c:CSt)(k:Nat):Option (Nat×Nat)->LBa
 |some p=>some (Im c k (.bar (aB p.2 0)) (.psl (k+100) 1 0 p.1 (some p.2)))
 |none=>none
theorem Z7(n m:Arg):opC call sg c (some k) (.mkB n m)=xem c k (Yf (c.ev n) (c.ev m)):=by show ri c (some k) (fF c (some k) (.mkB n m))=_;simp only[fF];cases h1:c.ev n<;>cases h2:c.ev m<;>first|rfl|(simp only[Yf];unfold gd;split<;>rfl)
def stC(c:CSt)(n:Nat)(v:LAa):SV->Option (Nat×aG)
 | .ptr o off=>match c.look o with
  |some (.rc cs)=>gd (off+n<=cs.length/\v.length=n/\v.all SV.one=true) (o,.rc (iy cs off v))
  |some (.arr sz xs)=>gd (off=0/\n=xs.length*sz/\v.length=n/\v.all SV.isData=true) (o,.arr sz (ld sz xs.length (v.map SV.data)))
  |some (.bar l)=>match toB v with
   |some y=>gd (off=0/\n=l.length/\y.length=n) (o,.bar y)
   |none=>none
  |_=>none
 | .ap o sz i j=>match c.look o with
  |some (.arr sz' xs)=>gd (sz=sz'/\i<xs.length/\j+n<=sz/\v.length=n/\v.all SV.isData=true) (o,.arr sz' (iM sz xs i j n (v.map SV.data)))
  |some (.bar l)=>match v with
   |[.u8 b]=>gd (sz=1/\j=0/\n=1/\i<l.length) (o,.bar (l.set i b))
   |_=>none
  |_=>none
 |_=>none
def stS(c:CSt):Option (Nat×aG)->LBa
 |some p=>some ⟨c.tm,kp c.ob p.1 p.2,c.tk⟩
 |none=>none
theorem KC(l:List (Nat×SV))(ob:List (Nat×aG))(t:LAb)(p:Nat×aG):stS ⟨l,ob,t⟩ (some p)=some ⟨l,kp ob p.1 p.2,t⟩:=rfl
theorem IB(n:Nat)(v:LAa)(a:SV):mV c n v a=(stC c n v a).map fun p=> {val:= .undef,wr:=[p]}:=by
 cases a with
 |ptr o off=>
  simp only[mV,stC];cases c.look o with
  |none=>rfl
  |some ob=>
   cases ob with
   |rc cs=>simp only;unfold gd;split<;>rfl
   |arr y z=>simp only;unfold gd;split<;>rfl
   |bar l=>simp only;cases toB v<;>first|rfl|(simp only;unfold gd;split<;>rfl)
 |ap o sz i j=>
  simp only[mV,stC];cases c.look o with
  |none=>rfl
  |some ob=>
   cases ob with
   |rc cs=>rfl
   |arr y z=>simp only;unfold gd;split<;>rfl
   |bar l=>
    rcases v with _|⟨u,_|⟨u2,r⟩⟩
    ·rfl
    ·cases u<;>first|rfl|(simp only;unfold gd;split<;>rfl)
    ·cases u<;>rfl
 |_=>rfl
theorem Ss(n:Nat)(a x:Arg):opC call sg c none (.store n a x)=if(c.ev x).isDef=true then stS c (stC c n (c.ev x).cells (c.ev a))else none:=by
 show ri c none (fF c none (.store n a x))=_;simp only[fF];split
 ·rw[IB];cases stC c n (c.ev x).cells (c.ev a)<;>rfl
 ·rfl
def apB(c:CSt)(k:Nat)(l:t8)(t:Tok)(z:LAa)(bytes:Nat):Option t8->LBa
 |some y=>if z.length=1/\bytes=1/\t.readyC c=true/\l.length+y.length<=140737488355328 then some (CSt.app c (some k) {val:= .byt (l++y) (.id (k+100)),eat:=t,tok:=true})else none
 |none=>none
def apL(c:CSt)(k:Nat)(y:Nat)(l:f9)(t:Tok)(z:LAa)(bytes:Nat):Option f9->LBa
 |some F=>if z.length=y/\t.readyC c=true/\(l.length+F.length)*bytes<=140737488355328 then some (CSt.app c (some k) {val:= .lst z.length (l++F) (.id (k+100)),eat:=t,tok:=true})else none
 |none=>none
theorem TX(l:List (Nat×SV))(ob:List (Nat×aG))(t:LAb)(v:SV)(e:Tok):
 CSt.app ⟨l,ob,t⟩ (some k) {val:=v,eat:=e,tok:=true}=⟨lr (eA (k+100) (k+101) l) k v,bV (k+100) (k+101) ob,pw (df (k+100) (k+101) (e.eat t)) (k+100)⟩:=rfl
def apS(c:CSt)(k:Nat)(z:LAa)(bytes:Nat)(y:SV):SV->LBa
 | .byt l t=>apB c k l t z bytes (gn c y)
 | .lst F l t=>apL c k F l t z bytes (lF c z.length y)
 |_=>none
theorem xag(z:LAa)(bytes:Nat)(x y:Arg):opC call sg c (some k) (.app z bytes x y)=apS c k z bytes (c.ev y) (c.ev x):=by
 show ri c (some k) (fF c (some k) (.app z bytes x y))=_;simp only[fF];cases c.ev x<;>try rfl
 ·simp only[apS]
  cases gn c (c.ev y)with
  |none=>rfl
  |some F=>simp only[dm,apB];unfold gd;split<;>rfl
 ·simp only[apS]
  cases lF c z.length (c.ev y)with
  |none=>rfl
  |some F=>simp only[dm,apL];unfold gd;split<;>rfl
def cpB(o off n:Nat)(sz y:Nat)(l:t8):Option t8->Option (SV×Nat×aG)
 |some z=>gd (sz=1/\y=1/\off+n<=l.length) (.int .i64 (min z.length n:Nat),o,.bar (l.take off++z.take n++l.drop (off+(z.take n).length)))
 |none=>none
def cpL(b:Bool)(o off n:Nat)(sz F y:Nat)(H:f9):Option f9->Option (SV×Nat×aG)
 |some z=>gd (b=true/\sz=F/\sz=y/\off+n<=H.length) (.int .i64 (min z.length n:Nat),o,.arr sz (H.take off++z.take n++H.drop (off+(z.take n).length)))
 |none=>none
def cp2(b:Bool)(c:CSt)(sz o z off n:Nat)(y:SV):Option aG->Option (SV×Nat×aG)
 |some (.bar l)=>cpB o off n sz z l (gn c y)
 |some (.arr sz'' xs)=>cpL b o off n sz z sz'' xs (lF c sz y)
 |_=>none
def cpC(b:Bool)(c:CSt)(sz:Nat)(y:SV):SV->Option (SV×Nat×aG)
 | .psl o z off n _=>cp2 b c sz o z off n y (c.look o)
 |_=>none
def cpS(c:CSt)(d:LAc):Option (SV×Nat×aG)->LBa
 |some p=>some (CSt.put ⟨c.tm,kp c.ob p.2.1 p.2.2,c.tk⟩ d p.1)
 |none=>none
theorem xac(sz:Nat)(x y:Arg):opC call sg c d (.cpy sz x y)=cpS c d (cpC y.isT c sz (c.ev y) (c.ev x)):=by
 show ri c d (fF c d (.cpy sz x y))=_;simp only[fF];cases c.ev x<;>try rfl
 rename_i o H off n cap;simp only[cpC];cases c.look o with
 |none=>rfl
 |some ob=>
  cases ob with
  |rc cs=>rfl
  |bar l=>
   simp only[cp2];cases gn c (c.ev y)with
   |none=>rfl
   |some F=>simp only[dm,cpB];unfold gd;split<;>rfl
  |arr z I=>
   simp only[cp2];cases lF c sz (c.ev y)with
   |none=>rfl
   |some F=>simp only[dm,cpL];unfold gd;split<;>rfl
def P9(call:dt)(sg:Nat->Sig)(c:CSt)(d:LAc)(a_:LAa):SV->LBa
 | .fn g a b=>jp call (sg g) c d g (a++a_++b)
 |_=>none
theorem Xo(f:Arg)(a_:List Arg):opC call sg c d (.call f a_)=P9 call sg c d (evL c a_) (c.ev f):=by simp only[opC];unfold P9;rfl
theorem Vx(o:SOp):eO call sg c ⟨d,none,o⟩=opC call sg c d o:=rfl
theorem WX(g:Option (Nat×Bool))(o:SOp)(r:LAf):plC call sg (⟨d,g,o⟩::r) c=nxP call sg r (opC call sg c d o):=by rw[plC]
theorem HK:gU call sg [] c=some c:=by rw[gU]
theorem MJ(i:SI)(y:LAb)(r:List RI):gU call sg (.op i y::r) c=nxC call sg y r (eO call sg c i):=by rw[gU]
theorem HM(g:Nat)(b:Bool)(l:LAf)(y:LAb)(r:List RI):gU call sg (.grp g b l y::r) c=nxC call sg y r (sX call sg b l c (c.get g)):=by rw[gU]
theorem HI(i:SI)(y:LAb)(r:List RI):gU call sg (.tks i y::r) c=nxC call sg y r (Hs c i):=by rw[gU]
theorem Qs(d:LAc)(x:Arg):Hs c ⟨d,none,.s2b x⟩=Qu c d (c.ev x):=rfl
theorem Vo(k:Nat)(l:t8):Qu c (some k) (.str l)=some (CSt.app c (some k) {val:= .byt l (.id (k+100)),tok:=true}):=rfl
theorem HJ(i:SI)(y:LAb)(r:List RI):gU call sg (.own i y::r) c=nxC call sg y r (py c i):=by rw[gU]
theorem Sf(d:LAc)(x:Arg):py c ⟨d,none,.s2b x⟩=Sk c d (c.ev x):=rfl
theorem Sg(d:LAc)(sz:Nat)(y:List Arg):py c ⟨d,none,.lit sz y⟩=Si c sz (evL c y) d (rows sz (evL c y)):=rfl
theorem Lp(d:LAc)(y:List Arg):py c ⟨d,none,.litB y⟩=qO c d (toB (evL c y)):=rfl
theorem Sh(d:LAc)(z:LAa)(b:Nat)(x y:Arg):py c ⟨d,none,.app z b x y⟩=Sj c d z b y (c.ev x):=rfl
theorem HN(q:Dir)(r:List RI):gU call sg (.dir q::r) c=nxC call sg [] r (wb c q):=by rw[gU]
theorem ni(y:LAb)(r:List RI):nxC call sg y r (some c)=gU call sg r (c.kill y):=by rw[nxC]
theorem nj(y:LAb)(r:List RI):nxC call sg y r none=none:=by rw[nxC]
theorem MG:plC call sg [] c=some c:=by rw[plC]
theorem HQ(r:LAf):nxP call sg r (some c)=plC call sg r c:=by rw[nxP]
theorem HS(r:LAf):nxP call sg r none=none:=by rw[nxP]
theorem Vl:unL c []=c:=rfl
theorem Ql(g:Option (Nat×Bool))(o:SOp)(r:LAf):unL c (⟨d,g,o⟩::r)=unL (c.put d (.tup [])) r:=rfl
theorem xaU(b:Bool)(l:LAf):sX call sg b l c (.tup [])=some (unL c l):=rfl
theorem xaV(b t:Bool)(l:LAf):sX call sg b l c (.bool t)=if t=b then plC call sg l c else some (unL c l):=rfl
theorem Xp(y:LAb)(r:List RI)(p:Prop)[Decidable p](a b:LBa):nxC call sg y r (if p then a else b)=if p then nxC call sg y r a else nxC call sg y r b:=by split<;>rfl
theorem XA(p:Prop)[Decidable p](l y:List (Nat×SV))(o:List (Nat×aG))(t:LAb):(if p then some (CSt.mk l o t)else some (CSt.mk y o t))=some (CSt.mk (if p then l else y) o t):=by split<;>rfl
theorem Xz(p:Prop)[Decidable p](n:Nat)(v w:SV)(l y:List (Nat×SV)):(if p then(n,v)::l else(n,w)::y)=(n,if p then v else w)::(if p then l else y):=by split<;>rfl
theorem SQ(p:Prop)[Decidable p]:(if p then([]:List (Nat×SV))else [])=[]:=by split<;>rfl
theorem LJ{α:Type}(p:Prop)[Decidable p](a:α):(if p then a else a)=a:=by split<;>rfl
theorem LI(p:Prop)[Decidable p](q:IntKind)(a b:Int):(if p then SV.int q a else SV.int q b)= .int q (if p then a else b):=by split<;>rfl
theorem Jc(p:Prop)[Decidable p](a b:Bool):(if p then SV.bool a else SV.bool b)= .bool (if p then a else b):=by split<;>rfl
theorem SP(p:Prop)[Decidable p](a b:UInt8):(if p then SV.u8 a else SV.u8 b)= .u8 (if p then a else b):=by split<;>rfl
theorem Je(t a b:Bool):jz t (.bool a) (.bool b)= .bool (if t=true then a else b):=by cases t<;>rfl
theorem LK(t:Bool)(q:IntKind)(a b:Int):jz t (.int q a) (.int q b)= .int q (if t=true then a else b):=by cases t<;>rfl
theorem SR(t:Bool)(a b:UInt8):jz t (.u8 a) (.u8 b)= .u8 (if t=true then a else b):=by cases t<;>rfl
theorem Jd(a b:SV):jz true a b=a:=rfl
theorem Ce(a b:SV):jz false a b=b:=rfl
variable {rn:RC -> CSt -> iJ}
theorem Lv(y:LAb):nrm y (some c)=some (.n,c.kill y):=rfl
theorem Lw(y:LAb):nrm y none=none:=rfl
theorem Sx(y:LAb)(p:Prop)[Decidable p](a b:LBa):nrm y (if p then a else b)=if p then nrm y a else nrm y b:=by split<;>rfl
theorem xfF(b:RC):sq rn b (some (.n,c))=rn b c:=rfl
theorem xfD(b:RC)(id:Nat):sq rn b (some (.x id,c))=some (.x id,c):=rfl
theorem xfE(b:RC):sq rn b (some (.r,c))=some (.r,c):=rfl
theorem Qx(b:RC):sq rn b none=none:=rfl
theorem Vp(b:RC)(p:Prop)[Decidable p](x y:iJ):sq rn b (if p then x else y)=if p then sq rn b x else sq rn b y:=by split<;>rfl
theorem xbn(a b:RC)(t:Bool):cnd rn a b c (.bool t)=if t=true then rn a c else rn b c:=rfl
theorem xbu(id:Nat):blk id (some (.n,c))=some (.n,c):=rfl
theorem xbt(id:Nat):blk id (some (.r,c))=some (.r,c):=rfl
theorem xbs(id y:Nat):blk id (some (.x y,c))=if y=id then some (.n,c)else some (.x y,c):=rfl
theorem Mn(id:Nat):blk id none=none:=rfl
theorem TQ(id:Nat)(p:Prop)[Decidable p](x y:iJ):blk id (if p then x else y)=if p then blk id x else blk id y:=by split<;>rfl
theorem xgg(b:RC):lp rn b (some (.n,c))=rn (.loop b) c:=rfl
theorem xge(b:RC)(id:Nat):lp rn b (some (.x id,c))=some (.x id,c):=rfl
theorem xgf(b:RC):lp rn b (some (.r,c))=some (.r,c):=rfl
theorem SD(b:RC):lp rn b none=none:=rfl
theorem Xs(b:RC)(p:Prop)[Decidable p](x y:iJ):lp rn b (if p then x else y)=if p then lp rn b x else lp rn b y:=by split<;>rfl
theorem Li(a:RC):prD rn a (some c)=rn a c:=rfl
theorem ZW(y:List Dir):psD y (some (.n,c))=prD (fun _ c=>some (.n,c)) .skip (jE c y):=by simp only[psD];cases jE c y<;>rfl
theorem ZU(y:List Dir)(id:Nat):psD y (some (.x id,c))=some (.x id,c):=rfl
theorem ZV(y:List Dir):psD y (some (.r,c))=some (.r,c):=rfl
theorem Lh(y:List Dir):psD y none=none:=rfl
theorem R6(z:List Dir)(p:Prop)[Decidable p](x y:iJ):psD z (if p then x else y)=if p then psD z x else psD z y:=by split<;>rfl
theorem Ma:jE c []=some c:=rfl
def xfl(y:List Dir):LBa->LBa
 |some c=>jE c y
 |none=>none
theorem JB(q:Dir)(y:List Dir):jE c (q::y)=xfl y (wb c q):=by simp only[jE];cases wb c q<;>rfl
theorem JC(y:List Dir):xfl y (some c)=jE c y:=rfl
theorem xaX(F:FnC)(n:Nat):my F n (some (.n,c))=MX F.keep F.raw n c (vy c F.rs):=rfl
theorem xaW(F:FnC)(n:Nat):my F n (some (.r,c))=MX F.keep F.raw n c (vy c F.rs):=rfl
theorem Td(F:FnC)(n:Nat)(p:Prop)[Decidable p](x y:iJ):my F n (if p then x else y)=if p then my F n x else my F n y:=by split<;>rfl
theorem Mi(sg:Sig)(g:Nat)(a_:LAa):jp call sg c d g a_=lL call sg c d g a_ ((SV.idsL a_).isEmpty&&sg.own.isEmpty):=rfl
theorem TK(sg:Sig)(g:Nat)(a_:LAa):lL call sg c d g a_ true=oP c d (call g (SV.bareL a_) [] 0):=rfl
theorem TL(sg:Sig)(g:Nat)(a_:LAa):lL call sg c d g a_ false=lB call sg d g (fP c a_ (kh sg.raw 0 a_)):=rfl
theorem Tf(q:eI):oP c d (some q)=qQ c d q q.bare:=rfl
theorem Th(q:eI):qQ c d q true=some (c.put d q.r):=rfl
theorem Ti(q:eI):qQ c d q false=Cp c d q q.small:=rfl
theorem Tg(q:eI):Cp c d q true=some (lM c d [] [] q):=rfl
theorem TT(r:SV)(os:List (Nat×aG))(tk:LAb):(eI.mk r os tk).bare=(os.isEmpty&&tk.isEmpty&&r.ids.isEmpty&&r.toks.isEmpty):=rfl
theorem KG(r:SV)(os:List (Nat×aG))(tk:LAb):(eI.mk r os tk).small=(os.all (fun p=>decide (p.1<1000)&&p.2.ids.all (fun k=>decide (k<1000))&&p.2.toks.all (fun k=>decide (k<1000)))&&r.ids.all (fun k=>decide (k<1000))&&r.toks.all (fun k=>decide (k<1000))&&tk.all (fun k=>decide (k<1000))):=rfl
theorem QC(sg:Sig)(g:Nat)(a_:LAa):lB call sg d g (c,a_)=qJ call c d g (lQ c.tk sg.own 50 0 a_):=rfl
theorem QI(g:Nat)(a_:LAa)(y:List LAc):qJ call c d g (a_,y)=nG call c d g a_ y (eP c 60 [] (SV.idsL a_)) (looks c (eP c 60 [] (SV.idsL a_))):=rfl
theorem QH(g:Nat)(a_:LAa)(y:List LAc)(m:LAb)(os:List aG):nG call c d g a_ y m (some os)=qI call c d g a_ y m (fe c.tk (50+y.length) os):=rfl
theorem QG(g:Nat)(a_:LAa)(z:List LAc)(m:LAb)(os:List aG)(y:List LAc):qI call c d g a_ z m (os,y)=
 qH call c d g a_ z m os y (rB (SV.idsL a_++gS os) m&&eB m&&eB (cI (z++y))&&decide (m.length<=40)&&m.all fun o=> !inR (d.getD 0) o):=rfl
theorem QF(g:Nat)(a_:LAa)(z:List LAc)(m:LAb)(os:List aG)(y:List LAc):qH call c d g a_ z m os y true=
 rH c d m (cI (z++y)) (call g (SV.renL (iD m) id a_) (fo (iD m) id os) (z.length+y.length)):=rfl
theorem QE(m mt:LAb)(q:eI):rH c d m mt (some q)=BC c d m mt q q.small:=rfl
theorem QD(m mt:LAb)(q:eI):BC c d m mt q true=some (lM c d m mt q):=rfl
theorem XN(keep raw:LAb)(vs:LAa):MX keep raw k c (some vs)=Te keep k (fP c vs (kh raw 0 vs)):=rfl
theorem XG(keep:LAb)(vs:LAa):Te keep k (c,vs)=MW keep k c vs (decide (k=0)&&(SV.idsL vs).isEmpty&&keep.isEmpty):=rfl
theorem XL(keep:LAb)(vs:LAa):MW keep k c vs true=some ⟨kU (SV.bareL vs),[],[]⟩:=rfl
theorem XM(keep:LAb)(vs:LAa):MW keep k c vs false=UB k c (lQ c.tk keep 60 0 vs):=rfl
theorem XK(vs:LAa)(y:List LAc):UB k c (vs,y)=UA k c vs y (eP c 60 [] (mQ k++SV.idsL vs)) (looks c (eP c 60 [] (mQ k++SV.idsL vs))):=rfl
theorem XJ(vs:LAa)(y:List LAc)(m:LAb)(os:List aG):UA k c vs y m (some os)=Uz k vs y m (fe c.tk (60+y.length) os):=rfl
theorem XI(vs:LAa)(z:List LAc)(m:LAb)(os:List aG)(y:List LAc):Uz k vs z m (os,y)=
 Uy k vs z m os y (rB (SV.idsL vs++gS os) m&&eB m&&eB (cI (z++y))&&decide (m.take k=mQ k)&&(m.drop k).all fun o=>decide (k<=o)):=rfl
theorem XH(vs:LAa)(z:List LAc)(m:LAb)(os:List aG)(y:List LAc):Uy k vs z m os y true=
 some ⟨(kU vs).ren (iS k m) id,(hJ 0 (fo (iS k m) id (os.take k)))++(hJ (100+k) (fo (iS k m) id (os.drop k))),tks 60 (z.length+y.length)⟩:=rfl
theorem Sp(v:SV):kU [v]=v:=rfl
theorem So(v w:SV)(r:LAa):kU (v::w::r)= .tup (v::w::r):=rfl
theorem Sq:kU []= .tup []:=rfl
theorem KO(raw:LAb)(i:Nat)(q:IntKind)(n:Int):oT raw i (.int q n)=[]:=rfl
theorem IH(raw:LAb)(i:Nat)(b:Bool):oT raw i (.bool b)=[]:=rfl
theorem QN(raw:LAb)(i:Nat)(b:UInt8):oT raw i (.u8 b)=[]:=rfl
theorem KK(raw:LAb)(i:Nat)(l:t8):oT raw i (.str l)=[]:=rfl
theorem KP(raw:LAb)(i:Nat)(l:t8)(t:Tok):oT raw i (.byt l t)=[]:=rfl
theorem KN(raw:LAb)(i sz:Nat)(l:f9)(t:Tok):oT raw i (.lst sz l t)=[]:=rfl
theorem IF(raw:LAb)(i:Nat):oT raw i .nilp=[]:=rfl
theorem IG(raw:LAb)(i:Nat):oT raw i .nili=[]:=rfl
theorem BG(raw:LAb)(i:Nat):oT raw i .undef=[]:=rfl
theorem QO(raw:LAb)(i:Nat)(l:LAa):oT raw i (.pp l)=[]:=rfl
theorem KL(raw:LAb)(i o off:Nat):oT raw i (.ptr o off)=[]:=rfl
theorem QQ(raw:LAb)(i o sz a b:Nat):oT raw i (.ap o sz a b)=[]:=rfl
theorem KQ(raw:LAb)(i:Nat)(l:LAa):oT raw i (.agg l)=if raw.contains i=true then []else yT l:=rfl
theorem IR:yT []=[]:=rfl
theorem BK(v:SV)(r:LAa):yT (v::r)=iR v++yT r:=rfl
theorem IN(q:IntKind)(n:Int):iR (.int q n)=[]:=rfl
theorem BJ(b:Bool):iR (.bool b)=[]:=rfl
theorem KR(b:UInt8):iR (.u8 b)=[]:=rfl
theorem IJ(l:t8):iR (.str l)=[]:=rfl
theorem IP(l:t8)(t:Tok):iR (.byt l t)=[]:=rfl
theorem IM(sz:Nat)(l:f9)(t:Tok):iR (.lst sz l t)=[]:=rfl
theorem BH:iR .nilp=[]:=rfl
theorem BI:iR .nili=[]:=rfl
theorem Ah:iR .undef=[]:=rfl
theorem KS(l:LAa):iR (.pp l)=[]:=rfl
theorem IK(o off:Nat):iR (.ptr o off)=[]:=rfl
theorem KU(o sz a b:Nat):iR (.ap o sz a b)=[]:=rfl
theorem IQ(l:LAa):iR (.agg l)=[]:=rfl
theorem II(l:LAa):iR (.tup l)=[]:=rfl
theorem KT(f:Nat)(a b:LAa):iR (.fn f a b)=[]:=rfl
theorem IL(o sz off n:Nat)(m:LAc):iR (.psl o sz off n m)=[o]:=rfl
theorem KJ(raw:LAb)(i:Nat)(l:LAa):oT raw i (.tup l)=[]:=rfl
theorem QP(raw:LAb)(i f:Nat)(a b:LAa):oT raw i (.fn f a b)=[]:=rfl
theorem KM(raw:LAb)(i o sz off n:Nat)(m:LAc):oT raw i (.psl o sz off n m)=if raw.contains i=true then []else [o]:=rfl
theorem SZ(p:Prop)[Decidable p](a b v:SV):jz (decide p) (if p then a else b) v=jz (decide p) a v:=by by_cases h:p<;>simp[jz,h]
theorem SY(p:Prop)[Decidable p](a b v:SV):jz (decide p) v (if ¬p then a else b)=jz (decide p) v a:=by by_cases h:p<;>simp[jz,h]
theorem SU(t:Bool)(a b v:SV):jz t (if t=true then a else b) v=jz t a v:=by cases t<;>simp[jz]
theorem SS(t:Bool)(a b v:SV):jz t v (if t=false then a else b)=jz t v a:=by cases t<;>simp[jz]
theorem SX(t:Bool)(a b v:SV):jz (!t) (if t=false then a else b) v=jz (!t) a v:=by cases t<;>simp[jz]
theorem SW(t:Bool)(a b v:SV):jz (!t) v (if t=true then a else b)=jz (!t) v a:=by cases t<;>simp[jz]
theorem TS(p q:Prop)[Decidable p][Decidable q]:(if p then decide q else false)=decide (p/\q):=by by_cases h:p<;>simp[h]
theorem X7(p q:Prop)[Decidable p][Decidable q]:(if p then true else decide q)=decide (p\/q):=by by_cases h:p<;>simp[h]
theorem TV(v:SV):c.app d {val:=v}=c.put d v:=rfl
theorem TW(l:List (Nat×SV))(ob:List (Nat×aG))(t:LAb)(o:aG)(v:SV):
 CSt.app ⟨l,ob,t⟩ (some k) {val:=v,new:=some o}=⟨lr (eA (k+100) (k+101) l) k v,kp (bV (k+100) (k+101) ob) (k+100) (o.purge (k+100) (k+101)),df (k+100) (k+101) t⟩:=rfl
theorem X9(l:List (Nat×SV))(ob:List (Nat×aG))(t:LAb)(v:SV)(p:Nat×aG):CSt.app ⟨l,ob,t⟩ d {val:=v,wr:=[p]}=CSt.put ⟨l,kp ob p.1 p.2,t⟩ d v:=rfl
theorem Mc(l:List (Nat×SV))(ob:List (Nat×aG))(t:LAb)(p:SV×Nat×aG):cpS ⟨l,ob,t⟩ d (some p)=some (CSt.put ⟨l,kp ob p.2.1 p.2.2,t⟩ d p.1):=rfl
theorem LA(z:LAa)(p:Nat×Nat):mkS c k z (some p)=some (Im c k (.arr z.length (aB p.2 z)) (.psl (k+100) z.length 0 p.1 (some p.2))):=rfl
theorem I5(p:Nat×Nat):xem c k (some p)=some (Im c k (.bar (aB p.2 0)) (.psl (k+100) 1 0 p.1 (some p.2))):=rfl
theorem Zc(x:Arg):eh c (.mov x)=some (c.ev x):=by simp only[eh];rw[Zl]
theorem Qe(z:LAa)(y:List (Nat×Nat×Arg)):eh c (.build z y)=zV (jM z (psC c y)):=by simp only[eh];rw[Hq]
theorem Zd(sz:Nat)(y:List Arg):eh c (.lit sz y)=Ul sz (rows sz (evL c y)):=by simp only[eh];rw[T3]
theorem U4(y:List Arg):eh c (.litB y)=JX (toB (evL c y)):=by simp only[eh];rw[Mw]
theorem U3(n:Nat)(y:Bool)(a:Arg):eh c (.load n y a)=oM c n y (c.ev a):=by simp only[eh];rw[Vh]
theorem UZ(x:Arg):eh c (.nchk x)=JU (c.ev x):=by simp only[eh];rw[Vd]
theorem Zh(op:BinOp)(x y:Arg):eh c (.bin op x y)=Km op (c.ev x) (c.ev y):=by simp only[eh];rw[Zo]
theorem Zg(F:Bool)(z:LAb)(x y:Arg):eh c (.eqS F z x y)=UM F z (c.ev x) (c.ev y):=by simp only[eh];rw[Zn]
theorem xfr(op:UnOp)(x:Arg):eh c (.un op x)=Bp op (c.ev x):=by simp only[eh];rw[xfz]
theorem Qc(q:IntKind)(x:Arg):eh c (.toInt q x)=jk q (c.ev x):=by simp only[eh];rw[Qj]
theorem U5(y:Bool)(x:Arg):eh c (.isni y x)=J1 y (c.ev x):=by simp only[eh];rw[Vi]
theorem Zb(x:Arg):eh c (.s2b x)=Ub (c.ev x):=by simp only[eh];rw[Zk]
theorem Zi(x:Arg):eh c (.b2s x)=UP c (c.ev x):=by simp only[eh];rw[Zp]
theorem U0(f:Nat)(a b:List Arg):eh c (.mkfn f a b)=some (.fn f (evL c a) (evL c b)):=by simp only[eh];rw[Ve]
theorem UW(x:Arg)(lo hi:Option Arg):eh c (.slcS x lo hi)=JK c lo hi (c.ev x):=by simp only[eh];rw[Mv]
theorem UX(sz:Nat)(x:Arg)(lo hi y:Option Arg):eh c (.slcL sz x lo hi y)=ur c sz (c.ev x) lo hi y:=by simp only[eh];rw[Vc]
theorem Qd(off:Nat)(x:Arg):eh c (.faddr off x)=zO off (c.ev x):=by simp only[eh];rw[Qk]
theorem Ks(sz:Nat)(x i:Arg):eh c (.iaddrL sz x i)=sV sz (c.ev x) (c.ev i).num:=by simp only[eh];rw[Kx]
theorem Kt(len sz:Nat)(x i:Arg):eh c (.iaddrA len sz x i)=pG c len sz (c.ev x) (c.ev i).num:=by simp only[eh];rw[Ap]
theorem U7(len sz:Nat)(y:Bool)(x i:Arg):eh c (.idxA len sz y x i)=J4 len sz y (c.ev x) (c.ev i).num:=by simp only[eh];rw[Vk]
theorem U6(x i:Arg):eh c (.idxS x i)=J3 (c.ev x) (c.ev i).num:=by simp only[eh];rw[Vj]
theorem Zf(x:Arg)(i:Nat):eh c (.ext x i)=UL i (c.ev x):=by simp only[eh];rw[Zm]
theorem Ze(b:Bool)(x:Arg):eh c (.len b x)=Um (lI b (c.ev x)):=by simp only[eh];rw[T4]
theorem U1(x y:Arg):eh c (.mini x y)=JV (c.ev x) (c.ev y):=by simp only[eh];rw[Vf]
theorem U2(x y:Arg):eh c (.maxi x y)=JW (c.ev x) (c.ev y):=by simp only[eh];rw[Vg]
theorem UY(q a b:Arg):eh c (.pick q a b)=JT (c.ev a) (c.ev b) (c.ev q):=by simp only[eh];cases c.ev q<;>rfl
theorem xfO(o:SOp):qv c ⟨d,none,o⟩=eh c o:=rfl
theorem xfN(g:Nat)(b:Bool)(o:SOp):qv c ⟨d,some (g,b),o⟩=qg c o b (c.get g):=rfl
theorem xfQ(b t:Bool)(o:SOp):qg c o b (.bool t)=if t=b then eh c o else some (.tup []):=rfl
theorem xfP(b:Bool)(o:SOp):qg c o b (.tup [])=some (.tup []):=rfl
def stG(call:dt)(sg:Nat->Sig)(c:CSt)(d:LAc)(o:SOp)(b:Bool):SV->LBa
 | .bool t=>if t=b then opC call sg c d o else some (c.put d (.tup []))
 | .tup []=>some (c.put d (.tup []))
 |_=>none
theorem Vw(g:Nat)(b:Bool)(o:SOp):eO call sg c ⟨d,some (g,b),o⟩=stG call sg c d o b (c.get g):=by unfold eO stG;rfl
theorem Zt(b t:Bool)(o:SOp):stG call sg c d o b (.bool t)=if t=b then opC call sg c d o else some (c.put d (.tup [])):=rfl
theorem Zs(b:Bool)(o:SOp):stG call sg c d o b (.tup [])=some (c.put d (.tup [])):=rfl
theorem XE(b:LAb)(y:List FI):gh call sg b [] y c=some c:=by rw[gh]
theorem xhA(b:LAb)(n:Nat)(i:SI)(r y:List FI):gh call sg b (⟨n,true,i⟩::r) y c=A2 call sg b r (⟨n,true,i⟩::y) c i.dst (qv c i):=by rw[gh]
theorem xhB(b:LAb)(n:Nat)(i:SI)(r y:List FI):gh call sg b (⟨n,false,i⟩::r) y c=uK call sg b r y (b.getD n 0) (eO call sg c i):=by rw[gh]
theorem xhy(b:LAb)(r y:List FI)(v:SV):A2 call sg b r y c d (some v)=gh call sg b r y (c.put d v):=by rw[A2]
theorem xhz(b:LAb)(r y:List FI)(m:Nat):uK call sg b r y m (some c)=uL call sg b r y (gdP (yG m c y) c):=by rw[uK]
theorem xhC(b:LAb)(r y:List FI):uL call sg b r y (some c)=gh call sg b r y c:=by rw[uL]
theorem S6{α:Type}{p:Prop}(v:α)(h:p):gdP p v=some v:=by unfold gdP;exact if_pos h
theorem xbw(b:LAb)(l:List FI)(p:LAb):kt call sg b l [p] c=gh call sg b (jH l p) [] c:=by rw[kt]
theorem xbv(b:LAb)(l:List FI)(p q:LAb)(r:List LAb):kt call sg b l (p::q::r) c=qS (gh call sg b (jH l p) [] c) (kt call sg b l (q::r) c):=by rw[kt]
theorem xiV(a y:CSt):qS (some a) (some y)=gdP (a=y) a:=rfl
theorem XF(m:Nat):yG m c []=True:=rfl
theorem Tc(m:Nat)(p:FI)(r:List FI):yG m c (p::r)=((m/2^p.n % 2=1\/qv c p.i=some (c.get (p.i.dst.getD 0)))/\yG m c r):=rfl
end Go.Sy
namespace Go.Sy
variable [bl]
theorem vS{n:Nat}:∀{l:List (Nat×SV)},(∀p∈l,p.1≠n)->fD l n= .undef
 |[],_=>rfl
 |p::r,h=>by simp only[fD];rw[if_neg (h p (aD ..))];exact vS fun q y=>h q (an _ y)
theorem oN(n:Nat)(v:SV)(m:Nat):∀l:List (Nat×SV),fD (lr l n v) m=if m=n then v else fD l m
 |[]=>by simp only[lr,fD];by_cases h:n=m<;>simp[h,eq_comm]
 |p::r=>by
  simp only[lr];split
  ·simp only[fD]
   by_cases h:n=m
   ·simp[h]
   ·rw[if_neg h,if_neg (Ne.symm h)]
  ·split
   ·rename_i h1 h2
    simp only[fD]
    by_cases h:n=m
    ·simp[h]
    ·rw[if_neg h,if_neg (Ne.symm h),if_neg (by omega)]
   ·rename_i h1 h2
    simp only[fD,oN n v m r]
    by_cases h:p.1=m
    ·rw[if_pos h,if_pos h,if_neg (by omega)]
    ·rw[if_neg h,if_neg h]
theorem oJ{n:Nat}{v:SV}{p:Nat×SV}:∀{l:List (Nat×SV)},p∈lr l n v->p=(n,v)\/p∈l
 |[],h=>by simpa[lr]using h
 |q::r,h=>by
  simp only[lr]at h;split at h
  ·rcases aq.1 h with h|h
   ·exact .inl h
   ·exact .inr h
  ·split at h
   ·rcases aq.1 h with h|h
    ·exact .inl h
    ·exact .inr (an _ h)
   ·rcases aq.1 h with h|h
    ·exact .inr (h ▸ aD ..)
    ·rcases oJ h with h|h
     ·exact .inl h
     ·exact .inr (an _ h)
theorem ie(lo hi n:Nat):∀l:List (Nat×SV),fD (eA lo hi l) n=(fD l n).purge lo hi
 |[]=>by simp[eA,fD,SV.purge]
 |p::r=>by
  simp only[eA,fD];split
  ·rfl
  ·exact ie lo hi n r
theorem kW{lo hi:Nat}{p:Nat×SV}:∀{l:List (Nat×SV)},p∈eA lo hi l->∃q∈l,p.1=q.1
 |q::r,h=>by
  simp only[eA]at h;rcases aq.1 h with h|h
  ·exact⟨q,aD ..,by rw[h]⟩
  ·obtain⟨u,h1,h2⟩:=kW h
   exact⟨u,an _ h1,h2⟩
theorem tQ{k:LAb}{p:Nat×SV}:∀{l:List (Nat×SV)},p∈Be l k->p∈l
 |q::r,h=>by
  simp only[Be]at h;split at h
  ·exact an _ (tQ h)
  ·rcases aq.1 h with h|h
   ·exact h ▸ aD ..
   ·exact an _ (tQ h)
theorem tV(k:LAb)(n:Nat):∀l:List (Nat×SV),fD (Be l k) n=if k.contains n=true then .undef else fD l n
 |[]=>by simp[Be,fD]
 |p::r=>by
  simp only[Be,fD];split
  ·rename_i h
   rw[tV k n r]
   by_cases y:p.1=n
   ·subst y;rw[if_pos h,if_pos h]
   ·rw[if_neg y]
  ·rename_i h
   simp only[fD,tV k n r]
   by_cases y:p.1=n
   ·subst y;rw[if_pos rfl,if_neg h,if_pos rfl]
   ·rw[if_neg y,if_neg y]
theorem tW(n:Nat)(v:aG)(m:Nat):∀l:List (Nat×aG),jK (kp l n v) m=if m=n then some v else jK l m
 |[]=>by simp only[kp,jK];by_cases h:n=m<;>simp[h,eq_comm]
 |p::r=>by
  simp only[kp];split
  ·simp only[jK]
   by_cases h:n=m
   ·simp[h]
   ·rw[if_neg h,if_neg (Ne.symm h)]
  ·split
   ·rename_i h1 h2
    simp only[jK]
    by_cases h:n=m
    ·simp[h]
    ·rw[if_neg h,if_neg (Ne.symm h),if_neg (by omega)]
   ·rename_i h1 h2
    simp only[jK,tW n v m r]
    by_cases h:p.1=m
    ·rw[if_pos h,if_pos h,if_neg (by omega)]
    ·rw[if_neg h,if_neg h]
theorem mi{n:Nat}{v:aG}{p:Nat×aG}:∀{l:List (Nat×aG)},p∈kp l n v->p=(n,v)\/p∈l
 |[],h=>by simpa[kp]using h
 |q::r,h=>by
  simp only[kp]at h;split at h
  ·rcases aq.1 h with h|h
   ·exact .inl h
   ·exact .inr h
  ·split at h
   ·rcases aq.1 h with h|h
    ·exact .inl h
    ·exact .inr (an _ h)
   ·rcases aq.1 h with h|h
    ·exact .inr (h ▸ aD ..)
    ·rcases mi h with h|h
     ·exact .inl h
     ·exact .inr (an _ h)
theorem yS{n:Nat}{v:aG}:∀{l:List (Nat×aG)},(l.map cV).Pairwise (· < ·)->((kp l n v).map cV).Pairwise (· < ·)
 |[],_=>by simp[kp]
 |p::r,h=>by
  have h0:=h;simp only[ax,bY]at h;simp only[kp];split
  ·rename_i h1
   rw[ax,bY];refine⟨fun k y=> ?_,h0⟩;rw[ax]at y;rcases aq.1 y with e|e
   ·omega
   ·have:=h.1 k e;omega
  ·split
   ·rename_i h1 h2
    rw[ax,bY];exact⟨fun k y=>by have:=h.1 k y;omega,h.2⟩
   ·rename_i h1 h2
    rw[ax,bY];refine⟨fun k y=> ?_,yS h.2⟩;obtain⟨q,z,rfl⟩:=aS.1 y;rcases mi z with e|e
    ·rw[e];show p.1<n;omega
    ·exact h.1 _ (co e)
theorem kI{l:List (Nat×aG)}{n:Nat}{v:aG}(h:jK l n=some v):(n,v)∈l:=by
 induction l with
 |nil=>cases h
 |cons p r z=>
  simp only[jK]at h;split at h
  ·rename_i y
   cases h;subst y;exact aD ..
  ·exact an _ (z h)
theorem kE:∀{l:List (Nat×aG)},(l.map cV).Nodup->∀{p:Nat×aG},p∈l->jK l p.1=some p.2
 |q::r,hn,p,h=>by
  simp only[ax,fT]at hn;simp only[jK];rcases aq.1 h with e|e
  ·subst e;rw[if_pos rfl]
  ·rw[if_neg (fun y=>hn.1 (by rw[y];exact co e))]
   exact kE hn.2 e
theorem kA{l:List (Nat×aG)}(h:(l.map cV).Pairwise (· < ·)):(l.map cV).Nodup:=h.imp fun h=>Nat.ne_of_lt h
theorem jC(o:Nat):∀l:List (Nat×aG),l.lookup o=jK l o
 |[]=>rfl
 |p::r=>by
  simp only[List.lookup,jK]
  by_cases h:o=p.1
  ·rw[if_pos h.symm];simp[h]
  ·have:(o==p.1)=false:=by simpa using h
   rw[this,if_neg (Ne.symm h)];exact jC o r
theorem kZ(lo hi o:Nat):∀l:List (Nat×aG),jK (bV lo hi l) o=if lo<=o/\o<hi then none else(jK l o).map (aG.purge lo hi)
 |[]=>by simp[bV,jK]
 |p::r=>by
  simp only[bV,jK];split
  ·rename_i y
   rw[kZ lo hi o r]
   by_cases h:p.1=o
   ·subst h;rw[if_pos y,if_pos y]
   ·rw[if_neg h]
  ·rename_i y
   simp only[jK,kZ lo hi o r]
   by_cases h:p.1=o
   ·subst h;rw[if_pos rfl,if_neg y,if_pos rfl];rfl
   ·rw[if_neg h,if_neg h]
theorem Aw{lo hi:Nat}{l:List (Nat×aG)}(h:(l.map cV).Pairwise (· < ·)):((bV lo hi l).map cV).Pairwise (· < ·):=by rw[ig];exact h.filter _
theorem mj{n t:Nat}:∀{l:LAb},t∈pw l n↔t=n\/t∈l
 |[]=>by simp[pw]
 |p::r=>by
  simp only[pw];split
  ·simp
  ·split
   ·rename_i h;subst h;simp
   ·simp only[aq,mj]
    constructor
    ·rintro(h|h|h)
     ·exact .inr (.inl h)
     ·exact .inl h
     ·exact .inr (.inr h)
    ·rintro(h|h|h)
     ·exact .inr (.inl h)
     ·exact .inl h
     ·exact .inr (.inr h)
theorem tF{lo hi:Nat}{o:aG}(h:o.wf=true):(o.purge lo hi).wf=true:=by cases o<;>simpa[aG.purge,aG.wf]using h
def CSt.st(N:Nat)(c:CSt):St:=⟨(bQ N).map c.get,c.ob,c.tk⟩
structure Inv(N:Nat)(c:CSt):Prop where
 dom:∀p∈c.tm,p.1<N
 so:(c.ob.map cV).Pairwise (· < ·)
 wf:∀p∈c.ob,p.2.wf=true
structure Sim(N:Nat)(c:CSt)(s:St):Prop where
 inv:Inv N c
 tm:s.tm=(bQ N).map c.get
 look:∀o,s.look o=c.look o
 tk:∀t,t∈s.tk↔t∈c.tk
variable {N:Nat}{c:CSt}{s:St}
theorem Inv.get(h:Inv N c){n:Nat}(z:N<=n):c.get n= .undef:=vS fun p y e=>by have:=h.dom p y;omega
theorem Sim.of(h:Inv N c):Sim N c (c.st N):=⟨h,rfl,fun o=>jC o c.ob,fun _=>Iff.rfl⟩
theorem Sim.get(h:Sim N c s)(n:Nat):s.get n=c.get n:=by
 unfold St.get;rw[h.tm,aa,aR];rcases bq n N with y|y
 ·rw[cN y];rfl
 ·rw[fI (by simpa using y),h.inv.get y];rfl
theorem Sim.ev(h:Sim N c s)(a:Arg):s.ev a=c.ev a:=by
 cases a with
 |t n=>exact h.get n
 |c v=>rfl
 |f g=>rfl
theorem Sim.evL(h:Sim N c s)(l:List Arg):Sy.evL c l=l.map s.ev:=by
 induction l with
 |nil=>rfl
 |cons a r y=>simp only[Sy.evL,ax,y,h.ev]
theorem Sim.lookmem(h:Sim N c s){o:Nat}{ob:aG}(y:c.look o=some ob):ob.wf=true:=h.inv.wf _ (kI y)
theorem Sim.rows(h:Sim N c s){o sz:Nat}{y:f9}(z:c.look o=some (.arr sz y)):∀x∈y,x.length=sz:=by have:=h.lookmem z;simpa[aG.wf]using this
theorem Inv.put(h:Inv N c){d:LAc}(y:∀k,d=some k->k<N)(v:SV):Inv N (c.put d v):=by
 cases d with
 |none=>exact h
 |some k=>
  refine⟨fun p z=> ?_,h.so,h.wf⟩;rcases oJ z with e|e
  ·rw[e];exact y k rfl
  ·exact h.dom p e
theorem iI(c:CSt)(k:Nat)(v:SV)(n:Nat):(c.put (some k) v).get n=if n=k then v else c.get n:=oN k v n c.tm
theorem Sim.put(h:Sim N c s){d:LAc}(z:∀k,d=some k->k<N)(v:SV):Sim N (c.put d v) (s.put d v):=by
 cases d with
 |none=>exact h
 |some k=>
  refine⟨h.inv.put z v, ?_,h.look,h.tk⟩;show s.tm.set k v=_;rw[h.tm];apply List.ext_getElem?;intro i;rw[lx,aR,aR];rcases bq i N with hi|hi
  ·rw[cN hi]
   simp only[bz,iI,av,uj]
   by_cases y:k=i
   ·rw[if_pos y,if_pos (by omega),if_pos y.symm]
   ·rw[if_neg y,if_neg (Ne.symm y)]
  ·rw[fI (l:=bQ N) (by simpa using hi)]
   have:=z k rfl;rw[if_neg (by omega)];rfl
theorem cf{α:Type}{p:Prop}[Decidable p]{v u:α}(h:gd p v=some u):p/\v=u:=by
 unfold gd at h;split at h
 ·rename_i y;cases h;exact⟨y,rfl⟩
 ·cases h
theorem LM{op:BinOp}{k:IntKind}{a b:Int}{v:SV}(h:Cg op k a b=some v)(hs:pF op=false):∃p,S1 op k a b=some (p,v)/\p:=by
 cases op<;>simp only[Cg]at h<;>first
  |(cases hs;done)
  |(obtain⟨h1,rfl⟩:=cf h;exact⟨_,rfl,h1⟩)
  |(cases h;exact⟨True,rfl,trivial⟩)
theorem TR{op:BinOp}{a b v:SV}(h:Km op a b=some v):∃p,Cy op a b=some (p,v)/\p:=by
 unfold Km at h;split at h
 ·rename_i k a H b
  split at h
  ·rename_i F
   by_cases hs:pF op=true
   ·cases op<;>first
     |(cases hs;done)
     |(simp only[Cg]at h;obtain⟨h1,rfl⟩:=cf h;exact⟨_,rfl,h1⟩)
   ·have y:pF op=false:=by simpa using hs
    have z:k=H:=F.resolve_left hs;obtain⟨p,h1,h2⟩:=LM h y;refine⟨p, ?_,h2⟩;subst z;cases op<;>first|(cases y;done)|(simp only[Cy,if_true];exact h1)
  ·cases h
 ·rename_i a k b
  show ∃p,T5 op a b=some (p,v)/\p
  cases op<;>simp only[NC]at h<;>first
   |(cases h;done)
   |(obtain⟨h1,rfl⟩:=cf h;exact⟨_,rfl,h1⟩)
 ·rename_i a b
  show ∃p,JJ op a b=some (p,v)/\p
  cases op<;>simp only[DR]at h<;>first
   |(cases h;done)
   |(obtain⟨h1,rfl⟩:=cf h;exact⟨_,rfl,h1⟩)
   |(cases h;exact⟨True,rfl,trivial⟩)
 ·rename_i a b
  show ∃p,Ua op a b=some (p,v)/\p
  cases op<;>simp only[NF]at h<;>first
   |(cases h;done)
   |(obtain⟨h1,rfl⟩:=cf h;exact⟨_,rfl,h1⟩)
   |(cases h;exact⟨True,rfl,trivial⟩)
 ·cases h
theorem AW(z:Sim N c s){n:Nat}{F:Bool}{u v:SV}(h:oM c n F u=some v):∃p,jJ s n F u=some (p,v)/\p:=by
 cases u with
 |pp cs=>obtain⟨h1,rfl⟩:=cf h;exact⟨_,rfl,h1⟩
 |ptr o off=>
  simp only[oM]at h;simp only[jJ,z.look];split at h
  ·rename_i cs y;rw[y];obtain⟨h1,rfl⟩:=cf h;exact⟨_,rfl,h1⟩
  ·rename_i sz I y;rw[y];obtain⟨⟨h1,h2⟩,rfl⟩:=cf h;subst h1;exact⟨_,rfl,h2,z.rows y⟩
  ·rename_i l y;rw[y];obtain⟨⟨h1,h2⟩,rfl⟩:=cf h;subst h1;exact⟨_,rfl,h2⟩
  ·cases h
 |ap o sz i j=>
  simp only[oM]at h;simp only[jJ,z.look];split at h
  ·rename_i H I y
   rw[y];obtain⟨⟨h1,h2,h3⟩,rfl⟩:=cf h;refine⟨_,rfl,h1,h2,h3, ?_⟩;rw[aa,ac h2,h1];exact z.rows y _ (aF _)
  ·rename_i l y;rw[y];obtain⟨h1,rfl⟩:=cf h;exact⟨_,rfl,h1⟩
  ·rename_i cs y;rw[y];obtain⟨h1,rfl⟩:=cf h;exact⟨_,rfl,h1⟩
  ·cases h
 |_=>cases h
theorem pA(y:Sim N c s)(x:Option Arg)(n:Int):jI s x n=mg c x n:=by
 cases x with
 |none=>rfl
 |some a=>simp only[jI,mg,y.ev]
theorem QM(y:Sim N c s){sz:Nat}{u v:SV}{lo hi F:Option Arg}(h:ur c sz u lo hi F=some v):∃p,mG s sz u lo hi F=some (p,v)/\p:=by
 cases u with
 |byt l t=>
  simp only[ur]at h;simp only[mG,pA y];split at h<;>try (cases h;done)
  rename_i a b m h1 h2 h3;rw[h1,h2,h3];obtain⟨h4,rfl⟩:=cf h;exact⟨_,rfl,h4⟩
 |lst z l t=>
  simp only[ur]at h;simp only[mG,pA y];split at h<;>try (cases h;done)
  rename_i a b m h1 h2 h3;rw[h1,h2,h3];obtain⟨h4,rfl⟩:=cf h;exact⟨_,rfl,h4⟩
 |psl o z off n cap=>
  cases cap with
  |none=>
   simp only[ur]at h;simp only[mG,pA y];split at h<;>try (cases h;done)
   rename_i a b h1 h2;rw[h1,h2];obtain⟨h4,rfl⟩:=cf h;exact⟨_,rfl,h4⟩
  |some cap=>
   simp only[ur]at h;simp only[mG,pA y];split at h<;>try (cases h;done)
   rename_i a b m h1 h2 h3;rw[h1,h2,h3];obtain⟨h4,rfl⟩:=cf h;exact⟨_,rfl,h4⟩
 |_=>cases h
theorem qb(z:Sim N c s){u:SV}{l:t8}(h:gn c u=some l):∃p,jq s u=some (p,l)/\p:=by
 cases u with
 |byt l t=>cases h;exact⟨True,rfl,trivial⟩
 |str l=>cases h;exact⟨True,rfl,trivial⟩
 |psl o sz off n cap=>
  simp only[gn]at h;simp only[jq,z.look];split at h
  ·rename_i F y;rw[y];obtain⟨h1,rfl⟩:=cf h;exact⟨_,rfl,h1⟩
  ·cases h
 |_=>cases h
theorem AD(F:Sim N c s){u:SV}{sz:Nat}{l:f9}(h:lF c sz u=some l):∃p,lD s sz u=some (p,l)/\p:=by
 cases u with
 |lst y l t=>obtain⟨h1,rfl⟩:=cf h;exact⟨_,rfl,h1⟩
 |psl o y off n cap=>
  simp only[lF]at h;simp only[lD,F.look];split at h
  ·rename_i H I z
   rw[z];obtain⟨⟨h1,h2,h3⟩,rfl⟩:=cf h;exact⟨_,rfl,h1,h2,h3,by rw[h2];exact F.rows z⟩
  ·cases h
 |_=>cases h
theorem WT(F:Sim N c s)(y:List (Nat×Nat×Arg)):psC c y=y.map fun(o,n,x)=>(o,n,s.ev x):=by
 induction y with
 |nil=>rfl
 |cons p r z=>obtain⟨o,n,x⟩:=p;simp only[psC,ax,z,F.ev]
theorem Qi(F:Sim N c s){so:SOp}{v:SV}(h:du c so=some v):∃p,val s so=some (p,v)/\p:=by
 cases so with
 |mov x=>cases h;exact⟨True,by simp only[val,F.ev],trivial⟩
 |build z ps=>simp only[du,WT F]at h;obtain⟨l,h1,rfl⟩:=aj.1 h;exact⟨True,by simp only[val,h1,bz],trivial⟩
 |lit sz xs=>simp only[du,F.evL]at h;obtain⟨l,h1,rfl⟩:=aj.1 h;exact⟨True,by simp only[val,h1,bz],trivial⟩
 |litB xs=>simp only[du,F.evL]at h;obtain⟨l,h1,rfl⟩:=aj.1 h;exact⟨True,by simp only[val,h1,bz],trivial⟩
 |load n ag a=>simp only[val,F.ev];exact AW F h
 |nchk x=>simp only[du]at h;simp only[val,F.ev];cases H:c.ev x<;>rw[H]at h<;>first|(cases h;done)|(cases h;exact⟨True,rfl,trivial⟩)
 |bin op x y=>simp only[val,F.ev];exact TR h
 |eqS Q ts x y=>
  simp only[du]at h;simp only[val,F.ev];split at h<;>try (cases h;done)
  rename_i a b h1 h2;obtain⟨l,h3,rfl⟩:=aj.1 h;rw[h1,h2];exact⟨True,by simp only[h3,bz],trivial⟩
 |un op x=>simp only[du]at h;exact⟨True,by simp only[val,F.ev,h,bz],trivial⟩
 |toInt k x=>simp only[du]at h;exact⟨True,by simp only[val,F.ev,h,bz],trivial⟩
 |slid x=>simp only[du]at h;cases h
 |newB x=>simp only[du]at h;cases h
 |isni Q x=>
  simp only[du]at h;simp only[val,F.ev];split at h<;>try (cases h;done)
  all_goals
   rename_i h1;cases h;rw[h1];exact⟨True,rfl,trivial⟩
 |s2b x=>
  simp only[du]at h;simp only[val,F.ev];split at h<;>try (cases h;done)
  rename_i l h1;cases h;rw[h1];exact⟨True,rfl,trivial⟩
 |b2s x=>
  simp only[du]at h;simp only[val,F.ev];cases H:c.ev x with
  |byt l t=>rw[H]at h;cases h;exact⟨True,rfl,trivial⟩
  |psl o sz off n cap=>
   rw[H]at h;simp only[gn]at h;simp only[Cz,F.look];obtain⟨l,h1,rfl⟩:=aj.1 h;split at h1
   ·rename_i l' I;rw[I];obtain⟨h2,rfl⟩:=cf h1;exact⟨_,rfl,h2⟩
   ·cases h1
  |_=>rw[H]at h;cases h
 |mkfn f a b=>simp only[du,F.evL]at h;cases h;exact⟨True,rfl,trivial⟩
 |slcS x lo hi=>
  simp only[du]at h;simp only[val,F.ev];split at h<;>try (cases h;done)
  rename_i l H;rw[H];simp only[pA F];split at h<;>try (cases h;done)
  rename_i a b h1 h2;rw[h1,h2];obtain⟨h4,rfl⟩:=cf h;exact⟨_,rfl,h4⟩
 |slcL sz x lo hi mx=>simp only[val,F.ev];exact QM F h
 |faddr off x=>simp only[du]at h;simp only[val,F.ev];cases H:c.ev x<;>rw[H]at h<;>first|(cases h;done)|(cases h;exact⟨True,rfl,trivial⟩)
 |iaddrL sz x i=>
  simp only[du]at h;simp only[val,F.ev];split at h<;>try (cases h;done)
  all_goals
   rename_i h1 h2;rw[h1,h2];obtain⟨h4,rfl⟩:=cf h;exact⟨_,rfl,h4⟩
 |iaddrA len sz x i=>
  simp only[du]at h;simp only[val,F.ev,F.look];split at h<;>try (cases h;done)
  ·rename_i o off n h1 h2
   rw[h1,h2];simp only;split at h<;>try (cases h;done)
   ·rename_i cs I
    rw[I];obtain⟨h4,rfl⟩:=cf h;exact⟨_,rfl,h4⟩
   ·rename_i ob J I
    rw[I];obtain⟨⟨h4,Z⟩,rfl⟩:=cf h;cases ob with
    |rc cs=>exact absurd rfl (J cs)
    |_=>simp only[h4,if_true];exact⟨_,rfl,Z⟩
  ·rename_i cs n h1 h2
   rw[h1,h2];obtain⟨h4,rfl⟩:=cf h;exact⟨_,rfl,h4⟩
 |idxA len sz ag x i=>
  simp only[du]at h;simp only[val,F.ev];split at h<;>try (cases h;done)
  rename_i h1 h2;rw[h1,h2];obtain⟨h4,rfl⟩:=cf h;exact⟨_,rfl,h4⟩
 |idxS x i=>
  simp only[du]at h;simp only[val,F.ev];split at h<;>try (cases h;done)
  rename_i h1 h2;rw[h1,h2];obtain⟨h4,rfl⟩:=cf h;exact⟨_,rfl,h4⟩
 |ext x i=>
  simp only[du]at h;simp only[val,F.ev];split at h<;>try (cases h;done)
  rename_i vs H;rw[H];obtain⟨h4,rfl⟩:=cf h;exact⟨_,rfl,h4⟩
 |len b x=>simp only[du]at h;obtain⟨n,h1,rfl⟩:=aj.1 h;exact⟨True,by simp only[val,F.ev,h1],trivial⟩
 |mini x y=>
  simp only[du]at h;simp only[val,F.ev];split at h<;>try (cases h;done)
  rename_i h1 h2;rw[h1,h2];simp only;split at h<;>cases h;rename_i K;exact⟨True,by rw[if_pos K],trivial⟩
 |maxi x y=>
  simp only[du]at h;simp only[val,F.ev];split at h<;>try (cases h;done)
  rename_i h1 h2;rw[h1,h2];simp only;split at h<;>cases h;rename_i K;exact⟨True,by rw[if_pos K],trivial⟩
 |_=>cases h
variable {P:Program}{C:Ctx}{x:Sit}{a:Act}{w:World}{o:Oper}{so:SOp}{c':CSt}{d:Option Nat}
def M(C:Ctx)(N:Nat)(c:CSt):LBc:=Kc C (Sim N c)
theorem Sim.purge(h:Sim N c s)(lo hi:Nat):Sim N (c.purge lo hi) (s.purge lo hi):=by
 refine⟨⟨fun p y=> ?_,Aw h.inv.so,fun p y=> ?_⟩, ?_,fun o=> ?_,fun t=> ?_⟩
 ·obtain⟨q,z,e⟩:=kW y
  rw[e];exact h.inv.dom q z
 ·obtain⟨_,ob,h1,h2⟩:=cS y
  rw[h2];exact tF (h.inv.wf _ h1)
 ·show SV.purgeL lo hi s.tm=_
  rw[h.tm,ed,List.map_map];apply List.map_congr_left;intro i _;exact(ie lo hi i c.tm).symm
 ·show(bV lo hi s.ob).lookup o=jK (bV lo hi c.ob) o
  have:=h.look o;unfold St.look CSt.look at this;rw[jC]at this ⊢;rw[kZ,kZ,this]
 ·show t∈df lo hi s.tk↔t∈df lo hi c.tk
  rw[bP,bP,h.tk]
theorem Sim.addO(h:Sim N c s)(k:Nat){ob:aG}(z:ob.wf=true):Sim N ⟨c.tm,kp c.ob k ob,c.tk⟩ (s.addO k ob):=by
 refine⟨⟨h.inv.dom,yS h.inv.so,fun p F=> ?_⟩,h.tm,fun o=> ?_,h.tk⟩
 ·rcases mi F with e|e
  ·rw[e];exact z
  ·exact h.inv.wf p e
 ·show((k,ob)::s.ob).lookup o=jK (kp c.ob k ob) o
  have:=h.look o;unfold St.look CSt.look at this;rw[tW];simp only[List.lookup]
  by_cases y:o=k
  ·subst y;simp
  ·have:(o==k)=false:=by simpa using y
   rw[this,if_neg y];exact h.look o
theorem qr(k:Nat)(ob:aG)(o:Nat):∀l:List (Nat×aG),(Sy.setO k ob l).lookup o=if o=k/\(l.lookup k).isSome=true then some ob else l.lookup o
 |[]=>by simp[Sy.setO]
 |p::r=>by
  simp only[Sy.setO]
  by_cases z:p.1=k
  ·rw[if_pos z]
   subst z;simp only[List.lookup]
   by_cases y:o=p.1
   ·subst y;simp
   ·have:(o==p.1)=false:=by simpa using y
    simp[this,y]
  ·rw[if_neg z]
   have h1:(k==p.1)=false:=by simpa using Ne.symm z
   simp only[List.lookup,h1,qr k ob o r]
   by_cases y:o=p.1
   ·subst y;simp[z]
   ·have:(o==p.1)=false:=by simpa using y
    simp[this]
theorem Sim.setO(h:Sim N c s){k:Nat}{ob:aG}(H:(c.look k).isSome=true)(z:ob.wf=true):Sim N ⟨c.tm,kp c.ob k ob,c.tk⟩ (s.setO k ob):=by
 refine⟨⟨h.inv.dom,yS h.inv.so,fun p F=> ?_⟩,h.tm,fun o=> ?_,h.tk⟩
 ·rcases mi F with e|e
  ·rw[e];exact z
  ·exact h.inv.wf p e
 ·show(Sy.setO k ob s.ob).lookup o=jK (kp c.ob k ob) o
  rw[tW,qr]
  have h1:(s.ob.lookup k).isSome=true:=by have:=h.look k;unfold St.look at this;rw[this];exact H
  by_cases y:o=k
  ·rw[if_pos ⟨y,h1⟩,if_pos y]
  ·rw[if_neg (fun e=>y e.1),if_neg y];exact h.look o
theorem Sim.tks(h:Sim N c s){l k:LAb}(y:∀t,t∈l↔t∈k):Sim N ⟨c.tm,c.ob,k⟩ ⟨s.tm,s.ob,l⟩:=⟨⟨h.inv.dom,h.inv.so,h.inv.wf⟩,h.tm,h.look,y⟩
theorem LC{t:Tok}{l k:LAb}(h:∀t,t∈l↔t∈k)(n:Nat):n∈t.eat l↔n∈t.eat k:=by
 cases t with
 |id t=>simp only[Tok.eat,bP,h]
 |_=>exact h n
structure Kp(e:uX)(f:Eff):Prop where
 val:f.val=e.val
 wr:f.wr=e.wr
 new:f.new=e.new
 eat:f.eat=e.eat
 tok:f.tok=e.tok
structure Kr(c:CSt)(e:uX):Prop where
 new:∀ob,e.new=some ob->ob.wf=true
 wr:e.wr=[]\/∃k ob,e.wr=[(k,ob)]/\(c.look k).isSome=true/\ob.wf=true
theorem Sim.app(h:Sim N c s)(y:∀k,d=some k->k<N){e:uX}{f:Eff}(hs:Kp e f)(F:Kr c e):Sim N (c.app d e) (s.app d f):=by
 unfold CSt.app St.app;rw[hs.new,hs.tok,hs.val,hs.wr,hs.eat];cases hn:e.new with
 |some ob=>exact((h.purge _ _).addO _ (tF (F.new ob hn))).put y _
 |none=>
  cases ht:e.tok with
  |true=>refine Sim.put (c:=⟨_,_,_⟩) ?_ y _;refine((h.purge (d.getD 0+100) (d.getD 0+100+1)).tks (fun t=> ?_));rw[mj,aq,bP,bP,LC h.tk]
  |false=>
   rcases F.wr with z|⟨k,ob,z,h1,h2⟩
   ·rw[z];exact h.put y _
   ·rw[z];exact(h.setO h1 h2).put y _
theorem Kp.v(v:SV)(p:Prop):Kp {val:=v} {pre:=p,val:=v}:=⟨rfl,rfl,rfl,rfl,rfl⟩
theorem Kr.v(v:SV):Kr c {val:=v}:=⟨fun ob h=>(by cases h),.inl rfl⟩
theorem UU(n:Nat)(z:LAa):(aG.arr z.length (aB n z)).wf=true:=by simp only[aG.wf,aZ,decide_eq_true_eq];intro y F;rw[(List.mem_replicate.1 F).2]
theorem oj{sz:Nat}{z:f9}:(aG.arr sz z).wf=true↔∀y∈z,y.length=sz:=by simp only[aG.wf,aZ,decide_eq_true_eq]
theorem Bg(sz:Nat):∀(m:Nat)(v:LAa),v.length=m*sz->∀y∈ld sz m v,y.length=sz
 |0,_,_,y,hy=>by cases hy
 |m+1,v,h,y,hy=>by
  rw[eX]at h;simp only[ld]at hy;rcases aq.1 hy with rfl|hy
  ·rw[aw];omega
  ·exact Bg sz m (v.drop sz) (by rw[aQ];omega) y hy
theorem IS{sz:Nat}{F:f9}{i j n:Nat}{v:LAa}(h:∀y∈F,y.length=sz)(hi:i<F.length)(I:j+n<=sz)(hv:v.length=n):∀y∈iM sz F i j n v,y.length=sz:=by
 intro y z;unfold iM at z;split at z
 ·rename_i H
  rcases List.mem_or_eq_of_mem_set z with h1|h1
  ·exact h y h1
  ·rw[h1,hv];exact H.2
 ·rcases List.mem_or_eq_of_mem_set z with h1|h1
  ·exact h y h1
  ·have:(F.getD i []).length=sz:=by
    rw[aa,ac hi];exact h _ (aF _)
   rw[h1];simp only[af,aw,aQ,this,hv];omega
theorem vz(h:Sim N c s){t:Tok}(y:t.readyC c=true):t.ready s=true:=by
 cases t with
 |no=>cases y
 |clip=>rfl
 |id t=>simp only[Tok.readyC,fV,decide_eq_true_eq]at y;simp only[Tok.ready,fV,decide_eq_true_eq];exact(h.tk t).2 y
theorem QJ(z:aY C x s a w){y:Arg}(F:y.isT=true):Rep x (s.ev y) (match y with| .t n=>a.tmps.getD n undef|_=>undef):=by
 cases y with
 |t n=>exact z.slot n
 |_=>cases F
theorem L8(h:Sim N c s){e:uX}(F:fF c d so=some e)(hp:∀q y z,so≠ .pick q y z)(Z:∀sz q y,so≠ .cpy sz q y):∃f,eff s d so=some f/\f.pre/\Kp e f/\Kr c e:=by
 have K:∀{so:SOp},fF c d so=Kf (du c so)->(eff s d so=match val s so with|some (p,v)=>some {pre:=p,val:=v}|none=>none)->fF c d so=some e->∃f,eff s d so=some f/\f.pre/\Kp e f/\Kr c e:=by
  intro so h1 h2 h3;rw[h1]at h3;cases hv:du c so with
  |none=>rw[hv]at h3;cases h3
  |some v=>rw[hv]at h3;cases h3;obtain⟨p,h4,h5⟩:=Qi h hv;exact⟨{pre:=p,val:=v},by rw[h2,h4],h5,Kp.v v p,Kr.v v⟩
 cases so with
 |pick q y z=>exact absurd rfl (hp q y z)
 |call _ _=>cases F
 |newB _=>cases F
 |slid _=>cases F
 |new ob=>
  simp only[fF]at F;split at F<;>try (cases F;done)
  obtain⟨h1,rfl⟩:=cf F;exact⟨_,rfl,trivial,⟨rfl,rfl,rfl,rfl,rfl⟩,⟨fun H e=>(by cases e;exact h1),.inl rfl⟩⟩
 |box q=>simp only[fF]at F;split at F<;>cases F;exact⟨_,rfl,trivial,⟨rfl,rfl,by simp only[h.ev],rfl,rfl⟩,⟨fun H e=>(by cases e;rfl),.inl rfl⟩⟩
 |mk z bytes n m=>
  simp only[fF]at F;simp only[eff,h.ev];split at F<;>try (cases F;done)
  rename_i h1 h2;rw[h1,h2];obtain⟨h1,rfl⟩:=cf F;exact⟨_,rfl,h1,⟨rfl,rfl,rfl,rfl,rfl⟩,⟨fun H e=>(by cases e;exact UU _ z),.inl rfl⟩⟩
 |mkB n m=>
  simp only[fF]at F;simp only[eff,h.ev];split at F<;>try (cases F;done)
  rename_i h1 h2;rw[h1,h2];obtain⟨h1,rfl⟩:=cf F;exact⟨_,rfl,h1,⟨rfl,rfl,rfl,rfl,rfl⟩,⟨fun H e=>(by cases e;rfl),.inl rfl⟩⟩
 |store n q y=>
  simp only[fF]at F;simp only[eff,h.ev];split at F<;>try (cases F;done)
  rename_i Q;rw[Q];simp only;unfold mV at F;unfold uq;split at F
  ·rename_i o' off J
   rw[J];simp only[h.look];split at F<;>try (cases F;done)
   ·rename_i cs I
    rw[I];obtain⟨h1,rfl⟩:=cf F;exact⟨_,rfl,h1,⟨rfl,rfl,rfl,rfl,rfl⟩,⟨fun H e=>(by cases e),.inr ⟨_,_,rfl,by rw[I];rfl,rfl⟩⟩⟩
   ·rename_i sz xs I
    rw[I];obtain⟨⟨h1,h2,h3,h4⟩,rfl⟩:=cf F
    exact⟨_,rfl,⟨h1,h2,h3,h4⟩,⟨rfl,rfl,rfl,rfl,rfl⟩,
     ⟨fun H e=>(by cases e),.inr ⟨_,_,rfl,by rw[I];rfl,oj.2 (Bg sz _ _ (by rw[av];omega))⟩⟩⟩
   ·rename_i l I
    rw[I];simp only at F ⊢;split at F<;>try (cases F;done)
    rename_i l' hv;rw[hv];obtain⟨h1,rfl⟩:=cf F;exact⟨_,rfl,h1,⟨rfl,rfl,rfl,rfl,rfl⟩,⟨fun H e=>(by cases e),.inr ⟨_,_,rfl,by rw[I];rfl,rfl⟩⟩⟩
  ·rename_i o' sz i j J
   rw[J];simp only[h.look];split at F<;>try (cases F;done)
   ·rename_i a1 xs I
    rw[I];obtain⟨⟨h1,h2,h3,h4,h5⟩,rfl⟩:=cf F
    exact⟨_,rfl,⟨h1,h2,h3,h4,by rw[h1];exact h.rows I,h5⟩,⟨rfl,rfl,rfl,rfl,rfl⟩,
     ⟨fun H e=>(by cases e),.inr ⟨_,_,rfl,by rw[I];rfl,oj.2 (by subst h1;exact IS (h.rows I) h2 h3 (by simpa using h4))⟩⟩⟩
   ·rename_i l I
    rw[I];simp only at F ⊢;split at F<;>try (cases F;done)
    rename_i b hv;rw[hv];obtain⟨h1,rfl⟩:=cf F;exact⟨_,rfl,h1,⟨rfl,rfl,rfl,rfl,rfl⟩,⟨fun H e=>(by cases e),.inr ⟨_,_,rfl,by rw[I];rfl,rfl⟩⟩⟩
  ·cases F
 |app z bytes q y=>
  simp only[fF]at F;simp only[eff,h.ev];split at F<;>try (cases F;done)
  split at F<;>try (cases F;done)
  ·rename_i l t J
   rw[J];obtain⟨l',h1,h2⟩:=Option.bind_eq_some_iff.1 F;obtain⟨p,h3,h4⟩:=qb h h1;obtain⟨⟨g1,g2,g3,g4⟩,rfl⟩:=cf h2;simp only[h3];exact⟨_,rfl,⟨h4,g1,g2,vz h g3,g4⟩,⟨rfl,rfl,rfl,rfl,rfl⟩,⟨fun H e=>(by cases e),.inl rfl⟩⟩
  ·rename_i a1 l t J
   rw[J];obtain⟨l',h1,h2⟩:=Option.bind_eq_some_iff.1 F;obtain⟨p,h3,h4⟩:=AD h h1;obtain⟨⟨g1,g3,g4⟩,rfl⟩:=cf h2;simp only[h3];exact⟨_,rfl,⟨h4,g1,vz h g3,g4⟩,⟨rfl,rfl,rfl,rfl,rfl⟩,⟨fun H e=>(by cases e),.inl rfl⟩⟩
 |cpy sz q y=>exact absurd rfl (Z sz q y)
 |_=>exact K (wa rfl) rfl F
theorem Tx(P:Program)(h:Sim N c s)(hM:aY C x s a w){e:uX}(I:fF c d so=some e)(hp:∀q y z,so≠ .pick q y z):∃f,eff s d so=some f/\f.pre/\Kp e f/\Kr c e:=by
 by_cases Q:∃sz q y,so= .cpy sz q y
 ·obtain⟨sz,q,y,rfl⟩:=Q
  simp only[fF]at I;simp only[eff,h.ev];split at I<;>try (cases I;done)
  rename_i o' a7 off n cap hq;rw[hq];simp only[h.look];split at I<;>try (cases I;done)
  ·rename_i l K
   rw[K];obtain⟨l',h1,h2⟩:=Option.bind_eq_some_iff.1 I;obtain⟨p,h3,h4⟩:=qb h h1;obtain⟨⟨g1,J,g3⟩,rfl⟩:=cf h2;simp only[h3];exact⟨_,rfl,⟨h4,g1,J,g3⟩,⟨rfl,rfl,rfl,rfl,rfl⟩,⟨fun a1 e=>(by cases e),.inr ⟨_,_,rfl,by rw[K];rfl,rfl⟩⟩⟩
  ·rename_i a6 xs K
   rw[K];obtain⟨l',h1,h2⟩:=Option.bind_eq_some_iff.1 I;obtain⟨p,h3,h4⟩:=AD h h1;obtain⟨⟨g0,g1,J,g3⟩,rfl⟩:=cf h2;simp only[h3];have F:=h.rows K;obtain⟨_,Z,_⟩:=KD (P:=P) hM (QJ hM g0) (by rw[h.ev];exact h3) h4;refine⟨_,rfl,⟨h4,g1,J,g3,by rw[J];exact F⟩,⟨rfl,rfl,rfl,rfl,rfl⟩,⟨fun a1 e=>(by cases e),.inr ⟨_,_,rfl,by rw[K];rfl,oj.2 ?_⟩⟩⟩;intro r H;rcases am.1 H with H|H
   ·rcases am.1 H with H|H
    ·rw[J];exact F r (cg H)
    ·exact Z r (cg H)
   ·rw[J];exact F r (ny H)
 ·exact L8 h I hp (fun sz q y e=>Q ⟨sz,q,y,e⟩)
theorem Z1(h:M C N c a w)(hr:cw P o=some so)(Z:∀k,o.dst=some k->k<N)(H:ri c o.dst (fF c o.dst so)=some c'){K:LBc}{Q:LBb}(hK:∀a w,M C N c' a w->K a w):o.wp P a w K Q:=by
 obtain⟨x,s,I,F⟩:=h;cases he:fF c o.dst so with
 |none=>rw[he]at H;cases H
 |some e=>
  rw[he]at H;simp only[ri,ay.injEq]at H;subst H
  by_cases hp:∃q y z,so= .pick q y z
  ·obtain⟨q,y,z,rfl⟩:=hp
   simp only[fF]at he;split at he<;>cases he;rename_i t ht;have J:=JA I hr (t:=t) (by rw[F.ev];exact ht);refine fc J (k:=Sim N (c.app o.dst {val:=jz t (c.ev y) (c.ev z)})) ?_ hK;have:(if t=true then s.ev y else s.ev z)=jz t (c.ev y) (c.ev z):=by rw[F.ev,F.ev];rfl
   rw[this];exact F.put Z _
  ·obtain⟨f,h1,h2,h3,h4⟩:=Tx P F I he (fun q y z e=>hp ⟨q,y,z,e⟩)
   exact fc (Tv I hr h1 h2) (k:=Sim N (c.app o.dst e)) (F.app Z h3 h4) hK
theorem Sim.exact(h:Sim N c s)(y:aY C x s a w):aY C x (c.st N) a w:=
 ⟨by show cB x ((bQ N).map c.get) _;rw[<-h.tm];exact y.tm,y.defers,y.heap.only (fun p z=>by have h1:=kE (kA h.inv.so) z;have h2:s.look p.1=some p.2:=(h.look p.1).trans h1;exact dT h2) (kA h.inv.so) (fun t F=>(h.tk t).2 F)⟩
theorem M.slots(h:M C N c a w)(hi:Inv N c')(I:c'.ob=c.ob)(K:c'.tk=c.tk)(Q:∀i,c'.get i=c.get i\/c'.get i= .undef):M C N c' a w:=by
 obtain⟨x,s,H,J⟩:=h;have z:=J.exact H;refine⟨x,c'.st N,⟨⟨?_,fun i y=> ?_⟩,H.defers, ?_⟩,Sim.of hi⟩
 ·have:=z.tm.1;simpa[CSt.st]using this
 ·have h1:=z.tm.2 i (by simpa[CSt.st]using y)
  have F:i<N:=by simpa[CSt.st]using y
  simp only[CSt.st,aa,aR,cN F,bz,bn]at h1 ⊢;rcases Q i with e|e
  ·rw[e];exact h1
  ·rw[e];exact .undef _
 ·show dA C x c'.ob c'.tk w
  rw[I,K];exact z.heap
theorem Inv.kill(h:Inv N c)(l:LAb):Inv N (c.kill l):=by
 cases l with
 |nil=>exact h
 |cons n r=>exact⟨fun p y=>h.dom p (tQ y),h.so,h.wf⟩
theorem M.kill(h:M C N c a w)(l:LAb):M C N (c.kill l) a w:=by
 have hi:Inv N c:=by obtain⟨x,s,_,z⟩:=h;exact z.inv
 cases l with
 |nil=>exact h
 |cons n r=>
  refine h.slots (hi.kill _) rfl rfl fun i=> ?_
  have e:=tV (n::r) i c.tm
  by_cases y:(n::r).contains i=true
  ·exact .inr (e.trans (if_pos y))
  ·exact .inl (e.trans (if_neg y))
theorem M.purge(h:M C N c a w)(lo hi:Nat):M C N (c.purge lo hi) a w:=by obtain⟨x,s,y,z⟩:=h;exact⟨x,_,y.purge lo hi,z.purge lo hi⟩
theorem M.gc:∀{l:LAb}{c:CSt},M C N c a w->M C N (gcC c l) a w
 |[],_,h=>h
 |o::r,c,h=>by show M C N (gcC (c.purge o (o+1)) r) a w;exact M.gc (h.purge o (o+1))
theorem om{o:Nat}{y:aG}(cs:LAa):SV.pubL o y cs=cs.map (SV.pub o y):=by
 induction cs with
 |nil=>rfl
 |cons c r z=>simp only[SV.pubL,ax,z]
theorem Rep.pub{x x':Sit}{o:Nat}{z:aG}(hβ:x'.bk=x.bk)(hτ:x'.τ=x.τ)(hG:∀b i u,x.G b i=some u->x'.G b i=some u)
 (I:∀k,k<z.size->∃u,x'.G ((x.bk o).1) k=some u/\bU x'.G (z.cell k) u) (b2:z.wf=true) {sv:SV} {v:Value} (h:Rep x sv v):Rep x' (sv.pub o z) v:=by
 induction h with
 |undef v=>exact .undef v
 |dat s v h ht=>
  have:s.pub o z=s:=by cases h<;>rfl
  rw[this];exact(Rep.dat s v h ht).grow hG hβ hτ
 |ptr K off=>
  simp only[SV.pub];split
  ·exact .undef _
  ·rw[<-hβ];exact .ptr K off
 |ap K sz i j=>
  simp only[SV.pub];split
  ·exact .undef _
  ·rw[<-hβ];exact .ap K sz i j
 |psl K sz off n cap y F Q hn J a8=>
  simp only[SV.pub];split
  ·rename_i ho
   subst ho;cases z with
   |rc cs=>exact .undef _
   |arr a6 xs=>
    simp only[BV];split
    ·rename_i hc
     obtain⟨rfl,hb⟩:=hc;have a1:=oj.1 b2;have h1:=leP.psl (o:=K) (cap:=cap) hb a1 x x' _ hβ hτ hG (fun k hk=>I k hk) (.psl K a6 off n cap y F Q hn J a8);split
     ·rename_i H
      have Z:=J _ H;obtain⟨b,cq,he,_,hD,_⟩:=h1.lst_inv;exact .dat _ _ (hD.tok (.lst a6 ((xs.drop off).take n) .clip) (.inr ⟨a6,_,_,_,rfl,rfl⟩)) ⟨_,n,by rw[<-Z]⟩
     ·exact h1
    ·exact .undef _
   |bar l=>
    simp only[BV];split
    ·rename_i hc
     obtain⟨rfl,hb⟩:=hc;have b0:((l.drop off).take n).length=n:=by simp;omega
     have hD:∀t,bU x'.G (.byt ((l.drop off).take n) t) (.slice (some ⟨(x.bk K).1,y,none⟩) n F):=by
      intro t;refine .byt _ t _ _ _ _ b0.symm hn fun i hi=> ?_
      have a7:y=off:=by omega
      obtain⟨u,hu,hr⟩:=I (off+i) (by simp only[aG.size];omega);rw[a7,hu];simp only[aG.cell]at hr
      have e:((l.drop off).take n).getD i 0=l.getD (off+i) 0:=by simp only[aa,bZ,if_pos hi,bH]
      rw[e];cases hr with
      |u8 b=>rfl
     split
     ·rename_i H
      have Z:=J _ H;exact .dat _ _ (hD .clip) ⟨_,n,by rw[<-Z]⟩
     ·exact .dat _ _ (hD .no) trivial
    ·exact .undef _
  ·rw[<-hβ]at a8 ⊢;exact .psl K sz off n cap y F Q hn J a8
 |agg cs vs hl _ ih=>simp only[SV.pub,om];exact .agg _ _ (by simpa using hl) fun i hi=>by rw[bi _ (by rfl)];exact ih i (by simpa using hi)
 |tup cs vs hl _ ih=>simp only[SV.pub,om];exact .tup _ _ (by simpa using hl) fun i hi=>by rw[bi _ (by rfl)];exact ih i (by simpa using hi)
 |fn f c1 c2 v1 v2 b5 _ b3 _ b1 b4=>simp only[SV.pub,om];exact .fn _ _ _ _ _ (by simpa using b5) (fun i hi=>by rw[bi _ (by rfl)];exact b1 i (by simpa using hi)) (by simpa using b3) (fun i hi=>by rw[bi _ (by rfl)];exact b4 i (by simpa using hi))
theorem mn{o:Nat}{y:aG}{p:Nat×aG}:∀{l:List (Nat×aG)},p∈nf o y l->p.1≠o/\∃q,(p.1,q)∈l/\p.2=qN o y q
 |q::r,h=>by
  simp only[nf]at h;split at h
  ·obtain⟨h1,u,h2,h3⟩:=mn h
   exact⟨h1,u,an _ h2,h3⟩
  ·rename_i z
   rcases aq.1 h with e|e
   ·rw[e];exact⟨z,q.2,aD ..,rfl⟩
   ·obtain⟨h1,u,h2,h3⟩:=mn e
    exact⟨h1,u,an _ h2,h3⟩
theorem tY{o:Nat}{y:aG}:∀l:List (Nat×aG),(nf o y l).map cV=(l.map cV).filter fun k=>decide (k≠o)
 |[]=>rfl
 |p::r=>by
  simp only[nf,ax,fb]
  by_cases h:p.1=o
  ·rw[if_pos h,tY r];simp[h]
  ·rw[if_neg h,ax,tY r];simp[h]
theorem tP{o:Nat}{y:aG}{p:Nat×SV}:∀{l:List (Nat×SV)},p∈nU o y l->∃q∈l,p.1=q.1
 |q::r,h=>by
  simp only[nU]at h;rcases aq.1 h with e|e
  ·exact⟨q,aD ..,by rw[e]⟩
  ·obtain⟨u,h1,h2⟩:=tP e
   exact⟨u,an _ h1,h2⟩
theorem mw{o:Nat}{y:aG}(n:Nat):∀l:List (Nat×SV),fD (nU o y l) n=(fD l n).pub o y
 |[]=>rfl
 |p::r=>by
  simp only[nU,fD];split
  ·rfl
  ·exact mw n r
theorem UV{o:Nat}{y q:aG}(h:q.wf=true):(qN o y q).wf=true:=by cases q<;>simpa[qN,aG.wf]using h
theorem sF{o:Nat}{z y:aG}(hl:c.look o=some z)(d8:∀cs,y≠ .rc cs)(b2:∀cs,z≠ .rc cs)(e0:y.size<=z.size)(d7:∀k,k<y.size->y.cell k=z.cell k)(b5:y.wf=true)(hM:aY C x s a w)(J:Sim N c s):
 ∃x',(x'.bk=x.bk/\x'.τ=x.τ/\(∀b i u,x.G b i=some u->x'.G b i=some u)/\(∀i,y.size<=i->x'.G ((x.bk o).1) i=none)/\(∀k,k<y.size->∃u,x'.G ((x.bk o).1) k=some u/\bU x'.G (y.cell k) u))/\(∀sv v,Rep x sv v->Rep x' (sv.pub o y) v)/\∃s',aY C x' s' a w/\Sim N ⟨nU o y c.tm,nf o y c.ob,c.tk⟩ s'/\(∀p∈s'.ob,(x.bk o).1≠(x'.bk p.1).1):=by
 have Z:s.look o=some z:=(J.look o).trans hl;obtain⟨cc,e,fl,fh,hO,d9,hr⟩:=gB hM Z;have b0:=hM.heap.obs _ (dT Z)
 let x':Sit:= {x with G:=fun b i=>if b=(x.bk o).1/\i<y.size then some (cc.getD i undef)else x.G b i}
 have hG:∀b i u,x.G b i=some u->x'.G b i=some u:=by intro b i u hu;show(if _ then _ else _)=_;rw[if_neg];exact hu;rintro⟨rfl,_⟩;have h0:=b0.2.2 i;simp only at h0;rw[h0]at hu;cases hu
 have Q:∀k,k<y.size->∃u,x'.G ((x.bk o).1) k=some u/\bU x'.G (y.cell k) u:=by
  intro k hk;refine⟨cc.getD k undef,if_pos ⟨rfl,hk⟩,bU.mono hG ?_⟩;have:=hr k (by omega);rw[d7 k hk];cases z with
  |rc cs=>exact absurd rfl (b2 cs)
  |arr sz xs=>exact this
  |bar l=>exact this
 have K:∀sv v,Rep x sv v->Rep x' (sv.pub o y) v:=fun sv v h=>Rep.pub (x:=x) (x':=x') rfl rfl hG Q b5 h
 have F:=hM.heap
 have a1:Inv N ⟨nU o y c.tm,nf o y c.ob,c.tk⟩:=by
  refine⟨fun p I=> ?_, ?_,fun p I=> ?_⟩
  ·obtain⟨q,hq,e⟩:=tP I;rw[e];exact J.inv.dom q hq
  ·show((nf o y c.ob).map cV).Pairwise _
   rw[tY];exact J.inv.so.filter _
  ·obtain⟨_,q,h2,h3⟩:=mn I;rw[h3];exact UV (J.inv.wf _ h2)
 have H:∀p∈nf o y c.ob,p.1≠o/\∃q,(p.1,q)∈s.ob/\p.2=qN o y q:=by intro p I;obtain⟨h1,q,h2,h3⟩:=mn I;have h4:=kE (kA J.inv.so) h2;exact⟨h1,q,dT ((J.look p.1).trans h4),h3⟩
 have b1:∀p∈nf o y c.ob,(x.bk p.1).1≠(x.bk o).1:=fun p I e=>by obtain⟨h1,q,h2,_⟩:=H p I;exact h1 (F.inj (p.1,q) h2 _ (dT Z) e)
 refine⟨x',⟨rfl,rfl,hG,fun i hi=> ?_,Q⟩,K,_,⟨⟨?_,fun i hi=> ?_⟩,hM.defers, ?_⟩,Sim.of a1,fun p I=>(b1 p I).symm⟩
 ·show(if _ then _ else _)=_
  rw[if_neg (by rintro⟨_,h⟩;omega)];exact b0.2.2 i
 ·have:=hM.tm.1;rw[J.tm]at this;simpa[CSt.st]using this
 ·have b4:i<N:=by simpa[CSt.st]using hi
  have h1:=hM.tm.2 i (by rw[J.tm];simpa using b4);rw[J.tm]at h1;simp only[CSt.st,aa,aR,cN b4,bz,bn]at h1 ⊢;have:(CSt.mk (nU o y c.tm) (nf o y c.ob) c.tk).get i=(c.get i).pub o y:=mw i c.tm;rw[this];exact K _ _ h1
 ·refine⟨
   ?_,fun b i v hv=>hG _ _ _ (F.g0 b i v hv), ?_,F.new, ?_,kA a1.so, ?_, ?_,fun n hn p I=> ?_,fun n hn m hm=>F.tkd n ((J.tk n).2 hn) m ((J.tk m).2 hm),F.os,F.tape,F.output,F.size,F.ext,F.pin,F.lay⟩
  ·intro b i v hv
   replace hv:(if b=(x.bk o).1/\i<y.size then some (cc.getD i undef)else x.G b i)=some v:=hv;split at hv
   ·rename_i a8
    obtain⟨rfl,hi⟩:=a8;cases hv;rw[hO.cell,bT,iK (by omega)];rfl
   ·exact F.per b i v hv
  ·intro b i v hv
   replace hv:(if b=(x.bk o).1/\i<y.size then some (cc.getD i undef)else x.G b i)=some v:=hv;split at hv
   ·rename_i a8
    exact .inr (a8.1 ▸ b0.2.1)
   ·exact F.gm b i v hv
  ·intro p I
   obtain⟨h1,q,h2,h3⟩:=H p I;obtain⟨g1,g2,g3⟩:=F.obs _ h2;refine⟨?_,g2,fun off=> ?_⟩
   ·obtain⟨c',e',c7,d4,d6,a6,a7⟩:=g1
    rw[h3];refine⟨c',e',c7,d4,d6, ?_,fun k hk=> ?_⟩
    ·cases q<;>first|exact a6|exact⟨by simpa[qN,aG.size,om]using a6.1,a6.2.1,fun h=>by cases h⟩
    ·cases q with
     |rc cs=>
      have b6:k<cs.length:=by simpa[qN,aG.size,om]using hk
      have:=a7 k b6;simp only[qN,cQ,om]at this ⊢;rw[bi _ (by rfl)];exact K _ _ this
     |arr sz xs=>exact bU.mono hG (a7 k hk)
     |bar l=>exact bU.mono hG (a7 k hk)
   ·show(if _ then _ else _)=_
    rw[if_neg (fun h=>b1 p I h.1)];exact g3 off
  ·intro p I q hq d3
   obtain⟨_,p',b7,_⟩:=H p I;obtain⟨_,q',b8,_⟩:=H q hq;exact F.inj (p.1,p') b7 (q.1,q') b8 d3
  ·intro n d5
   have hn:=(J.tk n).2 d5;rcases F.tks n hn with h|⟨h1,h2,h3⟩
   ·exact .inl h
   ·by_cases b3:(x.τ n).2.1=(x.τ n).2.2
    ·exact .inl b3
    ·refine .inr ⟨h1,h2,fun off h4 h5=> ?_⟩
     show(if _ then _ else _)=_;rw[if_neg (fun h=>(F.tko n hn _ (dT Z)).elim (fun hb=>hb h.1) b3)];exact h3 off h4 h5
  ·obtain⟨_,q,h2,_⟩:=H p I
   exact F.tko n ((J.tk n).2 hn) (p.1,q) h2
theorem sG{o:Nat}{y:aG}(H:c.look o=some y)(z:∀cs,y≠ .rc cs)(J:aY C x s a w)(I:Sim N c s):
 ∃x',(x'.bk=x.bk/\x'.τ=x.τ)/\(∀sv v,Rep x sv v->Rep x' (sv.pub o y) v)/\∃F,aY C x' F a w/\Sim N ⟨nU o y c.tm,nf o y c.ob,c.tk⟩ F:=by
 obtain⟨x',h1,h2,F,h3,h4,_⟩:=sF H z z (aM _) (fun _ _=>rfl) (I.lookmem H) J I;exact⟨x',⟨h1.1,h1.2.1⟩,h2,F,h3,h4⟩
theorem IY{o:Nat}{y:aG}(H:c.look o=some y)(z:∀cs,y≠ .rc cs)(J:aY C x s a w)(I:Sim N c s):
 ∃x',(∀sv v,Rep x sv v->Rep x' (sv.pub o y) v)/\∃F,aY C x' F a w/\Sim N ⟨nU o y c.tm,nf o y c.ob,c.tk⟩ F:=by
 obtain⟨x',_,h⟩:=sG H z J I;exact⟨x',h⟩
theorem nb{vs:LAa}{us:LAd}{o:Nat}(I:aY C x s a w)(J:Sim N c s)(hv:cB x vs us):
 ∃x' z,aY C x' z a w/\Sim N (c.publish o vs).1 z/\cB x' (c.publish o vs).2 us:=by
 unfold CSt.publish
 have K:∀{y:aG},c.look o=some y->(∀cs,y≠ .rc cs)->∃x' z,aY C x' z a w/\Sim N ⟨nU o y c.tm,nf o y c.ob,c.tk⟩ z/\cB x' (SV.pubL o y vs) us:=by intro y F H;obtain⟨x',Q,z,h1,h2⟩:=IY F H I J;refine⟨x',z,h1,h2, ?_⟩;rw[om];refine⟨by simpa using hv.1,fun i hi=> ?_⟩;rw[bi _ (by rfl)];exact Q _ _ (hv.2 i (by simpa using hi))
 split
 ·rename_i sz Z F;exact K F (fun cs e=>by cases e)
 ·rename_i l F;exact K F (fun cs e=>by cases e)
 ·exact⟨x,s,I,J,hv⟩
theorem kP{us:LAd}:∀{l:LAb}{c:CSt}{s:St}{x:Sit}{vs:LAa},aY C x s a w->Sim N c s->cB x vs us->
 ∃x' y,aY C x' y a w/\Sim N (fP c vs l).1 y/\cB x' (fP c vs l).2 us
 |[],_,_,_,_,hM,hS,hv=>⟨_,_,hM,hS,hv⟩
 |o::r,c,s,x,vs,hM,hS,hv=>by obtain⟨x1,s1,h1,h2,h3⟩:=nb (o:=o) hM hS hv;simp only[fP];exact kP h1 h2 h3
theorem M.pub(h:M C N c a w)(o:Nat):M C N (c.publish o []).1 a w:=by obtain⟨x,s,F,z⟩:=h;obtain⟨x',y,h1,h2,_⟩:=nb (o:=o) (vs:=[]) (us:=[]) F z ⟨rfl,fun i hi=>by simp at hi⟩;exact⟨x',y,h1,h2⟩
theorem Qn(I:aY C x s a w)(Z:Sim N c s)(id b lo hi:Nat)(hv:lo=hi\/((∃c e fl fh,gf w b c e fl fh/\hi<=c.size)/\C.mine b/\∀o,lo<=o->o<hi->x.G b o=none))
 (K:∀p∈s.ob,b≠(x.bk p.1).1) (J:∀u∈s.tk,nv (b,lo,hi) (x.τ u)\/(x.τ u).2.1=(x.τ u).2.2) {n:Nat} (hn:n<N) {v:SV}
 (H:Rep (x.newT id b lo hi) v (a.tmps.toList.getD n undef)):
 M C N ⟨lr (eA id (id+1) c.tm) n v,bV id (id+1) c.ob,pw (df id (id+1) c.tk) id⟩ a w:=by
 have z:dA C (x.newT id b lo hi) (bV id (id+1) s.ob) (id::df id (id+1) s.tk) w:=
  I.heap.addT id b lo hi hv (.inr fun p hp _=>K p hp) (.inr fun u hu _=>J u hu)
 have y:aY C (x.newT id b lo hi) ⟨SV.purgeL id (id+1) s.tm,bV id (id+1) s.ob,id::df id (id+1) s.tk⟩ a w:=
  ⟨cB.mono (x:=x) (x':=x.newT id b lo hi) (lo:=id) (hi:=id+1) (fun _ _ _ h=>h) (fun _ _=>rfl) (Sit.newT_ne x id _ _ _) I.tm,I.defers,z⟩
 have Q:Sim N ⟨eA id (id+1) c.tm,bV id (id+1) c.ob,pw (df id (id+1) c.tk) id⟩ ⟨SV.purgeL id (id+1) s.tm,bV id (id+1) s.ob,id::df id (id+1) s.tk⟩:=
  (Z.purge id (id+1)).tks (fun u=>by rw[mj,aq,bP,bP,Z.tk])
 refine⟨x.newT id b lo hi,_, ?_,Q.put (d:=some n) (fun k e=>by cases e;exact hn) v⟩;refine⟨⟨?_,fun i hi=> ?_⟩,y.defers,y.heap⟩
 ·have:=y.tm.1;simpa[St.put]using this
 ·simp only[St.put,bM]at hi
  simp only[St.put,aa,lx]
  by_cases F:n=i
  ·subst F
   rw[if_pos rfl,if_pos hi];rw[<-aa];exact H
  ·rw[if_neg F]
   have:=y.tm.2 i hi;simp only[aa]at this;exact this
theorem Bs(h:M C N c a w){n id o sz off k cp:Nat}(hg:c.get n= .psl o sz off k (some cp))(hc:Qp c n id o sz off k cp (c.look o)=some c')(hn:n<N):M C N c' a w:=by
 cases hl:c.look o with
 |none=>rw[hl]at hc;cases hc;exact h
 |some J=>
  rw[hl]at hc
  have a8:∀(H:aG)(v:SV),(∀cs,H≠ .rc cs)->(∀cs,J≠ .rc cs)->H.size=(off+k)*sz->(off+cp)*sz<=J.size->k<=cp->(∀k,k<H.size->H.cell k=J.cell k)->H.wf=true->
   (∀(x':Sit)(z:Nat),(cp=0\/z=off*sz)->(∀k,k<H.size->∃u,x'.G ((x'.bk o).1) k=some u/\bU x'.G (H.cell k) u)->bU x'.G v (.slice (some ⟨(x'.bk o).1,z,none⟩) k cp))->
   (∀x v',ND x v v'=dX x sz (.id id) v')->
   M C N (JS c n id o H v) a w:=by
   intro H v d6 b6 d7 e7 hk a7 d5 hD b3;obtain⟨x,s,hM,hS⟩:=h;have b4:H.size<=J.size:=by rw[d7];exact fi (cm _ (by omega)) e7
   obtain⟨x',⟨hβ,hτ,hG,b2,I⟩,e8,s',d8,b7,d3⟩:=sF hl d6 b6 b4 a7 d5 hM hS;have b0:s.look o=some J:=(hS.look o).trans hl;obtain⟨cc,e,fl,fh,hO,f0,_⟩:=gB hM b0;have e4:=hM.heap.obs _ (dT b0);have a1:=hM.slot n;rw[hS.get,hg]at a1;obtain⟨f1,f2,e3,z,he,K⟩:=a1.psl_inv;obtain rfl:=e3 _ rfl
   have b1:a.tmps.toList.getD n undef= .slice (some ⟨(x.bk o).1,z,none⟩) k cp:=by rw[<-he];simp[bT,aa]
   refine Qn d8 b7 id ((x.bk o).1) ((off+k)*sz) ((off+cp)*sz) (.inr ⟨⟨cc,e,fl,fh,hO,by omega⟩,e4.2.1,fun i h1 h2=>b2 i (by omega)⟩) (fun p hp=>d3 p hp) (fun u hu=> ?_) hn ?_
   ·have e5:=(b7.tk u).1 hu
    have d4:=(hS.tk u).2 e5;rw[hτ];exact(hM.heap.tko u d4 _ (dT b0)).imp (fun h e=>h e.symm) (fun h=>h)
   ·rw[b1]
    have h1:=hD (x'.newT id ((x.bk o).1) ((off+k)*sz) ((off+cp)*sz)) z K (by show ∀k,k<H.size->∃u,x'.G ((x'.bk o).1) k=some u/\bU x'.G (H.cell k) u;rw[hβ];exact I)
    have e1:(x'.newT id ((x.bk o).1) ((off+k)*sz) ((off+cp)*sz)).bk o=x.bk o:=by show x'.bk o=_;rw[hβ]
    rw[e1]at h1;refine .dat _ _ h1 ?_;rw[b3];refine⟨_,k,cp,rfl, ?_⟩
    by_cases d9:cp=0
    ·exact .inl (by omega)
    ·refine .inr ⟨_,z,rfl, ?_⟩
     rw[Sit.newT_eq,K.resolve_left d9,bW,bW]
  cases J with
  |rc cs=>cases hc;exact h
  |bar l=>
   simp only[Qp]at hc;split at hc<;>cases hc
   ·rename_i Q
    obtain⟨rfl,h2,h3⟩:=Q;refine a8 (.bar (l.take (off+k))) (.byt ((l.drop off).take k) (.id id)) (fun cs e=>by cases e) (fun cs e=>by cases e) (by simp only[aG.size,aw];omega) (by simp only[aG.size];omega) h3 (fun i hi=> ?_) rfl (fun x' z K I=> ?_) (fun _ _=>rfl)
    ·simp only[aG.size,aw]at hi
     simp only[aG.cell,aa,bZ,if_pos (show i<off+k by omega)]
    ·have a6:((l.drop off).take k).length=k:=by simp;omega
     refine .byt _ _ _ _ _ _ a6.symm h3 fun i hi=> ?_
     have Z:z=off:=by omega
     obtain⟨u,hu,hr⟩:=I (off+i) (by simp only[aG.size,aw];omega);rw[Z,hu];simp only[aG.cell]at hr
     have e1:((l.drop off).take k).getD i 0=(l.take (off+k)).getD (off+i) 0:=by simp only[aa,bZ,if_pos hi,bH,if_pos (show off+i<off+k by omega)]
     rw[e1];cases hr with
     |u8 b=>rfl
   ·exact h
  |arr F xs=>
   simp only[Qp]at hc;split at hc<;>cases hc
   ·rename_i Q
    obtain⟨rfl,h2,h3⟩:=Q;have b5:∀y∈xs,y.length=F:=by obtain⟨x,s,hM,hS⟩:=h;exact oj.1 (hS.lookmem hl)
    have b8:∀y∈xs.take (off+k),y.length=F:=fun y hy=>b5 y (cg hy)
    have e9:(xs.drop off).take k=(xs.take (off+k)).drop off:=by rw[Kd,Nat.add_sub_cancel_left]
    refine a8 (.arr F (xs.take (off+k))) (.lst F ((xs.drop off).take k) (.id id)) (fun cs e=>by cases e) (fun cs e=>by cases e) (by simp only[aG.size,aw];congr 1;omega) (by simp only[aG.size];exact cm _ h2) h3 (fun i hi=> ?_) (oj.2 b8) (fun x' z K I=> ?_) (fun _ _=>rfl)
    ·simp only[aG.size,aw]at hi
     simp only[aG.cell,aa,bZ];have hd:i/F<off+k:=Nat.div_lt_of_lt_mul (by rw[dr];exact Nat.lt_of_lt_of_le hi (cm _ (Nat.min_le_left _ _)));rw[if_pos hd]
    ·have a6:((xs.drop off).take k).length=k:=by simp;omega
     have c7:∀i,i<k->((xs.drop off).take k).getD i []=(xs.take (off+k)).getD (off+i) []:=fun i hi=>by simp only[aa,bZ,if_pos hi,bH,if_pos (show off+i<off+k by omega)]
     have e6:∀i,i<k->((xs.drop off).take k).getD i []∈xs.take (off+k):=fun i hi=>by rw[c7 i hi,aa,ac (show off+i<(xs.take (off+k)).length by rw[aw];omega)];exact aF _
     have a7:∀i j,i<k->j<F->∃u,x'.G ((x'.bk o).1) (z+i*F+j)=some u/\bU x'.G ((((xs.drop off).take k).getD i []).getD j .undef) u:=by
      intro i j hi hj;have Z:z=off*F:=K.resolve_left (by omega)
      have e0:(off+i)*F+j<(off+k)*F:=by have:=cm F (show off+i+1<=off+k by omega);rw[bW,Nat.one_mul]at this;omega
      obtain⟨u,hu,hr⟩:=I ((off+i)*F+j) (by simp only[aG.size,aw];rw[rp (by omega)];exact e0);refine⟨u,by rw[Z,<-bW];exact hu, ?_⟩;simp only[aG.cell]at hr;have e1:((off+i)*F+j)/F=off+i:=by rw[dr,Nat.mul_add_div (by omega),Nat.div_eq_of_lt hj,fJ]
      have e2:((off+i)*F+j) % F=j:=by rw[dr,Nat.mul_add_mod,ek hj]
      rw[e1,e2]at hr;rw[c7 i hi];exact hr
     refine .lst _ _ _ _ _ _ _ (fun i j=>(x'.G ((x'.bk o).1) (z+i*F+j)).getD undef) a6.symm h3 (fun i hi=>b8 _ (e6 i hi)) (fun i j hi hj=> ?_) (fun i j hi hj=> ?_)
     ·obtain⟨u,hu,_⟩:=a7 i j hi hj
      rw[hu];rfl
     ·obtain⟨u,hu,hr⟩:=a7 i j hi hj
      rw[hu];exact hr
   ·exact h
theorem mE(hM:aY C x s a w)(z:Sim N c s)(id:Nat)(t:LAc)(ht:∀k,t=some k->k∈c.tk){n:Nat}(hn:n<N){v:SV}
 (hv:∀u,Rep x (c.get n) u->Rep (x.newT id ((t.elim (0,0,0) x.τ)).1 ((t.elim (0,0,0) x.τ)).2.1 ((t.elim (0,0,0) x.τ)).2.2) v u):
 M C N ⟨lr (eA id (id+1) c.tm) n v,bV id (id+1) c.ob,pw (df id (id+1) (t.elim c.tk fun k=>df k (k+1) c.tk)) id⟩ a w:=by
 generalize F:t.elim (0,0,0) x.τ=T at hv;generalize hL:(t.elim c.tk fun k=>df k (k+1) c.tk)=L;have Z:=hM.heap
 have Q:∀u∈L,u∈s.tk/\∀k,t=some k->u≠k:=by
  intro u H;rw[<-hL]at H;cases t with
  |none=>exact⟨(z.tk u).2 H,fun k e=>by cases e⟩
  |some k=>obtain⟨h1,h2⟩:=bP.1 H;exact⟨(z.tk u).2 h1,fun k' e=>by cases e;omega⟩
 have I:dA C (x.newT id T.1 T.2.1 T.2.2) (bV id (id+1) s.ob) (id::df id (id+1) L) w:=by
  refine(Z.sub (tk':=L) (qE.refl _) (fun u H=>(Q u H).1)).addT id T.1 T.2.1 T.2.2 ?_ ?_ ?_
  ·cases t with
   |none=>subst F;exact .inl rfl
   |some k=>have:=Z.tks k ((z.tk k).2 (ht k rfl));unfold jh at this;subst F;exact this
  ·cases t with
   |none=>subst F;exact .inl rfl
   |some k=>
    by_cases K:(x.τ k).2.1=(x.τ k).2.2
    ·subst F;exact .inl K
    ·subst F
     exact .inr fun p hp _=>(Z.tko k ((z.tk k).2 (ht k rfl)) p hp).resolve_right K
  ·cases t with
   |none=>subst F;exact .inl rfl
   |some k=>
    by_cases K:(x.τ k).2.1=(x.τ k).2.2
    ·subst F;exact .inl K
    ·subst F
     refine .inr fun u H _=> ?_
     obtain⟨h1,h2⟩:=Q u H;rcases Z.tkd k ((z.tk k).2 (ht k rfl)) u h1 (fun e=>h2 k rfl e.symm)with h|h|h
     ·exact .inl h
     ·exact absurd h K
     ·exact .inr h
 have y:aY C (x.newT id T.1 T.2.1 T.2.2) ⟨SV.purgeL id (id+1) s.tm,bV id (id+1) s.ob,id::df id (id+1) L⟩ a w:=
  ⟨cB.mono (x:=x) (x':=x.newT id T.1 T.2.1 T.2.2) (lo:=id) (hi:=id+1) (fun _ _ _ h=>h) (fun _ _=>rfl) (Sit.newT_ne x id _ _ _) hM.tm,hM.defers,I⟩
 have a6:Sim N ⟨eA id (id+1) c.tm,bV id (id+1) c.ob,pw (df id (id+1) L) id⟩ ⟨SV.purgeL id (id+1) s.tm,bV id (id+1) s.ob,id::df id (id+1) L⟩:=
  (z.purge id (id+1)).tks (fun u=>by rw[mj,aq])
 refine⟨x.newT id T.1 T.2.1 T.2.2,_, ?_,a6.put (d:=some n) (fun k e=>by cases e;exact hn) v⟩;have a1:n<s.tm.length:=by rw[z.tm];simpa using hn
 refine⟨⟨?_,fun i hi=> ?_⟩,y.defers,y.heap⟩
 ·have:=y.tm.1;simpa[St.put]using this
 ·simp only[St.put,bM]at hi
  simp only[St.put,aa,lx]
  by_cases J:n=i
  ·subst J
   rw[if_pos rfl,if_pos hi];refine hv _ ?_;have:=hM.tm.2 n a1;have e:s.tm.getD n .undef=c.get n:=z.get n;rw[e]at this;rw[<-aa];exact this
  ·rw[if_neg J,<-aa,<-aa]
   exact y.tm.2 i hi
theorem Bt(h:M C N c a w){n id:Nat}(y:Qq c n id (c.get n)=some c'):M C N c' a w:=by
 have Q:c.get n≠ .undef->n<N:=by
  obtain⟨x,s,I,H⟩:=h;intro a1;rcases bq n N with h1|h1
  ·exact h1
  ·exact absurd (H.inv.get h1) a1
 cases hg:c.get n with
 |byt l t=>
  rw[hg]at y;have Z:=Q (by rw[hg];exact fun e=>by cases e);cases t with
  |no=>cases y;exact h
  |clip=>
   cases y;obtain⟨x,s,I,H⟩:=h;refine mE I H id none (fun k e=>by cases e) Z fun u F=> ?_
   rw[hg]at F;exact leT.byt id l x u F
  |id t=>
   simp only[Qq]at y;split at y
   ·cases y;exact h
   ·split at y<;>cases y
    rename_i h1 h2;obtain⟨x,s,I,H⟩:=h;refine mE I H id (some t) (fun k e=>by cases e;simpa using h2) Z fun u F=> ?_
    rw[hg]at F;obtain⟨b,cap,he,_,hD,K⟩:=F.byt_inv;refine .dat _ _ (hD.tok (.byt l (.id id)) (.inl ⟨l,_,_,rfl,rfl⟩)) ?_;obtain⟨a',n',z,J,hh⟩:=K;refine⟨a',n',z,J,hh.imp (fun h=>h) ?_⟩;rintro⟨b,off,h3,h4⟩;exact⟨b,off,h3,by rw[Sit.newT_eq];exact h4⟩
 |lst sz xs t=>
  rw[hg]at y;have Z:=Q (by rw[hg];exact fun e=>by cases e);cases t with
  |no=>cases y;exact h
  |clip=>
   cases y;obtain⟨x,s,I,H⟩:=h;refine mE I H id none (fun k e=>by cases e) Z fun u F=> ?_
   rw[hg]at F;exact leT.lst id sz xs x u F
  |id t=>
   simp only[Qq]at y;split at y
   ·cases y;exact h
   ·split at y<;>cases y
    rename_i h1 h2;obtain⟨x,s,I,H⟩:=h;refine mE I H id (some t) (fun k e=>by cases e;simpa using h2) Z fun u F=> ?_
    rw[hg]at F;obtain⟨b,cap,he,_,hD,K⟩:=F.lst_inv;refine .dat _ _ (hD.tok (.lst sz xs (.id id)) (.inr ⟨sz,xs,_,_,rfl,rfl⟩)) ?_;obtain⟨a',n',z,J,hh⟩:=K;refine⟨a',n',z,J,hh.imp (fun h=>h) ?_⟩;rintro⟨b,off,h3,h4⟩;exact⟨b,off,h3,by rw[Sit.newT_eq];exact h4⟩
 |psl o sz off k cp=>
  rw[hg]at y;have Z:=Q (by rw[hg];exact fun e=>by cases e);cases cp with
  |none=>cases y;exact h
  |some cp=>exact Bs h hg y Z
 |_=>rw[hg]at y;cases y;exact h
theorem tr(h:M C N c a w){q:Dir}(y:wb c q=some c'):M C N c' a w:=by
 cases q with
 |kill l=>cases y;exact h.kill l
 |gc l=>cases y;exact h.gc
 |gcr lo hi=>cases y;exact h.purge lo hi
 |pub n=>
  simp only[wb]at y;split at y<;>cases y
  ·exact h.pub _
  ·exact h
 |tok n id=>
  simp only[wb]at y;split at y
  ·cases y
  ·exact Bt h y
theorem lX:∀{l:List Dir}{c:CSt},M C N c a w->jE c l=some c'->M C N c' a w
 |[],_,h,hc=>by cases hc;exact h
 |q::r,c,h,hc=>by
  simp only[jE]at hc;split at hc
  ·rename_i c1 h1;exact lX (tr h h1) hc
  ·cases hc
def gu(P:Program)(f:Nat)(args:LAa)(os:List aG)(k:Nat)(R:eI->Prop):Prop:=
 fk P f=true/\∀(C:Ctx)(x:Sit)(w:World)(vs:LAd),C.w0=w->C.G0=x.G->
  (∀b,C.mine b->w.heap.size<=b\/(∃i,i<os.length/\(x.bk i).1=b)\/(∃t,50<=t/\t<50+k/\(x.τ t).2.1≠(x.τ t).2.2/\(x.τ t).1=b))->os.length<=40->
  (∀o∈os,o.wf=true)->dA C x (idx os) (tks 50 k) w->cB x args vs->
  Calls P f ⟨vs⟩ w fun e w'=>∃v x' q,e= .returned v/\R q/\Rep x' q.r v/\dA C x' q.os q.tk w'/\(∀p∈q.os,p.2.wf=true)/\∀i,i<os.length->x'.bk i=x.bk i
theorem mB(cs:LAa):SV.bareL cs=cs.map SV.bare:=by
 induction cs with
 |nil=>rfl
 |cons c r y=>simp only[SV.bareL,ax,y]
theorem Rep.bare{x x':Sit}(hG:x'.G=x.G)(K:x'.bk=x.bk){sv:SV}{v:Value}(h:Rep x sv v):Rep x' sv.bare v:=by
 induction h with
 |undef v=>exact .undef v
 |dat s v h ht=>
  have y:=h.toData;rw[<-hG]at y;cases s with
  |byt l t=>exact .dat _ _ y trivial
  |lst sz xs t=>exact .dat _ _ y trivial
  |undef=>exact .undef v
  |bool b=>exact .dat _ _ y trivial
  |int k n=>exact .dat _ _ y trivial
  |u8 b=>exact .dat _ _ y trivial
  |str l=>exact .dat _ _ y trivial
  |nilp=>exact .dat _ _ y trivial
  |nili=>exact .dat _ _ y trivial
  |ife=>exact .dat _ _ y trivial
  |pp cs=>exact .dat _ _ y trivial
  |ptr o off=>cases h
  |ap o sz i j=>cases h
  |psl o sz off n cap=>cases h
  |agg cs=>cases h
  |tup cs=>cases h
  |fn f a b=>cases h
 |ptr o off=>simp only[SV.bare];rw[<-K];exact .ptr o off
 |ap o sz i j=>simp only[SV.bare];rw[<-K];exact .ap o sz i j
 |psl o sz off n cap z F h hn hc hk=>simp only[SV.bare];rw[<-K]at hk ⊢;exact .psl o sz off n cap z F h hn hc hk
 |agg cs vs J _ Z=>simp only[SV.bare,mB];exact .agg _ _ (by simpa using J) fun i hi=>by rw[bi _ (by rfl)];exact Z i (by simpa using hi)
 |tup cs vs J _ Z=>simp only[SV.bare,mB];exact .tup _ _ (by simpa using J) fun i hi=>by rw[bi _ (by rfl)];exact Z i (by simpa using hi)
 |fn f c1 c2 v1 v2 a1 _ I _ H Q=>simp only[SV.bare,mB];exact .fn _ _ _ _ _ (by simpa using a1) (fun i hi=>by rw[bi _ (by rfl)];exact H i (by simpa using hi)) (by simpa using I) (fun i hi=>by rw[bi _ (by rfl)];exact Q i (by simpa using hi))
def NE(x:Sit):LAc->Nat×Nat×Nat
 |none=>(0,0,0)
 |some t=>x.τ t
def rk(x x1:Sit)(j:Nat)(l:List LAc):Prop:=∀k,k<l.length->x1.τ (j+k)=NE x (l.getD k none)
theorem rk.left{x x1:Sit}{j:Nat}{l r:List LAc}(h:rk x x1 j (l++r)):rk x x1 j l:=fun k y=>by have:=h k (by simp;omega);rwa[aa,cn y,<-aa]at this
theorem rk.right{x x1:Sit}{j:Nat}{l r:List LAc}(h:rk x x1 j (l++r)):rk x x1 (j+l.length) r:=fun k y=>by have:=h (l.length+k) (by simp;omega);rw[aa,cO (by omega),<-aa]at this;rw[gP,this];congr 2;omega
theorem mK{t:Nat}:∀{l:List LAc},t∈cI l↔some t∈l
 |[]=>by simp[cI]
 |none::r=>by simp[cI,mK]
 |some u::r=>by simp[cI,mK]
theorem gR(l r:List LAc):cI (l++r)=cI l++cI r:=by
 induction l with
 |nil=>rfl
 |cons o l y=>cases o<;>simp[cI,y]
theorem Ja{x x1:Sit}(K:x1.G=x.G)(hβ:x1.bk=x.bk){v:SV}{u:Value}(h:Rep x v u):Rep x1 v.kclip u:=by
 have z:=h.bare K hβ;cases v with
 |lst sz Z t=>
  cases t with
  |no=>exact z
  |id u=>exact z
  |clip=>
   cases Z with
   |cons y r=>exact z
   |nil=>obtain⟨b,cap,he,_,I,F⟩:=h.lst_inv;obtain⟨Q,J,H⟩:=F;rw[<-K]at I;exact .dat _ _ (I.tok (.lst _ [] .clip) (.inr ⟨_,[],_,_,rfl,rfl⟩)) ⟨Q,J,H⟩
 |byt l t=>
  cases t with
  |no=>exact z
  |id u=>exact z
  |clip=>
   cases l with
   |cons y r=>exact z
   |nil=>obtain⟨b,cap,he,_,I,F⟩:=h.byt_inv;obtain⟨Q,J,H⟩:=F;rw[<-K]at I;exact .dat _ _ (I.tok (.byt [] .clip) (.inl ⟨[],_,_,rfl,rfl⟩)) ⟨Q,J,H⟩
 |_=>exact z
theorem Cd{x x1:Sit}(F:x1.G=x.G)(z:x1.bk=x.bk){cs:LAa}{u:Value}(h:Rep x (.agg cs) u):Rep x1 (.agg (cs.map SV.kclip)) u:=by
 cases h with
 |dat _ _ h _=>cases h
 |agg _ vs y h=>
  refine .agg _ vs (by rw[av];exact y) fun i hi=> ?_
  rw[av]at hi;have h1:=Ja F z (h i hi);rw[aa,ac hi,bn]at h1;rw[aa,aR,ac hi,bz,bn];exact h1
theorem ma{x x1:Sit}(Q:x1.G=x.G)(hβ:x1.bk=x.bk){tk:LAb}{j:Nat}{v:SV}{u:Value}(h:Rep x v u)(ht:rk x x1 j (lP tk j v).2):Rep x1 (lP tk j v).1 u:=by
 have Z:=h.bare Q hβ;cases v with
 |byt l t=>
  cases t with
  |no=>exact Z
  |clip=>have e:=ht 0 (by simp[lP]);obtain⟨b,cap,he,_,H,y⟩:=h.byt_inv;obtain⟨J,I,z⟩:=y;rw[<-Q]at H;exact .dat _ _ (H.tok (.byt l (.id j)) (.inl ⟨l,_,_,rfl,rfl⟩)) ⟨J,I,I,z,.inl rfl⟩
  |id t=>
   by_cases K:tk.contains t=true
   ·have e:=ht 0 (by simp only[lP,K,if_true,ai];omega)
    simp only[lP,K,if_true]at e ⊢;obtain⟨b,cap,he,_,H,y⟩:=h.byt_inv;obtain⟨J,I,F,z,hh⟩:=y;rw[<-Q]at H;refine .dat _ _ (H.tok (.byt l (.id j)) (.inl ⟨l,_,_,rfl,rfl⟩)) ⟨J,I,F,z,hh.imp id ?_⟩;rintro⟨b,off,h1,h2⟩;exact⟨b,off,h1,by rw[fJ]at e;rw[e];exact h2⟩
   ·simp only[lP,K,if_false];exact Z
 |lst sz xs t=>
  cases t with
  |no=>exact Z
  |clip=>obtain⟨b,cap,he,_,H,y⟩:=h.lst_inv;obtain⟨J,I,z⟩:=y;rw[<-Q]at H;exact .dat _ _ (H.tok (.lst sz xs (.id j)) (.inr ⟨sz,xs,_,_,rfl,rfl⟩)) ⟨J,I,I,z,.inl rfl⟩
  |id t=>
   by_cases K:tk.contains t=true
   ·have e:=ht 0 (by simp only[lP,K,if_true,ai];omega)
    simp only[lP,K,if_true]at e ⊢;obtain⟨b,cap,he,_,H,y⟩:=h.lst_inv;obtain⟨J,I,F,z,hh⟩:=y;rw[<-Q]at H;refine .dat _ _ (H.tok (.lst sz xs (.id j)) (.inr ⟨sz,xs,_,_,rfl,rfl⟩)) ⟨J,I,F,z,hh.imp id ?_⟩;rintro⟨b,off,h1,h2⟩;exact⟨b,off,h1,by rw[fJ]at e;rw[e];exact h2⟩
   ·simp only[lP,K,if_false];exact Z
 |agg cs=>exact Cd Q hβ h
 |_=>exact Z
theorem rz{tk:LAb}{j:Nat}{v:SV}:∀t∈cI (lP tk j v).2,t∈tk:=by
 intro t y;cases v with
 |byt l q=>
  cases q with
  |id u=>
   by_cases z:tk.contains u=true
   ·simp only[lP,z,if_true,cI,bC]at y;subst y;simpa using z
   ·simp only[lP,z,if_false,cI]at y;cases y
  |_=>cases y
 |lst sz F q=>
  cases q with
  |id u=>
   by_cases z:tk.contains u=true
   ·simp only[lP,z,if_true,cI,bC]at y;subst y;simpa using z
   ·simp only[lP,z,if_false,cI]at y;cases y
  |_=>cases y
 |_=>cases y
theorem je{x:Sit}{v:SV}{u:Value}{cs:LAa}{us:LAd}:cB x (v::cs) (u::us)↔Rep x v u/\cB x cs us:=by
 constructor
 ·intro h
  exact⟨h.2 0 (by simp),by simpa using h.1,fun i hi=>by simpa using h.2 (i+1) (by simpa using hi)⟩
 ·rintro⟨h1,h2⟩
  exact⟨by simp[h2.1],fun i hi=>by
   cases i with
   |zero=>exact h1
   |succ i=>simpa using h2.2 i (by simpa using hi)⟩
theorem Ky{x x1:Sit}(z:x1.G=x.G)(F:x1.bk=x.bk){tk:LAb}{j:Nat}{v:SV}{u:Value}(h:Rep x v u)(y:rk x x1 j (vv tk j v).2):Rep x1 (vv tk j v).1 u:=by
 cases v with
 |lst sz J t=>
  cases t with
  |clip=>
   cases hx:J.isEmpty with
   |true=>simp only[vv,yQ,hx,yR];obtain⟨b,cap,K,_,I,H⟩:=h.lst_inv;rw[<-z]at I;exact .dat _ _ I H
   |false=>simp only[vv,yQ,hx,yR]at y ⊢;exact ma (tk:=tk) z F h y
  |no=>exact ma z F h y
  |id t=>exact ma z F h y
 |_=>exact ma z F h y
theorem Qo{tk:LAb}{j:Nat}{v:SV}:∀t∈cI (vv tk j v).2,t∈tk:=by
 cases v with
 |lst sz z t=>
  cases t with
  |clip=>
   cases hx:z.isEmpty with
   |true=>intro t y;simp[vv,yQ,hx,yR,cI]at y
   |false=>intro t y;simp[vv,yQ,hx,yR,cI]at y
  |no=>exact rz
  |id t=>exact rz
 |_=>exact rz
theorem ow{x x1:Sit}(z:x1.G=x.G)(y:x1.bk=x.bk){tk own:LAb}:∀{cs:LAa}{us:LAd}{j i:Nat},cB x cs us->rk x x1 j (lQ tk own j i cs).2->cB x1 (lQ tk own j i cs).1 us
 |[],[],_,_,_,_=>⟨rfl,fun i hi=>by simp[lQ]at hi⟩
 |[],_::_,_,_,h,_=>absurd h.1 (by simp)
 |_::_,[],_,_,h,_=>absurd h.1 (by simp)
 |v::r,u::us,j,i,h,ht=>by
  obtain⟨h1,h2⟩:=je.1 h;simp only[lQ]at ht ⊢;split
  ·rename_i F
   rw[if_pos F]at ht;exact je.2 ⟨Ky z y h1 ht.left,ow z y h2 ht.right⟩
  ·rename_i F
   rw[if_neg F]at ht;exact je.2 ⟨h1.bare z y,ow z y h2 ht⟩
theorem rA{tk own:LAb}:∀{cs:LAa}{j i:Nat},∀t∈cI (lQ tk own j i cs).2,t∈tk
 |[],_,_,t,ht=>by cases ht
 |v::r,j,i,t,ht=>by
  simp only[lQ]at ht;split at ht
  ·rw[gR,am]at ht
   exact ht.elim (Qo t) (rA t)
  ·exact rA t ht
theorem Aq{x x1:Sit}(F:x1.G=x.G)(z:x1.bk=x.bk){tk:LAb}:∀{cs:LAa}{j:Nat}{f:Nat->Value},(∀k,k<cs.length->Rep x (cs.getD k .undef) (f k))->rk x x1 j (yb tk j cs).2->
 (yb tk j cs).1.length=cs.length/\∀k,k<cs.length->Rep x1 ((yb tk j cs).1.getD k .undef) (f k)
 |[],_,_,_,_=>⟨rfl,fun i hi=>by simp at hi⟩
 |v::r,j,f,h,ht=>by
  simp only[yb]at ht ⊢;obtain⟨h1,h2⟩:=Aq (f:=fun k=>f (k+1)) F z (fun k y=>by simpa using h (k+1) (by simpa using y)) ht.right;refine⟨by simp[h1],fun k y=> ?_⟩;cases k with
  |zero=>exact ma F z (h 0 (by simp)) ht.left
  |succ k=>simpa using h2 k (by simpa using y)
theorem Hr{tk:LAb}:∀{cs:LAa}{j:Nat},∀t∈cI (yb tk j cs).2,t∈tk
 |[],_,t,ht=>by cases ht
 |v::r,j,t,ht=>by simp only[yb]at ht;rw[gR,am]at ht;exact ht.elim (rz t) (Hr t)
theorem Iz{x x1:Sit}(J:x1.G=x.G)(y:x1.bk=x.bk){tk:LAb}{j o:Nat}{ob:aG}(h:fa x w o ob)(K:rk x x1 j (lz tk j ob).2):fa x1 w o (lz tk j ob).1:=by
 obtain⟨F,e,fl,fh,I,hs,H⟩:=h;cases ob with
 |rc cs=>obtain⟨h1,h2⟩:=Aq (f:=fun k=>F.getD k undef) J y H K;exact⟨F,e,fl,fh,by rw[y];exact I,by rw[y];simp only[lz,aG.size,h1]at hs ⊢;exact hs,fun k z=>h2 k (by simpa only[lz,aG.size,h1]using z)⟩
 |arr sz Q=>exact⟨F,e,fl,fh,by rw[y];exact I,by rw[y];exact hs,fun k z=>by have:=H k z;simp only[lz,cQ]at this ⊢;rw[J];exact this⟩
 |bar l=>exact⟨F,e,fl,fh,by rw[y];exact I,by rw[y];exact hs,fun k z=>by have:=H k z;simp only[lz,cQ]at this ⊢;rw[J];exact this⟩
theorem Kz{tk:LAb}{j:Nat}{ob:aG}(h:ob.wf=true):(lz tk j ob).1.wf=true:=by cases ob<;>first|rfl|exact h
theorem KA{tk:LAb}{j:Nat}{ob:aG}:∀t∈cI (lz tk j ob).2,t∈tk:=by
 intro t y;cases ob with
 |rc cs=>exact Hr t y
 |_=>cases y
theorem nC{x x1:Sit}(F:x1.G=x.G)(z:x1.bk=x.bk){tk:LAb}:∀{obs:List aG}{j:Nat}{f:Nat->Nat},(∀k,k<obs.length->fa x w (f k) (obs.getD k (.rc [])))->rk x x1 j (fe tk j obs).2->
 (fe tk j obs).1.length=obs.length/\∀k,k<obs.length->fa x1 w (f k) ((fe tk j obs).1.getD k (.rc []))
 |[],_,_,_,_=>⟨rfl,fun i hi=>by simp at hi⟩
 |v::r,j,f,h,ht=>by
  simp only[fe]at ht ⊢;obtain⟨h1,h2⟩:=nC (f:=fun k=>f (k+1)) F z (fun k y=>by simpa using h (k+1) (by simpa using y)) ht.right;refine⟨by simp[h1],fun k y=> ?_⟩;cases k with
  |zero=>exact Iz F z (h 0 (by simp)) ht.left
  |succ k=>simpa using h2 k (by simpa using y)
theorem pN{tk:LAb}:∀{obs:List aG}{j:Nat},∀t∈cI (fe tk j obs).2,t∈tk
 |[],_,t,ht=>by cases ht
 |v::r,j,t,ht=>by simp only[fe]at ht;rw[gR,am]at ht;exact ht.elim (KA t) (pN t)
theorem pM{tk:LAb}:∀{obs:List aG}{j:Nat},(∀o∈obs,o.wf=true)->∀o∈(fe tk j obs).1,o.wf=true
 |[],_,_,o,ho=>by cases ho
 |v::r,j,h,o,ho=>by
  simp only[fe]at ho;rcases aq.1 ho with e|e
  ·rw[e];exact Kz (h v (aD ..))
  ·exact pM (fun o y=>h o (an _ y)) o e
theorem pE{m:LAb}{o:Nat}(h:o∈m):iD m o<m.length/\m.getD (iD m o) 0=o:=by
 induction m with
 |nil=>cases h
 |cons p r z=>
  simp only[iD];split
  ·rename_i y;subst y;simp
  ·rename_i y
   obtain⟨h1,h2⟩:=z ((aq.1 h).resolve_left (Ne.symm y));exact⟨by simpa using h1,by simpa using h2⟩
theorem kV{l:LAb}(h:eB l=true):l.Nodup:=by
 induction l with
 |nil=>exact List.nodup_nil
 |cons p r y=>simp only[eB,aE,dE,fV,decide_eq_false_iff_not]at h;exact fT.2 ⟨h.1,y h.2⟩
theorem As{l r:LAb}(h:rB l r=true):∀o∈l,o∈r:=by intro o y;simp only[rB,aZ,fV,decide_eq_true_eq]at h;exact h o y
theorem tS:∀{m:LAb}{os:List aG},looks c m=some os->os.length=m.length/\∀i,i<m.length->c.look (m.getD i 0)=some (os.getD i (.rc []))
 |[],os,h=>by cases h;exact⟨rfl,fun i hi=>by simp at hi⟩
 |o::r,os,h=>by
  simp only[looks]at h;split at h<;>cases h;rename_i ob l h1 h2;obtain⟨h3,h4⟩:=tS h2;refine⟨by simp[h3],fun i hi=> ?_⟩;cases i with
  |zero=>exact h1
  |succ i=>simpa using h4 i (by simpa using hi)
theorem il(mo mt:Nat->Nat)(l:List aG):fo mo mt l=l.map fun o=>o.ren mo mt:=by
 induction l with
 |nil=>rfl
 |cons p r y=>simp only[fo,ax,y]
theorem sN{l:List aG}{o:aG}(h:o∈l):∀k∈o.ids,k∈gS l:=by
 induction l with
 |nil=>cases h
 |cons p r z=>
  intro k y;simp only[gS,am];rcases aq.1 h with e|e
  ·subst e;exact .inl y
  ·exact .inr (z e k y)
theorem qp{l:List LAc}(h:(cI l).Nodup):∀{i j:Nat}{t u:Nat},i≠j->l.getD i none=some t->l.getD j none=some u->t≠u:=by
 have key:∀{l:List LAc},(cI l).Nodup->∀{i j:Nat}{t u:Nat},i<j->l.getD i none=some t->l.getD j none=some u->t≠u:=by
  intro l;induction l with
  |nil=>intro _ i j t u _ h1;simp at h1
  |cons o r H=>
   intro z i j t u y h1 h2
   have F:(cI r).Nodup:=by cases o with
    |none=>exact z
    |some q=>exact(fT.1 z).2
   cases j with
   |zero=>omega
   |succ j=>
    rw[cZ]at h2;cases i with
    |zero=>
     rw[gD]at h1;subst h1
     have h3:some u∈r:=by
      rw[aa]at h2;cases hj:r[j]? with
      |none=>rw[hj]at h2;cases h2
      |some q=>rw[hj]at h2;cases h2;exact List.mem_of_getElem? hj
     intro e;subst e;exact(fT.1 z).1 (mK.2 h3)
    |succ i=>rw[cZ]at h1;exact H F (by omega) h1 h2
 intro i j t u y h1 h2;rcases Nat.lt_or_gt_of_ne y with h3|h3
 ·exact key h h3 h1 h2
 ·exact(key h h3 h2 h1).symm
theorem lu{b n t:Nat}:t∈tks b n↔b<=t/\t<b+n:=by
 unfold tks
 have:∀n k,k∈mQ n↔k<n:=by
  intro n;induction n with
  |zero=>intro k;simp[mQ]
  |succ n y=>intro k;simp only[mQ,am,y,bC];omega
 simp only[aS,this];constructor
 ·rintro⟨k,h,rfl⟩;omega
 ·rintro⟨h1,h2⟩;exact⟨t-b,by omega,by omega⟩
structure Ko(x x2:Sit)(c:CSt)(m:List Nat)(mt:List (Option Nat)):Prop where
 G:x2.G=x.G
 bk:∀i,i<m.length->x2.bk i=x.bk (m.getD i 0)
 τ:rk x x2 50 mt
 nd:m.Nodup
 ob:∀i,i<m.length->∃ob,(m.getD i 0,ob)∈c.ob
 tnd:(cI mt).Nodup
 tk:∀t∈cI mt,t∈c.tk
def Ctx.took(x2:Sit)(w:World)(n k:Nat):Ctx:=
 ⟨w,x2.G,fun b=>w.heap.size<=b\/(∃i,i<n/\(x2.bk i).1=b)\/(∃t,50<=t/\t<50+k/\(x2.τ t).2.1≠(x2.τ t).2.2/\(x2.τ t).1=b),x2.bk⟩
theorem gX{m:LAb}{i:Nat}(h:i<m.length):m.getD i 0∈m:=by rw[aa,ac h];exact aF _
theorem nK{m:LAb}(h:m.Nodup){i j:Nat}(hi:i<m.length)(y:j<m.length)(e:m.getD i 0=m.getD j 0):i=j:=by rw[aa,aa,ac hi,ac y]at e;exact vF h hi y e
theorem jL{l:List LAc}{i t:Nat}(h:l.getD i none=some t):t∈cI l:=by
 rw[aa]at h;cases hj:l[i]? with
 |none=>rw[hj]at h;cases h
 |some q=>rw[hj]at h;cases h;exact mK.2 (List.mem_of_getElem? hj)
theorem Ko.tok{x2:Sit}{m:LAb}{mt:List LAc}(h:Ko x x2 c m mt){t:Nat}(h1:50<=t)(h2:t<50+mt.length):
 (x2.τ t).2.1=(x2.τ t).2.2\/∃u,mt.getD (t-50) none=some u/\x2.τ t=x.τ u/\u∈c.tk/\u∈cI mt:=by
 have e:=h.τ (t-50) (by omega);rw[show 50+(t-50)=t by omega]at e;cases hu:mt.getD (t-50) none with
 |none=>rw[hu]at e;rw[e];exact .inl rfl
 |some u=>rw[hu]at e;exact .inr ⟨u,rfl,e,h.tk u (jL hu),jL hu⟩
theorem vu{x2:Sit}{m:LAb}{mt:List LAc}(F:dA C x c.ob c.tk w)(h:Ko x x2 c m mt){y:List aG}(Q:y.length=m.length)
 (ho:∀i,i<m.length->fa x2 w i (y.getD i (.rc []))):dA (Ctx.took x2 w m.length mt.length) x2 (idx y) (tks 50 mt.length) w:=by
 refine⟨fun b o v hv=>F.per b o v (by rw[<-h.G];exact hv),fun _ _ _ hv=>hv,fun _ _ _ hv=> .inl hv,fun b hb=> .inl hb, ?_,pR y, ?_, ?_, ?_, ?_,rfl,rfl,rfl,aM _,fun _ _=>rfl,fun _ _=>rfl,F.lay.mono (fun b o v hv=>by show x2.G b o=some v;rw[h.G];exact F.g0 b o v hv)⟩
 ·intro p J
  obtain⟨h1,h2⟩:=jY.1 J;rw[Q]at h1;obtain⟨ob,h3⟩:=h.ob p.1 h1;refine⟨by rw[h2];exact ho p.1 h1,.inr (.inl ⟨p.1,h1,rfl⟩),fun off=> ?_⟩;rw[h.G,h.bk _ h1];exact(F.obs _ h3).2.2 off
 ·intro p J q hq H
  obtain⟨h1,_⟩:=jY.1 J;obtain⟨h2,_⟩:=jY.1 hq;rw[Q]at h1 h2;rw[h.bk _ h1,h.bk _ h2]at H;obtain⟨o1,g1⟩:=h.ob _ h1;obtain⟨o2,K⟩:=h.ob _ h2;exact nK h.nd h1 h2 (F.inj _ g1 _ K H)
 ·intro t I
  obtain⟨h1,h2⟩:=lu.1 I;rcases h.tok h1 h2 with h3|⟨u,_,h4,h5,_⟩
  ·exact .inl h3
  ·by_cases z:(x2.τ t).2.1=(x2.τ t).2.2
   ·exact .inl z
   ·have:=F.tks u h5
    unfold jh at this ⊢;rw[h4]at z ⊢;rcases this with g|⟨g1,K,g3⟩
    ·exact absurd g z
    ·exact .inr ⟨g1,.inr (.inr ⟨t,h1,h2,by rw[h4];exact z,by rw[h4]⟩),by rw[h.G];exact g3⟩
 ·intro t I p J
  obtain⟨h1,h2⟩:=lu.1 I;obtain⟨Z,_⟩:=jY.1 J;rw[Q]at Z;rcases h.tok h1 h2 with h3|⟨u,_,h4,h5,_⟩
  ·exact .inr h3
  ·obtain⟨o1,g1⟩:=h.ob _ Z
   rw[h4,h.bk _ Z];exact F.tko u h5 _ g1
 ·intro t I u hu a1
  obtain⟨h1,h2⟩:=lu.1 I;obtain⟨h3,h4⟩:=lu.1 hu;rcases h.tok h1 h2 with g|⟨t',g1,K,g3,_⟩
  ·exact .inr (.inl g)
  ·rcases h.tok h3 h4 with k|⟨u',k1,k2,k3,_⟩
   ·exact .inr (.inr k)
   ·rw[K,k2]
    exact F.tkd t' g3 u' k3 (qp h.tnd (by omega) g1 k1)
theorem La(d:Nat)(l:LAb):vd d l=l.map (nI d):=by
 induction l with
 |nil=>rfl
 |cons p r y=>simp only[vd,ax,y]
theorem pT{k:LAb}{t:Nat}:∀{l:LAb},t∈oQ k l↔t∈l/\t∉k
 |[]=>by simp[oQ]
 |p::r=>by
  simp only[oQ];split
  ·rename_i z
   have y:p∈k:=by simpa using z
   rw[pT,aq];constructor
   ·rintro⟨h1,h2⟩;exact⟨.inr h1,h2⟩
   ·rintro⟨h1|h1,h2⟩
    ·exact absurd (h1 ▸ y) h2
    ·exact⟨h1,h2⟩
  ·rename_i z
   have y:p∉k:=by simpa using z
   rw[aq,pT,aq];constructor
   ·rintro(h1|⟨h1,h2⟩)
    ·exact⟨.inl h1,h1 ▸ y⟩
    ·exact⟨.inr h1,h2⟩
   ·rintro⟨h1|h1,h2⟩
    ·exact .inl h1
    ·exact .inr ⟨h1,h2⟩
theorem vI{t:Nat}:∀{r l:LAb},t∈vj l r↔t∈r\/t∈l
 |[],l=>by simp[vj]
 |p::r,l=>by
  simp only[vj];rw[vI,mj,aq];constructor
  ·rintro(h|h|h)
   ·exact .inl (.inr h)
   ·exact .inl (.inl h)
   ·exact .inr h
  ·rintro((h|h)|h)
   ·exact .inr (.inl h)
   ·exact .inl h
   ·exact .inr (.inr h)
theorem pS{p:Nat×aG}:∀{r l:List (Nat×aG)},p∈vg l r->p∈r\/p∈l
 |[],l,h=> .inr h
 |q::r,l,h=>by
  simp only[vg]at h;rcases pS h with e|e
  ·exact .inl (an _ e)
  ·rcases mi e with e|e
   ·exact .inl (e ▸ aD ..)
   ·exact .inr e
theorem Hy:∀{r l:List (Nat×aG)},(l.map cV).Pairwise (· < ·)->((vg l r).map cV).Pairwise (· < ·)
 |[],_,h=>h
 |_::r,_,h=>Hy (r:=r) (yS h)
theorem DU{mo mt:Nat->Nat}{o:aG}(h:o.wf=true):(o.ren mo mt).wf=true:=by cases o<;>first|rfl|exact h
theorem Bq{x2:Sit}{m:LAb}{mt:List LAc}(y:dA C x c.ob c.tk w)(h:Ko x x2 c m mt){x':Sit}{w':World}{q:eI}(hH:dA (Ctx.took x2 w m.length mt.length) x' q.os q.tk w'){D:Nat}
 (hm:∀o∈m,inR D o=false) (a8:∀p∈q.os,p.1<1000/\(∀k∈p.2.ids,k<1000)/\∀k∈p.2.toks,k<1000) (b4:∀t∈q.tk,t<1000) (hg:∀i,i<m.length->x'.bk i=x2.bk i):
 ∃x3:Sit,x3.G=x'.G/\(∀b o v,x.G b o=some v->x3.G b o=some v)/\(∀k,k<1000->x3.bk (km D m k)=x'.bk k)/\(∀k,k<1000->x3.τ (nI D k)=x'.τ k)/\
  (∀k,¬((D+1)*1000<=k/\k<(D+2)*1000)->x3.bk k=x.bk k)/\(∀k,¬((D+1)*1000<=k/\k<(D+2)*1000)->x3.τ k=x.τ k)/\
  dA C x3 (vb D m q.os++gH m (bV ((D+1)*1000) ((D+2)*1000) c.ob)) (vd D q.tk++oQ (cI mt) (df ((D+1)*1000) ((D+2)*1000) c.tk)) w':=by
 let lo:=(D+1)*1000
 let hi:=(D+2)*1000
 have f1:lo=(D+1)*1000:=rfl;have f3:hi=(D+2)*1000:=rfl
 let β2:Nat->Nat×Nat:=fun k=>if inR D k then x'.bk (k-lo)else x.bk k
 let τ2:Nat->Nat×Nat×Nat:=fun k=>if inR D k then x'.τ (k-lo)else x.τ k
 have e5:∀k,k<1000->inR D (lo+k)=true:=by intro k hk;simp only[inR,aE,decide_eq_true_eq];omega
 have d3:∀k,¬(lo<=k/\k<hi)->inR D k=false:=by intro k hk;rw[Bool.eq_false_iff];intro h;simp only[inR,aE,decide_eq_true_eq]at h;exact hk h
 have b0:∀k,¬(lo<=k/\k<hi)->β2 k=x.bk k:=fun k hk=>by simp only[β2];rw[d3 k hk];rfl
 have b1:∀k,¬(lo<=k/\k<hi)->τ2 k=x.τ k:=fun k hk=>by simp only[τ2];rw[d3 k hk];rfl
 have z:∀k,k<1000->β2 (km D m k)=x'.bk k:=by
  intro k hk
  by_cases b6:k<m.length
  ·have h1:km D m k=m.getD k 0:=if_pos b6
   simp only[β2];rw[h1,hm _ (gX b6),hg k b6,h.bk k b6];rfl
  ·have h1:km D m k=lo+k:=if_neg b6
   simp only[β2];rw[h1,e5 k hk,if_pos rfl];congr 1;omega
 have F:∀k,k<1000->τ2 (nI D k)=x'.τ k:=by intro k hk;have h1:nI D k=lo+k:=rfl;simp only[τ2];rw[h1,e5 k hk,if_pos rfl];congr 1;omega
 have hG:∀b o v,x.G b o=some v->x'.G b o=some v:=fun b o v hv=>hH.g0 b o v (by show x2.G b o=_;rw[h.G];exact hv)
 refine⟨⟨x'.G,β2,τ2⟩,rfl,hG,z,F,b0,b1, ?_⟩;rw[AG,La]
 have b3:∀b,(Ctx.took x2 w m.length mt.length).mine b->C.mine b:=by
  rintro b (h1|⟨i,hi,rfl⟩|⟨t,h1,h2,h3,rfl⟩)
  ·exact y.new b (fi y.size h1)
  ·obtain⟨ob,d9⟩:=h.ob i hi
   rw[h.bk i hi];exact(y.obs _ d9).2.1
  ·rcases h.tok h1 h2 with g|⟨u,_,g1,g2,_⟩
   ·exact absurd g h3
   ·rw[g1]at h3 ⊢
    rcases y.tks u g2 with k|⟨_,k,_⟩
    ·exact absurd k h3
    ·exact k
 have b8:∀b,b<w.heap.size->(∀i,i<m.length->(x.bk (m.getD i 0)).1≠b)->(∀u∈cI mt,(x.τ u).2.1=(x.τ u).2.2\/(x.τ u).1≠b)->w'.heap[b]? =w.heap[b]? /\((∀off,x.G b off=none)->∀off,x'.G b off=none)/\
  (∀off,x.G b off=none->x'.G b off=none):=by
  intro b hb d4 d6
  have c7:¬(Ctx.took x2 w m.length mt.length).mine b:=by
   rintro(h1|⟨i,hi,h1⟩|⟨t,h1,h2,h3,h4⟩)
   ·omega
   ·rw[h.bk i hi]at h1;exact d4 i hi h1
   ·rcases h.tok h1 h2 with g|⟨u,_,g1,_,g3⟩
    ·exact h3 g
    ·rw[g1]at h3 h4
     rcases d6 u g3 with k|k
     ·exact h3 k
     ·exact k h4
  have one:∀off,x.G b off=none->x'.G b off=none:=by
   intro off ho;cases hg:x'.G b off with
   |none=>rfl
   |some v=>
    rcases hH.gm b off v hg with h1|h1
    ·change x2.G b off=some v at h1;rw[h.G,ho]at h1;cases h1
    ·exact absurd h1 c7
  exact⟨hH.ext b c7,fun h off=>one off (h off),one⟩
 have a6:∀p∈gH m (bV lo hi c.ob),∃ob,(p.1,ob)∈c.ob/\p.2=ob.purge lo hi/\¬(lo<=p.1/\p.1<hi)/\p.1∉m/\(∀i,i<m.length->(x.bk (m.getD i 0)).1≠(x.bk p.1).1)/\(∀u∈cI mt,(x.τ u).2.1=(x.τ u).2.2\/(x.τ u).1≠(x.bk p.1).1)/\(x.bk p.1).1<w.heap.size:=by
  intro p J;obtain⟨h1,h2⟩:=kX.1 J;obtain⟨h3,ob,h4,h5⟩:=cS h1;refine⟨ob,h4,h5,h3,h2,fun i hi e=> ?_,fun u Z=> ?_, ?_⟩
  ·obtain⟨e2,e3⟩:=h.ob i hi
   have:=y.inj _ e3 _ h4 e;simp only at this;apply h2;rw[<-this];exact gX hi
  ·exact(y.tko u (h.tk u Z) _ h4).symm
  ·obtain⟨⟨c,e,fl,fh,hO,_⟩,_⟩:=y.obs _ h4
   exact hO.lt
 have fy:∀p∈q.os.map (fun p=>(km D m p.1,p.2.ren (km D m) (nI D))),∃r∈q.os,p=(km D m r.1,r.2.ren (km D m) (nI D))/\β2 p.1=x'.bk r.1:=by intro p J;obtain⟨r,K,rfl⟩:=aS.1 J;exact⟨r,K,rfl,z _ (a8 r K).1⟩
 have a1:∀r∈q.os,w.heap.size<=(x'.bk r.1).1\/(∃i,i<m.length/\(x.bk (m.getD i 0)).1=(x'.bk r.1).1)\/(∃u∈cI mt,(x.τ u).2.1≠(x.τ u).2.2/\(x.τ u).1=(x'.bk r.1).1):=by
  intro r K;rcases (hH.obs r K).2.1 with h1|⟨i,hi,h1⟩|⟨t,h1,h2,h3,h4⟩
  ·exact .inl h1
  ·exact .inr (.inl ⟨i,hi,by rw[<-h.bk i hi];exact h1⟩)
  ·rcases h.tok h1 h2 with g|⟨u,_,g1,_,g3⟩
   ·exact absurd g h3
   ·rw[g1]at h3 h4;exact .inr (.inr ⟨u,g3,h3,h4⟩)
 have b2:∀t∈q.tk,(x'.τ t).2.1=(x'.τ t).2.2\/w.heap.size<=(x'.τ t).1\/(∃i,i<m.length/\(x.bk (m.getD i 0)).1=(x'.τ t).1)\/(∃u∈cI mt,(x.τ u).2.1≠(x.τ u).2.2/\(x.τ u).1=(x'.τ t).1):=by
  intro t H;rcases hH.tks t H with k|⟨_,k,_⟩
  ·exact .inl k
  ·right
   rcases k with h1|⟨i,hi,h1⟩|⟨t',h1,h2,h3,h4⟩
   ·exact .inl h1
   ·exact .inr (.inl ⟨i,hi,by rw[<-h.bk i hi];exact h1⟩)
   ·rcases h.tok h1 h2 with g|⟨u,_,g1,_,g3⟩
    ·exact absurd g h3
    ·rw[g1]at h3 h4;exact .inr (.inr ⟨u,g3,h3,h4⟩)
 have I:∀t∈oQ (cI mt) (df lo hi c.tk),t∈c.tk/\¬(lo<=t/\t<hi)/\t∉cI mt:=fun t H=>by obtain⟨h1,h2⟩:=pT.1 H;obtain⟨h3,h4⟩:=bP.1 h1;exact⟨h3,h4,h2⟩
 have Q:∀t∈c.tk,t∉cI mt->(x.τ t).2.1=(x.τ t).2.2\/((x.τ t).1<w.heap.size/\(∀i,i<m.length->(x.bk (m.getD i 0)).1≠(x.τ t).1)/\(∀u∈cI mt,(x.τ u).2.1=(x.τ u).2.2\/(x.τ u).1≠(x.τ t).1)):=by
  intro t H d6;rcases y.tks t H with h1|⟨⟨c,e,fl,fh,hO,_⟩,_⟩
  ·exact .inl h1
  ·by_cases he:(x.τ t).2.1=(x.τ t).2.2
   ·exact .inl he
   ·refine .inr ⟨hO.lt,fun i hi e'=> ?_,fun u Z=> ?_⟩
    ·obtain⟨ob,d9⟩:=h.ob i hi
     rcases y.tko t H _ d9 with h1|h1
     ·exact h1 e'.symm
     ·exact he h1
    ·rcases y.tkd u (h.tk u Z) t H (fun e=>d6 (e ▸ Z))with k|k|k
     ·exact .inr k
     ·exact .inl k
     ·exact absurd k he
 refine⟨hH.per,fun b o v hv=>hG _ _ _ (y.g0 b o v hv), ?_,y.new, ?_, ?_, ?_, ?_, ?_, ?_,hH.os.trans y.os,hH.tape.trans y.tape,hH.output.trans y.output,fi y.size hH.size, ?_,fun i hi=>(b0 i (by omega)).trans (y.pin i hi),y.lay⟩
 ·intro b o v hv
  rcases hH.gm b o v hv with h1|h1
  ·exact y.gm b o v (by rw[<-h.G];exact h1)
  ·exact .inr (b3 b h1)
 ·intro p J
  rcases am.1 J with J|J
  ·obtain⟨r,K,rfl,hb⟩:=fy p J
   obtain⟨h1,h2,h3⟩:=hH.obs r K;refine⟨h1.renF (x2:=⟨x'.G,β2,τ2⟩) (fun _ _ _ h=>h) (z _ (a8 r K).1) (fun k hk=>z k ((a8 r K).2.1 k hk)) (fun t H=>F t ((a8 r K).2.2 t H)), ?_,fun off=> ?_⟩
   ·show C.mine (β2 (km D m r.1)).1;rw[z _ (a8 r K).1];exact b3 _ h2
   ·show x'.G (β2 (km D m r.1)).1 off=none;rw[z _ (a8 r K).1];exact h3 off
  ·obtain⟨ob,h1,h2,h3,h4,h5,h6,h7⟩:=a6 p J
   obtain⟨g1,g2,g3⟩:=y.obs _ h1;obtain⟨k1,k2,_⟩:=b8 _ h7 h5 h6;have hb:β2 p.1=x.bk p.1:=b0 _ h3;refine⟨?_,by show C.mine (β2 p.1).1;rw[hb];exact g2,fun off=>by show x'.G (β2 p.1).1 off=none;rw[hb];exact k2 g3 off⟩;rw[h2];exact fa.of_heap (x':=⟨x'.G,β2,τ2⟩) g1 k1 hG b0 b1 h3
 ·rw[b9,List.nodup_append]
  refine⟨?_, ?_, ?_⟩
  ·rw[List.map_map]
   have e4:=iu.1 hH.nd;refine iu.2 (gx.imp_of_mem (fun{p r} J K d4=> ?_) e4);intro e;simp only[Function.comp]at e;have:(x'.bk p.1).1=(x'.bk r.1).1:=by rw[<-z _ (a8 p J).1,<-z _ (a8 r K).1,e]
   exact d4 (hH.inj p J r K this)
  ·have h1:(gH m (bV lo hi c.ob)).Sublist (bV lo hi c.ob):=jb _ _
   refine Bm.sublist (h1.map cV) ?_;rw[ig];exact y.nd.filter _
  ·intro o1 h1 o2 h2 e
   subst e;obtain⟨p,J,rfl⟩:=aS.1 h1;obtain⟨r,K,e0⟩:=aS.1 h2;obtain⟨u,Z,rfl⟩:=aS.1 J;obtain⟨ob,k1,k2,k3,k4,_⟩:=a6 r K;simp only at e0
   by_cases d8:u.1<m.length
   ·apply k4;rw[e0];show km D m u.1∈m;unfold km;rw[if_pos d8];exact gX d8
   ·apply k3;rw[e0];show lo<=km D m u.1/\km D m u.1<hi
    unfold km;rw[if_neg d8];have:=(a8 u Z).1;omega
 ·intro p J r K a7
  change (β2 p.1).1=(β2 r.1).1 at a7;rcases am.1 J with J|J<;>rcases am.1 K with K|K
  ·obtain⟨p',d7,rfl,hb⟩:=fy p J
   obtain⟨r',d5,rfl,e9⟩:=fy r K;rw[hb,e9]at a7;have:=hH.inj p' d7 r' d5 a7;simp only;rw[this]
  ·obtain⟨p',d7,rfl,hb⟩:=fy p J
   obtain⟨ob,k1,k2,k3,k4,k5,k6,k7⟩:=a6 r K;rw[hb,b0 _ k3]at a7;rcases a1 p' d7 with h1|⟨i,hi,h1⟩|⟨u,Z,h1,h2⟩
   ·omega
   ·exact absurd (h1.trans a7) (k5 i hi)
   ·rcases k6 u Z with g|g
    ·exact absurd g h1
    ·exact absurd (h2.trans a7) g
  ·obtain⟨r',d5,rfl,hb⟩:=fy r K
   obtain⟨ob,k1,k2,k3,k4,k5,k6,k7⟩:=a6 p J;rw[hb,b0 _ k3]at a7;rcases a1 r' d5 with h1|⟨i,hi,h1⟩|⟨u,Z,h1,h2⟩
   ·omega
   ·exact absurd (h1.trans a7.symm) (k5 i hi)
   ·rcases k6 u Z with g|g
    ·exact absurd g h1
    ·exact absurd (h2.trans a7.symm) g
  ·obtain⟨ob,k1,k2,k3,_⟩:=a6 p J
   obtain⟨e2,e8,f2,e6,_⟩:=a6 r K;rw[b0 _ k3,b0 _ e6]at a7;exact y.inj (p.1,ob) k1 (r.1,e2) e8 a7
 ·intro t H
  rcases am.1 H with H|H
  ·obtain⟨u,Z,rfl⟩:=aS.1 H
   have:=hH.tks u Z;unfold jh at this ⊢;simp only[F u (b4 u Z)];exact this.imp id fun⟨h1,h2,h3⟩=>⟨h1,b3 _ h2,h3⟩
  ·obtain⟨h1,h2,h3⟩:=I t H
   have:=y.tks t h1;unfold jh at this ⊢;simp only[b1 t h2];rcases this with g|⟨⟨c,e,fl,fh,hO,hc⟩,h4,h5⟩
   ·exact .inl g
   ·rcases Q t h1 h3 with g|⟨k1,k2,k3⟩
    ·exact .inl g
    ·obtain⟨g1,_,g2⟩:=b8 _ k1 k2 k3
     exact .inr ⟨⟨c,e,fl,fh,hO.of_heap g1,hc⟩,h4,fun o e7 f0=>g2 o (h5 o e7 f0)⟩
 ·intro t H p J
  rcases am.1 H with H|H<;>rcases am.1 J with J|J
  ·obtain⟨u,Z,rfl⟩:=aS.1 H
   obtain⟨r,K,rfl,hb⟩:=fy p J;show(τ2 (nI D u)).1≠(β2 (km D m r.1)).1\/(τ2 (nI D u)).2.1=(τ2 (nI D u)).2.2;rw[F u (b4 u Z),z _ (a8 r K).1];exact hH.tko u Z r K
  ·obtain⟨u,Z,rfl⟩:=aS.1 H
   obtain⟨ob,k1,k2,k3,k4,k5,k6,k7⟩:=a6 p J;show(τ2 (nI D u)).1≠(β2 p.1).1\/(τ2 (nI D u)).2.1=(τ2 (nI D u)).2.2;rw[F u (b4 u Z),b0 _ k3];rcases b2 u Z with g|g|⟨i,hi,g⟩|⟨v,hv,g1,g2⟩
   ·exact .inr g
   ·left;intro e;omega
   ·left;intro e;exact k5 i hi (g.trans e)
   ·left;intro e
    rcases k6 v hv with k|k
    ·exact g1 k
    ·exact k (g2.trans e)
  ·obtain⟨h1,h2,h3⟩:=I t H
   obtain⟨r,K,rfl,hb⟩:=fy p J;show(τ2 t).1≠(β2 (km D m r.1)).1\/(τ2 t).2.1=(τ2 t).2.2;rw[b1 t h2,z _ (a8 r K).1];rcases Q t h1 h3 with g|⟨k1,k2,k3⟩
   ·exact .inr g
   ·left;intro e
    rcases a1 r K with g|⟨i,hi,g⟩|⟨v,hv,g1,g2⟩
    ·omega
    ·exact k2 i hi (g.trans e.symm)
    ·rcases k3 v hv with k|k
     ·exact g1 k
     ·exact k (g2.trans e.symm)
  ·obtain⟨h1,h2,h3⟩:=I t H
   obtain⟨ob,k1,k2,k3,_⟩:=a6 p J;show(τ2 t).1≠(β2 p.1).1\/(τ2 t).2.1=(τ2 t).2.2;rw[b1 t h2,b0 _ k3];exact y.tko t h1 (p.1,ob) k1
 ·intro t H u Z e1
  show nv (τ2 t) (τ2 u)\/(τ2 t).2.1=(τ2 t).2.2\/(τ2 u).2.1=(τ2 u).2.2;rcases am.1 H with H|H<;>rcases am.1 Z with Z|Z
  ·obtain⟨t',b5,rfl⟩:=aS.1 H
   obtain⟨u',b7,rfl⟩:=aS.1 Z;rw[F t' (b4 t' b5),F u' (b4 u' b7)];exact hH.tkd t' b5 u' b7 (fun e=>e1 (by rw[e]))
  ·obtain⟨t',b5,rfl⟩:=aS.1 H
   obtain⟨h1,h2,h3⟩:=I u Z;rw[F t' (b4 t' b5),b1 u h2];rcases Q u h1 h3 with k|⟨k1,k2,k3⟩
   ·exact .inr (.inr k)
   ·rcases b2 t' b5 with g|g|⟨i,hi,g⟩|⟨v,hv,g1,g2⟩
    ·exact .inr (.inl g)
    ·exact .inl fun e=>by omega
    ·exact .inl fun e=>k2 i hi (g.trans e)
    ·refine .inl fun e=> ?_
     rcases k3 v hv with k|k
     ·exact g1 k
     ·exact k (g2.trans e)
  ·obtain⟨u',b7,rfl⟩:=aS.1 Z
   obtain⟨h1,h2,h3⟩:=I t H;rw[F u' (b4 u' b7),b1 t h2];rcases Q t h1 h3 with k|⟨k1,k2,k3⟩
   ·exact .inr (.inl k)
   ·rcases b2 u' b7 with g|g|⟨i,hi,g⟩|⟨v,hv,g1,g2⟩
    ·exact .inr (.inr g)
    ·exact .inl fun e=>by omega
    ·exact .inl fun e=>k2 i hi (g.trans e.symm)
    ·refine .inl fun e=> ?_
     rcases k3 v hv with k|k
     ·exact g1 k
     ·exact k (g2.trans e.symm)
  ·obtain⟨h1,h2,_⟩:=I t H
   obtain⟨h3,h4,_⟩:=I u Z;rw[b1 t h2,b1 u h4];exact y.tkd t h1 u h3 e1
 ·intro b hb
  have c7:¬(Ctx.took x2 w m.length mt.length).mine b:=fun h=>hb (b3 b h)
  exact(hH.ext b c7).trans (y.ext b hb)
theorem Br(t:Tok):t.ren (fun k=>k)=t:=by cases t<;>rfl
theorem VC(sv:SV):sv.ren (fun k=>k) (fun k=>k)=sv:=by
 refine SV.rec (motive_1:=fun sv=>sv.ren (fun k=>k) (fun k=>k)=sv) (motive_2:=fun _=>True) (motive_3:=fun l=>SV.renL (fun k=>k) (fun k=>k) l=l)
  ?_ ?_ ?_ ?_ ?_ ?_ ?_ ?_ ?_ ?_ ?_ ?_ ?_ ?_ ?_ ?_ ?_ ?_ ?_ ?_ ?_ sv
 all_goals intros
 all_goals first
  |trivial
  |rfl
  |(simp only[SV.ren,SV.renL,Br];done)
  |(simp only[SV.ren,SV.renL, *])
theorem Vs{q:eI}(h:q.small=true):(∀p∈q.os,p.1<1000/\(∀k∈p.2.ids,k<1000)/\∀k∈p.2.toks,k<1000)/\(∀k∈q.r.ids,k<1000)/\(∀k∈q.r.toks,k<1000)/\∀k∈q.tk,k<1000:=by simp only[eI.small,aE,aZ,decide_eq_true_eq]at h;obtain⟨⟨⟨h1,h2⟩,h3⟩,h4⟩:=h;exact⟨fun p y=>⟨(h1 p y).1.1,(h1 p y).1.2,(h1 p y).2⟩,h2,h3,h4⟩
theorem qD{d:LAc}{m:LAb}{mt:List LAc}{q:eI}{x2 x':Sit}{w':World}{v:Value}(hM:aY C x s a w)(I:Sim N c s)(hd:∀k,d=some k->k<N)(h:Ko x x2 c m mt)
 (hH:dA (Ctx.took x2 w m.length mt.length) x' q.os q.tk w') (z:Rep x' q.r v) (Q:∀p∈q.os,p.2.wf=true) (hg:∀i,i<m.length->x'.bk i=x2.bk i) (hm:∀o∈m,inR (d.getD 0) o=false) (hs:q.small=true):
 M C N (lM c d m (cI mt) q) (a.put d v) w':=by
 obtain⟨s1,s2,s3,s4⟩:=Vs hs;have Z:=I.exact hM;obtain⟨H,g1,g2,g3,g4,g5,g6,g7⟩:=Bq Z.heap h hH hm s1 s4 hg
 let c3:CSt:=⟨eA ((d.getD 0+1)*1000) ((d.getD 0+2)*1000) c.tm,vg (gH m (bV ((d.getD 0+1)*1000) ((d.getD 0+2)*1000) c.ob)) (vb (d.getD 0) m q.os),
  vj (oQ (cI mt) (df ((d.getD 0+1)*1000) ((d.getD 0+2)*1000) c.tk)) (vd (d.getD 0) q.tk)⟩
 have hI:Inv N c3:=by
  refine⟨fun p y=> ?_,Hy ?_,fun p y=> ?_⟩
  ·obtain⟨r,z,e⟩:=kW y
   rw[e];exact I.inv.dom r z
  ·exact gx.sublist ((jb _ _).map cV) (Aw I.inv.so)
  ·rcases pS y with e|e
   ·rw[AG]at e
    obtain⟨r,z,rfl⟩:=aS.1 e;exact DU (Q r z)
   ·obtain⟨_,ob,h1,h2⟩:=cS (kX.1 e).1
    rw[h2];exact tF (I.inv.wf _ h1)
 have K:aY C H (c3.st N) a w':=by
  refine⟨⟨?_,fun i hi=> ?_⟩,hM.defers,g7.only (fun p y=> ?_) (kA hI.so) (fun t J=> ?_)⟩
  ·have:=Z.tm.1;simpa[CSt.st]using this
  ·have F:i<N:=by simpa[CSt.st]using hi
   have h1:=Z.tm.2 i (by simpa[CSt.st]using F);simp only[CSt.st,aa,aR,cN F,bz,bn]at h1 ⊢;have e:c3.get i=(c.get i).purge ((d.getD 0+1)*1000) ((d.getD 0+2)*1000):=ie _ _ i c.tm;rw[e];exact h1.mono (x':=H) g2 g5 g6
  ·rcases pS y with e|e
   ·exact am.2 (.inl e)
   ·exact am.2 (.inr e)
  ·rcases vI.1 J with e|e
   ·exact am.2 (.inl e)
   ·exact am.2 (.inr e)
 refine⟨H,_,K.put d (c:=q.r.ren (km (d.getD 0) m) (nI (d.getD 0))) ?_,(Sim.of hI).put hd _⟩;exact Rep.renF (x:=x') (x2:=H) (fun b o v hv=>by rw[g1];exact hv) z (fun k hk=>g3 k (s2 k hk)) (fun t J=>g4 t (s3 t J))
theorem Cn{call:dt}{g:Nat}{d:LAc}{a_:LAa}{vs:LAd}(I:aY C x s a w)(hS:Sim N c s)(hd:∀k,d=some k->k<N)(a8:∀a_ os k q,call g a_ os k=some q->gu P g a_ os k (· =q))
 (F:oP c d (call g (SV.bareL a_) [] 0)=some c') (a1:cB x a_ vs):Calls P g ⟨vs⟩ w fun en w'=>∃v,en= .returned v/\M C N c' (a.put d v) w':=by
 cases hq:call g (SV.bareL a_) [] 0 with
 |none=>rw[hq]at F;cases F
 |some q=>
  rw[hq]at F
  have hb:cB x (SV.bareL a_) vs:=by rw[mB];refine⟨by simpa using a1.1,fun i hi=> ?_⟩;rw[bi _ (by rfl)];exact(a1.2 i (by simpa using hi)).bare rfl rfl
  obtain⟨_,Z⟩:=a8 _ _ _ _ hq
  by_cases y:q.bare=true
  ·simp only[oP,y,qQ,ay.injEq]at F
   subst F;have Q:=Ak (m:=[]) (os:=[]) (mo:=fun k=>k) (mt:=fun k=>k) I (fun i hi=>by simp at hi) rfl (by simp) (fun i hi=>by simp at hi);refine(Z (Ctx.callee x w [] (x.back (fun k=>k) (fun k=>k)).bk) x w vs rfl rfl ?_ (by simp) (by simp) Q hb).mono ?_
   ·rintro b (h|⟨i,hi,_⟩)
    ·exact .inl h
    ·simp at hi
   ·rintro en w' ⟨v,x',q',rfl,J,hr,hH,K,_⟩
    subst J;simp only[eI.bare,aE,List.isEmpty_iff]at y;obtain⟨⟨⟨b1,b2⟩,b3⟩,b4⟩:=y
    obtain⟨hG,hA⟩:=Ch (m:=[]) (os:=[]) (mo:=fun k=>k) (mt:=fun k=>k) (lo:=0) (hi:=0) (β2:=x.bk) (τ2:=x.τ) I rfl (fun i hi=>by simp at hi) hH (fun i hi=>by simp at hi) (fun i hi=>by omega) (fun _ _=>rfl) (fun _ _=>rfl)
     (fun p z=>by rw[b1]at z;cases z) (fun p z=>by rw[b1]at z;cases z) (fun p z=>by rw[b1]at z;cases z) (fun p z=>by rw[b1]at z;cases z) (fun t H=>by rw[b2]at H;cases H)
    have a7:dA C ⟨x'.G,x.bk,x.τ⟩ s.ob s.tk w':=by
     refine hA.only (fun p z=> ?_) I.heap.nd (fun t H=> ?_)
     ·exact am.2 (.inr (kX.2 ⟨by rw[Lf];exact z,by simp⟩))
     ·exact am.2 (.inr (bP.2 ⟨H,by omega⟩))
    refine⟨v,rfl,⟨x'.G,x.bk,x.τ⟩,_, ?_,hS.put hd q'.r⟩;refine aY.put ⟨cB.grow (x:=x) (x':=⟨x'.G,x.bk,x.τ⟩) hG rfl rfl I.tm,I.defers,a7⟩ d ?_;have:=Rep.renF (x:=x') (x2:=⟨x'.G,x.bk,x.τ⟩) (mo:=fun k=>k) (mt:=fun k=>k) (fun _ _ _ h=>h) hr (fun k hk=>by rw[b3]at hk;cases hk) (fun t H=>by rw[b4]at H;cases H);rwa[VC]at this
  ·have a6:q.bare=false:=by simpa using y
   simp only[oP,a6,qQ]at F;cases hsm:q.small with
   |false=>rw[hsm]at F;cases F
   |true=>
    rw[hsm]at F;simp only[Cp,ay.injEq]at F;subst F;have hE:=hS.exact I;have hT:Ko x x c [] []:=⟨rfl,fun i hi=>by simp at hi,fun k hk=>by simp at hk,by simp,fun i hi=>by simp at hi,by simp[cI],fun t H=>by simp[cI]at H⟩;refine(Z (Ctx.took x w 0 0) x w vs rfl rfl ?_ (by simp) (by simp) (vu hE.heap hT rfl (fun i hi=>by simp at hi)) hb).mono ?_
    ·rintro b h;exact h
    ·rintro en w' ⟨v,x',q',rfl,J,hr,hH,K,_⟩
     subst J;exact⟨v,rfl,qD I hS hd hT hH hr K (fun i hi=>by simp at hi) (fun o ho=>by simp at ho) hsm⟩
theorem Bz{call:dt}{sg:Sig}{g:Nat}{d:LAc}{a_:LAa}{vs:LAd}(hM:aY C x s a w)(hS:Sim N c s)(hd:∀k,d=some k->k<N)(d7:∀a_ os k q,call g a_ os k=some q->gu P g a_ os k (· =q))
 (H:lB call sg d g (c,a_)=some c') (d8:cB x a_ vs):Calls P g ⟨vs⟩ w fun en w'=>∃v,en= .returned v/\M C N c' (a.put d v) w':=by
 simp only[lB]at H;generalize hz:lQ c.tk sg.own 50 0 a_=z at H;obtain⟨J,F⟩:=z;simp only[qJ]at H;generalize eP c 60 [] (SV.idsL J)=m at H;cases ho:looks c m with
 |none=>rw[ho]at H;cases H
 |some a1=>
  rw[ho]at H;simp only[nG]at H;generalize a6:fe c.tk (50+F.length) a1=z2 at H;obtain⟨os,I⟩:=z2;simp only[qI]at H;cases hb:(rB (SV.idsL J++gS os) m&&eB m&&eB (cI (F++I))&&decide (m.length<=40)&&m.all fun o=> !inR (d.getD 0) o)with
  |false=>rw[hb]at H;cases H
  |true=>
   rw[hb]at H;simp only[qH]at H;simp only[aE,decide_eq_true_eq,aZ,dE]at hb;obtain⟨⟨⟨⟨b7,e0⟩,d5⟩,e5⟩,d9⟩:=hb;cases hq:call g (SV.renL (iD m) id J) (fo (iD m) id os) (F.length+I.length)with
   |none=>rw[hq]at H;cases H
   |some q=>
    rw[hq]at H;simp only[rH]at H;cases hsm:q.small with
    |false=>rw[hsm]at H;cases H
    |true=>
     rw[hsm]at H;simp only[BC,ay.injEq]at H;subst H;have hE:=hS.exact hM;obtain⟨e6,e4⟩:=tS ho
     let τ2:Nat->Nat×Nat×Nat:=fun t=>if 50<=t/\t<50+(F++I).length then NE x ((F++I).getD (t-50) none)else(0,0,0)
     let x1:Sit:=⟨x.G,x.bk,τ2⟩
     let x2:Sit:=⟨x.G,fun i=>x.bk (m.getD i 0),τ2⟩
     have hτ:∀y:Sit,y.τ=τ2->rk x y 50 (F++I):=by
      intro y hy k hk;rw[hy];show(if _ then _ else _)=_;rw[if_pos ⟨by omega,by omega⟩]
      congr 2;omega
     have Z:∀i,i<m.length->(m.getD i 0,a1.getD i (.rc []))∈c.ob:=fun i hi=>kI (e4 i hi)
     have K:=As b7;have b0:=kV e0
     have hT:Ko x x2 c m (F++I):=by
      refine⟨rfl,fun _ _=>rfl,hτ x2 rfl,b0,fun i hi=>⟨_,Z i hi⟩,kV d5,fun t ht=> ?_⟩;rw[gR,am]at ht;rcases ht with ht|ht
      ·have:=rA (tk:=c.tk) (own:=sg.own) (cs:=a_) (j:=50) (i:=0) t (by rw[hz];exact ht)
       exact this
      ·have:=pN (tk:=c.tk) (obs:=a1) (j:=50+F.length) t (by rw[a6];exact ht)
       exact this
     have a8:=hτ x1 rfl
     have b3:cB x1 J vs:=by have:=ow (x:=x) (x1:=x1) rfl rfl (tk:=c.tk) (own:=sg.own) (j:=50) (i:=0) d8 (by rw[hz];exact a8.left);rwa[hz]at this
     have hβ:∀o∈m,x2.bk (iD m o)=x.bk o:=fun o ho=>by show x.bk (m.getD (iD m o) 0)=_;rw[(pE ho).2]
     have e1:cB x2 (SV.renL (iD m) id J) vs:=by
      rw[gi];refine⟨by simpa using b3.1,fun i hi=> ?_⟩;have b5:i<J.length:=by simpa using hi
      rw[bi _ (by rfl)];exact Rep.renF (x:=x1) (x2:=x2) (fun _ _ _ h=>h) (b3.2 i b5) (fun k hk=>hβ k (K k (am.2 (.inl (nq b5 k hk))))) (fun t _=>rfl)
     obtain⟨b1,Q⟩:=nC (x:=x) (x1:=x1) (w:=w) rfl rfl (tk:=c.tk) (obs:=a1) (j:=50+F.length) (f:=fun i=>m.getD i 0)
      (fun i hi=>(hE.heap.obs _ (Z i (by omega))).1) (by rw[a6];exact a8.right)
     rw[a6]at b1 Q;simp only at b1 Q
     have b6:∀i,i<m.length->fa x2 w i ((fo (iD m) id os).getD i (.rc [])):=by
      intro i hi;have h1:=Q i (by omega);have b8:i<os.length:=by omega
      have e:(fo (iD m) id os).getD i (.rc [])=(os.getD i (.rc [])).ren (iD m) id:=by rw[il,aa,aa,aR,ac b8];rfl
      rw[e];have b2:=gX (m:=m) hi;have e3:os.getD i (.rc [])∈os:=by rw[aa,ac b8];exact aF _
      have h2:=h1.renF (x2:=x2) (mo:=iD m) (mt:=id) (fun _ _ _ h=>h) (hβ _ b2) (fun k hk=>hβ k (K k (am.2 (.inr (sN e3 k hk))))) (fun t _=>rfl);have e2:iD m (m.getD i 0)=i:=nK b0 (pE b2).1 hi (pE b2).2;rwa[e2]at h2
     have d3:(fo (iD m) id os).length=m.length:=by rw[il,av];omega
     obtain⟨_,c7⟩:=d7 _ _ _ _ hq;have b4:F.length+I.length=(F++I).length:=by simp
     rw[b4]at c7;refine(c7 (Ctx.took x2 w m.length (F++I).length) x2 w vs rfl rfl ?_ (by omega) ?_ (vu hE.heap hT d3 b6) e1).mono ?_
     ·rintro b h;rw[d3];exact h
     ·intro o a7
      rw[il]at a7;obtain⟨r,hr,rfl⟩:=aS.1 a7;refine DU ?_
      have:=pM (tk:=c.tk) (obs:=a1) (j:=50+F.length) (fun o h'=>by obtain⟨i,hi,rfl⟩:=cr h';have:=hS.inv.wf _ (Z i (by omega));simpa[aa,ac hi]using this) r (by rw[a6];exact hr)
      exact this
     ·rintro en w' ⟨v,x',q',rfl,d6,hr,hH,d4,hg⟩
      subst d6;exact⟨v,rfl,qD hM hS hd hT hH hr d4 (fun i hi=>hg i (by omega)) (fun o a7=>d9 o a7) hsm⟩
theorem Al{call:dt}{sg:Sig}{g:Nat}{d:LAc}{a_:LAa}{vs:LAd}(I:aY C x s a w)(J:Sim N c s)(H:∀k,d=some k->k<N)(y:∀a_ os k q,call g a_ os k=some q->gu P g a_ os k (· =q))
 (F:jp call sg c d g a_=some c') (z:cB x a_ vs):Calls P g ⟨vs⟩ w fun en w'=>∃v,en= .returned v/\M C N c' (a.put d v) w':=by
 unfold jp at F;generalize ((SV.idsL a_).isEmpty&&sg.own.isEmpty)=b at F;cases b with
 |true=>exact Cn I J H y F z
 |false=>simp only[lL]at F;obtain⟨x1,s1,h1,h2,h3⟩:=kP (l:=kh sg.raw 0 a_) I J z;exact Bz h1 h2 H y F h3
variable {call:dt}{sg:Nat -> Sig}
def ik(P:Program)(call:dt):Prop:=∀g a_ os k q,call g a_ os k=some q->gu P g a_ os k (· =q)
theorem Cv{sg:Sig}{d:LAc}{g:Nat}{a_:LAa}(y:jp call sg c d g a_=some c'):∃J os k q,call g J os k=some q:=by
 unfold jp at y;generalize ((SV.idsL a_).isEmpty&&sg.own.isEmpty)=b at y;cases b with
 |true=>
  simp only[lL]at y;cases hq:call g (SV.bareL a_) [] 0 with
  |none=>rw[hq]at y;cases y
  |some q=>exact⟨_,_,_,q,hq⟩
 |false=>
  simp only[lL]at y;generalize fP c a_ (kh sg.raw 0 a_)=z at y;obtain⟨c1,K⟩:=z;simp only[lB]at y;generalize lQ c1.tk sg.own 50 0 K=z at y;obtain⟨F,H⟩:=z;simp only[qJ]at y;cases ho:looks c1 (eP c1 60 [] (SV.idsL F))with
  |none=>rw[ho]at y;cases y
  |some Q=>
   rw[ho]at y;simp only[nG]at y;generalize fe c1.tk (50+H.length) Q=z at y;obtain⟨os,I⟩:=z;simp only[qI]at y;generalize (rB (SV.idsL F++gS os) (eP c1 60 [] (SV.idsL F))&&eB (eP c1 60 [] (SV.idsL F))&&eB (cI (H++I))&&decide ((eP c1 60 [] (SV.idsL F)).length<=40)&&(eP c1 60 [] (SV.idsL F)).all fun o=> !inR (d.getD 0) o)=b at y;cases b with
   |false=>cases y
   |true=>
    simp only[qH]at y;cases hq:call g (SV.renL (iD (eP c1 60 [] (SV.idsL F))) id F) (fo (iD (eP c1 60 [] (SV.idsL F))) id os) (H.length+I.length)with
    |none=>rw[hq]at y;cases y
    |some q=>exact⟨_,_,_,q,hq⟩
theorem dA.freeze{ob:List (Nat×aG)}{tk:LAb}(h:dA C x ob tk w){b:Nat}(hb:C.mine b)(ho:∀p∈ob,(x.bk p.1).1≠b)(ht:∀t∈tk,(x.τ t).1≠b\/(x.τ t).2.1=(x.τ t).2.2)(off n:Nat):
 dA C x ob tk (w.freeze ⟨b,off,none⟩ n):=by
 have z:∀y,y≠b->(w.freeze ⟨b,off,none⟩ n).heap[y]? =w.heap[y]? :=by
  intro y K;unfold World.freeze;split
  ·rfl
  ·simp only[dz,if_neg (Ne.symm K)]
 have H:∀y i,(w.freeze ⟨b,off,none⟩ n).cell? ⟨y,i,none⟩=w.cell? ⟨y,i,none⟩:=by
  intro y i
  by_cases K:y=b
  ·subst K
   unfold World.freeze;split
   ·rfl
   ·simp only[World.cell?,dz,if_true]
    cases hw:w.heap[y]? with
    |none=>rfl
    |some q=>cases q<;>rfl
  ·exact dV (z y K)
 have a1:(w.freeze ⟨b,off,none⟩ n).heap.size=w.heap.size:=by unfold World.freeze;split<;>simp
 have F:(w.freeze ⟨b,off,none⟩ n).os=w.os/\(w.freeze ⟨b,off,none⟩ n).tape=w.tape/\(w.freeze ⟨b,off,none⟩ n).output=w.output:=by unfold World.freeze;split<;>exact⟨rfl,rfl,rfl⟩
 refine⟨fun y i v hv=>by rw[H];exact h.per y i v hv,h.g0,h.gm,h.new,fun p hp=> ?_,h.nd,h.inj,fun t I=> ?_,h.tko,h.tkd,F.1.trans h.os,F.2.1.trans h.tape,F.2.2.trans h.output,by rw[a1];exact h.size,fun y J=> ?_,h.pin,h.lay⟩
 ·obtain⟨⟨Q,e,fl,fh,Z,r⟩,q⟩:=h.obs p hp
  exact⟨⟨Q,e,fl,fh,Z.of_heap (z _ (ho p hp)),r⟩,q⟩
 ·rcases h.tks t I with h1|⟨⟨Q,e,fl,fh,Z,h2⟩,h3⟩
  ·exact .inl h1
  ·rcases ht t I with h4|h4
   ·exact .inr ⟨⟨Q,e,fl,fh,Z.of_heap (z _ h4),h2⟩,h3⟩
   ·exact .inl h4
 ·rw[z y (fun e=>J (e ▸ hb))];exact h.ext y J
theorem QK{o:Oper}{q:Arg}(y:cw P o=some (.slid q)):∃z X e,o.op= .convert z z X/\P.underlying z=some (.slice e)/\nY P e=true/\bG P z X=some q:=by
 cases ho:o.op with
 |convert z dst X=>
  simp only[cw,ho]at y;split at y<;>try (cases y;done)
  ·split at y<;>cases y
  ·split at y<;>cases y
  ·rename_i e K hs H J
   split at y<;>try (cases y;done)
   rename_i F;simp only[aE,decide_eq_true_eq]at F;obtain⟨rfl,I⟩:=F;cases y;exact⟨z,X,e,rfl,H,I,J⟩
 |_=>exfalso;exact absurd y (by
  intro y;simp only[cw,ho]at y
  first
   |(cases y;done)
   |(obtain⟨_,_,h⟩:=aj.1 y;cases h;done)
   |(repeat' split at y)<;>first|(cases y;done)|contradiction|(obtain⟨_,_,h⟩:=aj.1 y;(repeat' first|(cases h;done)|split at h)))
theorem K8{o:Oper}{F:List Arg}(y:cw P o=some (.newB F)):False:=by
 cases ho:o.op with
 |buildSlice t len z=>
  simp only[cw,ho]at y;split at y<;>try (cases y;done)
  split at y<;>try (cases y;done)
  split at y<;>try (cases y;done)
  obtain⟨_,_,h⟩:=aj.1 y;split at h<;>cases h
 |_=>
  simp only[cw,ho]at y
  first
   |(cases y;done)
   |(obtain⟨_,_,h⟩:=aj.1 y;cases h;done)
   |(repeat' split at y)<;>first|(cases y;done)|contradiction|(obtain⟨_,_,h⟩:=aj.1 y;(repeat' first|(cases h;done)|split at h))
theorem xbk{ops:Array Oper}{o:Oper}{i:SI}(h:ia P ops o=some i):i.er=i:=by obtain⟨h1,_,_⟩:=mJ h;obtain⟨d,g,op⟩:=i;have:op.er=op:=rfl;show SI.mk d g op.er=_;rw[this]
theorem BF{o:Oper}{q:Arg}(h:M C N c a w)(hr:cw P o=some (.slid q))(hd:∀k,o.dst=some k->k<N)(H:u9 c o.dst (c.ev q)=some c'){K:LBc}{Q:LBb}(hK:∀a w,M C N c' a w->K a w):o.wp P a w K Q:=by
 obtain⟨x,s,hM,hS⟩:=h;unfold u9 at H;split at H<;>try (cases H;done)
 rename_i y off n cap hq;unfold rI at H;split at H<;>try (cases H;done)
 rename_i l hl;split at H<;>try (cases H;done)
 rename_i I;obtain⟨hb,rfl⟩:=I;cases H;obtain⟨b6,X,e,ho,hu,h8,hX⟩:=QK hr;have hv:=aV hM hX;rw[hS.ev,hq]at hv;obtain⟨cp,b5,b3,a1,a6,b2⟩:=hv.psl_inv;have F:s.look y=some (.bar l):=(hS.look y).trans hl;obtain⟨cc,e',fl,fh,hO,b4,_⟩:=gB hM F;have b1:=hM.heap.obs _ (dT F);obtain⟨x',⟨hβ,hτ⟩,hp,s',z,Z⟩:=sG hl (fun cs e=>by cases e) hM hS
 have J:Rep x' (.byt ((l.drop off).take n) .clip) (a.eval X):=by have:=hp _ _ hv;simpa only[SV.pub,if_true,BV,true_and,if_pos hb]using this
 have h1:∀p∈s'.ob,(x'.bk p.1).1≠(x.bk y).1:=by intro p b0 e;rw[hβ]at e;have h2:s'.look p.1=some p.2:=Ca z.heap.nd b0;rw[Z.look]at h2;obtain⟨h3,q',h4,_⟩:=mn (kI h2);have h5:=kE (kA hS.inv.so) h4;exact h3 (hM.heap.inj (p.1,q') (dT ((hS.look p.1).trans h5)) _ (dT F) e)
 have h2:∀t∈s'.tk,(x'.τ t).1≠(x.bk y).1\/(x'.τ t).2.1=(x'.τ t).2.2:=by intro t ht;rw[hτ];exact hM.heap.tko t ((hS.tk t).2 ((Z.tk t).1 ht)) _ (dT F)
 have a8:aY C x' s' a (w.freeze ⟨(x.bk y).1,cc.size,none⟩ 1):=⟨z.tm,z.defers,z.heap.freeze b1.2.1 h1 h2 _ _⟩
 have a7:(execOp a.eval o).run P w= .ok (.value (a.eval X)) (w.freeze ⟨(x.bk y).1,cc.size,none⟩ 1):=by have hm:(markStringish ⟨(x.bk y).1,a1,none⟩).run P w= .ok () (w.freeze ⟨(x.bk y).1,cc.size,none⟩ 1):=fB (e:=e') (by simp only[World.shape?,hO.1]);simp only[execOp,ho,a6,convert,aH,run_underlying hu,ao,beq_self_eq_true,run_underlying (kG h8),hm,aU]
 refine fc ⟨a.eval X,_,x',_,a7,.inl rfl,a8.put o.dst J⟩ (k:=Sim N _) ?_ hK;have e1:(c.publish y []).1=⟨nU y (.bar l) c.tm,nf y (.bar l) c.ob,c.tk⟩:=by unfold CSt.publish;rw[hl]
 rw[e1];exact Z.put hd _
theorem sO{o:Oper}{xs:List Arg}(h:M C N c a w)(Z:cw P o=some (.litB xs))(hd:∀k,o.dst=some k->k<N)(F:qO c o.dst (toB (evL c xs))=some c'){K:LBc}{Q:LBb}(hK:∀a w,M C N c' a w->K a w):o.wp P a w K Q:=by
 obtain⟨x,s,hM,hS⟩:=h;rw[hS.evL]at F;unfold qO at F;split at F<;>try (cases F;done)
 rename_i k l hk hl;cases F;obtain⟨t,len,I,ho⟩:=SF Z;obtain⟨r,e,z,J,y⟩:=BP hM ho Z hl
 have H:=hM.newObj (d:=k+100) o.dst (by omega) (.bar l) (val:= .psl (k+100) 1 0 l.length (some l.length)) (u:= .slice (some ⟨w.heap.size,0,none⟩) l.length l.length) (t:=e) J (fun i hi=>by
  show bU x.G (.u8 (l.getD i 0)) _;rw[y i hi];exact .u8 _) (by
  have:=Rep.psl (x:=x.newO (k+100) w.heap.size) (k+100) 1 0 l.length (some l.length) 0 l.length (.inr rfl) (aM _) (fun _ e=>by cases e;rfl) (fun e=>by cases e);rwa[lH]at this)
 refine fc ⟨_,_,_,_,z,.inl rfl,H⟩ (k:=Sim N _) ?_ hK;have:=hS.app hd (e:= {val:= .psl (k+100) 1 0 l.length (some l.length),new:=some (.bar l)}) (f:= {pre:=True,val:= .psl (k+100) 1 0 l.length (some l.length),new:=some (.bar l)}) ⟨rfl,rfl,rfl,rfl,rfl⟩ ⟨fun ob he=>by cases he;rfl,.inl rfl⟩;rw[hk]at this ⊢;exact this
theorem LS(y:aY C x s a w)(z:Sim N c s){g:Nat}{t:Bool}(h:c.get g= .bool t):a.tmps[g]? =some (.bool t):=(LV y (by rw[z.get];exact h)).2.1
theorem Ac{ops:Array Oper}{o:Oper}{j g:Nat}{b:Bool}(h:o.guard=some (j,b))(F:(ops[j]?).bind (·.dst)=some g)(z:∀t,a.tmps[g]? ≠some (.bool t)):Region.wanted o (yielded ops a.tmps)=false:=by
 have y:yielded ops a.tmps j=none:=by
  unfold yielded;rw[F,dm];cases hv:a.tmps[g]? with
  |none=>rfl
  |some v=>
   cases v with
   |bool t=>exact absurd hv (z t)
   |_=>rfl
 simp only[Region.wanted,h,y];rfl
theorem AF{x:Sit}:Rep x (.tup []) undef:= .tup [] [] rfl fun i hi=>by simp at hi
theorem LU(z:aY C x s a w)(y:Sim N c s){g:Nat}(h:c.get g= .tup []):∀t,a.tmps[g]? ≠some (.bool t):=by
 intro t F;have h1:=z.slot g;rw[y.get,h]at h1
 have h2:a.tmps.getD g undef= .bool t:=by rw[bT,F];rfl
 replace h1:Rep x (.tup []) (a.tmps.getD g undef):=h1;rw[h2]at h1;cases h1 with
 |dat _ _ h _=>cases h
theorem MA{o:Oper}{q:Arg}(y:cw P o=some (.s2b q)):∃z dst X e,o.op= .convert z dst X/\P.underlying z=some .string/\P.underlying dst=some (.slice e)/\nY P e=true/\bG P z X=some q:=by
 cases ho:o.op with
 |convert z dst X=>
  simp only[cw,ho]at y;split at y<;>try (cases y;done)
  ·split at y<;>cases y
  ·rename_i e J hs F I
   split at y<;>try (cases y;done)
   rename_i H;cases y;exact⟨z,dst,X,e,rfl,hs,F,H,I⟩
  ·split at y<;>cases y
 |_=>exfalso;exact absurd y (by
  intro y;simp only[cw,ho]at y
  first
   |(cases y;done)
   |(obtain⟨_,_,h⟩:=aj.1 y;cases h;done)
   |(repeat' split at y)<;>first|(cases y;done)|contradiction|(obtain⟨_,_,h⟩:=aj.1 y;(repeat' first|(cases h;done)|split at h)))
theorem Ya{o:Oper}{z:LAa}{b:Nat}{q r:Arg}(y:cw P o=some (.app z b q r)):∃F,o.op= .call F/\F.callee= .builtin .append:=by
 cases ho:o.op with
 |call F=>
  refine⟨F,rfl, ?_⟩;cases hb:F.callee with
  |builtin H=>
   cases H with
   |append=>rfl
   |_=>
    exfalso;simp only[cw,ho,hb]at y
    first
     |(cases y;done)
     |(repeat' split at y)<;>first|(cases y;done)|contradiction
  |_=>
   exfalso;simp only[cw,ho,hb]at y
   first
    |(cases y;done)
    |(repeat' split at y)<;>first|(cases y;done)|contradiction
 |_=>exfalso;exact absurd y (by
  intro y;simp only[cw,ho]at y
  first
   |(cases y;done)
   |(obtain⟨_,_,h⟩:=aj.1 y;cases h;done)
   |(repeat' split at y)<;>first|(cases y;done)|contradiction|(obtain⟨_,_,h⟩:=aj.1 y;(repeat' first|(cases h;done)|split at h)))
theorem aY.newObjF(F:aY C x s a w){d:Nat}(I:LAc)(z:100<=d){cv:LAe}{t:TypeId}{fl fh:Nat}(y:aG){val:SV}{u:Value}(K:∀i,i<cv.size->¬(fl<=i/\i<fh))(hs:y.size<=cv.size)(Q:∀k,k<y.size->cQ x y k (cv.getD k undef))
 (H:y.arrB=true->¬(fl<=cv.size/\cv.size<fh)) (hv:Rep (x.newO d w.heap.size cv.size) val u) {w':World} (J:w'.heap=(w.alloc (.cells cv t (fl,fh))).heap) (h1:w'.os=w.os) (h2:w'.tape=w.tape) (h3:w'.output=w.output):
 aY C (x.newO d w.heap.size cv.size) (((s.purge d (d+1)).addO d (y.purge d (d+1))).put I val) (a.put I u) w':=by
 refine aY.put ⟨?_,F.defers, ?_⟩ I hv
 ·exact cB.mono (x:=x) (x':=x.newO d w.heap.size cv.size) (lo:=d) (hi:=d+1) (fun _ _ _ h=>h) (Sit.newO_ne x d _) (fun _ _=>rfl) F.tm
 ·exact dA.congr (w:=w.alloc (.cells cv t (fl,fh))) (F.heap.allocO d z y K hs Q (aM _) H) J h1 h2 h3
theorem aY.drew(y:aY C x s a w):aY C x s a w.drew:=⟨y.tm,y.defers,y.heap.drew⟩
theorem B0{o:Oper}{q:Arg}(h:M C N c a w)(hr:cw P o=some (.s2b q))(hd:∀k,o.dst=some k->k<N)(I:Sk c o.dst (c.ev q)=some c'){K:LBc}{Q:LBb}(hK:∀a w,M C N c' a w->K a w):o.wp P a w K Q:=by
 obtain⟨x,s,hM,hS⟩:=h;unfold Sk at I;split at I<;>try (cases I;done)
 rename_i k l hk hl;cases I;obtain⟨a8,dst,X,e,ho,hs,Z,h8,hX⟩:=MA hr;have he:=kG h8;have h1:=aV hM hX;rw[hS.ev,hl]at h1;have hf:(Question.appendCap (ByteArray.mk ⟨l⟩).size 0 e).forced=false:=rfl
 obtain⟨y,a1,J⟩:∃y,(Question.appendCap (ByteArray.mk ⟨l⟩).size 0 e).cut (w.tape w.drawn (Question.appendCap (ByteArray.mk ⟨l⟩).size 0 e))=y/\l.length<=y:=by
  refine⟨_,rfl, ?_⟩;simp only[Question.cut];have:(ByteArray.mk ⟨l⟩).size=l.length:=by simp[ByteArray.size]
  omega
 let cs:LAe:=(ByteArray.mk ⟨l⟩).data.map (fun b=> .int .u8 b.toNat)++eE (y-(ByteArray.mk ⟨l⟩).size) (.int .u8 0)
 have z:(ByteArray.mk ⟨l⟩).size=l.length:=by simp[ByteArray.size]
 have a7:cs.size=y:=by simp[cs,z];omega
 have H:∀i,i<l.length->cs[i]? =some (.int .u8 (l.getD i 0).toNat):=by intro i hi;simp only[cs];rw[Array.getElem?_append_left (by simpa using hi)];simp[hi,aa]
 have F:(execOp a.eval o).run P w= .ok (.value (.slice (some ⟨w.heap.size,0,none⟩) l.length y)) ((w.drew.alloc (.cells cs e (0,0))).freeze ⟨w.heap.size,cs.size,none⟩ 1):=by simp only[execOp,ho,h1.str_inv,convert,aH,run_underlying hs,run_underlying Z,ao,run_underlying he,Conv.stringToBytes,run_choose_drew,hf,aP,if_false,a1,newRow,run_newObj_alloc,aU];rw[fB (e:=e) (n:=cs.size) (by simp only[World.shape?];rw[eM])];simp only[ao,z];rfl
 have a6:=hM.drew.newObjF (d:=k+100) o.dst (by omega) (.bar l) (cv:=cs) (t:=e) (fl:=cs.size) (fh:=cs.size+1) (val:= .psl (k+100) 1 0 l.length none) (u:= .slice (some ⟨w.heap.size,0,none⟩) l.length y) (fun i hi h=>by omega) (by simp only[aG.size];omega) (fun i hi=>by
  simp only[aG.size]at hi;show bU x.G (.u8 (l.getD i 0)) _;have:cs.getD i undef= .int .u8 (l.getD i 0).toNat:=by rw[bT,H i hi];rfl
  rw[this];exact .u8 _) (fun h=>by cases h) (by
  have:=Rep.psl (x:=x.newO (k+100) w.drew.heap.size cs.size) (k+100) 1 0 l.length none 0 y (.inr rfl) J (fun _ e=>by cases e) (fun _=> .inr (by rw[yC,a7];omega));rw[lH]at this;exact this) (iv w.drew cs e) rfl rfl rfl
 refine fc ⟨_,_,_,_,F,.inl rfl,a6⟩ (k:=Sim N _) ?_ hK;have:=hS.app hd (e:= {val:= .psl (k+100) 1 0 l.length none,new:=some (.bar l)}) (f:= {pre:=True,val:= .psl (k+100) 1 0 l.length none,new:=some (.bar l)}) ⟨rfl,rfl,rfl,rfl,rfl⟩ ⟨fun ob he=>by cases he;rfl,.inl rfl⟩;rw[hk]at this ⊢;exact this
theorem Bv{o:Oper}{q:Arg}(h:M C N c a w)(hr:cw P o=some (.s2b q))(hd:∀k,o.dst=some k->k<N)(hc:Qu c o.dst (c.ev q)=some c'){K:LBc}{Q:LBb}(hK:∀a w,M C N c' a w->K a w):o.wp P a w K Q:=by
 obtain⟨x,s,z,hS⟩:=h;unfold Qu at hc;split at hc<;>try (cases hc;done)
 rename_i k l hk hl;cases hc;obtain⟨b5,dst,X,e,ho,hs,a6,h8,hX⟩:=MA hr;have he:=kG h8;have h1:=aV z hX;rw[hS.ev,hl]at h1;have hf:(Question.appendCap (ByteArray.mk ⟨l⟩).size 0 e).forced=false:=rfl
 obtain⟨y,a7,a1⟩:∃y,(Question.appendCap (ByteArray.mk ⟨l⟩).size 0 e).cut (w.tape w.drawn (Question.appendCap (ByteArray.mk ⟨l⟩).size 0 e))=y/\l.length<=y:=by
  refine⟨_,rfl, ?_⟩;simp only[Question.cut];have:(ByteArray.mk ⟨l⟩).size=l.length:=by simp[ByteArray.size]
  omega
 let cs:LAe:=(ByteArray.mk ⟨l⟩).data.map (fun b=> .int .u8 b.toNat)++eE (y-(ByteArray.mk ⟨l⟩).size) (.int .u8 0)
 have I:(ByteArray.mk ⟨l⟩).size=l.length:=by simp[ByteArray.size]
 have b4:cs.size=y:=by simp[cs,I];omega
 have Z:∀i,i<l.length->cs[i]? =some (.int .u8 (l.getD i 0).toNat):=by intro i hi;simp only[cs];rw[Array.getElem?_append_left (by simpa using hi)];simp[hi,aa]
 have J:(execOp a.eval o).run P w= .ok (.value (.slice (some ⟨w.heap.size,0,none⟩) l.length y)) ((w.drew.alloc (.cells cs e (0,0))).freeze ⟨w.heap.size,cs.size,none⟩ 1):=by simp only[execOp,ho,h1.str_inv,convert,aH,run_underlying hs,run_underlying a6,ao,run_underlying he,Conv.stringToBytes,run_choose_drew,hf,aP,if_false,a7,newRow,run_newObj_alloc,aU];rw[fB (e:=e) (n:=cs.size) (by simp only[World.shape?];rw[eM])];simp only[ao,I];rfl
 have hG:∀o,x.G w.heap.size o=none:=by
  intro o;cases hg:x.G w.heap.size o with
  |none=>rfl
  |some v=>exact absurd (z.heap.ltG hg) (by omega)
 have b2:=z.heap.newD_le cs l.length;have hH:dA C (x.newD w.heap.size cs l.length) s.ob s.tk (w.drew.alloc (.cells cs e (cs.size,cs.size+1))):=z.heap.drew.allocD l.length;have H:gf (w.drew.alloc (.cells cs e (cs.size,cs.size+1))) w.heap.size cs e cs.size (cs.size+1):=⟨eM (w:=w.drew),fun i _ h=>by omega⟩
 have b3:dA C ((x.newD w.heap.size cs l.length).newT (k+100) w.heap.size l.length y) (bV (k+100) (k+100+1) s.ob) ((k+100)::df (k+100) (k+100+1) s.tk) (w.drew.alloc (.cells cs e (cs.size,cs.size+1))):=by
  refine hH.addT (k+100) w.heap.size _ _ (.inr ⟨⟨cs,e,_,_,H,by omega⟩,z.heap.new _ z.heap.size,fun o h1 h2=> ?_⟩) (.inr fun p hp _=> ?_) (.inr fun u hu _=> ?_)
  ·simp only[Sit.newD];rw[if_neg (by omega)];exact hG o
  ·obtain⟨⟨c2,e2,a8,b1,F,_⟩,_⟩:=z.heap.obs p hp
   have:=F.lt;show w.heap.size≠(x.bk p.1).1;omega
  ·rcases z.heap.tks u hu with h|⟨⟨c2,e2,a8,b1,F,_⟩,_⟩
   ·exact .inr h
   ·have:=F.lt
    exact .inl (by show w.heap.size≠(x.τ u).1;omega)
 have b0:aY C ((x.newD w.heap.size cs l.length).newT (k+100) w.heap.size l.length y) ((s.grew .no (k+100)).put o.dst (.byt l (.id (k+100)))) (a.put o.dst (.slice (some ⟨w.heap.size,0,none⟩) l.length y)) ((w.drew.alloc (.cells cs e (0,0))).freeze ⟨w.heap.size,cs.size,none⟩ 1):=by
  refine aY.put ⟨?_,z.defers, ?_⟩ o.dst ?_
  ·exact cB.mono (x:=x) (x':=(x.newD w.heap.size cs l.length).newT (k+100) w.heap.size l.length y) (lo:=k+100) (hi:=k+100+1) b2 (fun _ _=>rfl) (Sit.newT_ne (x.newD w.heap.size cs l.length) (k+100) _ _ _) z.tm
  ·exact dA.congr (w:=w.drew.alloc (.cells cs e (cs.size,cs.size+1))) b3 (iv w.drew cs e) rfl rfl rfl
  ·refine .dat _ _ (.byt l _ w.heap.size 0 y l.length rfl a1 fun i hi=> ?_) ⟨_,l.length,y,rfl,.inr ⟨w.heap.size,0,rfl, ?_⟩⟩
   ·show(x.newD w.heap.size cs l.length).G w.heap.size (0+i)=_
    simp only[Sit.newD];rw[if_pos ⟨trivial,by omega⟩,de];exact Z i hi
   ·rw[Sit.newT_eq,gI,gI,de,de]
 refine fc ⟨_,_,_,_,J,.inl rfl,b0⟩ (k:=Sim N _) ?_ hK;have:=hS.app hd (e:= {val:= .byt l (.id (k+100)),tok:=true}) (f:= {pre:=True,val:= .byt l (.id (k+100)),tok:=true}) ⟨rfl,rfl,rfl,rfl,rfl⟩ ⟨fun ob he=>(by cases he),.inl rfl⟩;rw[hk]at this ⊢;exact this
theorem JG(hM:aY C x s a w){t u el:TypeId}{d2:TypeDesc}{n H:Nat}{zs:LAd}(hd:P.underlying t=some (.slice el))(hu:P.underlying u=some d2)(b4:(∃e',d2= .slice e')\/d2= .string)(hn:gJ P el=some n)(hb:Ii P el=some H)
 (hz:iL P el=some zs) (b8:H≠0) (b7:zs.length=n) {ty:TypeId} {X Y:Value} {fl y:LAa} {ns:LAd} {len m cap:Nat} (hX:In x.G n fl X len cap)
 (a7:∀w',w'.heap=w.heap->(Builtin.lenOf Y).run P w'= .ok m w') (I:∀w',w'.heap=w.heap->(Builtin.firstCells n m Y).run P w'= .ok ns.toArray w') (c7:ns.length=m*n) (fy:New x ns y) (K:(len+m)*H<=140737488355328) (hc:¬len+m<=cap):
 ∃Z cv,len+m<=Z/\(Builtin.append_ #[t,u] ty #[X,Y]).run P w= .ok (.slice (some ⟨w.heap.size,0,none⟩) (len+m) Z) (w.drew.alloc (.cells cv el (0,0)))/\((fl++y).length<=cv.size/\Z*n<=cv.size)/\∀k,k<(fl++y).length->bU x.G ((fl++y).getD k .undef) (cv.getD k undef):=by
 obtain⟨b0,d9,a6⟩:=hX;obtain⟨z,d5,d3⟩:=dJ hz
 obtain⟨i,hi,b5⟩:∃i,P.info? el=some i/\i.bytes=H:=by
  unfold Ii at hb;cases hi:P.info? el with
  |none=>simp[hi]at hb
  |some i=>simp[hi]at hb;exact⟨i,rfl,hb⟩
 obtain⟨bs,b6⟩:∃bs,X= .slice bs len cap:=by
  rcases a6 with⟨b,off,rfl,_⟩|⟨⟨a,rfl⟩,rfl,rfl⟩
  ·exact⟨_,rfl⟩
  ·exact⟨_,rfl⟩
 subst b6;have d8:y.length=m*n:=by rw[fy.len,c7]
 obtain⟨os,d7,F,a1⟩:∃os:LAd,(∀w',w'.heap=w.heap->(Builtin.firstCells n len (.slice bs len cap)).run P w'= .ok os.toArray w')/\os.length=fl.length/\∀k,k<fl.length->bU x.G (fl.getD k .undef) (os.getD k undef):=by
  rcases a6 with⟨b,off,Q,hr⟩|⟨Q,h1,h2⟩
  ·simp only[Value.slice.injEq]at Q
   obtain⟨rfl,_⟩:=Q;refine⟨(bQ (len*n)).map fun k=>(w.cell? ⟨b,off+k,none⟩).getD undef,fun w' b1=> ?_,by simp[b0],fun k hk=> ?_⟩
   ·simp only[Builtin.firstCells]
    refine run_loadCells w' _ _ _ fun j hj=> ?_
    rw[eH,dV (w:=w) (by rw[b1])];obtain⟨v,hv,_⟩:=hr j (by omega);rw[hM.heap.per _ _ _ hv];rfl
   ·obtain⟨v,hv,b2⟩:=hr k hk
    have:((bQ (len*n)).map fun k=>(w.cell? ⟨b,off+k,none⟩).getD undef).getD k undef=v:=by rw[aa];simp[show k<len*n from by omega,hM.heap.per _ _ _ hv]
    rw[this];exact b2
  ·obtain⟨a,Q⟩:=Q
   simp only[Value.slice.injEq]at Q;obtain⟨rfl,rfl,_⟩:=Q;have:fl=[]:=cD.1 (by rw[<-b0,h1,Nat.zero_mul]);subst this;exact⟨[],fun w' _=>by cases bs<;>simp only[Builtin.firstCells,Nat.zero_mul]<;>rfl,rfl,fun k hk=>by simp at hk⟩
 obtain⟨Z,d4,a8⟩:=qe (t:=t) (u:=u) (ty:=ty) (Y:=Y) hd hu b4 hn hi b5 b8 d3 a7 I d7 hc K;refine⟨Z,_,d4,a8, ?_,fun k hk=> ?_⟩
 ·have d6:z.cells.size=n:=by rw[<-bf,d5];exact b7
  have e3:len*n+m*n+(Z-(len+m))*n=Z*n:=by rw[<-bW,<-bW];congr 1;omega
  simp only[af,Array.size_append,List.size_toArray,F,<-fy.len,lO,d6];omega
 ·have b3:k<os.length+ns.length:=by rw[F,<-fy.len,<-af];exact hk
  rw[bT,qC os ns _ k b3]
  by_cases J:k<fl.length
  ·have e1:(fl++y).getD k .undef=fl.getD k .undef:=by simp only[aa,cn J]
   have e2:((os++ns)[k]?).getD undef=os.getD k undef:=by simp only[aa,cn (show k<os.length by omega)]
   rw[e1,e2];exact a1 k J
  ·have e1:(fl++y).getD k .undef=y.getD (k-fl.length) .undef:=by simp only[aa,cO (Nat.le_of_not_lt J)]
   have e2:((os++ns)[k]?).getD undef=ns.getD (k-fl.length) undef:=by simp only[aa,cO (show os.length<=k by omega),F]
   rw[e1,e2];exact fy.rep _ (by rw[af]at hk;omega)
theorem vX{n:Nat}{fl:LAa}{X:Value}{len cap:Nat}(H:In x.G n fl X len cap)(y:dX x n .clip X):cap=len:=by
 obtain⟨a,k,F⟩:=y;obtain⟨_,_,z⟩:=H;rcases z with⟨b,off,h,_⟩|⟨h,h1,h2⟩
 ·rw[h]at F;simp only[Value.slice.injEq]at F;omega
 ·omega
theorem BZ{o:Oper}{z:LAa}{b0:Nat}{r q:Arg}(h:M C N c a w)(I:cw P o=some (.app z b0 r q))(hd:∀k,o.dst=some k->k<N)(H:Sj c o.dst z b0 q (c.ev r)=some c'){K:LBc}{Q:LBb}(hK:∀a w,M C N c' a w->K a w):o.wp P a w K Q:=by
 obtain⟨x,s,hM,hS⟩:=h;obtain⟨cl,ho,hb⟩:=Ya I;simp only[cw,ho,hb]at I;split at I<;>try (cases I;done)
 rename_i X Y t u hX ht;split at I<;>try (cases I;done)
 rename_i el d2 r' q' b3 hu b8 e0;split at I<;>try (cases I;done)
 rename_i n e1 z' hn e4 hz
 rw[bg]at I;obtain⟨a1,I⟩:=I;simp only[aE,decide_eq_true_eq]at a1;obtain⟨⟨e3,f1⟩,e7⟩:=a1;obtain⟨zs,d5,e9,_⟩:=nA hz;have d3:zs.length=n:=by omega
 obtain⟨b4,rfl,rfl,rfl,rfl⟩:((∃e',d2= .slice e')\/d2= .string)/\z'=z/\e1=b0/\r'=r/\q'=q:=by
  split at I<;>try (cases I;done)
  ·cases I;exact⟨.inl ⟨_,rfl⟩,rfl,rfl,rfl,rfl⟩
  ·rw[bg]at I
   obtain⟨_,I⟩:=I;cases I;exact⟨.inr rfl,rfl,rfl,rfl,rfl⟩
 have h1:=aV hM b8;have h2:=aV hM e0;have ea:cl.args= #[X,Y]:=by apply jQ;simpa using hX
 have et:cl.argTypes= #[t,u]:=by apply jQ;simpa using ht
 have b2:=nk (a:=a) ho hb _ rfl;rw[ea,et]at b2;have em: #[X,Y].map a.eval= #[a.eval X,a.eval Y]:=by simp
 rw[em]at b2
 have Z:∀{v w'},(Builtin.append_ #[t,u] o.type #[a.eval X,a.eval Y]).run P w= .ok v w'->(execOp a.eval o).run P w= .ok (.value v) w':=by intro v w' y;rw[b2];simp[y]
 rw[hS.ev]at h1
 have d7:∀{k nc cv}(F:aG)(sz m:Nat),o.dst=some k->m<=nc->(Builtin.append_ #[t,u] o.type #[a.eval X,a.eval Y]).run P w= .ok (.slice (some ⟨w.heap.size,0,none⟩) m nc) (w.drew.alloc (.cells cv el (0,0)))->
  F.size<=cv.size->nc*sz<=cv.size->(∀i,i<F.size->cQ x F i (cv.getD i undef))->F.wf=true->c'=c.app (some k) {val:= .psl (k+100) sz 0 m none,new:=some F}->o.wp P a w K Q:=by
  intro k nc cv F sz m hk b1 y a7 f0 J c7 e2;subst e2
  have d4:=hM.drew.newObjF (d:=k+100) o.dst (by omega) F (cv:=cv) (t:=el) (fl:=0) (fh:=0) (val:= .psl (k+100) sz 0 m none) (u:= .slice (some ⟨w.heap.size,0,none⟩) m nc) (fun i hi h=>by omega) a7 J (fun _ h=>by omega) (by have:=Rep.psl (x:=x.newO (k+100) w.drew.heap.size cv.size) (k+100) sz 0 m none 0 nc (.inr (by omega)) b1 (fun _ e=>by cases e) (fun _=> .inr (by rw[yC];omega));rw[lH]at this;exact this) (w':=w.drew.alloc (.cells cv el (0,0))) rfl rfl rfl rfl
  refine fc ⟨_,_,_,_,Z y,.inl rfl,d4⟩ (k:=Sim N _) ?_ hK;have:=hS.app hd (e:= {val:= .psl (k+100) sz 0 m none,new:=some F}) (f:= {pre:=True,val:= .psl (k+100) sz 0 m none,new:=some F}) ⟨rfl,rfl,rfl,rfl,rfl⟩ ⟨fun ob he=>by cases he;exact c7,.inl rfl⟩;rw[hk]at this ⊢;exact this
 unfold Sj at H;split at H<;>try (cases H;done)
 ·rename_i l tk hl
  rw[bg]at H;obtain⟨rfl,H⟩:=H;unfold Ye at H;split at H<;>try (cases H;done)
  rename_i k l' hk e5;split at H<;>try (cases H;done)
  rename_i b7;have b7:z'.length=1:=Classical.not_not.1 b7;obtain rfl:n=1:=by omega
  obtain⟨p,a8,e6⟩:=qb hS e5;rw[<-hS.ev]at a8;rw[hl]at h1;obtain⟨g1,g2⟩:=jN (P:=P) hM h2 a8 e6;obtain⟨_,_,_,_,_,b6⟩:=h1.byt_inv;obtain⟨cap,hF,_⟩:=A4 (h1.data rfl)
  by_cases a6:l'=[]
  ·rw[if_pos a6]at H
   cases H;subst a6
   obtain⟨bs,d9⟩:∃bs,a.eval X= .slice bs l.length cap:=by
    rcases hF.2.2 with⟨b,off,h,_⟩|⟨h,h1,h2⟩
    ·exact⟨_,h⟩
    ·exact⟨_,by rw[h.choose_spec,h1,h2]⟩
   have b5:=vX hF b6;rw[d9]at h1 Z
   have y:=nH (P:=P) (t:=t) (u:=u) (ty:=o.type) (Y:=a.eval Y) (ns:=[]) (w:=w) (w1:=w) (m:=0) (bs:=bs) (len:=l.length) (cap:=cap) b3 hu b4 hn (g1 w rfl) (by have:=g2 0 (aM _) w rfl;simpa using this) (by omega) (by cases bs<;>rfl)
   refine fc ⟨_,_,_,_,Z y,.inl rfl,hM.put o.dst h1⟩ (k:=Sim N _) ?_ hK;have:=hS.put hd (.byt l .clip);rw[hk]at this ⊢;exact this
  ·rw[if_neg a6]at H
   rw[bg]at H;obtain⟨⟨rfl,d8⟩,H⟩:=H;have b5:=vX hF b6;have e8:0<l'.length:=List.length_pos_iff.2 a6
   obtain⟨nc,cv,b1,y,a7,J⟩:=JG (ty:=o.type) hM b3 hu b4 hn e4 d5 e3 d3 hF g1 (fun w' d6=>by have:=g2 l'.length (aM _) w' d6;rwa[cG]at this) (by simp) (vG l') (by omega) (by omega)
   refine d7 (.bar (l++l')) 1 _ hk b1 y (by simp only[aG.size];simpa using a7.1) a7.2 (fun i hi=> ?_) rfl (ay.inj H).symm;simp only[aG.size]at hi;have:=J i (by simpa using hi);rw[<-b9,jD _ _ hi]at this;exact this
theorem vC(y:ik P call){o:Oper}{so:SOp}(h:M C N c a w)(H:vp P o so.er)(hd:∀k,o.dst=some k->k<N)(z:opC call sg c o.dst so=some c'){K:LBc}{Q:LBb}(hK:∀a w,M C N c' a w->K a w):o.wp P a w K Q:=by
 have b1:so.er=so:=rfl;rw[b1]at H
 by_cases J:∃Z,so= .newB Z
 ·obtain⟨Z,rfl⟩:=J
  rcases H with I|⟨ys,e,I⟩
  ·exact(K8 I).elim
  ·cases e
   exact sO h I hd z hK
 have I:=H.old fun Z e=>J ⟨Z,e⟩
 by_cases a1:∃q,so= .slid q
 ·obtain⟨q,rfl⟩:=a1
  exact BF h I hd z hK
 by_cases a8:∃f a_,so= .call f a_
 ·obtain⟨f,a_,rfl⟩:=a8
  simp only[opC]at z;split at z<;>try (cases z;done)
  rename_i g c1 c2 hg;obtain⟨x,s,hM,hS⟩:=h;obtain⟨cl,F,ho,hb,h1,h2,h3⟩:=Mh I;obtain⟨b3,b4,k',q',b2⟩:=Cv z;have b0:fk P g=true:=(y _ _ _ _ _ b2).1;obtain⟨vs,a6,a7⟩:=Jv hM ho hb h1 h2 h3 (by rw[hS.ev];exact hg) b0;rw[<-hS.evL]at a7;exact Aa a6 (Al hM hS hd (y g) z a7) hK
 ·refine Z1 h I hd ?_ hK
  cases so with
  |call f a_=>exact absurd ⟨f,a_,rfl⟩ a8
  |newB Z=>exact absurd ⟨Z,rfl⟩ J
  |slid q=>exact absurd ⟨q,rfl⟩ a1
  |_=>exact z
theorem BY{o:Oper}{sz:Nat}{y:List Arg}(h:M C N c a w)(J:cw P o=some (.lit sz y))(hd:∀k,o.dst=some k->k<N)(hc:Si c sz (evL c y) o.dst (rows sz (evL c y))=some c'){K:LBc}{Q:LBb}(hK:∀a w,M C N c' a w->K a w):o.wp P a w K Q:=by
 obtain⟨x,s,hM,hS⟩:=h;rw[hS.evL]at hc
 obtain⟨t,len,z,ho⟩:∃t len z,o.op= .buildSlice t len z:=by
  cases ho:o.op with
  |buildSlice t len z=>exact⟨t,len,z,rfl⟩
  |_=>exfalso;exact absurd J (by
   intro J;simp only[cw,ho]at J
   first
    |(cases J;done)
    |(obtain⟨_,_,h⟩:=aj.1 J;cases h;done)
    |(repeat' split at J)<;>first|(cases J;done)|contradiction|(obtain⟨_,_,h⟩:=aj.1 J;(repeat' first|(cases h;done)|split at h)))
 unfold Si at hc;split at hc<;>try (cases hc;done)
 rotate_left
 ·rename_i k hk hl
  obtain⟨⟨rfl,a8⟩,rfl⟩:=cf hc;have Z:(y.map s.ev).length=y.length:=av ..
  have H:∀i,i<(y.map s.ev).length->((y.map s.ev).getD i .undef).one=true:=fun i hi=>by rw[aa,ac hi];exact aZ.1 a8 _ (aF _)
  have a1:∀v:SV,v.one=true->v.isDef=true/\v.cells=[v]:=fun v hv=>by cases v<;>first|(simp[SV.one]at hv;done)|exact⟨rfl,rfl⟩
  obtain⟨r,e,I,b0,F⟩:=rK hM ho J (fun i hi=>⟨(a1 _ (H i hi)).1,by rw[(a1 _ (H i hi)).2];rfl⟩)
  have a6:=hM.newObj (cv:=r) (d:=k+100) o.dst (by omega) (.rc (y.map s.ev)) (val:= .psl (k+100) 1 0 (y.map s.ev).length (some (y.map s.ev).length)) (u:= .slice (some ⟨w.heap.size,0,none⟩) y.length y.length) (t:=e) (by simp only[aG.size,Z];omega) (fun i hi=>by
   simp only[aG.size,Z]at hi;have h1:=F i (by omega);rw[Nat.div_one,Nat.mod_one,(a1 _ (H i (by omega))).2]at h1;exact h1) (by
   have:=Rep.psl (x:=x.newO (k+100) w.heap.size) (k+100) 1 0 y.length (some y.length) 0 y.length (.inr (by omega)) (aM _) (fun _ e=>by cases e;rfl) (fun e=>by cases e);rw[lH]at this;rw[Z];exact this)
  refine fc ⟨_,_,_,_,I,.inl rfl,a6⟩ (k:=Sim N _) ?_ hK;have:=hS.app hd (e:= {val:= .psl (k+100) 1 0 (y.map s.ev).length (some (y.map s.ev).length),new:=some (.rc (y.map s.ev))}) (f:= {pre:=True,val:= .psl (k+100) 1 0 (y.map s.ev).length (some (y.map s.ev).length),new:=some (.rc (y.map s.ev))}) ⟨rfl,rfl,rfl,rfl,rfl⟩ ⟨fun ob he=>by cases he;rfl,.inl rfl⟩;rw[hk]at this ⊢;exact this
 rename_i k l hk hl;cases hc;obtain⟨r,e,I,b0,a7,F⟩:=BO hM ho J hl
 have a6:=hM.newObj (d:=k+100) o.dst (by omega) (.arr sz l) (val:= .psl (k+100) sz 0 l.length (some l.length)) (u:= .slice (some ⟨w.heap.size,0,none⟩) l.length l.length) (t:=e) (by simp only[aG.size];omega) (fun i hi=>F i hi) (by have:=Rep.psl (x:=x.newO (k+100) w.heap.size) (k+100) sz 0 l.length (some l.length) 0 l.length (.inr (by omega)) (aM _) (fun _ e=>by cases e;rfl) (fun e=>by cases e);rwa[lH]at this)
 refine fc ⟨_,_,_,_,I,.inl rfl,a6⟩ (k:=Sim N _) ?_ hK;have:=hS.app hd (e:= {val:= .psl (k+100) sz 0 l.length (some l.length),new:=some (.arr sz l)}) (f:= {pre:=True,val:= .psl (k+100) sz 0 l.length (some l.length),new:=some (.arr sz l)}) ⟨rfl,rfl,rfl,rfl,rfl⟩ ⟨fun ob he=>by cases he;exact oj.2 a7,.inl rfl⟩;rw[hk]at this ⊢;exact this
theorem BX{ops:Array Oper}{n:Nat}{o:Oper}{i:SI}(h:M C N c a w)(hi:i.ok N=true)(ho:ops[n]? =some o)(hr:ia P ops o=some i)(H:py c i=some c'){K:LBc}{Q:LBb}
 (Z:∀a w,M C N c' a w->K a w):wpOp P ops Q n K a w:=by
 obtain⟨h1,h2,h3⟩:=mJ hr
 have I:∀k,i.dst=some k->k<N:=by intro k hk;unfold SI.ok at hi;rw[hk]at hi;simpa using hi
 unfold wpOp;rw[ho];simp only;unfold py at H;split at H<;>try (cases H;done)
 rename_i hg;rcases h3 with⟨_,a1⟩|⟨j,b,g,hg',_⟩
 ·rw[lV a1,if_pos rfl]
  rw[h2]at H I;left;unfold xek at H;split at H<;>try (cases H;done)
  ·rename_i sz J F
   exact BY h (h1.old (fun J e=>by rw[e]at F;cases F)|>fun e=>by rw[F]at e;exact e) I H Z
  ·rename_i J F
   exact sO h (h1.old (fun J e=>by rw[e]at F;cases F)|>fun e=>by rw[F]at e;exact e) I H Z
  ·rename_i q F
   exact B0 h (h1.old (fun J e=>by rw[e]at F;cases F)|>fun e=>by rw[F]at e;exact e) I H Z
  ·rename_i z a6 q y F
   exact BZ h (h1.old (fun J e=>by rw[e]at F;cases F)|>fun e=>by rw[F]at e;exact e) I H Z
 ·rw[hg]at hg';cases hg'
theorem Bu{ops:Array Oper}{n:Nat}{o:Oper}{i:SI}(h:M C N c a w)(hi:i.ok N=true)(I:ops[n]? =some o)(J:ia P ops o=some i)(y:Hs c i=some c'){K:LBc}{Q:LBb}
 (hK:∀a w,M C N c' a w->K a w):wpOp P ops Q n K a w:=by
 obtain⟨h1,h2,h3⟩:=mJ J
 have H:∀k,i.dst=some k->k<N:=by intro k hk;unfold SI.ok at hi;rw[hk]at hi;simpa using hi
 unfold wpOp;rw[I];simp only;unfold Hs at y;split at y<;>try (cases y;done)
 rename_i Z;rcases h3 with⟨_,F⟩|⟨j,b,g,hg',_⟩
 ·rw[lV F,if_pos rfl]
  rw[h2]at y H;left;unfold xee at y;split at y<;>try (cases y;done)
  ·rename_i q z
   exact Bv h (h1.old (fun xs e=>by rw[e]at z;cases z)|>fun e=>by rw[z]at e;exact e) H y hK
 ·rw[Z]at hg';cases hg'
theorem iq(H:ik P call){ops:Array Oper}{n:Nat}{o:Oper}{i:SI}(h:M C N c a w)(hi:i.ok N=true)(ho:ops[n]? =some o)(hr:ia P ops o=some i.er)(y:eO call sg c i=some c'){K:LBc}{Q:LBb}
 (Z:∀a w,M C N c' a w->K a w):wpOp P ops Q n K a w:=by
 obtain⟨h1,h2,h3⟩:=mJ hr;change vp P o i.op.er at h1;change i.dst=o.dst at h2;change (i.g=none/\o.guard=none\/∃j b g,i.g=some (g,b)/\o.guard=some (j,b)/\(ops[j]?).bind (·.dst)=some g)at h3
 have F:∀k,i.dst=some k->k<N:=by intro k hk;unfold SI.ok at hi;rw[hk]at hi;simpa using hi
 unfold wpOp;rw[ho];simp only;unfold eO at y;rcases h3 with⟨hg,z⟩|⟨j,b,g,hg,z,hdg⟩
 ·rw[hg]at y
  rw[lV z,if_pos rfl];rw[h2]at y F;exact .inl (vC H h h1 F y Z)
 ·rw[hg]at y
  simp only at y;split at y<;>try (cases y;done)
  rotate_left
  ·rename_i ht
   cases y;obtain⟨x,s,J,hS⟩:=h;rw[Ac z hdg (LU J hS ht),if_neg (by simp)];rw[h2]at F;rw[h2]at Z;exact Z _ _ ⟨x,_,J.put o.dst AF,hS.put F _⟩
  rename_i t ht;have hv:a.tmps[g]? =some (.bool t):=by obtain⟨x,s,J,hS⟩:=h;exact LS J hS ht
  rw[Ab z hdg hv];split at y
  ·rename_i I
   subst I;rw[if_pos (by simp)];rw[h2]at y F;exact .inl (vC H h h1 F y Z)
  ·rename_i I
   cases y;rw[if_neg (by simpa using I)];obtain⟨x,s,J,hS⟩:=h;rw[h2]at F;rw[h2]at Z;exact Z _ _ ⟨x,_,J.put o.dst AF,hS.put F _⟩
theorem kN(y:ik P call){ops:Array Oper}{n:Nat}{o:Oper}{i:SI}(h:M C N c a w)(hi:i.ok N=true)(F:ops[n]? =some o)(z:ia P ops o=some i)(I:eO call sg c i=some c'){K:LBc}{Q:LBb}
 (H:∀a w,M C N c' a w->K a w):wpOp P ops Q n K a w:=iq y h hi F (by rw[xbk z];exact z) I H
theorem kF{d:LAc}{g:Nat}{t:Bool}{v:SV}(y:d≠some g)(h:c.get g= .bool t):(c.put d v).get g= .bool t:=by
 cases d with
 |none=>exact h
 |some k=>rw[iI,if_neg (fun e=>y (by rw[e]))];exact h
theorem I8{d:LAc}{g:Nat}{u v:SV}(y:d≠some g)(h:c.get g=u):(c.put d v).get g=u:=by
 cases d with
 |none=>exact h
 |some k=>rw[iI,if_neg (fun e=>y (by rw[e]))];exact h
theorem nL{g lo hi:Nat}{t:Bool}{l:List (Nat×SV)}(h:fD l g= .bool t):fD (eA lo hi l) g= .bool t:=by rw[ie,h];rfl
theorem AY{d:LAc}{g:Nat}{t:Bool}{e:uX}(y:d≠some g)(h:c.get g= .bool t):(c.app d e).get g= .bool t:=by
 have wr:∀(l:List (Nat×aG))(c:CSt),(c.wr l).tm=c.tm:=by
  intro l;induction l with
  |nil=>intro c;rfl
  |cons p r z=>intro c;simp only[CSt.wr];rw[z]
 unfold CSt.app;split
 ·exact kF (c:=⟨_,_,_⟩) y (nL h)
 ·exact kF (c:=⟨_,_,_⟩) y (nL h)
 ·refine kF y ?_
  show fD (c.wr e.wr).tm g=_;rw[wr];exact h
theorem sR{d:LAc}{g:Nat}{t:Bool}{m mt:LAb}{q:eI}(y:d≠some g)(h:c.get g= .bool t):(lM c d m mt q).get g= .bool t:=kF (c:=⟨_,_,_⟩) y (nL h)
theorem nX{g o:Nat}{t:Bool}{vs:LAa}(h:c.get g= .bool t):(c.publish o vs).1.get g= .bool t:=by
 have k:∀y,fD (nU o y c.tm) g= .bool t:=fun y=>by rw[mw];have:fD c.tm g= .bool t:=h;rw[this];rfl
 unfold CSt.publish;split
 ·exact k _
 ·exact k _
 ·exact h
theorem qt{g:Nat}{t:Bool}:∀{l:LAb}{c:CSt}{vs:LAa},c.get g= .bool t->(fP c vs l).1.get g= .bool t
 |[],_,_,h=>h
 |o::r,c,vs,h=>by show(fP (c.publish o vs).1 (c.publish o vs).2 r).1.get g=_;exact qt (nX h)
theorem I9{sg:Sig}{d:LAc}{g n:Nat}{a_:LAa}{t:Bool}(y:jp call sg c d n a_=some c')(J:d≠some g)(h:c.get g= .bool t):c'.get g= .bool t:=by
 unfold jp at y;generalize ((SV.idsL a_).isEmpty&&sg.own.isEmpty)=b at y;cases b with
 |true=>
  simp only[lL]at y;cases hq:call n (SV.bareL a_) [] 0 with
  |none=>rw[hq]at y;cases y
  |some q=>
   rw[hq]at y;simp only[oP]at y;cases hb:q.bare with
   |true=>rw[hb]at y;cases y;exact kF J h
   |false=>
    rw[hb]at y;simp only[qQ]at y;cases hs:q.small with
    |true=>rw[hs]at y;cases y;exact sR J h
    |false=>rw[hs]at y;cases y
 |false=>
  simp only[lL]at y;have Z:=qt (l:=kh sg.raw 0 a_) (vs:=a_) h;generalize fP c a_ (kh sg.raw 0 a_)=z at y Z;obtain⟨c1,K⟩:=z;simp only[lB]at y;generalize lQ c1.tk sg.own 50 0 K=z at y;obtain⟨H,F⟩:=z;simp only[qJ]at y;generalize eP c1 60 [] (SV.idsL H)=m at y;cases ho:looks c1 m with
  |none=>rw[ho]at y;cases y
  |some Q=>
   rw[ho]at y;simp only[nG]at y;generalize fe c1.tk (50+F.length) Q=z at y;obtain⟨os,I⟩:=z;simp only[qI]at y;generalize (rB (SV.idsL H++gS os) m&&eB m&&eB (cI (F++I))&&decide (m.length<=40)&&m.all fun o=> !inR (d.getD 0) o)=b at y;cases b with
   |false=>cases y
   |true=>
    simp only[qH]at y;cases hq:call n (SV.renL (iD m) id H) (fo (iD m) id os) (F.length+I.length)with
    |none=>rw[hq]at y;cases y
    |some q=>
     rw[hq]at y;simp only[rH]at y;cases hs:q.small with
     |true=>rw[hs]at y;cases y;exact sR J Z
     |false=>rw[hs]at y;cases y
theorem SM{d:LAc}{g:Nat}{o:SOp}{t:Bool}(y:opC call sg c d o=some c')(z:d≠some g)(h:c.get g= .bool t):c'.get g= .bool t:=by
 have e:ri c d (fF c d o)=some c'->c'.get g= .bool t:=by
  intro y;cases he:fF c d o with
  |none=>rw[he]at y;cases y
  |some e=>rw[he]at y;cases y;exact AY z h
 cases o with
 |call f a_=>
  simp only[opC]at y;split at y<;>try (cases y;done)
  exact I9 y z h
 |newB F=>
  simp only[opC]at y;unfold qO at y;split at y<;>try (cases y;done)
  cases y;exact AY z h
 |slid q=>
  simp only[opC]at y;unfold u9 at y;split at y<;>try (cases y;done)
  unfold rI at y;split at y<;>try (cases y;done)
  split at y<;>try (cases y;done)
  cases y;exact kF z (nX h)
 |_=>exact e y
theorem AP{g:Nat}{b:Bool}{i:SI}(h:i.okG N g b=true):(∀k,i.dst=some k->k<N)/\i.g=some (g,b)/\i.dst≠some g:=by
 simp only[SI.okG,aE,decide_eq_true_eq]at h;obtain⟨⟨h1,h2⟩,h3⟩:=h;refine⟨fun k y=> ?_, ?_,h3⟩
 ·unfold SI.ok at h1;rw[y]at h1;simpa using h1
 ·split at h2
  ·rename_i H F z
   simp only[aE,decide_eq_true_eq,beq_iff_eq]at h2;rw[z,h2.1,h2.2]
  ·cases h2
theorem IZ(J:ik P call){ops:Array Oper}{y z:LAf}(hl:kY (ia P ops) ops.toList=some y){Q:LBb}{g:Nat}{b:Bool}{c1:CSt}
 (a6:∀(m n:Nat),n+m=ops.size->z=y.drop n->∀a w,M C N c1 a w->wpOps P ops Q (uY n m) a w):
 ∀(l:LAf)(m n:Nat)(c:CSt)(a:Act)(w:World),n+m=ops.size->l++z=y.drop n->(∀i∈l,i.okG N g b=true)->M C N c a w->c.get g= .bool b->plC call sg l c=some c1->wpOps P ops Q (uY n m) a w:=by
 obtain⟨I,a1⟩:=fS hl;intro l;induction l with
 |nil=>intro m n c a w hn H _ hM _ hs;rw[MG]at hs;cases hs;exact a6 m n hn H a w hM
 |cons i l a8=>
  intro m n c a w hn H Z hM ht hs;obtain⟨g1,g2,g3⟩:=AP (Z i (aD ..));simp only[aL]at H
  have F:n<y.length:=by
   rcases bq n y.length with h|h
   ·exact h
   ·rw[ez h]at H;cases H
  rw[bD F]at H;obtain⟨b3,b2⟩:=List.cons.inj H;have K:n<ops.toList.length:=by omega
  obtain⟨m',rfl⟩:∃m',m=m'+1:=⟨m-1,by rw[I,bf]at F;omega⟩;simp only[List.range'_succ];rw[wpOps_cons];rw[plC]at hs;cases h1:opC call sg c i.dst i.op with
  |none=>rw[h1,HS]at hs;cases hs
  |some c2=>
   rw[h1,HQ]at hs;have a7:eO call sg c i=some c2:=by unfold eO;rw[g2];simp only[ht,if_true];exact h1
   have b0:i.ok N=true:=by
    unfold SI.ok;cases hdd:i.dst with
    |none=>rfl
    |some k=>simpa using g1 k hdd
   refine kN J hM b0 (o:=ops.toList[n]) (by rw[<-dy,ac K]) (by rw[b3];exact a1 n K F) a7 ?_;intro a' w' b1;exact a8 m' (n+1) c2 a' w' (by omega) b2 (fun j hj=>Z j (an _ hj)) b1 (SM h1 g3 ht) hs
theorem vt(J:ik P call){ops:Array Oper}{y z:LAf}(hl:kY (ia P ops) ops.toList=some y){Q:LBb}{g:Nat}{b:Bool}{v:SV}(b4:v= .tup []\/∃t,v= .bool t/\t≠b){c1:CSt}
 (a6:∀(m n:Nat),n+m=ops.size->z=y.drop n->∀a w,M C N c1 a w->wpOps P ops Q (uY n m) a w):
 ∀(l:LAf)(m n:Nat)(c:CSt)(a:Act)(w:World),n+m=ops.size->l++z=y.drop n->(∀i∈l,i.okG N g b=true)->M C N c a w->c.get g=v->unL c l=c1->wpOps P ops Q (uY n m) a w:=by
 obtain⟨I,a1⟩:=fS hl;intro l;induction l with
 |nil=>intro m n c a w hn H _ hM _ hs;cases hs;exact a6 m n hn H a w hM
 |cons i l a8=>
  intro m n c a w hn H Z hM ht hs;obtain⟨g1,g2,g3⟩:=AP (Z i (aD ..));simp only[aL]at H
  have F:n<y.length:=by
   rcases bq n y.length with h|h
   ·exact h
   ·rw[ez h]at H;cases H
  rw[bD F]at H;obtain⟨b3,b2⟩:=List.cons.inj H;have K:n<ops.toList.length:=by omega
  obtain⟨m',rfl⟩:∃m',m=m'+1:=⟨m-1,by rw[I,bf]at F;omega⟩;simp only[List.range'_succ];rw[wpOps_cons]
  have a7:eO call (fun _=> {}) c i=some (c.put i.dst (.tup [])):=by
   unfold eO;rw[g2];simp only[ht];rcases b4 with rfl|⟨t,rfl,htb⟩
   ·rfl
   ·simp only[htb,if_false]
  have b0:i.ok N=true:=by
   unfold SI.ok;cases hdd:i.dst with
   |none=>rfl
   |some k=>simpa using g1 k hdd
  refine kN J hM b0 (o:=ops.toList[n]) (by rw[<-dy,ac K]) (by rw[b3];exact a1 n K F) a7 ?_;intro a' w' b1;exact a8 m' (n+1) _ a' w' (by omega) b2 (fun j hj=>Z j (an _ hj)) b1 (I8 g3 ht) hs
theorem B7(a8:ik P call){ops:Array Oper}{y:LAf}(hl:kY (ia P ops) ops.toList=some y){Q:LBb}:
 ∀(l:List RI)(m n:Nat),n+m=ops.size->erL l=y.drop n->l.all (RI.ok N)=true->∀{c:CSt}{a:Act}{w:World},M C N c a w->gU call sg l c=some c'->(∀a w,M C N c' a w->Q .normal a w)->wpOps P ops Q (uY n m) a w:=by
 obtain⟨a7,b2⟩:=fS hl;intro l;induction l with
 |nil=>
  intro m n hn F _ c a w hM z hQ;have h1:y.length<=n:=List.drop_eq_nil_iff.1 F.symm;rw[a7,bf]at h1;have:m=0:=by omega
  subst this;simp only[List.range'_zero,wpOps];rw[HK]at z;cases z;exact hQ _ _ hM
 |cons q r ih=>
  intro m n hn F b5 c a w hM z hQ;rw[List.all_cons,aE]at b5;obtain⟨a6,J⟩:=b5;cases q with
  |dir q=>
   rw[HN]at z;cases hd:wb c q with
   |none=>rw[hd,nj]at z;cases z
   |some c1=>rw[hd,ni,tT]at z;exact ih m n hn F J (tr hM hd) z hQ
  |own i H=>
   rw[HJ]at z;simp only[erL]at F
   have I:n<y.length:=by
    rcases bq n y.length with h|h
    ·exact h
    ·rw[ez h]at F;cases F
   rw[bD I]at F;obtain⟨b1,b0⟩:=List.cons.inj F;have a1:n<ops.toList.length:=by omega
   obtain⟨m',rfl⟩:∃m',m=m'+1:=⟨m-1,by rw[a7,bf]at I;omega⟩;simp only[List.range'_succ];rw[wpOps_cons];cases hs:py c i with
   |none=>rw[hs,nj]at z;cases z
   |some c1=>rw[hs,ni]at z;refine BX hM a6 (o:=ops.toList[n]) (by rw[<-dy,ac a1]) (by rw[b1];exact b2 n a1 I) hs ?_;intro a' w' Z;exact ih m' (n+1) (by omega) b0 J (Z.kill H) z hQ
  |tks i H=>
   rw[HI]at z;simp only[erL]at F
   have I:n<y.length:=by
    rcases bq n y.length with h|h
    ·exact h
    ·rw[ez h]at F;cases F
   rw[bD I]at F;obtain⟨b1,b0⟩:=List.cons.inj F;have a1:n<ops.toList.length:=by omega
   obtain⟨m',rfl⟩:∃m',m=m'+1:=⟨m-1,by rw[a7,bf]at I;omega⟩;simp only[List.range'_succ];rw[wpOps_cons];cases hs:Hs c i with
   |none=>rw[hs,nj]at z;cases z
   |some c1=>rw[hs,ni]at z;refine Bu hM a6 (o:=ops.toList[n]) (by rw[<-dy,ac a1]) (by rw[b1];exact b2 n a1 I) hs ?_;intro a' w' Z;exact ih m' (n+1) (by omega) b0 J (Z.kill H) z hQ
  |op i H=>
   rw[MJ]at z;simp only[erL]at F
   have I:n<y.length:=by
    rcases bq n y.length with h|h
    ·exact h
    ·rw[ez h]at F;cases F
   rw[bD I]at F;obtain⟨b1,b0⟩:=List.cons.inj F;have a1:n<ops.toList.length:=by omega
   obtain⟨m',rfl⟩:∃m',m=m'+1:=⟨m-1,by rw[a7,bf]at I;omega⟩;simp only[List.range'_succ];rw[wpOps_cons];cases hs:eO call sg c i with
   |none=>rw[hs,nj]at z;cases z
   |some c1=>rw[hs,ni]at z;refine kN a8 hM a6 (o:=ops.toList[n]) (by rw[<-dy,ac a1]) (by rw[b1];exact b2 n a1 I) hs ?_;intro a' w' Z;exact ih m' (n+1) (by omega) b0 J (Z.kill H) z hQ
  |grp g b l H=>
   rw[HM]at z;cases hs:sX call sg b l c (c.get g)with
   |none=>rw[hs,nj]at z;cases z
   |some c1=>
    rw[hs,ni]at z;unfold sX at hs;have b6:=hs;split at hs<;>try (cases hs;done)
    rotate_left
    ·rename_i ht
     have K:∀i∈l,i.okG N g b=true:=by simpa[RI.ok]using a6
     have b3:∀(m n:Nat),n+m=ops.size->erL r=y.drop n->∀a w,M C N c1 a w->wpOps P ops Q (uY n m) a w:=fun m n hn F a w Z=>ih m n hn F J (Z.kill H) z hQ
     simp only[erL]at F;cases hs;exact vt a8 hl (.inl rfl) b3 l m n c a w hn F K hM ht rfl
    rename_i t ht;have K:∀i∈l,i.okG N g b=true:=by simpa[RI.ok]using a6
    have b3:∀(m n:Nat),n+m=ops.size->erL r=y.drop n->∀a w,M C N c1 a w->wpOps P ops Q (uY n m) a w:=fun m n hn F a w Z=>ih m n hn F J (Z.kill H) z hQ
    simp only[erL]at F;split at hs
    ·rename_i b4
     exact IZ a8 hl b3 l m n c a w hn F K hM (by rw[ht,b4]) hs
    ·rename_i b4
     cases hs;exact vt a8 hl (.inr ⟨t,rfl,b4⟩) b3 l m n c a w hn F K hM ht rfl
abbrev TM:=List (Nat×SV)
structure Uni(d:Option Nat)(F:TM->TM):Prop where
 get:∀tm tm' n,fD tm n=fD tm' n->fD (F tm) n=fD (F tm') n
 dom:∀tm p,p∈F tm->(∃q∈tm,q.1=p.1)\/d=some p.1
theorem Uni.id{d:LAc}:Uni d (fun t=>t):=⟨fun _ _ _ h=>h,fun _ p y=> .inl ⟨p,y,rfl⟩⟩
theorem Uni.comp{d:LAc}{F G:TM->TM}(H:Uni d F)(z:Uni d G):Uni d (fun t=>G (F t)):=
 ⟨fun _ _ _ h=>z.get _ _ _ (H.get _ _ _ h),fun tm p I=>by
  rcases z.dom _ _ I with⟨q,J,e⟩|h
  ·rcases H.dom _ _ J with⟨Q,y,K⟩|h
   ·exact .inl ⟨Q,y,K.trans e⟩
   ·exact .inr (by rw[h,e])
  ·exact .inr h⟩
theorem Uni.purge{d:LAc}(lo hi:Nat):Uni d (eA lo hi):=
 ⟨fun tm tm' n h=>by rw[ie,ie,h],fun tm p y=>by obtain⟨q,z,e⟩:=kW y;exact .inl ⟨q,z,e.symm⟩⟩
theorem Uni.pub{d:LAc}(o:Nat)(y:aG):Uni d (nU o y):=
 ⟨fun tm tm' n h=>by rw[mw,mw,h],fun tm p z=>by obtain⟨q,F,e⟩:=tP z;exact .inl ⟨q,F,e.symm⟩⟩
theorem Uni.put(k:Nat)(v:SV):Uni (some k) (fun t=>lr t k v):=
 ⟨fun tm tm' n h=>by
  simp only[oN];rw[h],fun tm p y=>by
  rcases oJ y with e|e
  ·exact .inr (by rw[e])
  ·exact .inl ⟨p,e,rfl⟩⟩
theorem Uni.weak{d:LAc}{F:TM->TM}(h:Uni none F):Uni d F:=⟨h.get,fun tm p y=>by
 rcases h.dom tm p y with h|h
 ·exact .inl h
 ·cases h⟩
theorem Uni.cput(d:LAc)(v:SV):∃F,Uni d F/\∀tm ob tk,CSt.put ⟨tm,ob,tk⟩ d v=⟨F tm,ob,tk⟩:=by
 cases d with
 |none=>exact⟨fun t=>t,Uni.id,fun _ _ _=>rfl⟩
 |some k=>exact⟨fun t=>lr t k v,Uni.put k v,fun _ _ _=>rfl⟩
section
variable {tm tm':TM}{ob:List (Nat × aG)}{tk:List Nat}
theorem oF:∀(n:Nat)(y l:LAb),eP ⟨tm',ob,tk⟩ n y l=eP ⟨tm,ob,tk⟩ n y l
 |0,_,_=>rfl
 |_+1,_,[]=>rfl
 |n+1,y,o::t=>by
  simp only[eP];show(if _ then _ else match jK ob o with|some z=>_|none=>_)=(if _ then _ else match jK ob o with|some z=>_|none=>_);split
  ·exact oF n _ _
  ·split
   ·exact oF n _ _
   ·exact oF n _ _
theorem AV:∀l:LAb,looks ⟨tm',ob,tk⟩ l=looks ⟨tm,ob,tk⟩ l
 |[]=>rfl
 |o::r=>by simp only[looks];rw[AV r];rfl
theorem qj(o:Nat)(vs:LAa):∃F y tk' z,Uni none F/\∀tm,CSt.publish ⟨tm,ob,tk⟩ o vs=(⟨F tm,y,tk'⟩,z):=by
 unfold CSt.publish CSt.look;simp only;split
 ·exact⟨_,_,_,_,Uni.pub _ _,fun _=>rfl⟩
 ·exact⟨_,_,_,_,Uni.pub _ _,fun _=>rfl⟩
 ·exact⟨_,_,_,_,Uni.id,fun _=>rfl⟩
theorem sH:∀(l:LAb)(ob:List (Nat×aG))(tk:LAb)(vs:LAa),∃F J tk' I,Uni none F/\∀tm,fP ⟨tm,ob,tk⟩ vs l=(⟨F tm,J,tk'⟩,I)
 |[],ob,tk,vs=>⟨_,_,_,_,Uni.id,fun _=>rfl⟩
 |o::r,ob,tk,vs=>by obtain⟨F,y,z,H,h1,h2⟩:=qj (ob:=ob) (tk:=tk) o vs;obtain⟨G,K,Z,Q,h3,h4⟩:=sH r y z H;refine⟨fun t=>G (F t),K,Z,Q,h1.comp h3,fun tm=> ?_⟩;simp only[fP];rw[h2];exact h4 _
theorem tC(d:LAc)(m mt:LAb)(q:eI):∃F y tk',Uni d F/\∀tm,lM ⟨tm,ob,tk⟩ d m mt q=⟨F tm,y,tk'⟩:=by unfold lM;dsimp only;obtain⟨F,h1,h2⟩:=Uni.cput d (q.r.ren (km (d.getD 0) m) (nI (d.getD 0)));exact⟨_,_,_,(Uni.purge ((d.getD 0+1)*1000) ((d.getD 0+2)*1000)).comp h1,fun tm=>h2 _ _ _⟩
theorem KI{sg:Sig}{d:LAc}{g:Nat}{a_:LAa}:∃F,Uni d F/\∃q:Option (List (Nat×aG)×LAb),∀tm,lB call sg d g (⟨tm,ob,tk⟩,a_)=q.map fun q=>⟨F tm,q.1,q.2⟩:=by
 simp only[lB];generalize lQ tk sg.own 50 0 a_=z;obtain⟨y,H⟩:=z;simp only[qJ];have Q:∀tm,eP ⟨tm,ob,tk⟩ 60 [] (SV.idsL y)=eP ⟨[],ob,tk⟩ 60 [] (SV.idsL y):=fun tm=>oF _ _ _
 have Z:∀tm l,looks ⟨tm,ob,tk⟩ l=looks ⟨[],ob,tk⟩ l:=fun tm l=>AV l
 simp only[Q,Z];generalize eP ⟨[],ob,tk⟩ 60 [] (SV.idsL y)=m;cases ho:looks ⟨[],ob,tk⟩ m with
 |none=>exact⟨_,Uni.id,none,fun _=>rfl⟩
 |some K=>
  simp only[nG];generalize fe tk (50+H.length) K=z2;obtain⟨os,I⟩:=z2;simp only[qI];generalize (rB (SV.idsL y++gS os) m&&eB m&&eB (cI (H++I))&&decide (m.length<=40)&&m.all fun o=> !inR (d.getD 0) o)=b;cases b with
  |false=>exact⟨_,Uni.id,none,fun _=>rfl⟩
  |true=>
   simp only[qH];cases hq:call g (SV.renL (iD m) _root_.id y) (fo (iD m) _root_.id os) (H.length+I.length)with
   |none=>exact⟨_,Uni.id,none,fun _=>rfl⟩
   |some q=>
    simp only[rH];generalize q.small=b;cases b with
    |false=>exact⟨_,Uni.id,none,fun _=>rfl⟩
    |true=>obtain⟨F,J,tk',h1,h2⟩:=tC (ob:=ob) (tk:=tk) d m (cI (H++I)) q;exact⟨F,h1,some (J,tk'),fun tm=>by simp only[BC,bz,h2]⟩
theorem wj{sg:Sig}{d:LAc}{g:Nat}{a_:LAa}:∃F,Uni d F/\∃q:Option (List (Nat×aG)×LAb),∀tm,jp call sg ⟨tm,ob,tk⟩ d g a_=q.map fun q=>⟨F tm,q.1,q.2⟩:=by
 unfold jp;generalize ((SV.idsL a_).isEmpty&&sg.own.isEmpty)=b;cases b with
 |true=>
  simp only[lL];cases hq:call g (SV.bareL a_) [] 0 with
  |none=>exact⟨_,Uni.id,none,fun _=>rfl⟩
  |some q=>
   simp only[oP];generalize q.bare=b;cases b with
   |true=>simp only[qQ];obtain⟨F,h1,h2⟩:=Uni.cput d q.r;exact⟨F,h1,some (ob,tk),fun tm=>by rw[h2];rfl⟩
   |false=>
    simp only[qQ];generalize q.small=b;cases b with
    |false=>exact⟨_,Uni.id,none,fun _=>rfl⟩
    |true=>obtain⟨F,I,tk',h1,h2⟩:=tC (ob:=ob) (tk:=tk) d [] [] q;exact⟨F,h1,some (I,tk'),fun tm=>by simp only[Cp,h2];rfl⟩
 |false=>simp only[lL];obtain⟨F,y,z,H,h1,h2⟩:=sH (kh sg.raw 0 a_) ob tk a_;obtain⟨G,h3,q,h4⟩:=KI (call:=call) (ob:=y) (tk:=z) (sg:=sg) (d:=d) (g:=g) (a_:=H);exact⟨fun t=>G (F t),h1.weak.comp h3,q,fun tm=>by rw[h2];exact h4 _⟩
theorem Mt:∀(l:List (Nat×aG))(tm:TM)(ob:List (Nat×aG))(tk:LAb),CSt.wr ⟨tm,ob,tk⟩ l=⟨tm,(CSt.wr ⟨[],ob,tk⟩ l).ob,tk⟩
 |[],_,_,_=>rfl
 |p::r,tm,ob,tk=>by simp only[CSt.wr];exact Mt r tm _ tk
theorem Il(d:LAc)(e:uX):∃F y tk',Uni d F/\∀tm,CSt.app ⟨tm,ob,tk⟩ d e=⟨F tm,y,tk'⟩:=by
 unfold CSt.app;dsimp only;obtain⟨F,h1,h2⟩:=Uni.cput d e.val;split
 ·exact⟨_,_,_,(Uni.purge (d.getD 0+100) (d.getD 0+101)).comp h1,fun tm=>h2 _ _ _⟩
 ·exact⟨_,_,_,(Uni.purge (d.getD 0+100) (d.getD 0+101)).comp h1,fun tm=>h2 _ _ _⟩
 ·exact⟨F,(CSt.wr ⟨[],ob,tk⟩ e.wr).ob,tk,h1,fun tm=>by rw[Mt];exact h2 _ _ _⟩
theorem xbj{x:Arg}(h:∀n,x= .t n->fD tm' n=fD tm n):CSt.ev ⟨tm',ob,tk⟩ x=CSt.ev ⟨tm,ob,tk⟩ x:=by
 cases x with
 |t n=>exact h n rfl
 |c v=>rfl
 |f g=>rfl
theorem oo:∀{l:List Arg},(∀x∈l,CSt.ev ⟨tm',ob,tk⟩ x=CSt.ev ⟨tm,ob,tk⟩ x)->evL ⟨tm',ob,tk⟩ l=evL ⟨tm,ob,tk⟩ l
 |[],_=>rfl
 |x::r,h=>by simp only[evL];rw[h x (aD ..),oo fun y z=>h y (an _ z)]
theorem MF:∀{l:List (Nat×Nat×Arg)},(∀x∈l.map (fun p=>p.2.2),CSt.ev ⟨tm',ob,tk⟩ x=CSt.ev ⟨tm,ob,tk⟩ x)->psC ⟨tm',ob,tk⟩ l=psC ⟨tm,ob,tk⟩ l
 |[],_=>rfl
 |(o,n,x)::r,h=>by simp only[psC];rw[h x (by simp),MF fun y z=>h y (by simp only[ax,aq];exact .inr z)]
theorem pz{x:Option Arg}{d:Int}(h:∀y∈x.toList,CSt.ev ⟨tm',ob,tk⟩ y=CSt.ev ⟨tm,ob,tk⟩ y):mg ⟨tm',ob,tk⟩ x d=mg ⟨tm,ob,tk⟩ x d:=by
 cases x with
 |none=>rfl
 |some y=>simp only[mg];rw[h y (by simp)]
theorem QL{sz:Nat}{v:SV}{lo hi z:Option Arg}(h1:∀y∈lo.toList,CSt.ev ⟨tm',ob,tk⟩ y=CSt.ev ⟨tm,ob,tk⟩ y)(h2:∀y∈hi.toList,CSt.ev ⟨tm',ob,tk⟩ y=CSt.ev ⟨tm,ob,tk⟩ y)(h3:∀y∈z.toList,CSt.ev ⟨tm',ob,tk⟩ y=CSt.ev ⟨tm,ob,tk⟩ y):
 ur ⟨tm',ob,tk⟩ sz v lo hi z=ur ⟨tm,ob,tk⟩ sz v lo hi z:=by
 unfold ur;simp only[pz h1,pz h2,pz h3]
theorem Hp{o:SOp}(h:∀y∈o.args,CSt.ev ⟨tm',ob,tk⟩ y=CSt.ev ⟨tm,ob,tk⟩ y):du ⟨tm',ob,tk⟩ o=du ⟨tm,ob,tk⟩ o:=by
 cases o with
 |build z I=>simp only[SOp.args]at h;simp only[du];rw[MF h]
 |lit sz H=>simp only[SOp.args]at h;simp only[du];rw[oo h]
 |litB H=>simp only[SOp.args]at h;simp only[du];rw[oo h]
 |mkfn f a b=>simp only[SOp.args,am]at h;simp only[du];rw[oo fun y F=>h y (.inl F),oo fun y F=>h y (.inr F)]
 |slcS x lo hi=>simp only[SOp.args,aq,am]at h;simp only[du];rw[h x (.inl rfl)];simp only[pz fun y F=>h y (.inr (.inl F)),pz fun y F=>h y (.inr (.inr F))]
 |slcL sz x lo hi J=>simp only[SOp.args,aq,am]at h;simp only[du];rw[h x (.inl rfl),QL (fun y F=>h y (.inr (.inl (.inl F)))) (fun y F=>h y (.inr (.inl (.inr F)))) (fun y F=>h y (.inr (.inr F)))]
 |_=>
  simp only[SOp.args,aq,cY,or_false,forall_eq_or_imp,forall_eq,bC]at h
  first
   |rfl
   |(simp only[du];rw[h];rfl)
   |(simp only[du];rw[h.1,h.2];rfl)
   |(simp only[du,h];done)
   |(simp only[du,h.1,h.2];done)
theorem IA{n:Nat}{v:LAa}{u:SV}:mV ⟨tm',ob,tk⟩ n v u=mV ⟨tm,ob,tk⟩ n v u:=by
 cases u<;>rfl
theorem Tw{d:LAc}{o:SOp}(h:∀y∈o.args,CSt.ev ⟨tm',ob,tk⟩ y=CSt.ev ⟨tm,ob,tk⟩ y):fF ⟨tm',ob,tk⟩ d o=fF ⟨tm,ob,tk⟩ d o:=by
 have hv:=Hp h;cases o with
 |new ob=>rfl
 |call f a_=>rfl
 |box x=>simp only[SOp.args,aq,cY,or_false,forall_eq]at h;simp only[fF];rw[h]
 |mk z b n m=>simp only[SOp.args,aq,cY,or_false,forall_eq_or_imp,forall_eq]at h;simp only[fF];rw[h.1,h.2]
 |mkB n m=>simp only[SOp.args,aq,cY,or_false,forall_eq_or_imp,forall_eq]at h;simp only[fF];rw[h.1,h.2]
 |store n a x=>simp only[SOp.args,aq,cY,or_false,forall_eq_or_imp,forall_eq]at h;simp only[fF];rw[h.1,h.2,IA]
 |app z b x y=>
  simp only[SOp.args,aq,cY,or_false,forall_eq_or_imp,forall_eq]at h;have F:∀v,gn ⟨tm',ob,tk⟩ v=gn ⟨tm,ob,tk⟩ v:=fun v=>by cases v<;>rfl
  have H:∀n v,lF ⟨tm',ob,tk⟩ n v=lF ⟨tm,ob,tk⟩ n v:=fun n v=>by cases v<;>rfl
  have I:∀t:Tok,t.readyC ⟨tm',ob,tk⟩=t.readyC ⟨tm,ob,tk⟩:=fun t=>by cases t<;>rfl
  simp only[fF];rw[h.1,h.2];simp only[F,H,I]
 |cpy sz x y=>
  simp only[SOp.args,aq,cY,or_false,forall_eq_or_imp,forall_eq]at h;have F:∀v,gn ⟨tm',ob,tk⟩ v=gn ⟨tm,ob,tk⟩ v:=fun v=>by cases v<;>rfl
  have H:∀n v,lF ⟨tm',ob,tk⟩ n v=lF ⟨tm,ob,tk⟩ n v:=fun n v=>by cases v<;>rfl
  simp only[fF];rw[h.1,h.2];simp only[F,H];rfl
 |pick k a b=>simp only[SOp.args,aq,cY,or_false,forall_eq_or_imp,forall_eq]at h;simp only[fF];rw[h.1,h.2.1,h.2.2]
 |_=>simp only[fF];rw[hv]
theorem HO{d:LAc}{o:SOp}(h:∀y∈o.args,CSt.ev ⟨tm',ob,tk⟩ y=CSt.ev ⟨tm,ob,tk⟩ y)(z:opC call sg ⟨tm,ob,tk⟩ d o=some c'):∃F,Uni d F/\c'.tm=F tm/\opC call sg ⟨tm',ob,tk⟩ d o=some ⟨F tm',c'.ob,c'.tk⟩:=by
 by_cases Q:∃f a_,o= .call f a_
 ·obtain⟨f,a_,rfl⟩:=Q
  simp only[opC]at z ⊢;simp only[SOp.args,aq]at h;rw[h f (.inl rfl),oo fun y hy=>h y (.inr hy)];split at z<;>try (cases z;done)
  obtain⟨F,h1,q,h2⟩:=wj (call:=call) (ob:=ob) (tk:=tk) (sg:=sg ‹_›) (d:=d) (g:= ‹_›) (a_:= ‹LAa› ++evL ⟨tm,ob,tk⟩ a_++ ‹LAa›);rename_i g u v a7;obtain⟨F,h1,q,h2⟩:=wj (call:=call) (ob:=ob) (tk:=tk) (sg:=sg g) (d:=d) (g:=g) (a_:=u++evL ⟨tm,ob,tk⟩ a_++v);rw[h2]at z;cases q with
  |none=>cases z
  |some q=>simp only[bz,ay.injEq]at z;subst z;exact⟨F,h1,rfl,by rw[h2];rfl⟩
 by_cases Z:∃xs,o= .newB xs
 ·obtain⟨xs,rfl⟩:=Z
  simp only[opC]at z ⊢;simp only[SOp.args]at h;rw[oo h];unfold qO at z ⊢;split at z<;>try (cases z;done)
  rename_i k l hk;cases z;obtain⟨F,K,tk',h1,h2⟩:=Il (ob:=ob) (tk:=tk) (some k) {val:= .psl (k+100) 1 0 l.length (some l.length),new:=some (.bar l)};exact⟨F,h1,by rw[h2],by simp only[h2]⟩
 by_cases J:∃q,o= .slid q
 ·obtain⟨q,rfl⟩:=J
  simp only[opC]at z ⊢;rw[h q (by simp[SOp.args])];generalize CSt.ev ⟨tm,ob,tk⟩ q=v at z;unfold u9 at z;split at z<;>try (cases z;done)
  rename_i I off n cap;show ∃F,_/\_/\rI _ d I off n cap (CSt.look ⟨tm',ob,tk⟩ I)=_;have a1:CSt.look ⟨tm',ob,tk⟩ I=CSt.look ⟨tm,ob,tk⟩ I:=rfl;rw[a1];generalize CSt.look ⟨tm,ob,tk⟩ I=u at z;unfold rI at z;split at z<;>try (cases z;done)
  split at z<;>try (cases z;done)
  rename_i l H;cases z;obtain⟨F,K,tk',a6,h1,h2⟩:=qj (ob:=ob) (tk:=tk) I [];obtain⟨G,g1,g2⟩:=Uni.cput d (.byt ((l.drop off).take n) .clip);refine⟨fun t=>G (F t),h1.weak.comp g1, ?_, ?_⟩
  ·rw[h2 tm];rw[g2]
  ·simp only[rI,if_pos H,h2,g2]
 ·have e:∀c,opC call sg c d o=ri c d (fF c d o):=by
   intro c;cases o<;>first|rfl|exact absurd ⟨_,_,rfl⟩ Q|exact absurd ⟨_,rfl⟩ Z|exact absurd ⟨_,rfl⟩ J
  rw[e]at z;rw[e,Tw h];cases he:fF ⟨tm,ob,tk⟩ d o with
  |none=>rw[he]at z;cases z
  |some q=>rw[he]at z;simp only[ri,ay.injEq]at z ⊢;obtain⟨F,K,tk',h1,h2⟩:=Il (ob:=ob) (tk:=tk) d q;rw[h2]at z;subst z;exact⟨F,h1,rfl,h2 _⟩
theorem yN{i:SI}(h:∀n∈i.rds,fD tm' n=fD tm n):∀y∈i.op.args,CSt.ev ⟨tm',ob,tk⟩ y=CSt.ev ⟨tm,ob,tk⟩ y:=by
 intro y z;refine xbj fun n F=>h n ?_
 subst F;unfold SI.rds;rw[am];exact .inl (List.mem_filterMap.2 ⟨_,z,rfl⟩)
theorem Ux{i:SI}{g:Nat}{b:Bool}(y:i.g=some (g,b)):g∈i.rds:=by unfold SI.rds;rw[y];simp
theorem IC{i:SI}(h:∀n∈i.rds,fD tm' n=fD tm n)(y:eO call sg ⟨tm,ob,tk⟩ i=some c'):∃F,Uni i.dst F/\c'.tm=F tm/\eO call sg ⟨tm',ob,tk⟩ i=some ⟨F tm',c'.ob,c'.tk⟩:=by
 unfold eO at y ⊢;split at y
 ·exact HO (yN h) y
 ·rename_i g b H
  have e:CSt.get ⟨tm',ob,tk⟩ g=CSt.get ⟨tm,ob,tk⟩ g:=h g (Ux H);rw[e];split at y<;>try (cases y;done)
  rotate_left
  ·obtain⟨F,h1,h2⟩:=Uni.cput i.dst (.tup [])
   rw[h2]at y;cases y;exact⟨F,h1,rfl,by rw[h2]⟩
  split at y
  ·rename_i z
   obtain⟨F,h1,h2,h3⟩:=HO (yN h) y;exact⟨F,h1,h2,by simp only[if_pos z];exact h3⟩
  ·rename_i z
   obtain⟨F,h1,h2⟩:=Uni.cput i.dst (.tup []);rw[h2]at y;cases y;exact⟨F,h1,rfl,by simp only[if_neg z];rw[h2]⟩
theorem Ug{i:SI}(h:∀n∈i.rds,fD tm' n=fD tm n):qv ⟨tm',ob,tk⟩ i=qv ⟨tm,ob,tk⟩ i:=by
 have z:eh ⟨tm',ob,tk⟩ i.op=eh ⟨tm,ob,tk⟩ i.op:=by
  have y:=yN (ob:=ob) (tk:=tk) h;generalize i.op=o at y;have hv:=Hp y;cases o with
  |pick k a b=>simp only[SOp.args,aq,cY,or_false,forall_eq_or_imp,forall_eq]at y;simp only[eh];rw[y.1,y.2.1,y.2.2]
  |_=>simp only[eh];rw[hv]
 unfold qv;cases hg:i.g with
 |none=>exact z
 |some p=>obtain⟨g,b⟩:=p;simp only;have e:CSt.get ⟨tm',ob,tk⟩ g=CSt.get ⟨tm,ob,tk⟩ g:=h g (Ux hg);rw[e];cases CSt.get ⟨tm,ob,tk⟩ g<;>first|rfl|(simp only[qg];rw[z])
end
theorem rC{i:SI}{v:SV}(h:qv c i=some v):eO call sg c i=some (c.put i.dst v):=by
 have z:∀o,eh c o=some v->opC call sg c i.dst o=some (c.put i.dst v):=by
  intro o y;cases o with
  |pick k a b=>simp only[eh]at y;split at y<;>cases y;rename_i t I;simp only[opC,fF,I,ri];rfl
  |_=>
   simp only[eh]at y
   first
    |(simp only[du]at y;cases y;done)
    |(simp only[opC,fF];rw[y];rfl)
    |(simp[du]at y;done)
 unfold qv at h;unfold eO;generalize i.g=q at h;cases q with
 |none=>exact z _ h
 |some q=>
  obtain⟨g,b⟩:=q;simp only at h ⊢;generalize c.get g=u at h
  by_cases H:u= .tup []
  ·subst H
   simp only[qg,ay.injEq]at h;subst h;rfl
  obtain⟨t,rfl⟩:∃t,u= .bool t:=by
   unfold qg at h;split at h
   ·exact⟨_,rfl⟩
   ·exact absurd rfl H
   ·cases h
  simp only[qg]at h ⊢;split at h
  ·rename_i F;rw[if_pos F];exact z _ h
  ·rename_i F;rw[if_neg F];cases h;rfl
structure Apx(N:Nat)(D:List Nat)(c p:CSt):Prop where
 get:∀n,n∉D->c.get n=p.get n
 ob:c.ob=p.ob
 tk:c.tk=p.tk
 dom:∀q∈p.tm,q.1<N
theorem Apx.step{D:LAb}{p p1:CSt}{i:SI}(h:Apx N D c p)(hi:i.ok N=true)(I:∀n∈i.rds,n∉D)(hs:eO call sg p i=some p1):∃c1,eO call sg c i=some c1/\Apx N D c1 p1:=by
 obtain⟨tm',J,tk'⟩:=c;obtain⟨tm,ob,tk⟩:=p;have h1:=h.ob;have h2:=h.tk;simp only at h1 h2;subst h1;subst h2;obtain⟨F,k1,k2,K⟩:=IC (tm':=tm') (fun n y=>h.get n (I n y)) hs;refine⟨_,K,⟨fun n y=> ?_,rfl,rfl,fun q H=> ?_⟩⟩
 ·show fD (F tm') n=fD p1.tm n
  rw[k2];exact k1.get _ _ _ (h.get n y)
 ·rw[k2]at H
  rcases k1.dom _ _ H with⟨Q,z,e⟩|e
  ·rw[<-e];exact h.dom Q z
  ·unfold SI.ok at hi
   rw[e]at hi;simpa using hi
theorem Apx.qv{D:LAb}{p:CSt}{i:SI}(h:Apx N D c p)(z:∀n∈i.rds,n∉D):qv c i=qv p i:=by obtain⟨tm',y,tk'⟩:=c;obtain⟨tm,ob,tk⟩:=p;have h1:=h.ob;have h2:=h.tk;simp only at h1 h2;subst h1;subst h2;exact Ug fun n F=>h.get n (z n F)
theorem Apx.put{D:LAb}{p:CSt}{d:Nat}{v:SV}(h:Apx N D c p)(z:d<N):Apx N (d::D) c (p.put (some d) v):=by
 refine⟨fun n y=> ?_,h.ob,h.tk,fun q F=> ?_⟩
 ·simp only[aq,not_or]at y
  rw[iI,if_neg y.1];exact h.get n y.2
 ·rcases oJ F with e|e
  ·rw[e];exact z
  ·exact h.dom q e
theorem MD{p:CSt}{d:Nat}{v:SV}{i:SI}(h:d∉i.rds):Sy.qv (p.put (some d) v) i=Sy.qv p i:=by
 obtain⟨tm,ob,tk⟩:=p;refine Ug (tm:=tm) (tm':=lr tm d v) fun n y=> ?_
 rw[oN,if_neg (by intro e;subst e;exact h y)]
theorem tX{α:Type}{p:Prop}{v u:α}(h:gdP p v=some u):p/\v=u:=by
 unfold gdP at h;split at h
 ·rename_i y;exact⟨y,by simpa using h⟩
 ·cases h
theorem ua{m:Nat}{p:CSt}{f:FI}:∀{l:List FI},yG m p l->f∈l->m.testBit f.n=true\/qv p f.i=some (p.get (f.i.dst.getD 0))
 |g::r,h,hf=>by
  rcases aq.1 hf with rfl|hf
  ·rcases h.1 with h1|h1
   ·left
    rw[Nat.testBit_eq_decide_div_mod_eq];simpa using h1
   ·exact .inr h1
  ·exact ua h.2 hf
def Nx(g q:FI):Prop:=q.q=true->∀d,q.i.dst=some d->d∉g.i.rds/\g.i.dst≠some d
def CA(q:FI):Prop:=q.q=true->∃d,q.i.dst=some d/\d∉q.i.rds
def dOf(f:FI):Nat:=f.i.dst.getD 0
theorem pL{b:LAb}{cF:CSt}:∀{r I V:List FI}{p:CSt}{D:LAb},gh call sg b r I p=some cF->Apx N D c p->(∀f∈r,f.i.ok N=true)->(∀f∈r,CA f)->r.Pairwise Nx->(∀g∈V,∀f∈r,Nx g f)->
 (∀g∈V,∃d,g.i.dst=some d)->(∀g∈V,qv p g.i=some (p.get (dOf g)))->∃seg post p2 F,r=seg++post/\(∀f∈seg,f.q=true)/\(post=[]\/∃f r',post=f::r'/\f.q=false)/\gh call sg b post F p2=some cF/\
  (∀f,f∈I\/f∈seg->f∈F)/\Apx N (seg.map dOf++D) c p2/\∀g,g∈V\/g∈seg->qv p2 g.i=some (p2.get (dOf g))
 |[],I,V,p,D,h,hA,_,_,_,_,_,hV=>⟨[],[],p,I,rfl,by simp,.inl rfl,h,by simp,by simpa using hA,by simpa using hV⟩
 |f::r,I,V,p,D,h,hA,hok,hself,hpw,hVr,hVd,hV=>by
  obtain⟨n,q,i⟩:=f;cases q with
  |false=>exact⟨[],⟨n,false,i⟩::r,p,I,rfl,by simp,.inr ⟨_,_,rfl,rfl⟩,h,by simp,by simpa using hA,by simpa using hV⟩
  |true=>
   simp only[gh]at h;cases hq:qv p i with
   |none=>rw[hq]at h;simp[A2]at h
   |some v=>
    rw[hq]at h;simp only[A2]at h;obtain⟨d,H,K⟩:=hself _ (aD ..) rfl;simp only at H K
    have a1:d<N:=by have:=hok _ (aD ..);unfold SI.ok at this;simp only[H]at this;simpa using this
    rw[H]at h;rw[bY]at hpw
    have Z:∀g:FI,(∃e,g.i.dst=some e)->g.i.dst≠some d->(p.put (some d) v).get (dOf g)=p.get (dOf g):=by
     rintro g ⟨e,he⟩ J;have Q:dOf g=e:=by unfold dOf;rw[he];rfl
     rw[Q,iI,if_neg];intro e2;rw[he,e2]at J;exact J rfl
    obtain⟨seg,post,p2,F,k1,k2,k3,k4,k5,k6,k7⟩:=pL (V:=⟨n,true,i⟩::V) h (hA.put a1) (fun f z=>hok f (an _ z)) (fun f z=>hself f (an _ z)) hpw.2
     (by
      intro g y f z;rcases aq.1 y with rfl|y
      ·exact hpw.1 f z
      ·exact hVr g y f (an _ z))
     (by
      intro g y;rcases aq.1 y with rfl|y
      ·exact⟨d,H⟩
      ·exact hVd g y)
     (by
      intro g y;rcases aq.1 y with rfl|y
      ·have Q:dOf ⟨n,true,i⟩=d:=by unfold dOf;simp only[H];rfl
       rw[Q,MD K,iI,if_pos rfl];exact hq
      ·obtain⟨h1,h2⟩:=hVr g y _ (aD ..) rfl d H
       rw[MD h1,Z g (hVd g y) h2];exact hV g y)
    refine⟨⟨n,true,i⟩::seg,post,p2,F,by rw[k1];rfl, ?_,k3,k4, ?_, ?_, ?_⟩
    ·intro f z
     rcases aq.1 z with rfl|z
     ·rfl
     ·exact k2 f z
    ·intro f z
     refine k5 f ?_;rcases z with z|z
     ·exact .inl (an _ z)
     ·rcases aq.1 z with rfl|z
      ·exact .inl (aD ..)
      ·exact .inr z
    ·have Q:dOf ⟨n,true,i⟩=d:=by unfold dOf;simp only[H];rfl
     refine⟨fun m hm=>k6.get m (fun h=>hm ?_),k6.ob,k6.tk,k6.dom⟩;simp only[ax,Q,aL,aq,am]at h ⊢;rcases h with h|h|h
     ·exact .inr (.inl h)
     ·exact .inl h
     ·exact .inr (.inr h)
    ·intro g y
     refine k7 g ?_;rcases y with y|y
     ·exact .inl (an _ y)
     ·rcases aq.1 y with rfl|y
      ·exact .inl (aD ..)
      ·exact .inr y
section
variable {ops:Array Oper}{its:List FI}{b:List Nat}
def un(its:List FI)(listed:Array Bool):List FI:=its.filter fun f=> !listed.getD f.n true
theorem da{listed:Array Bool}{f:FI}:f∈un its listed↔f∈its/\listed.getD f.n true=false:=by simp[un]
structure tD(call:dt)(sg:Nat->Sig)(N:Nat)(b:List Nat)(its:List FI)(cF:CSt)(listed:Array Bool)(c:CSt):Prop where
 ex:∃pre post p ps,its=pre++post/\(post=[]\/∃f r,post=f::r/\f.q=false)/\gh call sg b post ps p=some cF/\(∀f∈pre,f.q=true->f∈ps)/\
  (∀f∈pre,f.q=false->listed.getD f.n true=true)/\(∀f∈post,listed.getD f.n true=false)/\
  Apx N ((un pre listed).map dOf) c p/\∀f∈un pre listed,qv p f.i=some (p.get (dOf f))
theorem Cl(e5:ik P call){cF:CSt}
 (Z:∀f∈its,∃o,ops[f.n]? =some o/\ia P ops o=some f.i.er/\f.n<ops.size) (f4:∀j,j<ops.size->∃f∈its,f.n=j) (d7:∀f∈its,∀g∈its,f.n=g.n->f=g)
 (b8:∀(i:Nat)(o:Oper),ops[i]? =some o->∀e∈o.after,Region.binds .any e=true->e.on<i)
 (i1:∀(i:Nat)(o:Oper)(k:Nat),ops[i]? =some o->k<ops.size->(b.getD i 0).testBit k=true->∃e∈o.after,Region.binds .any e=true/\(e.on=k\/(b.getD e.on 0).testBit k=true))
 (d3:∀f∈its,f.i.ok N=true) (a8:∀f∈its,CA f) (j0:its.Pairwise Nx)
 (m0:∀q∈its,q.q=true->∀p∈its,∀d,q.i.dst=some d->d∈p.i.rds->(b.getD p.n 0).testBit q.n=true)
 (e4:∀pre f r,its=pre++f::r->f.q=false->∀g∈r,∃h∈f::r,(b.getD g.n 0).testBit h.n=true)
 (n7:∀f∈its,∀g∈its,f.n≠g.n->∀d,f.i.dst=some d->g.i.dst≠some d) {Q:LBb} (hQ:∀a w,M C N cF a w->Q .normal a w):
 ∀(b0:Nat)(listed:Array Bool)(c:CSt)(a:Act)(w:World),(un its listed).length<=b0->listed.size=ops.size->
  (∀(i:Nat)(o:Oper)(k:Nat),ops[i]? =some o->listed.getD i true=true->k<ops.size->(b.getD i 0).testBit k=true->listed.getD k true=true)->
  tD call sg N b its cF listed c->M C N c a w->wpAny P .any ops Q b0 listed a w:=by
 classical
 have j3:∀(listed:Array Bool),listed.size=ops.size->∀k,k<ops.size->listed.getD k false=listed.getD k true:=by intro listed hs k hk;simp[lU,hs,hk]
 have done:∀(listed:Array Bool)(c:CSt)(a:Act)(w:World),un its listed=[]->tD call sg N b its cF listed c->M C N c a w->Region.ready .any ops listed=[]/\Q .normal a w:=by
  intro listed c a w h0 hS hM;constructor
  ·rw[List.eq_nil_iff_forall_not_mem]
   intro j hj;obtain⟨h1,o,h2,h3⟩:=mem_ready.1 hj;have m5:j<ops.size:=(cz.1 h2).1;obtain⟨I,hit,rfl⟩:=f4 j m5;have:I∈un its listed:=da.2 ⟨hit,h1⟩;rw[h0]at this;cases this
  ·obtain⟨pre,post,p,ps,e,hp,F,_,_,f5,hA,_⟩:=hS.ex
   have m6:post=[]:=by
    cases post with
    |nil=>rfl
    |cons f r=>have:f∈un its listed:=da.2 ⟨by rw[e];simp,f5 f (aD ..)⟩;rw[h0]at this;cases this
   subst m6;simp only[gh,ay.injEq]at F;subst F;have hD:un pre listed=[]:=by rw[<-h0,e,bO]
   rw[hD]at hA;refine hQ a w ?_;obtain⟨x,s,m2,e6⟩:=hM;refine M.slots (c:=c) ⟨x,s,m2,e6⟩ ⟨hA.dom,by rw[<-hA.ob];exact e6.inv.so,by rw[<-hA.ob];exact e6.inv.wf⟩ hA.ob.symm hA.tk.symm (fun i=> .inl (hA.get i (by simp)).symm)
 intro b0;induction b0 with
 |zero=>intro listed c a w hf hs g2 hS hM;exact done listed c a w (cD.1 (by omega)) hS hM
 |succ b0 ih=>
  intro listed c a w hf hs g2 hS hM;constructor
  ·intro g8
   by_cases h0:un its listed=[]
   ·exact(done listed c a w h0 hS hM).2
   ·exfalso
    have hp:∃n,∃f∈un its listed,f.n=n:=by
     cases hc:un its listed with
     |nil=>exact absurd hc h0
     |cons f r=>exact⟨_,f,aD ..,rfl⟩
    obtain⟨n,⟨f,l8,o0⟩,h9⟩:=Un _ hp;obtain⟨h1,h2⟩:=da.1 l8;obtain⟨o,h3,_,h4⟩:=Z f h1
    have:f.n∈Region.ready .any ops listed:=by refine mem_ready.2 ⟨h2,o,h3,fun e he hb=> ?_⟩;have b1:=b8 f.n o h3 e he hb;rw[j3 listed hs _ (by omega),<-Bool.not_eq_false];intro l3;obtain⟨g,H,g9⟩:=f4 e.on (by omega);have:=h9 e.on ⟨g,da.2 ⟨H,by rw[g9];exact l3⟩,g9⟩;omega
    rw[g8]at this;cases this
  ·intro i l2
   obtain⟨h1,o,h2,h3⟩:=mem_ready.1 l2;have g7:i<ops.size:=(cz.1 h2).1;obtain⟨I,hit,rfl⟩:=f4 i g7;obtain⟨o',j1,d9,_⟩:=Z I hit;rw[h2]at j1;cases j1
   have b2:∀k,k<ops.size->(b.getD I.n 0).testBit k=true->listed.getD k true=true:=by
    intro k hk hb;obtain⟨e,he,h7,l5⟩:=i1 I.n o k h2 hk hb;have e7:=h3 e he h7;have m7:=b8 I.n o h2 e he h7;rw[j3 listed hs _ (by omega)]at e7;rcases l5 with h|h
    ·rw[<-h];exact e7
    ·exact g2 e.on (ops[e.on]'(by omega)) k (by simp) e7 hk h
   have n5:(un its (listed.setIfInBounds I.n true)).length<(un its listed).length:=by
    have e1:un its (listed.setIfInBounds I.n true)=(un its listed).filter fun q=> !decide (q.n=I.n):=by
     simp only[un,List.filter_filter];apply List.filter_congr;intro q hq;rw[iF (by omega)]
     by_cases h:q.n=I.n<;>simp[h]
    rw[e1];refine List.length_filter_lt_length_iff_exists.2 ⟨I,da.2 ⟨hit,h1⟩,by simp⟩
   have d6:∀(i:Nat)(o:Oper)(k:Nat),ops[i]? =some o->(listed.setIfInBounds I.n true).getD i true=true->k<ops.size->(b.getD i 0).testBit k=true->(listed.setIfInBounds I.n true).getD k true=true:=by
    intro i2 o2 j6 l7 f1 h8 j2;rw[iF (by omega)]at f1 ⊢;split
    ·rfl
    ·split at f1
     ·rename_i e1
      subst e1;exact b2 j6 h8 j2
     ·exact g2 i2 o2 j6 l7 f1 h8 j2
   have n6:∀g∈its,listed.getD g.n true=true->g≠I:=by intro g _ H e;subst e;rw[h1]at H;cases H
   have K:∀g∈its,(listed.setIfInBounds I.n true).getD g.n true=if g=I then true else listed.getD g.n true:=by
    intro g H;rw[iF (by omega)]
    by_cases h:g=I
    ·subst h;simp
    ·rw[if_neg (fun e=>h (d7 g H I hit e)),if_neg h]
   obtain⟨pre,post,p,ps,e,b5,F,e9,a7,J,hA,hV⟩:=hS.ex;have y:∀g∈pre,g∈its:=fun g H=>by rw[e];exact am.2 (.inl H)
   have z:∀g∈post,g∈its:=fun g H=>by rw[e];exact am.2 (.inr H)
   have e0:∀n∈I.i.rds,n∉(un pre listed).map dOf:=by
    intro n hn hm;obtain⟨g,H,b4⟩:=aS.1 hm;obtain⟨a1,a6⟩:=da.1 H
    have g6:g.q=true:=by
     cases hq:g.q with
     |true=>rfl
     |false=>rw[a7 g a1 hq]at a6;cases a6
    obtain⟨d,hd,_⟩:=a8 g (y g a1) g6;have l1:d=n:=by unfold dOf at b4;rw[hd]at b4;exact b4
    subst l1;have:=m0 g (y g a1) g6 I hit d hd hn;obtain⟨_,_,_,b1⟩:=Z g (y g a1);rw[b2 g.n b1 this]at a6;cases a6
   by_cases c7:I∈pre
   ·
    have hq:I.q=true:=by
     cases hq:I.q with
     |true=>rfl
     |false=>rw[a7 I c7 hq]at h1;cases h1
    have l0:I∈un pre listed:=da.2 ⟨c7,h1⟩;have hv:=hV I l0;rw[<-hA.qv e0]at hv;obtain⟨d,hd,o1⟩:=a8 I hit hq;have g5:dOf I=d:=by unfold dOf;rw[hd];rfl
    refine iq e5 hM (d3 I hit) h2 d9 (rC (call:=call) (sg:=sg) hv) fun a' w' e8=> ?_
    refine ih _ _ a' w' (by omega) (by simpa using hs) d6 ⟨pre,post,p,ps,e,b5,F,e9, ?_, ?_, ?_, ?_⟩ e8
    ·intro f hf b3
     rw[K f (y f hf)];split
     ·rfl
     ·exact a7 f hf b3
    ·intro f hf
     rw[K f (z f hf),if_neg]
     ·exact J f hf
     ·intro e2
      subst e2
      have j7:its.Pairwise fun f g=>f.n≠g.n\/f=g:=List.pairwise_of_forall_mem_list (fun f hf g H=>by
       by_cases h:f.n=g.n
       ·exact .inr (d7 f hf g H h)
       ·exact .inl h)
      have h5:=j0;rw[e]at h5;have h6:=(iQ.1 h5).2.2 f c7 f hf hq d hd;exact h6.2 hd
    ·refine⟨fun n hn=> ?_, ?_, ?_,hA.dom⟩
     ·rw[hd,iI]
      split
      ·rename_i e2;rw[e2,g5]
      ·rename_i j7
       refine hA.get n fun hm=>hn ?_
       obtain⟨g,H,b4⟩:=aS.1 hm;obtain⟨a1,a6⟩:=da.1 H;refine aS.2 ⟨g,da.2 ⟨a1, ?_⟩,b4⟩;rw[K g (y g a1),if_neg]
       ·exact a6
       ·intro e2;subst e2;rw[g5]at b4;exact j7 b4.symm
     ·cases I.i.dst<;>exact hA.ob
     ·cases I.i.dst<;>exact hA.tk
    ·intro f hf
     obtain⟨k9,d4⟩:=da.1 hf;refine hV f (da.2 ⟨k9, ?_⟩);rw[K f (y f k9)]at d4;split at d4
     ·cases d4
     ·exact d4
   ·
    have b7:I∈post:=by rw[e]at hit;exact(am.1 hit).resolve_left c7
    obtain⟨f0,r,d5,f3⟩:∃f r,post=f::r/\f.q=false:=by
     rcases b5 with h|h
     ·subst h;cases b7
     ·exact h
    have j4:I=f0:=by
     rw[d5]at b7;rcases aq.1 b7 with h|h
     ·exact h
     ·exfalso
      obtain⟨g,H,f8⟩:=e4 pre f0 r (by rw[e,d5]) f3 I h;have b6:g∈post:=by rw[d5];exact H
      obtain⟨_,_,_,b1⟩:=Z g (z g b6);have:=b2 g.n b1 f8;rw[J g b6]at this;cases this
    subst j4;subst d5;obtain⟨n,q,i⟩:=I;simp only at f3;subst f3;simp only[gh]at F;cases hs1:eO call sg p i with
    |none=>rw[hs1]at F;simp[uK]at F
    |some p1=>
     rw[hs1]at F;simp only[uK]at F;cases H:gdP (yG (b.getD n 0) p1 ps) p1 with
     |none=>rw[H]at F;simp[uL]at F
     |some n9=>
      rw[H]at F;simp only[uL]at F;obtain⟨j8,rfl⟩:=tX H;obtain⟨c1,m9,l9⟩:=hA.step (d3 _ hit) e0 hs1;refine iq e5 hM (d3 _ hit) h2 d9 m9 fun a' w' e8=> ?_
      have e3:∀g∈un pre listed,g.q=true:=by
       intro g H;obtain⟨a1,a6⟩:=da.1 H;cases hq:g.q with
       |true=>rfl
       |false=>rw[a7 g a1 hq]at a6;cases a6
      have d8:=j0;rw[e]at d8;have k8:=iQ.1 d8
      obtain⟨seg,f2,p2,l4,k1,k2,k3,k4,k5,k6,k7⟩:=pL (V:=un pre listed) F l9 (fun f hf=>d3 f (z f (an _ hf))) (fun f hf=>a8 f (z f (an _ hf)))
       (bY.1 k8.2.1).2 (fun g H f hf=>k8.2.2 g (da.1 H).1 f (an _ hf))
       (fun g H=>by obtain⟨d,hd,_⟩:=a8 g (y g (da.1 H).1) (e3 g H);exact⟨d,hd⟩)
       (fun g H=>by
        obtain⟨a1,a6⟩:=da.1 H;rcases ua j8 (e9 g a1 (e3 g H))with h|h
        ·obtain⟨_,_,_,b1⟩:=Z g (y g a1)
         rw[b2 g.n b1 h]at a6;cases a6
        ·exact h)
      have j9:un (pre++⟨n,false,i⟩::seg) (listed.setIfInBounds n true)=un pre listed++seg:=by
       unfold un;rw[List.filter_append,fb];have e1:(listed.setIfInBounds n true).getD n true=true:=by rw[iF (by rw[hs];exact g7)];simp
       simp only[e1,vq,aP,if_false]
       congr 1
       ·apply List.filter_congr
        intro g H;have:=K g (y g H);simp only at this;rw[this,if_neg];intro e2;subst e2;exact c7 H
       ·apply gF.2
        intro g H;have b6:g∈⟨n,false,i⟩::r:=by rw[k1];exact an _ (am.2 (.inl H))
        have:=K g (z g b6);simp only at this;rw[this,if_neg]
        ·rw[J g b6];rfl
        ·intro e2;subst e2;have:=k2 _ H;cases this
      refine ih _ _ a' w' (by omega) (by simpa using hs) d6 ⟨pre++⟨n,false,i⟩::seg,f2,p2,l4,by rw[e,k1];simp,k3,k4, ?_, ?_, ?_, ?_, ?_⟩ e8
      ·intro f hf b3
       rcases am.1 hf with h|h
       ·exact k5 f (.inl (e9 f h b3))
       ·rcases aq.1 h with rfl|h
        ·cases b3
        ·exact k5 f (.inr h)
      ·intro f hf b3
       rcases am.1 hf with h|h
       ·rw[K f (y f h)]
        split
        ·rfl
        ·exact a7 f h b3
       ·rcases aq.1 h with rfl|h
        ·rw[K _ hit,if_pos rfl]
        ·rw[k2 f h]at b3;cases b3
      ·intro f hf
       have j5:f∈⟨n,false,i⟩::r:=by rw[k1];exact an _ (am.2 (.inr hf))
       rw[K f (z f j5),if_neg]
       ·exact J f j5
       ·intro e2
        subst e2;obtain⟨g,H,f8⟩:=e4 pre ⟨n,false,i⟩ r e rfl ⟨n,false,i⟩ (by rw[k1];exact am.2 (.inr hf));obtain⟨_,_,_,b1⟩:=Z g (z g H);have:=b2 g.n b1 f8;rw[J g H]at this;cases this
      ·rw[j9,b9]
       refine⟨fun m hm=>k6.get m (fun h=>hm ?_),k6.ob,k6.tk,k6.dom⟩;rw[am]at h ⊢;exact h.symm
      ·rw[j9]
       intro f hf;exact k7 f (am.1 hf)
end
theorem vZ{f:FI}(l:List FI)(h:(l.map FI.n).Nodup)(y:f∈l):J7 l f.n=f.i.er:=by
 induction l with
 |nil=>cases y
 |cons g r z=>
  simp only[ax,fT]at h;simp only[J7];rcases aq.1 y with rfl|y
  ·rw[if_pos rfl]
  ·rw[if_neg,z h.2 y]
   intro e;apply h.1;rw[e];exact co y
theorem KV{b:LAb}{s:Nat}(l:List FI):qL b (some s) l=true->∀g∈l,(b.getD g.n 0).testBit s=true\/∃h∈l,(b.getD g.n 0).testBit h.n=true:=by
 induction l generalizing s with
 |nil=>intro _ g y;cases y
 |cons f r z=>
  intro h g y;simp only[qL]at h;split at h
  ·simp only[aE,qu]at h
   rcases aq.1 y with rfl|y
   ·exact .inl h.1
   ·rcases z h.2 g y with h1|⟨k,hk,h1⟩
    ·exact .inl h1
    ·exact .inr ⟨k,an _ hk,h1⟩
  ·simp only[aE,qu]at h
   rcases aq.1 y with rfl|y
   ·exact .inl h.1
   ·rcases z h.2 g y with h1|⟨k,hk,h1⟩
    ·exact .inr ⟨f,aD ..,h1⟩
    ·exact .inr ⟨k,an _ hk,h1⟩
theorem DS{b:LAb}:∀{pre:List FI}{s:LAc}{f:FI}{r:List FI},qL b s (pre++f::r)=true->f.q=false->qL b (some f.n) r=true
 |[],s,f,r,h,hf=>by simp only[aA,qL,hf,aP,if_false,aE]at h;exact h.2
 |g::pre,s,f,r,h,hf=>by
  simp only[aL,qL]at h;split at h
  ·rw[aE]at h;exact DS h.2 hf
  ·rw[aE]at h;exact DS h.2 hf
theorem sJ{b:LAb}:∀{l:List FI},sK b l=true->l.Pairwise fun p q=>(b.getD p.n 0).testBit q.n=false
 |[],_=>gx.nil
 |p::r,h=>by simp only[sK,aE,aZ]at h;refine bY.2 ⟨fun q y=> ?_,sJ h.2⟩;have:=h.1 q y;simp only[MI,aE,dE,qu]at this;exact this.1
theorem Jp(d9:ik P call){id:Nat}{ops:Array Oper}{its:List FI}(hl:kY (ia P ops) ops.toList=some (unF its))(H:drawn ops (unF its)=true)(hm:P.follows .mixedOrders=true)
 (b5:its.all (fun f=>f.i.ok N)=true) (b3:P2 (Region.before ops).toList its=true) {cF:CSt} {Q:LBb} (hQ:∀a w,M C N cF a w->Q .normal a w) (hM:M C N c a w)
 (h:gh call sg (Region.before ops).toList its [] c=some cF):(Code.region id ops true).wp P Q a w:=by
 simp only[P2,aE,decide_eq_true_eq,aZ]at b3;obtain⟨⟨⟨⟨⟨b1,a6⟩,a7⟩,K⟩,J⟩,c7⟩:=b3;simp only[S8,aZ,kg,dE]at a7;rw[aZ]at b5;obtain⟨d4,d5⟩:=fS hl;have e3:(unF its).length=its.length:=by simp[unF]
 have e8:its.length=ops.size:=by rw[<-e3,d4,bf]
 have b7:∀f∈its,(unF its).getD f.n ⟨none,none,.nchk (.c .undef)⟩=f.i.er:=by intro f y;have:=J f y;rw[aa];simp only[unF,aR,cN this,bz,bn];exact vZ _ K y
 simp only[drawn,aE,decide_eq_true_eq]at H;obtain⟨⟨hc,ht⟩,b0⟩:=H
 have b4:∀f∈its,∃o,ops[f.n]? =some o/\ia P ops o=some f.i.er/\f.n<ops.size:=by
  intro f y;have f0:=J f y;have e1:f.n<ops.toList.length:=by rw[bf];omega
  refine⟨ops.toList[f.n],by rw[<-dy,ac e1], ?_,by omega⟩;have h1:=d5 f.n e1 (by omega);rw[h1]
  congr 1
  have h2:=b7 f y;rwa[aa,ac (by omega),bn]at h2
 have d7:∀f∈its,∀g∈its,f.n=g.n->f=g:=by
  intro f y g hg e;have:its.Pairwise fun f g=>f.n≠g.n:=by rw[Bm,iu]at K;exact K
  rw[rx]at this;obtain⟨i,hi,rfl⟩:=List.mem_iff_getElem.1 y;obtain⟨j,hj,rfl⟩:=List.mem_iff_getElem.1 hg;rcases Nat.lt_trichotomy i j with h|h|h
  ·exact absurd e (this i j hi hj h)
  ·subst h;rfl
  ·exact absurd e.symm (this j i hj hi h)
 have b8:∀f∈its,∀g∈its,f.n≠g.n->∀d,f.i.dst=some d->g.i.dst≠some d:=by
  have a8:∀f∈its,∀g∈its,f.n<g.n->∀d,f.i.dst=some d->g.i.dst≠some d:=by
   intro f y g hg d8 d h1 h2
   have d3:(unF its).Pairwise fun u v=>∀d,u.dst=some d->v.dst≠some d:=by rw[Bm,List.pairwise_filterMap]at b0;refine b0.imp ?_;intro u v e5 d hu hv;exact e5 d hu d hv rfl
   rw[rx]at d3;have e7:=J f y;have e9:=J g hg
   have g1:(unF its)[f.n]'(by omega)=f.i.er:=by have:=b7 f y;rwa[aa,ac (by omega),bn]at this
   have g2:(unF its)[g.n]'(by omega)=g.i.er:=by have:=b7 g hg;rwa[aa,ac (by omega),bn]at this
   exact d3 f.n g.n (by omega) (by omega) d8 d (by rw[g1];exact h1) (by rw[g2];exact h2)
  intro f y g hg e6 d h1 h2;rcases bq f.n g.n with h|h
  ·exact a8 f y g hg h d h1 h2
  ·exact a8 g hg f y (by omega) d h2 h1
 have z:∀(i:Nat)(o:Oper),ops[i]? =some o->(∀e∈o.after,Region.binds .any e=true->e.on<i)/\
  ∀k,k<ops.size->((Region.before ops).toList.getD i 0).testBit k=true->∃e∈o.after,Region.binds .any e=true/\(e.on=k\/((Region.before ops).toList.getD e.on 0).testBit k=true):=by
  intro i o ho;unfold uf at hc;rw[aZ]at hc;have hi:i<ops.size:=(cz.1 ho).1
  have h1:=hc (o,i) (by rw[List.mem_zipIdx_iff_getElem?];simpa using ho)
  simp only[aE,Array.all_eq_true_iff_forall_mem,aZ,kg,dE,decide_eq_true_eq]at h1;refine⟨fun e he hb=>(h1.1 e he).resolve_left (by simp[hb]),fun k hk hb=> ?_⟩;have h2:=(h1.2 k (gO.2 hk)).resolve_left (by simp only[hb];simp);obtain⟨_,h3⟩:=h2;rw[<-Array.any_toList,List.any_eq_true]at h3;obtain⟨e,he,h4⟩:=h3;rw[Array.mem_toList_iff]at he;simp only[aE,kg,beq_iff_eq]at h4;exact⟨e,he,h4.1,h4.2⟩
 have hq:∀q∈its,q.q=true->∃d,q.i.dst=some d/\∀p∈its,d∈p.i.rds->((Region.before ops).toList.getD p.n 0).testBit q.n=true/\p.n≠q.n:=by
  intro q hq I;have h1:=(a7 q hq).resolve_left (by rw[I];simp);cases H:q.i.dst with
  |none=>rw[H]at h1;cases h1
  |some d=>
   rw[H]at h1;simp only[aZ,kg,dE,aE,decide_eq_true_eq,qu]at h1;refine⟨d,rfl,fun p hp hr=> ?_⟩;rcases h1 p hp with h2|h2
   ·rw[fV]at h2;simp only[decide_eq_false_iff_not]at h2;exact absurd hr h2
   ·exact h2
 have Z:∀f∈its,CA f:=by intro f y a7;obtain⟨d,H,h1⟩:=hq f y a7;exact⟨d,H,fun h=>(h1 f y h).2 rfl⟩
 have d6:∀q∈its,q.q=true->∀p∈its,∀d,q.i.dst=some d->d∈p.i.rds->((Region.before ops).toList.getD p.n 0).testBit q.n=true:=by intro q a1 I p hp d H hr;obtain⟨d',e2,h1⟩:=hq q a1 I;rw[e2]at H;cases H;exact(h1 p hp hr).1
 have e0:its.Pairwise Nx:=by
  have h1:its.Pairwise fun f g=>f.n≠g.n:=by rw[Bm,iu]at K;exact K
  refine((sJ a6).and h1).imp_of_mem ?_;rintro p q hp a1 ⟨h2,h3⟩ I d H;refine⟨fun hr=> ?_,fun e=>b8 p hp q a1 h3 d e H⟩;rw[d6 q a1 I p hp d H hr]at h2;cases h2
 obtain⟨seg,post,p2,e4,k1,k2,k3,k4,k5,k6,k7⟩:=pL (N:=N) (D:=[]) (V:=[]) h ⟨fun _ _=>rfl,rfl,rfl,by obtain⟨x,s,_,hS⟩:=hM;exact hS.inv.dom⟩ (fun f y=>b5 f y) Z e0 (by simp) (by simp) (by simp)
 have F:∀f∈its,(eE ops.size false).getD f.n true=false:=by
  intro f y;have:=J f y;have:f.n<ops.size:=by omega
  simp[lU,this]
 have b2:un seg (eE ops.size false)=seg:=by apply gF.2;intro f y;rw[F f (by rw[k1];exact am.2 (.inl y))];rfl
 refine wp_region_any hm ?_
 refine Cl (its:=its) (b:=(Region.before ops).toList) (cF:=cF) (sg:=sg) d9 b4 (fun j hj=> ?_) d7 (fun i o ho=>(z i o ho).1) (fun i o k ho hk hb=>(z i o ho).2 k hk hb) (fun f y=>b5 f y) Z e0 d6
  (fun pre f r e y g hg=> ?_) b8 hQ ops.size _ c a _ ?_ (by simp) ?_ ⟨seg,post,p2,e4,k1,k3,k4,fun f y _=>k5 f (.inr y),(fun f y hq=>by rw[k2 f y]at hq;cases hq),fun f y=>F f (by rw[k1];exact am.2 (.inr y)), ?_, ?_⟩ ?_
 ·have:=c7 j (gO.2 (by omega))
  rw[fV]at this;simp only[decide_eq_true_eq]at this;obtain⟨f,y,e⟩:=aS.1 this;exact⟨f,y,e⟩
 ·rw[e]at b1
  rcases KV _ (DS b1 y) g hg with h1|⟨k,hk,h1⟩
  ·exact⟨f,aD ..,h1⟩
  ·exact⟨k,an _ hk,h1⟩
 ·have:(un its (eE ops.size false)).length<=its.length:=List.length_filter_le _ _
  omega
 ·intro i o k ho hl _ _
  have hi:i<ops.size:=(cz.1 ho).1;simp[lU,hi]at hl
 ·rw[b2];simpa using k6
 ·rw[b2];intro f y;exact k7 f (.inr y)
 ·obtain⟨x,s,b6,hS⟩:=hM
  exact⟨x,s,⟨b6.tm,b6.defers,b6.heap.drawn _⟩,hS⟩
end Go.Sy
