/- A sound engine for Go code. No condition. -/
import Derived.Test.YtmhhnklkcmpdkaaGreatDoorEaPA
import Derived.LoopN
open Array renaming ext' -> eK, getD_eq_getD_getElem? -> bl, getElem?_eq_getElem -> iu, getElem?_toList -> dA, length_toList -> aP, replicate -> ei
open Bool renaming and_eq_true -> aw, false_eq_true -> az, not_eq_true' -> ej
open List renaming Nodup -> wO, Sublist -> kE, all_cons -> fV, all_eq_true -> aI, cons -> bp, cons_append -> br, contains_eq_mem -> fI, drop_eq_getElem_cons -> aF, drop_eq_nil_of_le -> ct, filter_cons -> lG, flatten_append -> cj, getD_cons_succ -> nt, getD_cons_zero -> dE, getD_eq_getElem?_getD -> aa, getElem?_append_left -> bi, getElem?_append_right -> bo, getElem?_drop -> bO, getElem?_eq_getElem -> ab, getElem?_eq_none -> eH, getElem?_map -> aN, getElem?_range -> cM, getElem?_set -> fN, getElem?_take -> bG, getElem_mem -> aU, getElem_of_mem -> bH, length_append -> ac, length_cons -> ah, length_drop -> aX, length_eq_zero_iff -> bx, length_map -> aC, length_pos_iff -> nq, length_set -> cW, length_take -> av, map_append -> cz, map_cons -> aG, map_map -> wN, mem_append -> an, mem_cons -> al, mem_cons_of_mem -> af, mem_cons_self -> aq, mem_map -> aT, mem_map_of_mem -> iU, mem_of_mem_take -> cO, mem_singleton -> bX, nodup_cons -> eZ, pairwise_cons -> eL, pairwise_map -> hZ, range -> bQ, replicate -> aJ, take_append_drop -> kQ, take_length -> ba, take_of_length_le -> bh
open Nat renaming add_assoc -> eU, add_mul -> bN, add_zero -> bW, div_lt_of_lt_mul -> nP, le_max_right -> yn, le_refl -> bc, le_trans -> gf, lt_or_ge -> bP, min_eq_left -> iA, mod_eq_of_lt -> dF, mul_comm -> cK, mul_le_mul_right -> bw, mul_one -> js, succ_mul -> eI, zero_add -> cd, zero_mul -> jx
open Option renaming bind_some -> di, getD_some -> aO, ite_none_right_eq_some -> aH, map_eq_some_iff -> ae, map_some -> bn, some -> ao
open Prod renaming fst -> cI
open Go.Result renaming andThen_ok -> ak
open Go.Sem renaming run_bind -> ax, run_pure -> aE
open UInt8 renaming ofNat -> aQ
set_option linter.unusedVariables false
set_option linter.unusedSimpArgs false
set_option linter.unnecessarySimpa false
set_option linter.unusedSectionVars false
namespace Go.Sy
variable [aW]
variable {P : Program} {C : Ctx} {x : Sit} {s : St} {a : Act} {w : World}
def leT(t:Nat)(a b:SV):Prop:=∀(x:Sit)(v:Value),Rep x a v->Rep (x.newT t 0 0 0) b v
theorem leT.lst(t y:Nat)(h:d8):leT t (.lst y h .clip) (.lst y h (.id t)):=fun x v hv=>by obtain⟨b,cap,J,_,I,E⟩:=hv.lst_inv;obtain⟨H,F,z⟩:=E;exact .dat _ _ (I.tok (.lst y h (.id t)) (.inr ⟨y,h,_,_,rfl,rfl⟩)) ⟨H,F,F,z,.inl rfl⟩
theorem leT.byt(t:Nat)(l:d9):leT t (.byt l .clip) (.byt l (.id t)):=fun x v hv=>by obtain⟨b,cap,H,_,F,y⟩:=hv.byt_inv;obtain⟨E,z,h⟩:=y;exact .dat _ _ (F.tok (.byt l (.id t)) (.inl ⟨l,_,_,rfl,rfl⟩)) ⟨E,z,z,h,.inl rfl⟩
def leP(o h:Nat)(y:d8)(a b:SV):Prop:=∀(x x':Sit)(v:Value),x'.bk=x.bk->x'.τ=x.τ->(∀b i u,x.G b i=some u->x'.G b i=some u)->
 (∀k,k<y.length*h->∃u,x'.G ((x.bk o).1) k=some u/\cy x'.G ((y.getD (k/h) []).getD (k % h) .undef) u)->Rep x a v->Rep x' b v
theorem leP.psl{o h off n:Nat}{cap:t8}{z:d8}(hb:off+n<=z.length)(I:∀y∈z,y.length=h):leP o h z (.psl o h off n cap) (.lst h ((z.drop off).take n) .no):=by
 intro x x' v hβ hτ hG hc hv;obtain⟨cap,L,_,Q,he,W⟩:=hv.psl_inv;rw[he];have F:((z.drop off).take n).length=n:=by simp;omega
 refine .dat _ _ ?_ trivial
 by_cases hn:n=0
 ·subst hn
  refine .lst _ _ _ _ _ _ _ (fun _ _=>undef) F.symm L (fun i hi=>by omega) (fun i j hi=>by omega) (fun i j hi=>by omega)
 ·have J:Q=off*h:=by omega
  have H:∀i,i<n->(((z.drop off).take n).getD i [])=z.getD (off+i) []:=fun i hi=>by simp only[aa,bG,if_pos hi,bO]
  have hl:∀i,i<n->(z.getD (off+i) []).length=h:=fun i hi=>by rw[aa,ab (by omega)];exact I _ (aU _)
  have hk:∀i j,i<n->j<h->off*h+i*h+j<z.length*h:=fun i j hi E=>by have:=bw h (show off+i+1<=z.length by omega);simp only[bN,Nat.one_mul]at this;omega
  have O:∀i j,j<h->(off*h+i*h+j)/h=off+i/\(off*h+i*h+j) % h=j:=fun i j E=>by rw[<-bN,cK,Nat.mul_add_div (by omega),Nat.div_eq_of_lt E,bW];exact⟨rfl,by rw[Nat.mul_add_mod,dF E]⟩
  refine .lst _ _ _ _ _ _ _ (fun i j=>(x'.G ((x.bk o).1) (off*h+i*h+j)).getD undef) F.symm L (fun i hi=>by rw[H i hi];exact hl i hi) (fun i j hi E=> ?_) (fun i j hi E=> ?_)
  ·obtain⟨u,hu,_⟩:=hc _ (hk i j hi E)
   rw[J,hu];rfl
  ·obtain⟨u,hu,Z⟩:=hc _ (hk i j hi E)
   rw[hu,H i hi];rw[(O i j E).1,(O i j E).2]at Z;exact Z
end Go.Sy
namespace Go.Sy
variable [aW]
structure CSt where
 tm:List (Nat×SV)
 ob:List (Nat×aB)
 tk:List Nat
abbrev LAd:=Option CSt
def fo:List (Nat×SV)->Nat->SV
 |[],_=> .undef
 |p::r,n=>if p.1=n then p.2 else fo r n
def jZ:List (Nat×SV)->Nat->SV->List (Nat×SV)
 |[],n,v=> [(n,v)]
 |p::r,n,v=>if n<p.1 then(n,v)::p::r else if n=p.1 then(n,v)::r else p::jZ r n v
def wE:List (Nat×SV)->t7->List (Nat×SV)
 |[],_=> []
 |p::r,l=>if l.contains p.1 then wE r l else p::wE r l
def jo:List (Nat×aB)->Nat->Option aB
 |[],_=>none
 |p::r,n=>if p.1=n then some p.2 else jo r n
def iW:List (Nat×aB)->Nat->aB->List (Nat×aB)
 |[],n,v=> [(n,v)]
 |p::r,n,v=>if n<p.1 then(n,v)::p::r else if n=p.1 then(n,v)::r else p::iW r n v
def xeJ:List (Nat×aB)->Nat->List (Nat×aB)
 |[],_=> []
 |p::r,n=>if p.1=n then xeJ r n else p::xeJ r n
def kY:t7->Nat->t7
 |[],n=> [n]
 |p::r,n=>if n<p then n::p::r else if n=p then p::r else p::kY r n
def dj(lo hi:Nat):List (Nat×SV)->List (Nat×SV)
 |[]=> []
 |p::r=>(p.1,p.2.purge lo hi)::dj lo hi r
def CSt.get(c:CSt)(n:Nat):SV:=fo c.tm n
def CSt.ev(c:CSt):Arg->SV
 | .t n=>c.get n
 | .c v=>v
 | .f g=> .fn g [] []
def evL(c:CSt):List Arg->t6
 |[]=> []
 |a::r=>c.ev a::evL c r
def CSt.put(c:CSt)(d:t8)(v:SV):CSt:=
 match d with
 |some d=>⟨jZ c.tm d v,c.ob,c.tk⟩
 |none=>c
def CSt.look(c:CSt)(o:Nat):Option aB:=jo c.ob o
def CSt.purge(c:CSt)(lo hi:Nat):CSt:=⟨dj lo hi c.tm,bq lo hi c.ob,bV lo hi c.tk⟩
def CSt.kill(c:CSt)(l:t7):CSt:=
 match l with
 |[]=>c
 |l=>⟨wE c.tm l,c.ob,c.tk⟩
def gd{α:Type}(p:Prop)[Decidable p](v:α):Option α:=if p then some v else none
def xU(op:BinOp)(k:IntKind)(a b:Int):Option SV:=
 match op with
 | .add=>some (.int k (k.wrap (a+b)))
 | .sub=>some (.int k (k.wrap (a-b)))
 | .mul=>some (.int k (k.wrap (a*b)))
 | .quo=>gd (b≠0) (.int k (k.wrap (a.tdiv b)))
 | .rem=>gd (b≠0) (.int k (a.tmod b))
 | .and=>some (.int k (b9 .and k a b))
 | .or=>some (.int k (b9 .or k a b))
 | .xor=>some (.int k (b9 .xor k a b))
 | .andNot=>some (.int k (b9 .andNot k a b))
 | .shl=>gd (0<=b) (.int k (k.wrap (a*2^(min b.toNat k.bits))))
 | .shr=>gd (0<=b) (.int k (a.fdiv (2^(min b.toNat k.bits))))
 | .eql=>some (.bool (decide (a=b)))
 | .neq=>some (.bool (decide (a≠b)))
 | .lss=>some (.bool (decide (a<b)))
 | .leq=>some (.bool (decide (a<=b)))
 | .gtr=>some (.bool (decide (b<a)))
 | .geq=>some (.bool (decide (b<=a)))
def yr(op:BinOp)(a b:UInt8):Option SV:=
 match op with
 | .add=>some (.u8 (a+b))
 | .sub=>some (.u8 (a-b))
 | .mul=>some (.u8 (a*b))
 | .quo=>gd (b≠0) (.u8 (a/b))
 | .rem=>gd (b≠0) (.u8 (a % b))
 | .and=>some (.u8 (a&&&b))
 | .or=>some (.u8 (a|||b))
 | .xor=>some (.u8 (a^^^b))
 | .andNot=>some (.u8 (a&&& ~~~b))
 | .eql=>some (.bool (decide (a=b)))
 | .neq=>some (.bool (decide (a≠b)))
 | .lss=>some (.bool (decide (a<b)))
 | .leq=>some (.bool (decide (a<=b)))
 | .gtr=>some (.bool (decide (b<a)))
 | .geq=>some (.bool (decide (b<=a)))
 |_=>none
def Oh(op:BinOp)(a:UInt8)(b:Int):Option SV:=
 match op with
 | .shl=>gd (0<=b) (.u8 (aQ (a.toNat*2^(min b.toNat 8))))
 | .shr=>gd (0<=b) (.u8 (aQ (a.toNat/2^(min b.toNat 8))))
 |_=>none
def Ok(op:BinOp)(a b:d9):Option SV:=
 match op with
 | .add=>gd (a.length+b.length<=9223372036854775807) (.str (a++b))
 | .eql=>some (.bool (decide (a=b)))
 | .neq=>some (.bool (decide (a≠b)))
 | .lss=>some (.bool (Op.bytesLess a b))
 | .leq=>some (.bool (Op.bytesLess a b||decide (a=b)))
 | .gtr=>some (.bool (!(Op.bytesLess a b||decide (a=b))))
 | .geq=>some (.bool (!Op.bytesLess a b))
 |_=>none
def nI:BinOp->Bool
 | .shl| .shr=>true
 |_=>false
def Ey(op:BinOp):SV->SV->Option SV
 | .int k a,.int k' b=>if nI op=true\/k=k' then xU op k a b else none
 | .u8 a,.int _ b=>Oh op a b
 | .u8 a,.u8 b=>yr op a b
 | .str a,.str b=>Ok op a b
 |_,_=>none
def mY(c:CSt)(n:Nat)(h:Bool):SV->Option SV
 | .pp cs=>gd (n<=cs.length) (dP h n (cs.map SV.data))
 | .ptr o off=>match c.look o with
  |some (.rc cs)=>gd (off+n<=cs.length) (dP h n (cs.drop off))
  |some (.arr _ xs)=>gd (off=0/\n<=xs.flatten.length) (dP h n (xs.flatten.map SV.data))
  |some (.bar l)=>gd (off=0/\n<=l.length) (dP h n (l.map .u8))
  |none=>none
 | .ap o y i j=>match c.look o with
  |some (.arr sz' xs)=>gd (y=sz'/\i<xs.length/\j+n<=y) (dP h n (((xs.getD i []).drop j).map SV.data))
  |some (.bar l)=>gd (y=1/\j=0/\n=1/\i<l.length) (dP h n [.u8 (l.getD i 0)])
  |some (.rc cs)=>gd (i*y+j+n<=cs.length) (dP h n (cs.drop (i*y+j)))
  |_=>none
 |_=>none
def lb(c:CSt)(x:Option Arg)(h:Int):Option Int:=
 match x with
 |none=>some h
 |some a=>(c.ev a).num
def oY(c:CSt)(z:Nat)(x:SV)(lo hi y:Option Arg):Option SV:=
 match x with
 | .byt l t=>
  match lb c lo 0,lb c hi l.length,lb c y l.length with
  |some a,some b,some m=>gd (0<=a/\a<=b/\b<=m/\m<=l.length/\z=1/\(y.isSome=true->b=m)) (.byt ((l.take b.toNat).drop a.toNat) (mE t hi.isNone y.isSome))
  |_,_,_=>none
 | .lst h l t=>
  match lb c lo 0,lb c hi l.length,lb c y l.length with
  |some a,some b,some m=>gd (0<=a/\a<=b/\b<=m/\m<=l.length/\z=h/\(y.isSome=true->b=m)) (.lst z ((l.take b.toNat).drop a.toNat) (mE t hi.isNone y.isSome))
  |_,_,_=>none
 | .psl o h off n none=>
  match lb c lo 0,lb c hi n,y with
  |some a,some b,none=>gd (0<=a/\a<=b/\b<=n/\z=h) (.psl o z (off+a.toNat) (b.toNat-a.toNat) none)
  |_,_,_=>none
 | .psl o h off n (some cap)=>
  match lb c lo 0,lb c hi n,lb c y cap with
  |some a,some b,some m=>gd (0<=a/\a<=b/\b<=m/\m<=cap/\z=h) (.psl o z (off+a.toNat) (b.toNat-a.toNat) (some (m.toNat-a.toNat)))
  |_,_,_=>none
 |_=>none
def eJ(c:CSt):SV->Option d9
 | .byt l _=>some l
 | .str l=>some l
 | .psl o h off n _=>match c.look o with
  |some (.bar l)=>gd (h=1/\off+n<=l.length) ((l.drop off).take n)
  |_=>none
 |_=>none
def gB(c:CSt)(z:Nat):SV->Option d8
 | .lst h y _=>gd (z=h) y
 | .psl o h off n _=>match c.look o with
  |some (.arr sz'' y)=>gd (z=h/\z=sz''/\off+n<=y.length) ((y.drop off).take n)
  |_=>none
 |_=>none
def psC(c:CSt):List (Nat×Nat×Arg)->List (Nat×Nat×SV)
 |[]=> []
 |(o,n,x)::r=>(o,n,c.ev x)::psC c r
def iX(t:Bool)(a b:SV):SV:=if t=true then a else b
def cR(c:CSt):SOp->Option SV
 | .mov x=>some (c.ev x)
 | .build z L=>(jq z (psC c L)).map .agg
 | .lit h E=>(rows h (evL c E)).map fun r=> .lst h r .clip
 | .litB E=>(toB (evL c E)).map fun r=> .byt r .clip
 | .load n H a=>mY c n H (c.ev a)
 | .nchk x=>match c.ev x with
  | .ptr o off=>some (.ptr o off)
  | .ap o h i j=>some (.ap o h i j)
  | .pp cs=>some (.pp cs)
  | .fn f a b=>some (.fn f a b)
  |_=>none
 | .bin op x y=>Ey op (c.ev x) (c.ev y)
 | .beq F x y=>match c.ev x,c.ev y with
  | .bool a,.bool b=>some (.bool (if F then decide (a≠b)else decide (a=b)))
  |_,_=>none
 | .eqS F J x y=>match c.ev x,c.ev y with
  | .agg cs,.agg ds=>(il J cs ds).map fun b=> .bool (if F then !b else b)
  |_,_=>none
 | .un op x=>wP op (c.ev x)
 | .toInt k x=>iM k (c.ev x)
 | .toStr x=>match c.ev x with| .str l=>some (.str l)|_=>none
 | .slid _=>none
 | .newB _=>none
 | .isni F x=>match c.ev x with| .nili=>some (.bool (!F))| .ife=>some (.bool F)|_=>none
 | .s2b x=>match c.ev x with| .str l=>some (.byt l .no)|_=>none
 | .b2s x=>match c.ev x with
  | .str _=>none
  |v=>(eJ c v).map .str
 | .mkfn f a b=>some (.fn f (evL c a) (evL c b))
 | .slcS x lo hi=>match c.ev x with
  | .str l=>match lb c lo 0,lb c hi l.length with
   |some a,some b=>gd (0<=a/\a<=b/\b<=l.length) (.str ((l.take b.toNat).drop a.toNat))
   |_,_=>none
  |_=>none
 | .slcL h x lo hi I=>oY c h (c.ev x) lo hi I
 | .slcA len h x lo hi I=>match c.ev x with
  | .ptr o off=>if off=0 then oY c h (.psl o h 0 len (some len)) lo hi I else none
  |_=>none
 | .faddr off x=>match c.ev x with
  | .ptr o k=>some (.ptr o (k+off))
  | .ap o h i j=>some (.ap o h i (j+off))
  | .pp cs=>some (.pp (cs.drop off))
  |_=>none
 | .fld off n H x=>match c.ev x with
  | .agg cs=>gd (off+n<=cs.length) (dP H n (cs.drop off))
  |_=>none
 | .iaddrL h x i=>match c.ev x,(c.ev i).num with
  | .byt l _,some n=>gd (0<=n/\n<l.length/\h=1) (.pp [.u8 (l.getD n.toNat 0)])
  | .lst sz' E _,some n=>gd (0<=n/\n<E.length/\h=sz') (.pp (E.getD n.toNat []))
  | .psl o sz' off k _,some n=>gd (0<=n/\n<k/\h=sz') (.ap o h (off+n.toNat) 0)
  |_,_=>none
 | .iaddrA len h x i=>match c.ev x,(c.ev i).num with
  | .ptr o off,some n=>match c.look o with
   |some (.rc _)=>gd (0<=n/\n<len) (.ptr o (off+n.toNat*h))
   |some _=>gd (off=0/\0<=n/\n<len) (.ap o h n.toNat 0)
   |none=>none
  | .pp cs,some n=>gd (0<=n/\n<len/\cs.length=len*h) (.pp (cs.drop (n.toNat*h)))
  |_,_=>none
 | .idxA len h H x i=>match c.ev x,(c.ev i).num with
  | .agg cs,some n=>gd (0<=n/\n<len/\cs.length=len*h) (dP H h (cs.drop (n.toNat*h)))
  |_,_=>none
 | .idxS x i=>match c.ev x,(c.ev i).num with
  | .str l,some n=>gd (0<=n/\n<l.length) (.u8 (l.getD n.toNat 0))
  |_,_=>none
 | .ext x i=>match c.ev x with
  | .tup vs=>gd (i<vs.length) (vs.getD i .undef)
  |_=>none
 | .len b x=>(ky b (c.ev x)).map fun n=> .int .i64 (n:Nat)
 | .lenC n=>some (.int .i64 n)
 | .cap x=>match c.ev x with
  | .psl _ _ _ _ (some m)=>some (.int .i64 m)
  | .byt l t=>if t= .clip then some (.int .i64 l.length)else none
  | .lst _ E t=>if t= .clip then some (.int .i64 E.length)else none
  |_=>none
 | .mini x y=>match c.ev x,c.ev y with
  | .int k a,.int k' b=>if k=k' then some (.int k (if b<a then b else a))else none
  |_,_=>none
 | .maxi x y=>match c.ev x,c.ev y with
  | .int k a,.int k' b=>if k=k' then some (.int k (if a<b then b else a))else none
  |_,_=>none
 |_=>none
structure o7 where
 val:SV
 wr:List (Nat×aB):=[]
 new:Option aB:=none
 eat:Tok:= .no
 tok:Bool:=false
def Arg.isT:Arg->Bool
 | .t _=>true
 |_=>false
def aB.wf:aB->Bool
 | .arr y h=>h.all fun x=>decide (x.length=y)
 |_=>true
def lJ(c:CSt)(n:Nat)(v:t6):SV->Option o7
 | .ptr o off=>match c.look o with
  |some (.rc cs)=>gd (off+n<=cs.length/\v.length=n/\v.all SV.one=true) {val:= .undef,wr:=[(o,.rc (ig cs off v))]}
  |some (.arr h xs)=>gd (off=0/\n=xs.length*h/\v.length=n/\v.all SV.isData=true) {val:= .undef,wr:=[(o,.arr h (ki h xs.length (v.map SV.data)))]}
  |some (.bar l)=>match toB v with
   |some y=>gd (off=0/\n=l.length/\y.length=n) {val:= .undef,wr:=[(o,.bar y)]}
   |none=>none
  |_=>none
 | .ap o h i j=>match c.look o with
  |some (.arr sz' xs)=>gd (h=sz'/\i<xs.length/\j+n<=h/\v.length=n/\v.all SV.isData=true) {val:= .undef,wr:=[(o,.arr sz' (iJ h xs i j n (v.map SV.data)))]}
  |some (.bar l)=>match v with
   |[.u8 b]=>gd (h=1/\j=0/\n=1/\i<l.length) {val:= .undef,wr:=[(o,.bar (l.set i b))]}
   |_=>none
  |_=>none
 |_=>none
def Tok.readyC(c:CSt):Tok->Bool
 | .no=>false
 | .clip=>true
 | .id t=>c.tk.contains t
def eM(c:CSt)(d:t8):SOp->Option o7
 | .new o=>match d with
  |some d=>gd (o.wf=true) {val:= .ptr (d+100) 0,new:=some o}
  |none=>none
 | .box x=>match d with
  |some d=>some {val:= .ptr (d+100) 0,new:=some (.rc (c.ev x).cells)}
  |none=>none
 | .mk z bytes n m=>match d,c.ev n,c.ev m with
  |some d,.int _ n,.int _ m=>gd (0<=n/\n<=m/\bytes*m<=140737488355328/\m<=9223372036854775807) {val:= .psl (d+100) z.length 0 n.toNat (some m.toNat),new:=some (.arr z.length (aJ m.toNat z))}
  |_,_,_=>none
 | .mkB n m=>match d,c.ev n,c.ev m with
  |some d,.int _ n,.int _ m=>gd (0<=n/\n<=m/\m<=140737488355328) {val:= .psl (d+100) 1 0 n.toNat (some m.toNat),new:=some (.bar (aJ m.toNat 0))}
  |_,_,_=>none
 | .store n a x=>if(c.ev x).isDef=true then lJ c n (c.ev x).cells (c.ev a)else none
 | .app z bytes x y=>match d with
  |some d=>match c.ev x with
   | .byt l t=>(eJ c (c.ev y)).bind fun h=>gd (z.length=1/\bytes=1/\t.readyC c=true/\l.length+h.length<=140737488355328) {val:= .byt (l++h) (.id (d+100)),eat:=t,tok:=true}
   | .lst E l t=>(gB c z.length (c.ev y)).bind fun h=>gd (z.length=E/\t.readyC c=true/\(l.length+h.length)*bytes<=140737488355328) {val:= .lst z.length (l++h) (.id (d+100)),eat:=t,tok:=true}
   |_=>none
  |none=>none
 | .clr z x=>match c.ev x with
  | .psl o E off n _=>match c.look o with
   |some (.arr sz'' F)=>gd (0<n/\z.length=E/\z.length=sz''/\off+n<=F.length) {val:= .tup [],wr:=[(o,.arr z.length (F.take off++aJ n z++F.drop (off+n)))]}
   |_=>none
  |_=>none
 | .cpy H x y=>match c.ev x with
  | .psl o E off n _=>match c.look o with
   |some (.bar l)=>(eJ c (c.ev y)).bind fun h=>gd (H=1/\E=1/\off+n<=l.length) {val:= .int .i64 (min h.length n:Nat),wr:=[(o,.bar (l.take off++h.take n++l.drop (off+(h.take n).length)))]}
   |some (.arr sz'' F)=>(gB c H (c.ev y)).bind fun h=>gd (y.isT=true/\H=E/\H=sz''/\off+n<=F.length) {val:= .int .i64 (min h.length n:Nat),wr:=[(o,.arr H (F.take off++h.take n++F.drop (off+(h.take n).length)))]}
   |_=>none
  |_=>none
 | .pick k a b=>match c.ev k with
  | .bool t=>some {val:=iX t (c.ev a) (c.ev b)}
  |_=>none
 | .call _ _=>none
 | .isnil I x=>match c.ev x with
  | .byt l _=>gd (l≠ []) {val:= .bool I}
  | .lst _ F _=>gd (F≠ []) {val:= .bool I}
  | .psl _ _ _ _ _=>some {val:= .bool I}
  |_=>none
 |so=>match cR c so with
  |some v=>some {val:=v}
  |none=>none
def CSt.wr(c:CSt):List (Nat×aB)->CSt
 |[]=>c
 |p::r=>CSt.wr ⟨c.tm,iW c.ob p.1 p.2,c.tk⟩ r
def CSt.app(c:CSt)(d:t8)(e:o7):CSt:=
 match e.new,e.tok with
 |some o,_=>CSt.put ⟨dj (d.getD 0+100) (d.getD 0+101) c.tm,iW (bq (d.getD 0+100) (d.getD 0+101) c.ob) (d.getD 0+100) (o.purge (d.getD 0+100) (d.getD 0+101)),bV (d.getD 0+100) (d.getD 0+101) c.tk⟩ d e.val
 |none,true=>CSt.put ⟨dj (d.getD 0+100) (d.getD 0+101) c.tm,bq (d.getD 0+100) (d.getD 0+101) c.ob,kY (bV (d.getD 0+100) (d.getD 0+101) (e.eat.eat c.tk)) (d.getD 0+100)⟩ d e.val
 |none,false=>(c.wr e.wr).put d e.val
end Go.Sy
namespace Go.Sy
variable [aW]
mutual
def SV.bare:SV->SV
 | .byt l _=> .byt l .no
 | .lst y h _=> .lst y h .no
 | .agg cs=> .agg (SV.bareL cs)
 | .tup cs=> .tup (SV.bareL cs)
 | .fn f a b=> .fn f (SV.bareL a) (SV.bareL b)
 |v=>v
def SV.bareL:t6->t6
 |[]=> []
 |v::r=>v.bare::SV.bareL r
end
def xG(obj:aB)(y off n:Nat)(cap:t8):SV:=
 match obj with
 | .arr h z=>if h=y/\off+n<=z.length then .lst y ((z.drop off).take n) (if cap=some n then .clip else .no)else .undef
 | .bar l=>if y=1/\off+n<=l.length then .byt ((l.drop off).take n) (if cap=some n then .clip else .no)else .undef
 | .rc _=> .undef
mutual
def SV.pub(o:Nat)(obj:aB):SV->SV
 | .psl h y off n cap=>if h=o then xG obj y off n cap else .psl h y off n cap
 | .ptr h off=>if h=o then .undef else .ptr h off
 | .ap h y i j=>if h=o then .undef else .ap h y i j
 | .agg cs=> .agg (SV.pubL o obj cs)
 | .tup cs=> .tup (SV.pubL o obj cs)
 | .fn f a b=> .fn f (SV.pubL o obj a) (SV.pubL o obj b)
 |v=>v
def SV.pubL(o:Nat)(obj:aB):t6->t6
 |[]=> []
 |v::r=>v.pub o obj::SV.pubL o obj r
end
def mu(o:Nat)(obj:aB):List (Nat×SV)->List (Nat×SV)
 |[]=> []
 |p::r=>(p.1,p.2.pub o obj)::mu o obj r
def oL(o:Nat)(obj:aB):aB->aB
 | .rc cs=> .rc (SV.pubL o obj cs)
 |ob=>ob
def lN(o:Nat)(obj:aB):List (Nat×aB)->List (Nat×aB)
 |[]=> []
 |p::r=>if p.1=o then lN o obj r else(p.1,oL o obj p.2)::lN o obj r
def CSt.publish(c:CSt)(o:Nat)(vs:t6):CSt×t6:=
 match c.look o with
 |some (.arr sz xs)=>(⟨mu o (.arr sz xs) c.tm,lN o (.arr sz xs) c.ob,c.tk⟩,SV.pubL o (.arr sz xs) vs)
 |some (.bar l)=>(⟨mu o (.bar l) c.tm,lN o (.bar l) c.ob,c.tk⟩,SV.pubL o (.bar l) vs)
 |_=>(c,vs)
def iD:SV->t7
 | .psl o _ _ _ _=> [o]
 |_=> []
def uI:t6->t7
 |[]=> []
 |v::r=>iD v++uI r
def nv(raw:t7)(i:Nat):SV->t7
 | .psl o _ _ _ _=>if raw.contains i=true then []else [o]
 | .agg cs=>if raw.contains i=true then []else uI cs
 |_=> []
def jy(raw:t7):Nat->t6->t7
 |_,[]=> []
 |i,v::r=>nv raw i v++jy raw (i+1) r
def fE(c:CSt)(vs:t6):t7->CSt×t6
 |[]=>(c,vs)
 |o::r=>fE (c.publish o vs).1 (c.publish o vs).2 r
def Tok.kc:Tok->Bool->Tok
 | .clip,b=>if b=true then .clip else .no
 | .no,_=> .no
 | .id _,_=> .no
def SV.kclip:SV->SV
 | .lst y h t=> .lst y h (t.kc h.isEmpty)
 | .byt l t=> .byt l (t.kc l.isEmpty)
 |v=>v.bare
def kF(tk:t7)(j:Nat):SV->SV×List t8
 | .agg cs=>(.agg (cs.map SV.kclip),[])
 | .byt l .no=>(.byt l .no,[])
 | .byt l .clip=>(.byt l (.id j),[none])
 | .byt l (.id t)=>if tk.contains t=true then(.byt l (.id j),[some t])else(.byt l .no,[])
 | .lst sz xs .no=>(.lst sz xs .no,[])
 | .lst sz xs .clip=>(.lst sz xs (.id j),[none])
 | .lst sz xs (.id t)=>if tk.contains t=true then(.lst sz xs (.id j),[some t])else(.lst sz xs .no,[])
 |v=>(v.bare,[])
def uF(j y:Nat)(h:d8):Bool->SV×List t8
 |true=>(.lst y h .clip,[])
 |false=>(.lst y h (.id j),[none])
def uE(tk:t7)(j y:Nat)(h:d8):Tok->SV×List t8
 | .clip=>uF j y h h.isEmpty
 | .no=>kF tk j (.lst y h .no)
 | .id t=>kF tk j (.lst y h (.id t))
def rV(tk:t7)(j:Nat):SV->SV×List t8
 | .lst y h t=>uE tk j y h t
 |v=>kF tk j v
def kG(tk:t7)(own:t7):Nat->Nat->t6->t6×List t8
 |_,_,[]=>([],[])
 |j,i,v::r=>
  if own.contains i=true then
   ((rV tk j v).1::(kG tk own (j+(rV tk j v).2.length) (i+1) r).1,(rV tk j v).2++(kG tk own (j+(rV tk j v).2.length) (i+1) r).2)
  else(v.bare::(kG tk own j (i+1) r).1,(kG tk own j (i+1) r).2)
def td(tk:t7):Nat->t6->t6×List t8
 |_,[]=>([],[])
 |j,v::r=>((kF tk j v).1::(td tk (j+(kF tk j v).2.length) r).1,(kF tk j v).2++(td tk (j+(kF tk j v).2.length) r).2)
def kt(tk:t7)(j:Nat):aB->aB×List t8
 | .rc cs=>(.rc (td tk j cs).1,(td tk j cs).2)
 |o=>(o,[])
def eS(tk:t7):Nat->List aB->List aB×List t8
 |_,[]=>([],[])
 |j,v::r=>((kt tk j v).1::(eS tk (j+(kt tk j v).2.length) r).1,(kt tk j v).2++(eS tk (j+(kt tk j v).2.length) r).2)
def cJ:List t8->t7
 |[]=> []
 |none::r=>cJ r
 |some t::r=>t::cJ r
def eD(c:CSt):Nat->t7->t7->t7
 |0,acc,_=>acc
 |_+1,acc,[]=>acc
 |
  f+1,acc,o::t=>if acc.contains o=true then eD c f acc t else
  match c.look o with
  |some ob=>eD c f (acc++ [o]) (t++ob.ids)
  |none=>eD c f acc t
def looks(c:CSt):t7->Option (List aB)
 |[]=>some []
 |o::r=>match c.look o,looks c r with
  |some ob,some l=>some (ob::l)
  |_,_=>none
def ij:t7->Nat->Nat
 |[],_=>0
 |p::r,o=>if p=o then 0 else ij r o+1
def gw:List aB->t7
 |[]=> []
 |o::r=>o.ids++gw r
def ec:t7->Bool
 |[]=>true
 |a::r=> !r.contains a&&ec r
def pe(a b:t7):Bool:=a.all b.contains
def fe(mo mt:Nat->Nat):List aB->List aB
 |[]=> []
 |o::r=>o.ren mo mt::fe mo mt r
structure eg where
 r:SV
 os:List (Nat×aB)
 tk:List Nat
structure Sig where
 own:List Nat:=[]
 raw:List Nat:=[]
def rH(ob:List (Nat×aB)):List (Nat×aB)->List (Nat×aB)
 |[]=>ob
 |p::r=>rH (iW ob p.1 p.2) r
def rI(tk:t7):t7->t7
 |[]=>tk
 |t::r=>rI (kY tk t) r
def nb(l:t7):t7->t7
 |[]=> []
 |t::r=>if l.contains t=true then nb l r else t::nb l r
def rC(d:Nat):t7->t7
 |[]=> []
 |t::r=>kX d t::rC d r
def eg.small(q:eg):Bool:=q.os.all (fun p=>decide (p.1<1000)&&p.2.ids.all (fun k=>decide (k<1000))&&p.2.toks.all (fun k=>decide (k<1000)))&&q.r.ids.all (fun k=>decide (k<1000))&&q.r.toks.all (fun k=>decide (k<1000))&&q.tk.all (fun k=>decide (k<1000))
def kD(c:CSt)(d:t8)(m mt:t7)(q:eg):CSt:=
 CSt.put ⟨dj ((d.getD 0+1)*1000) ((d.getD 0+2)*1000) c.tm,
  rH (fT m (bq ((d.getD 0+1)*1000) ((d.getD 0+2)*1000) c.ob)) (py (d.getD 0) m q.os),
  rI (nb mt (bV ((d.getD 0+1)*1000) ((d.getD 0+2)*1000) c.tk)) (rC (d.getD 0) q.tk)⟩ d (q.r.ren (jt (d.getD 0) m) (kX (d.getD 0)))
abbrev dr:=Nat->t6->List aB->Nat->Option eg
def eg.bare(q:eg):Bool:=q.os.isEmpty&&q.tk.isEmpty&&q.r.ids.isEmpty&&q.r.toks.isEmpty
def x5(c:CSt)(d:t8)(q:eg):Bool->LAd
 |true=>some (kD c d [] [] q)
 |false=>none
def oO(c:CSt)(d:t8)(q:eg):Bool->LAd
 |true=>some (c.put d q.r)
 |false=>x5 c d q q.small
def m9(c:CSt)(d:t8):Option eg->LAd
 |some q=>oO c d q q.bare
 |none=>none
def xa(c:CSt)(d:t8)(m mt:t7)(q:eg):Bool->LAd
 |true=>some (kD c d m mt q)
 |false=>none
def po(c:CSt)(d:t8)(m mt:t7):Option eg->LAd
 |some q=>xa c d m mt q q.small
 |none=>none
def oE(call:dr)(c:CSt)(d:t8)(g:Nat)(a_:t6)(y:List t8)(m:t7)(os:List aB)(h:List t8):Bool->LAd
 |true=>po c d m (cJ (y++h)) (call g (SV.renL (ij m) id a_) (fe (ij m) id os) (y.length+h.length))
 |false=>none
def oF(call:dr)(c:CSt)(d:t8)(g:Nat)(a_:t6)(h:List t8)(m:t7):List aB×List t8->LAd
 |(os,mt2)=>oE call c d g a_ h m os mt2 (pe (SV.idsL a_++gw os) m&&ec m&&ec (cJ (h++mt2))&&decide (m.length<=40)&&m.all fun o=> !inR (d.getD 0) o)
def l4(call:dr)(c:CSt)(d:t8)(g:Nat)(a_:t6)(h:List t8)(m:t7):Option (List aB)->LAd
 |some os=>oF call c d g a_ h m (eS c.tk (50+h.length) os)
 |none=>none
def oG(call:dr)(c:CSt)(d:t8)(g:Nat):t6×List t8->LAd
 |(a_,mt1)=>l4 call c d g a_ mt1 (eD c 60 [] (SV.idsL a_)) (looks c (eD c 60 [] (SV.idsL a_)))
def ku(call:dr)(sg:Sig)(d:t8)(g:Nat):CSt×t6->LAd
 |(c,a_)=>oG call c d g (kG c.tk sg.own 50 0 a_)
def kB(call:dr)(sg:Sig)(c:CSt)(d:t8)(g:Nat)(a_:t6):Bool->LAd
 |true=>m9 c d (call g (SV.bareL a_) [] 0)
 |false=>ku call sg d g (fE c a_ (jy sg.raw 0 a_))
def iP(call:dr)(sg:Sig)(c:CSt)(d:t8)(g:Nat)(a_:t6):LAd:=
 kB call sg c d g a_ ((SV.idsL a_).isEmpty&&sg.own.isEmpty)
inductive Dir where
 |kill (l:List Nat)
 |gc (l:List Nat)
 |gcr (lo hi:Nat)
 |pub (n:Nat)
 |pubo (o:Nat)
 |tok (n id:Nat)
 |obj (n id:Nat)
 |mtok (o t b:Nat)
inductive RI where
 |op (i:SI) (dead:List Nat)
 |grp (g:Nat) (b:Bool) (l:List SI) (dead:List Nat)
 |own (i:SI) (dead:List Nat)
 |tks (i:SI) (dead:List Nat)
 |dir (d:Dir)
structure FI where
 n:Nat
 q:Bool
 i:SI
inductive RC where
 |skip
 |ops (l:List RI)
 |flt (b ds:List Nat) (l:List FI) (dead:List Nat)
 |fla (b ds:List Nat) (l:List FI) (ps:List (List Nat)) (dead:List Nat)
 |seq (a b:RC)
 |cond (c:Arg) (a b:RC)
 |block (id:Nat) (b:RC)
 |loop (b:RC)
 |exit (id:Nat)
 |ret
 |pre (ds:List Dir) (a:RC)
 |post (a:RC) (ds:List Dir)
 |bad
def erL:List RI->LAc
 |[]=> []
 | .op i _::r=>i::erL r
 | .grp _ _ l _::r=>l++erL r
 | .own i _::r=>i::erL r
 | .tks i _::r=>i::erL r
 | .dir _::r=>erL r
def SOp.er:SOp->SOp
 | .appO z b x y=> .app z b x y
 |o=>o
def SI.er(i:SI):SI:=⟨i.dst,i.g,i.op.er⟩
def Eg:List FI->Nat->SI
 |[],_=>⟨none,none,.lenC 0⟩
 |f::r,k=>if f.n=k then f.i.er else Eg r k
def unF(l:List FI):LAc:=(bQ l.length).map (Eg l)
def RC.er:RC->gS
 | .skip=> .skip
 | .ops l=> .ops (erL l)
 | .flt b h l _=> .drw b h (unF l)
 | .fla b h l _ _=> .drw b h (unF l)
 | .seq a b=> .seq a.er b.er
 | .cond c a b=> .cond c a.er b.er
 | .block id b=> .block id b.er
 | .loop b=> .loop b.er
 | .exit id=> .exit id
 | .ret=> .ret
 | .pre _ a=>a.er
 | .post a _=>a.er
 | .bad=> .bad
def gcC(c:CSt):t7->CSt
 |[]=>c
 |o::r=>gcC (c.purge o (o+1)) r
def D2(c:CSt)(n id o:Nat)(obj:aB)(v:SV):CSt:=
 ⟨jZ (dj id (id+1) (mu o obj c.tm)) n v,bq id (id+1) (lN o obj c.ob),kY (bV id (id+1) c.tk) id⟩
def P3(c:CSt)(n id o y off k h:Nat):Option aB->LAd
 |some (.bar l)=>if y=1/\off+h<=l.length/\k<=h then some (D2 c n id o (.bar (l.take (off+k))) (.byt ((l.drop off).take k) (.id id)))else some c
 |some (.arr sz' xs)=>if sz'=y/\off+h<=xs.length/\k<=h then some (D2 c n id o (.arr sz' (xs.take (off+k))) (.lst y ((xs.drop off).take k) (.id id)))else some c
 |_=>some c
def P4(c:CSt)(n id:Nat):SV->LAd
 | .byt l t=>match t with
  | .no=>some c
  | .clip=>some ⟨jZ (dj id (id+1) c.tm) n (.byt l (.id id)),bq id (id+1) c.ob,kY (bV id (id+1) c.tk) id⟩
  | .id t=>if t=id then some c else if c.tk.contains t=true then some ⟨jZ (dj id (id+1) c.tm) n (.byt l (.id id)),bq id (id+1) c.ob,kY (bV id (id+1) (bV t (t+1) c.tk)) id⟩else none
 | .lst h y t=>match t with
  | .no=>some c
  | .clip=>some ⟨jZ (dj id (id+1) c.tm) n (.lst h y (.id id)),bq id (id+1) c.ob,kY (bV id (id+1) c.tk) id⟩
  | .id t=>if t=id then some c else if c.tk.contains t=true then some ⟨jZ (dj id (id+1) c.tm) n (.lst h y (.id id)),bq id (id+1) c.ob,kY (bV id (id+1) (bV t (t+1) c.tk)) id⟩else none
 | .psl o h off k (some cp)=>P3 c n id o h off k cp (c.look o)
 |_=>some c
def mvC(c:CSt)(n id o h off k:Nat)(cap:t8)(obj:aB):CSt:=
 ⟨jZ (dj id (id+1) (dj o (o+1) c.tm)) n (.psl id h off k cap),iW (bq id (id+1) (bq o (o+1) c.ob)) id obj,bV id (id+1) (bV o (o+1) c.tk)⟩
def xkL(c:CSt)(n id o h off k:Nat)(cap:t8):Option aB->LAd
 |some (.bar l)=>some (mvC c n id o h off k cap (.bar l))
 |some (.arr sz' xs)=>some (mvC c n id o h off k cap (.arr sz' xs))
 |_=>some c
def YI(c:CSt)(n id:Nat):SV->LAd
 | .psl o h off k cap=>if o=id then some c else xkL c n id o h off k cap (c.look o)
 |_=>some c
def mI(t:Nat):t6->Nat->t8
 |[],_=>none
 |v::r,k=>match v with
  | .lst _ _ (.id u)=>if u=t then some k else mI t r (k+1)
  |_=>mI t r (k+1)
def Tk(id:Nat):SV->SV
 | .lst y h _=> .lst y h (.id id)
 |v=>v
def O2(c:CSt)(o t id k:Nat)(cs:t6):LAd:=
 if c.tk.contains t=true/\¬o=id/\¬id=99 then some ⟨dj id (id+1) c.tm,iW (bq id (id+1) c.ob) o (.rc ((SV.purgeL id (id+1) cs).set k (Tk id (cs.getD k .undef)))),kY (bV id (id+1) (bV t (t+1) c.tk)) id⟩else none
def D7(c:CSt)(o t b:Nat):Option aB->LAd
 |some (.rc cs)=>match mI t cs 0 with
  |some k=>O2 c o t (b+k) k cs
  |none=>some c
 |_=>some c
def rz(c:CSt):Dir->LAd
 | .mtok o t b=>D7 c o t b (c.look o)
 | .kill l=>some (c.kill l)
 | .gc l=>some (gcC c l)
 | .gcr lo hi=>some (c.purge lo hi)
 | .pubo o=>some (c.publish o []).1
 | .pub n=>match c.get n with
  | .psl o _ _ _ _=>some (c.publish o []).1
  |_=>some c
 | .tok n id=>if id=99 then none else P4 c n id (c.get n)
 | .obj n id=>if id<100 then none else YI c n id (c.get n)
def jg(c:CSt):List Dir->LAd
 |[]=>some c
 |d::r=>match rz c d with
  |some c'=>jg c' r
  |none=>none
inductive Ex where
 |n
 |x (id:Nat)
 |r
abbrev hJ:=Option (Ex×CSt)
def ox(c:CSt)(d:t8):Option o7->LAd
 |some e=>some (c.app d e)
 |none=>none
def oM(c:CSt):t8->Option d9->LAd
 |some k,some l=>some (c.app (some k) {val:= .psl (k+100) 1 0 l.length (some l.length),new:=some (.bar l)})
 |_,_=>none
def pq(c:CSt)(d:t8)(o off n:Nat)(cap:t8):Option aB->LAd
 |some (.bar l)=>if off+n<=l.length/\cap=some n then some (((c.publish o []).1).put d (.byt ((l.drop off).take n) .clip))else none
 |_=>none
def rB(c:CSt)(d:t8):SV->LAd
 | .psl o 1 off n cap=>pq c d o off n cap (c.look o)
 |_=>none
def Ro(c:CSt):t8->SV->LAd
 |some k,.str l=>some (c.app (some k) {val:= .psl (k+100) 1 0 l.length none,new:=some (.bar l)})
 |_,_=>none
def Rn(c:CSt)(z:t6)(bytes:Nat)(l:d9):t8->Option d9->LAd
 |some k,some l'=>if z.length≠1 then none else if l'=[]then some (c.put (some k) (.byt l .clip))else if bytes=1/\l.length+l'.length<=140737488355328 then some (c.app (some k) {val:= .psl (k+100) 1 0 (l.length+l'.length) none,new:=some (.bar (l++l'))})else none
 |_,_=>none
def Rm(c:CSt)(z:t6)(bytes h:Nat)(l:d8):t8->Option d8->LAd
 |some k,some l'=>if l'=[]then some (c.put (some k) (.lst h l .clip))else if z.length=h/\(l.length+l'.length)*bytes<=140737488355328 then some (c.app (some k) {val:= .psl (k+100) h 0 (l.length+l'.length) none,new:=some (.arr h (l++l'))})else none
 |_,_=>none
def Nr(c:CSt)(z:t6)(bytes o h n:Nat):t8->Option d8->Option d8->Option d9->Option d9->LAd
 |some k,some R,some l',_,_=>if z.length=h/\R.length=n/\(n+l'.length)*bytes<=140737488355328 then some ((c.purge o (o+1)).app (some k) {val:= .psl (k+100) h 0 (n+l'.length) none,new:=some (.arr h (R++l'))})else none
 |some k,none,_,some R,some l'=>if z.length=1/\h=1/\R.length=n/\(n+l'.length)*bytes<=140737488355328 then some ((c.purge o (o+1)).app (some k) {val:= .psl (k+100) 1 0 (n+l'.length) none,new:=some (.bar (R++l'))})else none
 |_,_,_,_,_=>none
def se(c:CSt)(d:t8)(z:t6)(bytes:Nat)(y:Arg):SV->LAd
 | .byt l t=>if t= .clip then Rn c z bytes l d (eJ c (c.ev y))else none
 | .lst h l t=>if t= .clip then Rm c z bytes h l d (gB c z.length (c.ev y))else none
 | .psl o h 0 n none=>Nr c z bytes o h n d (gB c z.length (.psl o h 0 n none)) (gB c z.length (c.ev y)) (eJ c (.psl o h 0 n none)) (eJ c (c.ev y))
 |_=>none
def opC(call:dr)(sg:Nat->Sig)(c:CSt)(d:t8)(o:SOp):LAd:=
 match o with
 | .newB h=>oM c d (toB (evL c h))
 | .slid x=>rB c d (c.ev x)
 | .appO z bytes x y=>se c d z bytes y (c.ev x)
 | .call f a_=>match c.ev f with
  | .fn g a b=>iP call (sg g) c d g (a++evL c a_++b)
  |_=>none
 |o=>ox c d (eM c d o)
def eB(call:dr)(sg:Nat->Sig)(c:CSt)(i:SI):LAd:=
 match i.g with
 |none=>opC call sg c i.dst i.op
 |some (g,b)=>match c.get g with
  | .bool t=>if t=b then opC call sg c i.dst i.op else some (c.put i.dst (.tup []))
  | .tup []=>some (c.put i.dst (.tup []))
  |_=>none
mutual
def plC(call:dr)(sg:Nat->Sig):LAc->CSt->LAd
 |[],c=>some c
 |i::r,c=>nxP call sg r (opC call sg c i.dst i.op)
def nxP(call:dr)(sg:Nat->Sig):LAc->LAd->LAd
 |r,some c=>plC call sg r c
 |_,none=>none
end
def unL(c:CSt):LAc->CSt
 |[]=>c
 |i::r=>unL (c.put i.dst (.tup [])) r
def pT(call:dr)(sg:Nat->Sig)(b:Bool)(l:LAc)(c:CSt):SV->LAd
 | .bool t=>if t=b then plC call sg l c else some (unL c l)
 | .tup []=>some (unL c l)
 |_=>none
def Rl(c:CSt)(h:Nat)(vs:t6):t8->Option d8->LAd
 |some k,some xs=>some (c.app (some k) {val:= .psl (k+100) h 0 xs.length (some xs.length),new:=some (.arr h xs)})
 |some k,none=>gd (h=1/\vs.all SV.one=true) (c.app (some k) {val:= .psl (k+100) 1 0 vs.length (some vs.length),new:=some (.rc vs)})
 |_,_=>none
def xkK(c:CSt)(d:t8):SOp->LAd
 | .lit E h=>Rl c E (evL c h) d (rows E (evL c h))
 | .litB h=>oM c d (toB (evL c h))
 | .s2b x=>Ro c d (c.ev x)
 | .app z bytes x y=>se c d z bytes y (c.ev x)
 |_=>none
def P6(c:CSt):t8->SV->LAd
 |some k,.str l=>some (c.app (some k) {val:= .byt l (.id (k+100)),tok:=true})
 |_,_=>none
def xiY(c:CSt)(d:t8):SOp->LAd
 | .s2b x=>P6 c d (c.ev x)
 |_=>none
def Ax(c:CSt)(i:SI):LAd:=match i.g with
 |none=>xiY c i.dst i.op
 |some _=>none
def tK(c:CSt)(i:SI):LAd:=match i.g with
 |none=>xkK c i.dst i.op
 |some _=>none
mutual
def gA(call:dr)(sg:Nat->Sig):List RI->CSt->LAd
 |[],c=>some c
 | .op i dead::r,c=>nxC call sg dead r (eB call sg c i)
 | .grp g b l dead::r,c=>nxC call sg dead r (pT call sg b l c (c.get g))
 | .own i dead::r,c=>nxC call sg dead r (tK c i)
 | .tks i dead::r,c=>nxC call sg dead r (Ax c i)
 | .dir d::r,c=>nxC call sg [] r (rz c d)
def nxC(call:dr)(sg:Nat->Sig)(h:t7):List RI->LAd->LAd
 |r,some c=>gA call sg r (c.kill h)
 |_,none=>none
end
def dv(c:CSt):SOp->Option SV
 | .pick k a b=>match c.ev k with
  | .bool t=>some (iX t (c.ev a) (c.ev b))
  |_=>none
 |so=>cR c so
def qg(c:CSt)(o:SOp)(b:Bool):SV->Option SV
 | .bool t=>if t=b then dv c o else some (.tup [])
 | .tup []=>some (.tup [])
 |_=>none
def qv(c:CSt)(i:SI):Option SV:=match i.g with
 |none=>dv c i.op
 |some (g,b)=>qg c i.op b (c.get g)
def tU(m:Nat)(c:CSt):List FI->Prop
 |[]=>True
 |p::r=>(m/2^p.n % 2=1\/qv c p.i=some (c.get (p.i.dst.getD 0)))/\tU m c r
open Classical in
noncomputable def gdP{α:Type}(p:Prop)(v:α):Option α:=if p then some v else none
mutual
noncomputable def fO(call:dr)(sg:Nat->Sig)(b:t7):List FI->List FI->CSt->LAd
 |[],_,c=>some c
 |⟨n,true,i⟩::r,ps,c=>wx call sg b r (⟨n,true,i⟩::ps) c i.dst (qv c i)
 |⟨n,false,i⟩::r,ps,c=>ru call sg b r ps (b.getD n 0) (eB call sg c i)
noncomputable def wx(call:dr)(sg:Nat->Sig)(b:t7):List FI->List FI->CSt->t8->Option SV->LAd
 |r,ps,c,d,some v=>fO call sg b r ps (c.put d v)
 |_,_,_,_,none=>none
noncomputable def ru(call:dr)(sg:Nat->Sig)(b:t7):List FI->List FI->Nat->LAd->LAd
 |r,ps,m,some c=>rx call sg b r ps (gdP (tU m c ps) c)
 |_,_,_,none=>none
noncomputable def rx(call:dr)(sg:Nat->Sig)(b:t7):List FI->List FI->LAd->LAd
 |r,ps,some c=>fO call sg b r ps c
 |_,_,none=>none
end
def uX:List FI->Nat->FI
 |[],k=>⟨k,false,⟨none,none,.lenC 0⟩⟩
 |f::r,k=>if f.n=k then f else uX r k
def jk(l:List FI):t7->List FI
 |[]=> []
 |k::r=>uX l k::jk l r
noncomputable def oP:LAd->LAd->LAd
 |some a,some b=>gdP (a=b) a
 |_,_=>none
noncomputable def jE(call:dr)(sg:Nat->Sig)(b:t7)(l:List FI):List t7->CSt->LAd
 |[],_=>none
 |[p],c=>fO call sg b (jk l p) [] c
 |p::q::r,c=>oP (fO call sg b (jk l p) [] c) (jE call sg b l (q::r) c)
def nrm(h:t7):LAd->hJ
 |some c=>some (.n,c.kill h)
 |none=>none
def sq(rn:RC->CSt->hJ)(b:RC):hJ->hJ
 |some (.n,c)=>rn b c
 |r=>r
def cnd(rn:RC->CSt->hJ)(a b:RC)(c:CSt):SV->hJ
 | .bool t=>if t=true then rn a c else rn b c
 |_=>none
def blk(id:Nat):hJ->hJ
 |some (.x id',c)=>if id'=id then some (.n,c)else some (.x id',c)
 |r=>r
def lp(rn:RC->CSt->hJ)(b:RC):hJ->hJ
 |some (.n,c)=>rn (.loop b) c
 |r=>r
def prD(rn:RC->CSt->hJ)(a:RC):LAd->hJ
 |some c=>rn a c
 |none=>none
def psD(h:List Dir):hJ->hJ
 |some (.n,c)=>match jg c h with
  |some c'=>some (.n,c')
  |none=>none
 |r=>r
noncomputable def eA(rn:RC->CSt->hJ)(call:dr)(sg:Nat->Sig):RC->CSt->hJ
 | .skip,c=>some (.n,c)
 | .ops l,c=>nrm [] (gA call sg l c)
 | .flt b _ l dead,c=>nrm dead (fO call sg b l [] c)
 | .fla b _ l ps dead,c=>nrm dead (jE call sg b l ps c)
 | .seq a b,c=>sq rn b (rn a c)
 | .cond k a b,c=>cnd rn a b c (c.ev k)
 | .block id b,c=>blk id (rn b c)
 | .loop b,c=>lp rn b (rn b c)
 | .exit id,c=>some (.x id,c)
 | .ret,c=>some (.r,c)
 | .pre ds a,c=>prD rn a (jg c ds)
 | .post a ds,c=>psD ds (rn a c)
 | .bad,_=>none
def SI.ok(N:Nat)(i:SI):Bool:=match i.dst with
 |some d=>decide (d<N)
 |none=>true
def SI.okG(N g:Nat)(b:Bool)(i:SI):Bool:=i.ok N&&(match i.g with|some (g',b')=>decide (g'=g)&&(b'==b)|none=>false)&&decide (i.dst≠some g)
def RI.ok(N:Nat):RI->Bool
 | .op i _=>i.ok N
 | .grp g b l _=>l.all (SI.okG N g b)
 | .own i _=>i.ok N
 | .tks i _=>i.ok N
 | .dir _=>true
def ov(b:t7)(i j:Nat):Bool:=(b.getD j 0).testBit i
def oI(b:t7):t8->List FI->Bool
 |_,[]=>true
 |
  s,f::r=>if f.q then(match s with|some s=>ov b s f.n|none=>true)&&oI b s r
  else(match s with|some s=>ov b s f.n|none=>true)&&oI b (some f.n) r
def Nq(b:t7)(p q:FI):Bool:= !ov b q.n p.n&&(p.q||q.q||ov b p.n q.n)
def pG(b:t7):List FI->Bool
 |[]=>true
 |p::r=>r.all (Nq b p)&&pG b r
def SI.rds(i:SI):t7:=i.op.args.filterMap (fun| .t n=>some n|_=>none)++(match i.g with|some (g,_)=> [g]|none=> [])
def R5(b:t7)(l:List FI):Bool:=l.all fun q=> !q.q||(match q.i.dst with|some d=>l.all fun p=> !p.i.rds.contains d||(ov b q.n p.n&&decide (p.n≠q.n))|none=>false)
def O7(b:t7)(l:List FI):Bool:=oI b none l&&pG b l&&R5 b l&&decide ((l.map FI.n).Nodup)&&l.all (fun f=>decide (f.n<l.length))&&(bQ l.length).all (l.map FI.n).contains
def xl(b:t7):t8->List FI->Bool
 |_,[]=>true
 |s,f::r=>if f.q then(match s with|some s=>ov b s f.n|none=>true)&&xl b s r else xl b (some f.n) r
def uY(b:t7):List FI->Bool
 |[]=>true
 |p::r=>r.all (fun q=> !ov b q.n p.n)&&uY b r
def gh(l:List FI):t7:=l.filterMap fun f=>if f.q then none else some f.n
def lF(b:t7):Nat->List t7->Bool
 |_,[]=>false
 |_,[]::_=>true
 |0,_=>false
 |k+1,A@((h::t)::_)=>(h::t).all fun g=>(h::t).any (fun x=>decide (x≠g)&&ov b x g)||lF b k (A.filterMap fun p=>match p with|x::r=>if x=g then some r else none|[]=>none)
def Py(b:t7)(l:List FI)(h:List t7):Bool:=
 R5 b l&&decide ((l.map FI.n).Nodup)&&l.all (fun f=>decide (f.n<l.length))&&(bQ l.length).all (l.map FI.n).contains&&
 h.all (fun p=>decide p.Nodup&&p.all (l.map FI.n).contains&&(l.map FI.n).all p.contains&&xl b none (jk l p)&&uY b (jk l p))&&lF b l.length (h.map fun p=>gh (jk l p))
def RC.ok(N:Nat):RC->Bool
 | .ops l=>l.all (RI.ok N)
 | .flt b _ l _=>l.all (fun f=>f.i.ok N)&&O7 b l
 | .fla b _ l h _=>l.all (fun f=>f.i.ok N)&&Py b l h
 | .seq a b=>a.ok N&&b.ok N
 | .cond _ a b=>a.ok N&&b.ok N
 | .block _ b=>b.ok N
 | .loop b=>b.ok N
 | .pre _ a=>a.ok N
 | .post a _=>a.ok N
 |_=>true
inductive RV where
 |tmp (t:Nat)
 |cell (t n:Nat) (ag:Bool)
structure FnC where
 code:RC
 n:Nat
 rs:List RV
 keep:List Nat:=[]
 raw:List Nat:=[]
inductive FnB where
 |code (F:FnC)
 |prim (f:List SV->List aB->Nat->Option eg)
structure gR where
 fn:Nat->Option FnB
 sg:Nat->Sig
def rZ(c:CSt):List RV->Option t6
 |[]=>some []
 | .tmp t::r=>match rZ c r with
  |some vs=>some (c.get t::vs)
  |none=>none
 | .cell t n ag::r=>match (if ag=true\/n=1 then mY c n ag (c.get t)else none),rZ c r with
  |some v,some vs=>some (v::vs)
  |_,_=>none
def lH:Nat->t7
 |0=> []
 |n+1=>lH n++ [n]
def gH(k:Nat):List aB->List (Nat×aB)
 |[]=> []
 |o::r=>(k,o)::gH (k+1) r
def iF(k:Nat)(m:t7)(o:Nat):Nat:=if o<k then o else 100+ij m o
def tks(b n:Nat):t7:=(lH n).map (b+ ·)
def Y0(k:Nat)(vs:t6)(h:List t8)(m:t7)(os:List aB)(y:List t8):Bool->Option eg
 |true=>some ⟨(ka vs).ren (iF k m) id,(gH 0 (fe (iF k m) id (os.take k)))++(gH (100+k) (fe (iF k m) id (os.drop k))),tks 60 (h.length+y.length)⟩
 |false=>none
def Y1(k:Nat)(vs:t6)(h:List t8)(m:t7):List aB×List t8->Option eg
 |(os,mt2)=>Y0 k vs h m os mt2 (pe (SV.idsL vs++gw os) m&&ec m&&ec (cJ (h++mt2))&&decide (m.take k=lH k)&&(m.drop k).all fun o=>decide (k<=o))
def Y2(k:Nat)(c:CSt)(vs:t6)(h:List t8)(m:t7):Option (List aB)->Option eg
 |some os=>Y1 k vs h m (eS c.tk (60+h.length) os)
 |none=>none
def Y3(k:Nat)(c:CSt):t6×List t8->Option eg
 |(vs,mt1)=>Y2 k c vs mt1 (eD c 60 [] (lH k++SV.idsL vs)) (looks c (eD c 60 [] (lH k++SV.idsL vs)))
def NJ(keep:t7)(k:Nat)(c:CSt)(vs:t6):Bool->Option eg
 |true=>some ⟨ka (SV.bareL vs),[],[]⟩
 |false=>Y3 k c (kG c.tk keep 60 0 vs)
def R9(keep:t7)(k:Nat):CSt×t6->Option eg
 |(c,vs)=>NJ keep k c vs (decide (k=0)&&(SV.idsL vs).isEmpty&&keep.isEmpty)
def NK(keep raw:t7)(k:Nat)(c:CSt):Option t6->Option eg
 |some vs=>R9 keep k (fE c vs (jy raw 0 vs))
 |none=>none
def o5(F:FnC)(k:Nat):hJ->Option eg
 |some (.n,c)=>NK F.keep F.raw k c (rZ c F.rs)
 |some (.r,c)=>NK F.keep F.raw k c (rZ c F.rs)
 |_=>none
def oN:Nat->t6->List (Nat×SV)
 |_,[]=> []
 |i,v::r=>(i,v)::oN (i+1) r
def rJ(args:t6)(os:List aB)(k:Nat):CSt:=⟨oN 0 args,gH 0 os,tks 50 k⟩
def oZ(rn:RC->CSt->hJ)(F:FnC)(args:t6)(os:List aB)(k:Nat):hJ:=if args.length<=F.n then rn F.code (rJ args os k)else none
def nh(rn:RC->CSt->hJ):Option FnB->t6->List aB->Nat->Option eg
 |some (.code F),args,os,k=>o5 F os.length (oZ rn F args os k)
 |some (.prim f),args,os,k=>f args os k
 |none,_,_,_=>none
noncomputable def gy(T:gR):Nat->RC->CSt->hJ
 |0,_,_=>none
 |n+1,r,c=>eA (gy T n) (fun g args os k=>nh (gy T n) (T.fn g) args os k) T.sg r c
noncomputable def fA(T:gR)(n:Nat):dr:=fun g args os k=>nh (gy T n) (T.fn g) args os k
noncomputable def lim{α:Type}(g:Nat->Option α):Option α:=open Classical in if h:∃n x,g n=some x then g (Classical.choose h)else none
noncomputable def run(T:gR)(r:RC)(c:CSt):hJ:=lim fun n=>gy T n r c
noncomputable def call(T:gR):dr:=fun g args os k=>lim fun n=>fA T n g args os k
end Go.Sy
namespace Go.Sy
variable [aW]
def leR(f g:RC->CSt->hJ):Prop:=∀r c x,f r c=some x->g r c=some x
def leC(f g:dr):Prop:=∀a b o k x,f a b o k=some x->g a b o k=some x
theorem x4{c:CSt}{d:t8}{x:CSt}{a b:Option eg}(h:∀q,a=some q->b=some q)(k:m9 c d a=some x):m9 c d b=some x:=by
 cases a with
 |none=>cases k
 |some q=>rw[h q rfl];exact k
theorem xb{c:CSt}{d:t8}{m mt:t7}{x:CSt}{a b:Option eg}(h:∀q,a=some q->b=some q)(k:po c d m mt a=some x):po c d m mt b=some x:=by
 cases a with
 |none=>cases k
 |some q=>rw[h q rfl];exact k
theorem xc{f g:dr}(h:leC f g){c:CSt}{d:t8}{n:Nat}{a_:t6}{y:List t8}{m:t7}{o:Option (List aB)}{x:CSt}
 (k:l4 f c d n a_ y m o=some x):l4 g c d n a_ y m o=some x:=by
 cases o with
 |none=>cases k
 |some os=>
  simp only[l4]at k ⊢;generalize eS c.tk (50+y.length) os=z at k ⊢;obtain⟨E,F⟩:=z;simp only[oF]at k ⊢;generalize (pe (SV.idsL a_++gw E) m&&ec m&&ec (cJ (y++F))&&decide (m.length<=40)&&m.all fun o=> !inR (d.getD 0) o)=b at k ⊢;cases b with
  |false=>cases k
  |true=>simp only[oE]at k ⊢;exact xb (fun q H=>h _ _ _ _ _ H) k
theorem w9{f g:dr}(h:leC f g){sg:Sig}{d:t8}{n:Nat}{p:CSt×t6}{x:CSt}(k:ku f sg d n p=some x):ku g sg d n p=some x:=by obtain⟨c,a_⟩:=p;simp only[ku]at k ⊢;generalize kG c.tk sg.own 50 0 a_=z at k ⊢;obtain⟨E,y⟩:=z;simp only[oG]at k ⊢;exact xc h k
theorem yc{f g:dr}(h:leC f g){sg:Sig}{c:CSt}{d:t8}{n:Nat}{a_:t6}{x:CSt}(k:iP f sg c d n a_=some x):iP g sg c d n a_=some x:=by
 unfold iP at k ⊢;generalize ((SV.idsL a_).isEmpty&&sg.own.isEmpty)=b at k ⊢;cases b with
 |true=>exact x4 (fun q y=>h _ _ _ _ _ y) k
 |false=>exact w9 h k
theorem mU{f g:dr}(h:leC f g){sg:Nat->Sig}{c:CSt}{d:t8}{o:SOp}{x:CSt}(k:opC f sg c d o=some x):opC g sg c d o=some x:=by
 cases o with
 |call a a_=>simp only[opC]at k ⊢;split at k<;>first|exact yc h k|cases k
 |_=>exact k
theorem jV{f g:dr}(h:leC f g){sg:Nat->Sig}{c:CSt}{i:SI}{x:CSt}(k:eB f sg c i=some x):eB g sg c i=some x:=by
 unfold eB at k ⊢;split at k
 ·exact mU h k
 ·split at k
  ·split at k
   ·rename_i y;rw[if_pos y];exact mU h k
   ·rename_i y;rw[if_neg y];exact k
  ·exact k
  ·cases k
theorem vS{f g:dr}(h:leC f g){sg:Nat->Sig}:∀{l:LAc}{c x:CSt},plC f sg l c=some x->plC g sg l c=some x:=by
 intro l;induction l with
 |nil=>intro c x k;simpa[plC]using k
 |cons i r y=>
  intro c x k;simp only[plC]at k ⊢;cases hs:opC f sg c i.dst i.op with
  |none=>rw[hs]at k;simp[nxP]at k
  |some c1=>rw[hs]at k;rw[mU h hs];simp only[nxP]at k ⊢;exact y k
theorem sE{f g:dr}(h:leC f g){sg:Nat->Sig}{b:Bool}{l:LAc}{c x:CSt}{v:SV}(k:pT f sg b l c v=some x):pT g sg b l c v=some x:=by
 unfold pT at k ⊢;split at k
 ·split at k
  ·rename_i y;rw[if_pos y];exact vS h k
  ·rename_i y;rw[if_neg y];exact k
 ·exact k
 ·cases k
theorem nV{f g:dr}(h:leC f g){sg:Nat->Sig}:∀{l:List RI}{c x:CSt},gA f sg l c=some x->gA g sg l c=some x:=by
 intro l;induction l with
 |nil=>intro c x k;simpa[gA]using k
 |cons i r z=>
  intro c x k;cases i with
  |op i y=>
   simp only[gA]at k ⊢;cases hs:eB f sg c i with
   |none=>rw[hs]at k;simp[nxC]at k
   |some c1=>rw[hs]at k;rw[jV h hs];simp only[nxC]at k ⊢;exact z k
  |grp q b l y=>
   simp only[gA]at k ⊢;cases hs:pT f sg b l c (c.get q)with
   |none=>rw[hs]at k;simp[nxC]at k
   |some c1=>rw[hs]at k;rw[sE h hs];simp only[nxC]at k ⊢;exact z k
  |own i y=>
   simp only[gA]at k ⊢;cases hs:tK c i with
   |none=>rw[hs]at k;simp[nxC]at k
   |some c1=>rw[hs]at k;simp only[nxC]at k ⊢;exact z k
  |tks i y=>
   simp only[gA]at k ⊢;cases hs:Ax c i with
   |none=>rw[hs]at k;simp[nxC]at k
   |some c1=>rw[hs]at k;simp only[nxC]at k ⊢;exact z k
  |dir d=>
   simp only[gA]at k ⊢;cases hs:rz c d with
   |none=>rw[hs]at k;simp[nxC]at k
   |some c1=>rw[hs]at k;simp only[nxC]at k ⊢;exact z k
theorem jB{f g:dr}(h:leC f g){sg:Nat->Sig}{b:t7}:∀{l y:List FI}{c x:CSt},fO f sg b l y c=some x->fO g sg b l y c=some x:=by
 intro l;induction l with
 |nil=>intro y c x k;simpa[fO]using k
 |cons i r z=>
  intro y c x k;obtain⟨n,q,i⟩:=i;cases q with
  |true=>
   simp only[fO]at k ⊢;cases hq:qv c i with
   |none=>rw[hq]at k;simp[wx]at k
   |some v=>rw[hq]at k;simp only[wx]at k ⊢;exact z k
  |false=>
   simp only[fO]at k ⊢;cases hs:eB f sg c i with
   |none=>rw[hs]at k;simp[ru]at k
   |some c1=>
    rw[hs]at k;rw[jV h hs];simp only[ru]at k ⊢;cases hg:gdP (tU (b.getD n 0) c1 y) c1 with
    |none=>rw[hg]at k;simp[rx]at k
    |some c2=>rw[hg]at k;simp only[rx]at k ⊢;exact z k
theorem oh{f g:dr}(h:leC f g){sg:Nat->Sig}{b:t7}{l:List FI}:∀{E:List t7}{c x:CSt},jE f sg b l E c=some x->jE g sg b l E c=some x
 |[],c,x,k=>by simp[jE]at k
 |[p],c,x,k=>jB h k
 |p::q::r,c,x,k=>by
  simp only[jE]at k ⊢;cases h1:fO f sg b (jk l p) [] c with
  |none=>rw[h1]at k;simp[oP]at k
  |some y=>
   cases h2:jE f sg b l (q::r) c with
   |none=>rw[h1,h2]at k;simp[oP]at k
   |some z=>rw[h1,h2]at k;rw[jB h h1,oh h h2];exact k
theorem lZ{rn F:RC->CSt->hJ}{f g:dr}(E:leR rn F)(h:leC f g){sg:Nat->Sig}{r:RC}{c:CSt}{x:Ex×CSt}(k:eA rn f sg r c=some x):eA F g sg r c=some x:=by
 cases r with
 |skip=>exact k
 |ret=>exact k
 |exit id=>exact k
 |ops l=>
  simp only[eA]at k ⊢;cases hs:gA f sg l c with
  |none=>rw[hs]at k;cases k
  |some c1=>rw[hs]at k;rw[nV h hs];exact k
 |flt b I l H=>
  simp only[eA]at k ⊢;cases hs:fO f sg b l [] c with
  |none=>rw[hs]at k;simp[nrm]at k
  |some c1=>rw[hs]at k;rw[jB h hs];exact k
 |fla b I l L H=>
  simp only[eA]at k ⊢;cases hs:jE f sg b l L c with
  |none=>rw[hs]at k;simp[nrm]at k
  |some c1=>rw[hs]at k;rw[oh h hs];exact k
 |seq a b=>
  simp only[eA]at k ⊢;cases hs:rn a c with
  |none=>rw[hs]at k;cases k
  |some p=>
   rw[hs]at k;rw[E _ _ _ hs];obtain⟨e,c1⟩:=p;cases e with
   |n=>exact E _ _ _ k
   |x id=>exact k
   |r=>exact k
 |cond a y z=>
  simp only[eA]at k ⊢;unfold cnd at k ⊢;split at k
  ·split at k
   ·rename_i J;rw[if_pos J];exact E _ _ _ k
   ·rename_i J;rw[if_neg J];exact E _ _ _ k
  ·cases k
 |block id b=>
  simp only[eA]at k ⊢;cases hs:rn b c with
  |none=>rw[hs]at k;cases k
  |some p=>rw[hs]at k;rw[E _ _ _ hs];exact k
 |loop b=>
  simp only[eA]at k ⊢;cases hs:rn b c with
  |none=>rw[hs]at k;cases k
  |some p=>
   rw[hs]at k;rw[E _ _ _ hs];obtain⟨e,c1⟩:=p;cases e with
   |n=>exact E _ _ _ k
   |x id=>exact k
   |r=>exact k
 |pre I a=>
  simp only[eA]at k ⊢;cases hs:jg c I with
  |none=>rw[hs]at k;cases k
  |some c1=>rw[hs]at k;exact E _ _ _ k
 |bad=>cases k
 |post a I=>
  simp only[eA]at k ⊢;cases hs:rn a c with
  |none=>rw[hs]at k;cases k
  |some p=>rw[hs]at k;rw[E _ _ _ hs];exact k
theorem iQ{rn y:RC->CSt->hJ}(z:leR rn y){o:Option FnB}{a:t6}{os:List aB}{k:Nat}{x:eg}(h:nh rn o a os k=some x):nh y o a os k=some x:=by
 cases o with
 |none=>cases h
 |some b=>
  cases b with
  |prim f=>exact h
  |code F=>
   simp only[nh,oZ]at h ⊢;split at h
   ·rename_i E
    rw[if_pos E];cases hs:rn F.code (rJ a os k)with
    |none=>rw[hs]at h;cases h
    |some p=>rw[hs]at h;rw[z _ _ _ hs];exact h
   ·cases h
variable {T : gR}
theorem rY:∀n,leR (gy T n) (gy T (n+1))
 |0=>fun r c x h=>by simp[gy]at h
 |n+1=>fun r c x h=>by have y:=rY n;rw[gy]at h ⊢;exact lZ y (fun g a os k x h=>iQ y h) h
theorem ls{n m:Nat}(h:n<=m):leR (gy T n) (gy T m):=by
 induction m with
 |zero=>
  have:n=0:=by omega
  subst this;exact fun _ _ _ h=>h
 |succ m y=>
  rcases bP n (m+1)with E|E
  ·exact fun r c x z=>rY m r c x (y (by omega) r c x z)
  ·have:n=m+1:=by omega
   subst this;exact fun _ _ _ h=>h
theorem eF{n m:Nat}(h:n<=m):leC (fA T n) (fA T m):=fun _ _ _ _ _ y=>iQ (ls h) y
theorem wj{α:Type}{g:Nat->Option α}(E:∀n m x,n<=m->g n=some x->g m=some x){n:Nat}{x:α}(h:g n=some x):lim g=some x:=by have z:∃n x,g n=some x:=⟨n,x,h⟩;unfold lim;rw[dif_pos z];obtain⟨y,F⟩:=Classical.choose_spec z;have I:=E _ (max n (Classical.choose z)) _ (yn _ _) F;have H:=E _ (max n (Classical.choose z)) _ (Nat.le_max_left _ _) h;rw[F,<-I,H]
theorem Nv{α:Type}{g:Nat->Option α}{x:α}(h:lim g=some x):∃n,g n=some x:=by
 unfold lim at h;split at h
 ·exact⟨_,h⟩
 ·cases h
theorem GP{n:Nat}{r:RC}{c:CSt}{x:Ex×CSt}(h:gy T n r c=some x):run T r c=some x:=wj (fun _ _ _ y h=>ls y _ _ _ h) h
theorem iv{r:RC}{c:CSt}{x:Ex×CSt}(h:run T r c=some x):∃n,gy T n r c=some x:=Nv h
theorem p7{n:Nat}{g:Nat}{a:t6}{os:List aB}{k:Nat}{x:eg}(h:fA T n g a os k=some x):call T g a os k=some x:=wj (fun _ _ _ y h=>eF y _ _ _ _ _ h) h
theorem pI{g:Nat}{a:t6}{os:List aB}{k:Nat}{x:eg}(h:call T g a os k=some x):∃n,fA T n g a os k=some x:=Nv h
theorem GQ(n:Nat):leR (gy T n) (run T):=fun _ _ _ h=>GP h
theorem SH(n:Nat):leC (fA T n) (call T):=fun _ _ _ _ _ h=>p7 h
theorem yd{sg:Sig}{c:CSt}{d:t8}{g:Nat}{a_:t6}{x:CSt}(k:iP (call T) sg c d g a_=some x):∃n,iP (fA T n) sg c d g a_=some x:=by
 unfold iP at k ⊢;generalize ((SV.idsL a_).isEmpty&&sg.own.isEmpty)=b at k ⊢;cases b with
 |true=>
  simp only[kB]at k ⊢;cases hq:call T g (SV.bareL a_) [] 0 with
  |none=>rw[hq]at k;cases k
  |some q=>obtain⟨n,hn⟩:=pI hq;exact⟨n,by rw[hn];rw[hq]at k;exact k⟩
 |false=>
  simp only[kB]at k ⊢;generalize fE c a_ (jy sg.raw 0 a_)=z at k ⊢;obtain⟨c1,H⟩:=z;simp only[ku]at k ⊢;generalize kG c1.tk sg.own 50 0 H=z at k ⊢;obtain⟨h,y⟩:=z;simp only[oG]at k ⊢;cases ho:looks c1 (eD c1 60 [] (SV.idsL h))with
  |none=>rw[ho]at k;cases k
  |some os=>
   rw[ho]at k;simp only[l4]at k ⊢;generalize eS c1.tk (50+y.length) os=z at k ⊢;obtain⟨E,F⟩:=z;simp only[oF]at k ⊢;generalize (pe (SV.idsL h++gw E) (eD c1 60 [] (SV.idsL h))&&ec (eD c1 60 [] (SV.idsL h))&&ec (cJ (y++F))&&decide ((eD c1 60 [] (SV.idsL h)).length<=40)&&(eD c1 60 [] (SV.idsL h)).all fun o=> !inR (d.getD 0) o)=b at k ⊢;cases b with
   |false=>cases k
   |true=>
    simp only[oE]at k ⊢;cases hq:call T g (SV.renL (ij (eD c1 60 [] (SV.idsL h))) id h) (fe (ij (eD c1 60 [] (SV.idsL h))) id E) (y.length+F.length)with
    |none=>rw[hq]at k;cases k
    |some q=>obtain⟨n,hn⟩:=pI hq;exact⟨n,by rw[hn];rw[hq]at k;exact k⟩
theorem qF{sg:Nat->Sig}{c:CSt}{d:t8}{o:SOp}{x:CSt}(k:opC (call T) sg c d o=some x):∃n,opC (fA T n) sg c d o=some x:=by
 cases o with
 |call a a_=>simp only[opC]at k ⊢;split at k<;>first|exact yd k|cases k
 |_=>exact⟨0,k⟩
theorem pj{sg:Nat->Sig}{c:CSt}{i:SI}{x:CSt}(k:eB (call T) sg c i=some x):∃n,eB (fA T n) sg c i=some x:=by
 unfold eB at k ⊢;split at k
 ·exact qF k
 ·split at k
  ·split at k
   ·rename_i h;simp only[if_pos h];exact qF k
   ·rename_i h;simp only[if_neg h];exact⟨0,k⟩
  ·exact⟨0,k⟩
  ·cases k
theorem FD{sg:Nat->Sig}:∀{l:LAc}{c x:CSt},plC (call T) sg l c=some x->∃n,plC (fA T n) sg l c=some x:=by
 intro l;induction l with
 |nil=>intro c x k;exact⟨0,by simpa[plC]using k⟩
 |cons i r y=>
  intro c x k;simp only[plC]at k ⊢;cases hs:opC (call T) sg c i.dst i.op with
  |none=>rw[hs]at k;simp[nxP]at k
  |some c1=>rw[hs]at k;simp only[nxP]at k;obtain⟨n,hn⟩:=qF hs;obtain⟨m,h⟩:=y k;refine⟨max n m, ?_⟩;rw[mU (eF (Nat.le_max_left n m)) hn];simp only[nxP];exact vS (eF (yn n m)) h
theorem Dw{sg:Nat->Sig}{b:Bool}{l:LAc}{c x:CSt}{v:SV}(k:pT (call T) sg b l c v=some x):∃n,pT (fA T n) sg b l c v=some x:=by
 unfold pT at k ⊢;split at k
 ·split at k
  ·rename_i h;simp only[if_pos h];exact FD k
  ·rename_i h;simp only[if_neg h];exact⟨0,k⟩
 ·exact⟨0,k⟩
 ·cases k
theorem Dj{sg:Nat->Sig}:∀{l:List RI}{c x:CSt},gA (call T) sg l c=some x->∃n,gA (fA T n) sg l c=some x:=by
 intro l;induction l with
 |nil=>intro c x k;exact⟨0,by simpa[gA]using k⟩
 |cons i r y=>
  intro c x k;cases i with
  |op i h=>
   simp only[gA]at k ⊢;cases hs:eB (call T) sg c i with
   |none=>rw[hs]at k;simp[nxC]at k
   |some c1=>rw[hs]at k;simp only[nxC]at k;obtain⟨n,hn⟩:=pj hs;obtain⟨m,z⟩:=y k;refine⟨max n m, ?_⟩;rw[jV (eF (Nat.le_max_left n m)) hn];simp only[nxC];exact nV (eF (yn n m)) z
  |grp q b l h=>
   simp only[gA]at k ⊢;cases hs:pT (call T) sg b l c (c.get q)with
   |none=>rw[hs]at k;simp[nxC]at k
   |some c1=>rw[hs]at k;simp only[nxC]at k;obtain⟨n,hn⟩:=Dw hs;obtain⟨m,z⟩:=y k;refine⟨max n m, ?_⟩;rw[sE (eF (Nat.le_max_left n m)) hn];simp only[nxC];exact nV (eF (yn n m)) z
  |own i h=>
   simp only[gA]at k ⊢;cases hs:tK c i with
   |none=>rw[hs]at k;simp[nxC]at k
   |some c1=>rw[hs]at k;simp only[nxC]at k ⊢;exact y k
  |tks i h=>
   simp only[gA]at k ⊢;cases hs:Ax c i with
   |none=>rw[hs]at k;simp[nxC]at k
   |some c1=>rw[hs]at k;simp only[nxC]at k ⊢;exact y k
  |dir d=>
   simp only[gA]at k ⊢;cases hs:rz c d with
   |none=>rw[hs]at k;simp[nxC]at k
   |some c1=>rw[hs]at k;simp only[nxC]at k ⊢;exact y k
theorem od{sg:Nat->Sig}{b:t7}:∀{l h:List FI}{c x:CSt},fO (call T) sg b l h c=some x->∃n,fO (fA T n) sg b l h c=some x:=by
 intro l;induction l with
 |nil=>intro h c x k;exact⟨0,by simpa[fO]using k⟩
 |cons i r H=>
  intro h c x k;obtain⟨n,q,i⟩:=i;cases q with
  |true=>
   simp only[fO]at k ⊢;cases hq:qv c i with
   |none=>rw[hq]at k;simp[wx]at k
   |some v=>rw[hq]at k;simp only[wx]at k ⊢;exact H k
  |false=>
   simp only[fO]at k ⊢;cases hs:eB (call T) sg c i with
   |none=>rw[hs]at k;simp[ru]at k
   |some c1=>
    rw[hs]at k;simp only[ru]at k;cases hg:gdP (tU (b.getD n 0) c1 h) c1 with
    |none=>rw[hg]at k;simp[rx]at k
    |some c2=>rw[hg]at k;simp only[rx]at k;obtain⟨F,E⟩:=pj hs;obtain⟨z,y⟩:=H k;refine⟨max F z, ?_⟩;rw[jV (eF (Nat.le_max_left F z)) E];simp only[ru];rw[hg];simp only[rx];exact jB (eF (yn F z)) y
theorem sS{sg:Nat->Sig}{b:t7}{l:List FI}:∀{h:List t7}{c x:CSt},jE (call T) sg b l h c=some x->∃n,jE (fA T n) sg b l h c=some x
 |[],c,x,k=>by simp[jE]at k
 |[p],c,x,k=>od k
 |p::q::r,c,x,k=>by
  simp only[jE]at k ⊢;cases h1:fO (call T) sg b (jk l p) [] c with
  |none=>rw[h1]at k;simp[oP]at k
  |some y=>
   cases h2:jE (call T) sg b l (q::r) c with
   |none=>rw[h1,h2]at k;simp[oP]at k
   |some z=>rw[h1,h2]at k;obtain⟨n,hn⟩:=od h1;obtain⟨m,E⟩:=sS h2;exact⟨max n m,by rw[jB (eF (Nat.le_max_left n m)) hn,oh (eF (yn n m)) E];exact k⟩
theorem two{r s:RC}{c d:CSt}{x y:Ex×CSt}(h:run T r c=some x)(k:run T s d=some y):∃n,gy T n r c=some x/\gy T n s d=some y:=by obtain⟨n,hn⟩:=iv h;obtain⟨m,z⟩:=iv k;exact⟨max n m,ls (Nat.le_max_left n m) _ _ _ hn,ls (yn n m) _ _ _ z⟩
theorem w6{r:RC}{c:CSt}{x:Ex×CSt}(k:eA (run T) (call T) T.sg r c=some x):∃n,eA (gy T n) (fA T n) T.sg r c=some x:=by
 cases r with
 |skip=>exact⟨0,k⟩
 |ret=>exact⟨0,k⟩
 |exit id=>exact⟨0,k⟩
 |ops l=>
  simp only[eA]at k ⊢;cases hs:gA (call T) T.sg l c with
  |none=>rw[hs]at k;cases k
  |some c1=>obtain⟨n,hn⟩:=Dj hs;exact⟨n,by rw[hn];rw[hs]at k;exact k⟩
 |flt b E l h=>
  simp only[eA]at k ⊢;cases hs:fO (call T) T.sg b l [] c with
  |none=>rw[hs]at k;simp[nrm]at k
  |some c1=>obtain⟨n,hn⟩:=od hs;exact⟨n,by rw[hn];rw[hs]at k;exact k⟩
 |fla b E l J h=>
  simp only[eA]at k ⊢;cases hs:jE (call T) T.sg b l J c with
  |none=>rw[hs]at k;simp[nrm]at k
  |some c1=>obtain⟨n,hn⟩:=sS hs;exact⟨n,by rw[hn];rw[hs]at k;exact k⟩
 |seq a b=>
  simp only[eA]at k ⊢;cases hs:run T a c with
  |none=>rw[hs]at k;cases k
  |some p=>
   rw[hs]at k;obtain⟨e,c1⟩:=p;cases e with
   |n=>obtain⟨n,H,F⟩:=two hs k;exact⟨n,by rw[H];exact F⟩
   |x id=>obtain⟨n,hn⟩:=iv hs;exact⟨n,by rw[hn];exact k⟩
   |r=>obtain⟨n,hn⟩:=iv hs;exact⟨n,by rw[hn];exact k⟩
 |cond a y z=>
  simp only[eA]at k ⊢;unfold cnd at k ⊢;split at k
  ·split at k
   ·rename_i I;simp only[if_pos I];exact iv k
   ·rename_i I;simp only[if_neg I];exact iv k
  ·cases k
 |block id b=>
  simp only[eA]at k ⊢;cases hs:run T b c with
  |none=>rw[hs]at k;cases k
  |some p=>obtain⟨n,hn⟩:=iv hs;exact⟨n,by rw[hn];rw[hs]at k;exact k⟩
 |loop b=>
  simp only[eA]at k ⊢;cases hs:run T b c with
  |none=>rw[hs]at k;cases k
  |some p=>
   rw[hs]at k;obtain⟨e,c1⟩:=p;cases e with
   |n=>obtain⟨n,H,F⟩:=two hs k;exact⟨n,by rw[H];exact F⟩
   |x id=>obtain⟨n,hn⟩:=iv hs;exact⟨n,by rw[hn];exact k⟩
   |r=>obtain⟨n,hn⟩:=iv hs;exact⟨n,by rw[hn];exact k⟩
 |pre E a=>
  simp only[eA]at k ⊢;cases hs:jg c E with
  |none=>rw[hs]at k;cases k
  |some c1=>rw[hs]at k;exact iv k
 |bad=>cases k
 |post a E=>
  simp only[eA]at k ⊢;cases hs:run T a c with
  |none=>rw[hs]at k;cases k
  |some p=>obtain⟨n,hn⟩:=iv hs;exact⟨n,by rw[hn];rw[hs]at k;exact k⟩
theorem tL{α:Type}{a b:Option α}(h:∀x,a=some x->b=some x)(k:∀x,b=some x->a=some x):a=b:=by
 cases a with
 |none=>cases b with
  |none=>rfl
  |some x=>exact absurd (k x rfl) (by simp)
 |some x=>exact(h x rfl).symm
theorem iK(r:RC)(c:CSt):run T r c=eA (run T) (call T) T.sg r c:=by
 refine tL (fun x h=> ?_) (fun x h=> ?_)
 ·obtain⟨n,hn⟩:=iv h
  cases n with
  |zero=>simp[gy]at hn
  |succ n=>rw[gy]at hn;exact lZ (GQ n) (SH n) hn
 ·obtain⟨n,hn⟩:=w6 h
  exact GP (n:=n+1) (by rw[gy];exact hn)
theorem Cu(g:Nat)(a:t6)(os:List aB)(k:Nat):call T g a os k=nh (run T) (T.fn g) a os k:=by
 refine tL (fun x h=> ?_) (fun x h=> ?_)
 ·obtain⟨n,hn⟩:=pI h
  exact iQ (GQ n) hn
 ·cases hF:T.fn g with
  |none=>rw[hF]at h;cases h
  |some b=>
   cases b with
   |prim f=>exact p7 (n:=0) (by unfold fA;rw[hF];rw[hF]at h;exact h)
   |code F=>
    rw[hF]at h;simp only[nh,oZ]at h;split at h
    ·rename_i y
     cases hs:run T F.code (rJ a os k)with
     |none=>rw[hs]at h;cases h
     |some p=>obtain⟨n,hn⟩:=iv hs;refine p7 (n:=n) ?_;unfold fA;rw[hF];simp only[nh,oZ,if_pos y];rw[hn];rw[hs]at h;exact h
    ·cases h
theorem Ff(c:CSt):run T .skip c=some (.n,c):=iK _ _
theorem QC(c:CSt):run T .ret c=some (.r,c):=iK _ _
theorem Fl(id:Nat)(c:CSt):run T (.exit id) c=some (.x id,c):=iK _ _
theorem QE(l:List RI)(c:CSt):run T (.ops l) c=nrm [] (gA (call T) T.sg l c):=iK _ _
theorem QG(b z:t7)(l:List FI)(y:List t7)(h:t7)(c:CSt):run T (.fla b z l y h) c=nrm h (jE (call T) T.sg b l y c):=iK _ _
theorem QF(b y:t7)(l:List FI)(h:t7)(c:CSt):run T (.flt b y l h) c=nrm h (fO (call T) T.sg b l [] c):=iK _ _
theorem QB(a b:RC)(c:CSt):run T (.seq a b) c=sq (run T) b (run T a c):=iK _ _
theorem Fo(k:Arg)(a b:RC)(c:CSt):run T (.cond k a b) c=cnd (run T) a b c (c.ev k):=iK _ _
theorem Dc(id:Nat)(b:RC)(c:CSt):run T (.block id b) c=blk id (run T b c):=iK _ _
theorem aj(b:RC)(c:CSt):run T (.loop b) c=lp (run T) b (run T b c):=iK _ _
theorem QD(h:List Dir)(a:RC)(c:CSt):run T (.pre h a) c=prD (run T) a (jg c h):=iK _ _
theorem Fh(a:RC)(h:List Dir)(c:CSt):run T (.post a h) c=psD h (run T a c):=iK _ _
theorem am{g:Nat}{F:FnC}(h:T.fn g=some (.code F))(a:t6)(os:List aB)(k:Nat):call T g a os k=o5 F os.length (oZ (run T) F a os k):=by rw[Cu,h];rfl
theorem eY{g:Nat}{f:t6->List aB->Nat->Option eg}(h:T.fn g=some (.prim f))(a:t6)(os:List aB)(k:Nat):call T g a os k=f a os k:=by rw[Cu,h];rfl
end Go.Sy
namespace Go.Sy
variable [aW]
variable {call : dr} {sg : Nat -> Sig} {c : CSt} {d : Option Nat} {k : Nat}
theorem kz{α:Type}{p:Prop}[Decidable p]{v:α}(h:p):gd p v=some v:=if_pos h
def gu(c:CSt)(d:t8):Option SV->LAd
 |some v=>some (c.put d v)
 |none=>none
theorem De(v:SV):gu c d (some v)=some (c.put d v):=rfl
theorem Df:gu c d none=none:=rfl
theorem Ft(l:List (Nat×SV))(o:List (Nat×aB))(t:t7)(v:SV):CSt.put ⟨l,o,t⟩ (some k) v=⟨jZ l k v,o,t⟩:=rfl
theorem Fu(v:SV):CSt.put c none v=c:=rfl
theorem xdR(l:List (Nat×SV))(o:List (Nat×aB))(t:t7)(n:Nat):CSt.get ⟨l,o,t⟩ n=fo l n:=rfl
theorem RE(l:List (Nat×SV))(o:List (Nat×aB))(t:t7)(n:Nat):CSt.look ⟨l,o,t⟩ n=jo o n:=rfl
theorem xnn(n:Nat):c.ev (.t n)=c.get n:=rfl
theorem xnp(v:SV):c.ev (.c v)=v:=rfl
theorem xno(g:Nat):c.ev (.f g)= .fn g [] []:=rfl
theorem qL:c.kill []=c:=rfl
theorem Dn(l:List (Nat×SV))(o:List (Nat×aB))(t:t7)(n:Nat)(r:t7):CSt.kill ⟨l,o,t⟩ (n::r)=⟨wE l (n::r),o,t⟩:=rfl
def As:Option SV->Option o7
 |some v=>some {val:=v}
 |none=>none
theorem CN(v:SV):As (some v)=some {val:=v}:=rfl
theorem CO:As none=none:=rfl
theorem qV{so:SOp}{o:Option SV}(h:eM c d so=As o):ox c d (eM c d so)=gu c d o:=by rw[h];cases o<;>rfl
theorem PT(o:Option SV):(match o with|some v=>some {val:=v}|none=>none:Option o7)=As o:=by cases o<;>rfl
def D4:SV->Option SV
 | .ptr o off=>some (.ptr o off)
 | .ap o h i j=>some (.ap o h i j)
 | .pp cs=>some (.pp cs)
 | .fn f a b=>some (.fn f a b)
 |_=>none
def Zc(h:Bool):SV->SV->Option SV
 | .bool a,.bool b=>some (.bool (if h then decide (a≠b)else decide (a=b)))
 |_,_=>none
def Y9(y:Bool)(h:t7):SV->SV->Option SV
 | .agg cs,.agg ds=>(il h cs ds).map fun b=> .bool (if y then !b else b)
 |_,_=>none
def uG:SV->Option SV
 | .str l=>some (.str l)
 |_=>none
def Eb(h:Bool):SV->Option SV
 | .nili=>some (.bool (!h))
 | .ife=>some (.bool h)
 |_=>none
def Th:SV->Option SV
 | .str l=>some (.byt l .no)
 |_=>none
def Zd(c:CSt):SV->Option SV
 | .str _=>none
 |v=>(eJ c v).map .str
def GN(l:d9):Option Int->Option Int->Option SV
 |some a,some b=>gd (0<=a/\a<=b/\b<=l.length) (.str ((l.take b.toNat).drop a.toNat))
 |_,_=>none
def DV(c:CSt)(lo hi:Option Arg):SV->Option SV
 | .str l=>GN l (lb c lo 0) (lb c hi l.length)
 |_=>none
def DW(c:CSt)(len h:Nat)(lo hi y:Option Arg):SV->Option SV
 | .ptr o off=>if off=0 then oY c h (.psl o h 0 len (some len)) lo hi y else none
 |_=>none
def u5(off:Nat):SV->Option SV
 | .ptr o k=>some (.ptr o (k+off))
 | .ap o h i j=>some (.ap o h i (j+off))
 | .pp cs=>some (.pp (cs.drop off))
 |_=>none
def YZ(off n:Nat)(h:Bool):SV->Option SV
 | .agg cs=>gd (off+n<=cs.length) (dP h n (cs.drop off))
 |_=>none
def pS(h:Nat):SV->Option Int->Option SV
 | .byt l _,some n=>gd (0<=n/\n<l.length/\h=1) (.pp [.u8 (l.getD n.toNat 0)])
 | .lst sz' xs _,some n=>gd (0<=n/\n<xs.length/\h=sz') (.pp (xs.getD n.toNat []))
 | .psl o sz' off k _,some n=>gd (0<=n/\n<k/\h=sz') (.ap o h (off+n.toNat) 0)
 |_,_=>none
def qM(len h o off:Nat)(n:Int):Option aB->Option SV
 |some (.rc _)=>gd (0<=n/\n<len) (.ptr o (off+n.toNat*h))
 |some _=>gd (off=0/\0<=n/\n<len) (.ap o h n.toNat 0)
 |none=>none
def nK(c:CSt)(len h:Nat):SV->Option Int->Option SV
 | .ptr o off,some n=>qM len h o off n (c.look o)
 | .pp cs,some n=>gd (0<=n/\n<len/\cs.length=len*h) (.pp (cs.drop (n.toNat*h)))
 |_,_=>none
def Ee(len h:Nat)(y:Bool):SV->Option Int->Option SV
 | .agg cs,some n=>gd (0<=n/\n<len/\cs.length=len*h) (dP y h (cs.drop (n.toNat*h)))
 |_,_=>none
def Ed:SV->Option Int->Option SV
 | .str l,some n=>gd (0<=n/\n<l.length) (.u8 (l.getD n.toNat 0))
 |_,_=>none
def Y8(i:Nat):SV->Option SV
 | .tup vs=>gd (i<vs.length) (vs.getD i .undef)
 |_=>none
def lenC:t8->Option SV
 |some n=>some (.int .i64 (n:Nat))
 |none=>none
def Zb:SV->Option SV
 | .psl _ _ _ _ (some m)=>some (.int .i64 m)
 | .byt l t=>if t= .clip then some (.int .i64 l.length)else none
 | .lst _ h t=>if t= .clip then some (.int .i64 h.length)else none
 |_=>none
def D8:SV->SV->Option SV
 | .int k a,.int k' b=>if k=k' then some (.int k (if b<a then b else a))else none
 |_,_=>none
def D9:SV->SV->Option SV
 | .int k a,.int k' b=>if k=k' then some (.int k (if a<b then b else a))else none
 |_,_=>none
def va:Option t6->Option SV
 |some l=>some (.agg l)
 |none=>none
def YL(h:Nat):Option d8->Option SV
 |some r=>some (.lst h r .clip)
 |none=>none
def Ea:Option d9->Option SV
 |some r=>some (.byt r .clip)
 |none=>none
theorem xe5(x:Arg):cR c (.mov x)=some (c.ev x):=rfl
theorem Au(z:t6)(h:List (Nat×Nat×Arg)):cR c (.build z h)=va (jq z (psC c h)):=by simp only[cR];cases jq z (psC c h)<;>rfl
theorem S7(h:Nat)(y:List Arg):cR c (.lit h y)=YL h (rows h (evL c y)):=by simp only[cR];cases rows h (evL c y)<;>rfl
theorem GJ(h:List Arg):cR c (.litB h)=Ea (toB (evL c h)):=by simp only[cR];cases toB (evL c h)<;>rfl
theorem xbj(n:Nat)(h:Bool)(a:Arg):cR c (.load n h a)=mY c n h (c.ev a):=rfl
theorem xbf(x:Arg):cR c (.nchk x)=D4 (c.ev x):=rfl
theorem xfa(op:BinOp)(x y:Arg):cR c (.bin op x y)=Ey op (c.ev x) (c.ev y):=rfl
theorem xfb(h:Bool)(x y:Arg):cR c (.beq h x y)=Zc h (c.ev x) (c.ev y):=rfl
theorem xe8(z:Bool)(h:t7)(x y:Arg):cR c (.eqS z h x y)=Y9 z h (c.ev x) (c.ev y):=rfl
theorem xls(op:UnOp)(x:Arg):cR c (.un op x)=wP op (c.ev x):=rfl
theorem PW(q:IntKind)(x:Arg):cR c (.toInt q x)=iM q (c.ev x):=rfl
theorem PV(x:Arg):cR c (.toStr x)=uG (c.ev x):=rfl
theorem xbl(h:Bool)(x:Arg):cR c (.isni h x)=Eb h (c.ev x):=rfl
theorem xe4(x:Arg):cR c (.s2b x)=Th (c.ev x):=rfl
theorem xfc(x:Arg):cR c (.b2s x)=Zd c (c.ev x):=rfl
theorem xbg(f:Nat)(a b:List Arg):cR c (.mkfn f a b)=some (.fn f (evL c a) (evL c b)):=rfl
theorem GI(x:Arg)(lo hi:Option Arg):cR c (.slcS x lo hi)=DV c lo hi (c.ev x):=by simp only[cR];cases c.ev x<;>rfl
theorem xbd(h:Nat)(x:Arg)(lo hi y:Option Arg):cR c (.slcL h x lo hi y)=oY c h (c.ev x) lo hi y:=rfl
theorem xbe(len h:Nat)(x:Arg)(lo hi y:Option Arg):cR c (.slcA len h x lo hi y)=DW c len h lo hi y (c.ev x):=rfl
theorem PX(off:Nat)(x:Arg):cR c (.faddr off x)=u5 off (c.ev x):=rfl
theorem xe6(off n:Nat)(h:Bool)(x:Arg):cR c (.fld off n h x)=YZ off n h (c.ev x):=rfl
theorem EM(h:Nat)(x i:Arg):cR c (.iaddrL h x i)=pS h (c.ev x) (c.ev i).num:=rfl
theorem vD(len h:Nat)(x i:Arg):cR c (.iaddrA len h x i)=nK c len h (c.ev x) (c.ev i).num:=by simp only[cR];unfold nK qM;rfl
theorem xbn(len h:Nat)(y:Bool)(x i:Arg):cR c (.idxA len h y x i)=Ee len h y (c.ev x) (c.ev i).num:=rfl
theorem xbm(x i:Arg):cR c (.idxS x i)=Ed (c.ev x) (c.ev i).num:=rfl
theorem xe7(x:Arg)(i:Nat):cR c (.ext x i)=Y8 i (c.ev x):=rfl
theorem S8(b:Bool)(x:Arg):cR c (.len b x)=lenC (ky b (c.ev x)):=by simp only[cR];cases ky b (c.ev x)<;>rfl
theorem xbk(n:Nat):cR c (.lenC n)=some (.int .i64 n):=rfl
theorem xe9(x:Arg):cR c (.cap x)=Zb (c.ev x):=rfl
theorem xbh(x y:Arg):cR c (.mini x y)=D8 (c.ev x) (c.ev y):=rfl
theorem xbi(x y:Arg):cR c (.maxi x y)=D9 (c.ev x) (c.ev y):=rfl
def SOp.pure:SOp->Bool
 | .new _| .box _| .mk _ _ _ _| .mkB _ _| .store _ _ _| .app _ _ _ _| .cpy _ _ _| .pick _ _ _| .call _ _| .isnil _ _| .newB _| .slid _| .appO _ _ _ _| .clr _ _=>false
 |_=>true
theorem sI{so:SOp}(h:so.pure=true):eM c d so=As (cR c so):=by
 cases so<;>first|cases h;done|rfl|exact PT _
theorem bY{so:SOp}(h:so.pure=true):opC call sg c d so=gu c d (cR c so):=by
 have y:opC call sg c d so=ox c d (eM c d so):=by cases so<;>first|rfl|cases h
 rw[y];exact qV (sI h)
theorem xgy(x:Arg):opC call sg c d (.mov x)=gu c d (some (c.ev x)):=bY rfl
theorem Ry(z:t6)(h:List (Nat×Nat×Arg)):opC call sg c d (.build z h)=gu c d (va (jq z (psC c h))):=(bY rfl).trans (by rw[Au])
theorem xgA(h:Nat)(y:List Arg):opC call sg c d (.lit h y)=gu c d (YL h (rows h (evL c y))):=(bY rfl).trans (by rw[S7])
theorem xdx(h:List Arg):opC call sg c d (.litB h)=gu c d (Ea (toB (evL c h))):=(bY rfl).trans (by rw[GJ])
theorem xdw(n:Nat)(h:Bool)(a:Arg):opC call sg c d (.load n h a)=gu c d (mY c n h (c.ev a)):=bY rfl
theorem xds(x:Arg):opC call sg c d (.nchk x)=gu c d (D4 (c.ev x)):=bY rfl
theorem xgJ(op:BinOp)(x y:Arg):opC call sg c d (.bin op x y)=gu c d (Ey op (c.ev x) (c.ev y)):=bY rfl
theorem xgK(h:Bool)(x y:Arg):opC call sg c d (.beq h x y)=gu c d (Zc h (c.ev x) (c.ev y)):=bY rfl
theorem xgE(z:Bool)(h:t7)(x y:Arg):opC call sg c d (.eqS z h x y)=gu c d (Y9 z h (c.ev x) (c.ev y)):=bY rfl
theorem xlZ(op:UnOp)(x:Arg):opC call sg c d (.un op x)=gu c d (wP op (c.ev x)):=bY rfl
theorem Ru(q:IntKind)(x:Arg):opC call sg c d (.toInt q x)=gu c d (iM q (c.ev x)):=bY rfl
theorem Rt(x:Arg):opC call sg c d (.toStr x)=gu c d (uG (c.ev x)):=bY rfl
theorem xdr(h:List Arg):opC call sg c d (.newB h)=oM c d (toB (evL c h)):=rfl
theorem xdm(x:Arg):opC call sg c d (.slid x)=rB c d (c.ev x):=rfl
theorem xN(k:Nat)(l:d9):oM c (some k) (some l)=some (CSt.app c (some k) {val:= .psl (k+100) 1 0 l.length (some l.length),new:=some (.bar l)}):=rfl
theorem CU(o off n:Nat)(cap:t8):rB c d (.psl o 1 off n cap)=pq c d o off n cap (c.look o):=rfl
theorem CV(o off n:Nat)(cap:t8)(l:d9):pq c d o off n cap (some (.bar l))=if off+n<=l.length/\cap=some n then some (((c.publish o []).1).put d (.byt ((l.drop off).take n) .clip))else none:=rfl
theorem xdz(h:Bool)(x:Arg):opC call sg c d (.isni h x)=gu c d (Eb h (c.ev x)):=bY rfl
theorem xgw(x:Arg):opC call sg c d (.s2b x)=gu c d (Th (c.ev x)):=bY rfl
theorem xgL(x:Arg):opC call sg c d (.b2s x)=gu c d (Zd c (c.ev x)):=bY rfl
theorem xdt(f:Nat)(a b:List Arg):opC call sg c d (.mkfn f a b)=gu c d (some (.fn f (evL c a) (evL c b))):=bY rfl
theorem xdn(x:Arg)(lo hi:Option Arg):opC call sg c d (.slcS x lo hi)=gu c d (DV c lo hi (c.ev x)):=(bY rfl).trans (by rw[GI])
theorem xdo(h:Nat)(x:Arg)(lo hi y:Option Arg):opC call sg c d (.slcL h x lo hi y)=gu c d (oY c h (c.ev x) lo hi y):=bY rfl
theorem xdp(len h:Nat)(x:Arg)(lo hi y:Option Arg):opC call sg c d (.slcA len h x lo hi y)=gu c d (DW c len h lo hi y (c.ev x)):=bY rfl
theorem Rx(off:Nat)(x:Arg):opC call sg c d (.faddr off x)=gu c d (u5 off (c.ev x)):=bY rfl
theorem xgC(off n:Nat)(h:Bool)(x:Arg):opC call sg c d (.fld off n h x)=gu c d (YZ off n h (c.ev x)):=bY rfl
theorem FK(h:Nat)(x i:Arg):opC call sg c d (.iaddrL h x i)=gu c d (pS h (c.ev x) (c.ev i).num):=bY rfl
theorem FL(len h:Nat)(x i:Arg):opC call sg c d (.iaddrA len h x i)=gu c d (nK c len h (c.ev x) (c.ev i).num):=(bY rfl).trans (by rw[vD])
theorem xdB(len h:Nat)(y:Bool)(x i:Arg):opC call sg c d (.idxA len h y x i)=gu c d (Ee len h y (c.ev x) (c.ev i).num):=bY rfl
theorem xdA(x i:Arg):opC call sg c d (.idxS x i)=gu c d (Ed (c.ev x) (c.ev i).num):=bY rfl
theorem xgD(x:Arg)(i:Nat):opC call sg c d (.ext x i)=gu c d (Y8 i (c.ev x)):=bY rfl
theorem xgB(b:Bool)(x:Arg):opC call sg c d (.len b x)=gu c d (lenC (ky b (c.ev x))):=(bY rfl).trans (by rw[S8])
theorem xdy(n:Nat):opC call sg c d (.lenC n)=gu c d (some (.int .i64 n)):=bY rfl
theorem xgH(x:Arg):opC call sg c d (.cap x)=gu c d (Zb (c.ev x)):=bY rfl
theorem xdu(x y:Arg):opC call sg c d (.mini x y)=gu c d (D8 (c.ev x) (c.ev y)):=bY rfl
theorem xdv(x y:Arg):opC call sg c d (.maxi x y)=gu c d (D9 (c.ev x) (c.ev y)):=bY rfl
def D3(a b:SV):SV->Option SV
 | .bool t=>some (iX t a b)
 |_=>none
theorem xd9(q a b:Arg):eM c d (.pick q a b)=As (D3 (c.ev a) (c.ev b) (c.ev q)):=by simp only[eM];cases c.ev q<;>rfl
theorem xdq(q a b:Arg):opC call sg c d (.pick q a b)=gu c d (D3 (c.ev a) (c.ev b) (c.ev q)):=qV (xd9 q a b)
def uZ(h:Bool):SV->Option SV
 | .byt l _=>gd (l≠ []) (.bool h)
 | .lst _ y _=>gd (y≠ []) (.bool h)
 | .psl _ _ _ _ _=>some (.bool h)
 |_=>none
theorem Sz(h:Bool)(x:Arg):eM c d (.isnil h x)=As (uZ h (c.ev x)):=by simp only[eM];cases c.ev x<;>first|rfl|(simp only[uZ];unfold gd;split<;>rfl)
theorem Rw(h:Bool)(x:Arg):opC call sg c d (.isnil h x)=gu c d (uZ h (c.ev x)):=qV (Sz h x)
def CA(c:CSt)(k:Nat)(o:aB)(v:SV):CSt:=CSt.app c (some k) {val:=v,new:=some o}
theorem SZ(l:List (Nat×SV))(ob:List (Nat×aB))(t:t7)(o:aB)(v:SV):
 CA ⟨l,ob,t⟩ k o v=⟨jZ (dj (k+100) (k+101) l) k v,iW (bq (k+100) (k+101) ob) (k+100) (o.purge (k+100) (k+101)),bV (k+100) (k+101) t⟩:=rfl
def iZ(c:CSt)(k:Nat)(v:SV):Option aB->LAd
 |some o=>some (CA c k o v)
 |none=>none
theorem DR(v:SV)(o:aB):iZ c k v (some o)=some (CA c k o v):=rfl
theorem xgx(o:aB):opC call sg c (some k) (.new o)=iZ c k (.ptr (k+100) 0) (gd (o.wf=true) o):=by show ox c (some k) (gd _ _)=_;unfold gd;split<;>rfl
theorem xgI(x:Arg):opC call sg c (some k) (.box x)=some (CA c k (.rc (c.ev x).cells) (.ptr (k+100) 0)):=rfl
def mkE(bytes:Nat):SV->SV->Option (Nat×Nat)
 | .int _ n,.int _ m=>gd (0<=n/\n<=m/\bytes*m<=140737488355328/\m<=9223372036854775807) (n.toNat,m.toNat)
 |_,_=>none
def mkS(c:CSt)(k:Nat)(z:t6):Option (Nat×Nat)->LAd
 |some p=>some (CA c k (.arr z.length (aJ p.2 z)) (.psl (k+100) z.length 0 p.1 (some p.2)))
 |none=>none
theorem xl0(z:t6)(bytes:Nat)(n m:Arg):opC call sg c (some k) (.mk z bytes n m)=mkS c k z (mkE bytes (c.ev n) (c.ev m)):=by show ox c (some k) (eM c (some k) (.mk z bytes n m))=_;simp only[eM];cases h1:c.ev n<;>cases h2:c.ev m<;>first|rfl|(simp only[mkE];unfold gd;split<;>rfl)
def xes:SV->SV->Option (Nat×Nat)
 | .int _ n,.int _ m=>gd (0<=n/\n<=m/\m<=140737488355328) (n.toNat,m.toNat)
 |_,_=>none
def xkM(c:CSt)(k:Nat):Option (Nat×Nat)->LAd
 |some p=>some (CA c k (.bar (aJ p.2 0)) (.psl (k+100) 1 0 p.1 (some p.2)))
 |none=>none
theorem xgz(n m:Arg):opC call sg c (some k) (.mkB n m)=xkM c k (xes (c.ev n) (c.ev m)):=by show ox c (some k) (eM c (some k) (.mkB n m))=_;simp only[eM];cases h1:c.ev n<;>cases h2:c.ev m<;>first|rfl|(simp only[xes];unfold gd;split<;>rfl)
def stC(c:CSt)(n:Nat)(v:t6):SV->Option (Nat×aB)
 | .ptr o off=>match c.look o with
  |some (.rc cs)=>gd (off+n<=cs.length/\v.length=n/\v.all SV.one=true) (o,.rc (ig cs off v))
  |some (.arr h xs)=>gd (off=0/\n=xs.length*h/\v.length=n/\v.all SV.isData=true) (o,.arr h (ki h xs.length (v.map SV.data)))
  |some (.bar l)=>match toB v with
   |some y=>gd (off=0/\n=l.length/\y.length=n) (o,.bar y)
   |none=>none
  |_=>none
 | .ap o h i j=>match c.look o with
  |some (.arr sz' xs)=>gd (h=sz'/\i<xs.length/\j+n<=h/\v.length=n/\v.all SV.isData=true) (o,.arr sz' (iJ h xs i j n (v.map SV.data)))
  |some (.bar l)=>match v with
   |[.u8 b]=>gd (h=1/\j=0/\n=1/\i<l.length) (o,.bar (l.set i b))
   |_=>none
  |_=>none
 |_=>none
def stS(c:CSt):Option (Nat×aB)->LAd
 |some p=>some ⟨c.tm,iW c.ob p.1 p.2,c.tk⟩
 |none=>none
theorem ET(l:List (Nat×SV))(ob:List (Nat×aB))(t:t7)(p:Nat×aB):stS ⟨l,ob,t⟩ (some p)=some ⟨l,iW ob p.1 p.2,t⟩:=rfl
theorem CS(n:Nat)(v:t6)(a:SV):lJ c n v a=(stC c n v a).map fun p=> {val:= .undef,wr:=[p]}:=by
 cases a with
 |ptr o off=>
  simp only[lJ,stC];cases c.look o with
  |none=>rfl
  |some ob=>
   cases ob with
   |rc cs=>simp only;unfold gd;split<;>rfl
   |arr h y=>simp only;unfold gd;split<;>rfl
   |bar l=>simp only;cases toB v<;>first|rfl|(simp only;unfold gd;split<;>rfl)
 |ap o z i j=>
  simp only[lJ,stC];cases c.look o with
  |none=>rfl
  |some ob=>
   cases ob with
   |rc cs=>rfl
   |arr h y=>simp only;unfold gd;split<;>rfl
   |bar l=>
    rcases v with _|⟨u,_|⟨u2,r⟩⟩
    ·rfl
    ·cases u<;>first|rfl|(simp only;unfold gd;split<;>rfl)
    ·cases u<;>rfl
 |_=>rfl
theorem Rv(n:Nat)(a x:Arg):opC call sg c none (.store n a x)=if(c.ev x).isDef=true then stS c (stC c n (c.ev x).cells (c.ev a))else none:=by
 show ox c none (eM c none (.store n a x))=_;simp only[eM];split
 ·rw[CS];cases stC c n (c.ev x).cells (c.ev a)<;>rfl
 ·rfl
def apB(c:CSt)(k:Nat)(l:d9)(t:Tok)(z:t6)(bytes:Nat):Option d9->LAd
 |some h=>if z.length=1/\bytes=1/\t.readyC c=true/\l.length+h.length<=140737488355328 then some (CSt.app c (some k) {val:= .byt (l++h) (.id (k+100)),eat:=t,tok:=true})else none
 |none=>none
def apL(c:CSt)(k:Nat)(h:Nat)(l:d8)(t:Tok)(z:t6)(bytes:Nat):Option d8->LAd
 |some y=>if z.length=h/\t.readyC c=true/\(l.length+y.length)*bytes<=140737488355328 then some (CSt.app c (some k) {val:= .lst z.length (l++y) (.id (k+100)),eat:=t,tok:=true})else none
 |none=>none
theorem SY(l:List (Nat×SV))(ob:List (Nat×aB))(t:t7)(v:SV)(e:Tok):
 CSt.app ⟨l,ob,t⟩ (some k) {val:=v,eat:=e,tok:=true}=⟨jZ (dj (k+100) (k+101) l) k v,bq (k+100) (k+101) ob,kY (bV (k+100) (k+101) (e.eat t)) (k+100)⟩:=rfl
def apS(c:CSt)(k:Nat)(z:t6)(bytes:Nat)(y:SV):SV->LAd
 | .byt l t=>apB c k l t z bytes (eJ c y)
 | .lst h l t=>apL c k h l t z bytes (gB c z.length y)
 |_=>none
theorem xgM(z:t6)(bytes:Nat)(x y:Arg):opC call sg c (some k) (.app z bytes x y)=apS c k z bytes (c.ev y) (c.ev x):=by
 show ox c (some k) (eM c (some k) (.app z bytes x y))=_;simp only[eM];cases c.ev x<;>try rfl
 ·simp only[apS]
  cases eJ c (c.ev y)with
  |none=>rfl
  |some h=>simp only[di,apB];unfold gd;split<;>rfl
 ·simp only[apS]
  cases gB c z.length (c.ev y)with
  |none=>rfl
  |some h=>simp only[di,apL];unfold gd;split<;>rfl
def cpB(o off n:Nat)(z h:Nat)(l:d9):Option d9->Option (SV×Nat×aB)
 |some y=>gd (z=1/\h=1/\off+n<=l.length) (.int .i64 (min y.length n:Nat),o,.bar (l.take off++y.take n++l.drop (off+(y.take n).length)))
 |none=>none
def cpL(b:Bool)(o off n:Nat)(F E h:Nat)(y:d8):Option d8->Option (SV×Nat×aB)
 |some z=>gd (b=true/\F=E/\F=h/\off+n<=y.length) (.int .i64 (min z.length n:Nat),o,.arr F (y.take off++z.take n++y.drop (off+(z.take n).length)))
 |none=>none
def cp2(b:Bool)(c:CSt)(z o h off n:Nat)(y:SV):Option aB->Option (SV×Nat×aB)
 |some (.bar l)=>cpB o off n z h l (eJ c y)
 |some (.arr sz'' xs)=>cpL b o off n z h sz'' xs (gB c z y)
 |_=>none
def cpC(b:Bool)(c:CSt)(z:Nat)(y:SV):SV->Option (SV×Nat×aB)
 | .psl o h off n _=>cp2 b c z o h off n y (c.look o)
 |_=>none
def cpS(c:CSt)(d:t8):Option (SV×Nat×aB)->LAd
 |some p=>some (CSt.put ⟨c.tm,iW c.ob p.2.1 p.2.2,c.tk⟩ d p.1)
 |none=>none
theorem xdD(z:t6)(b:Nat)(x y:Arg):opC call sg c d (.appO z b x y)=se c d z b y (c.ev x):=rfl
def clA(o off n:Nat)(z:t6)(E h:Nat)(y:d8):Option (SV×Nat×aB):=gd (0<n/\z.length=E/\z.length=h/\off+n<=y.length) (.tup [],o,.arr z.length (y.take off++aJ n z++y.drop (off+n)))
def cl2(z:t6)(o h off n:Nat):Option aB->Option (SV×Nat×aB)
 |some (.arr sz'' xs)=>clA o off n z h sz'' xs
 |_=>none
def clC(c:CSt)(z:t6):SV->Option (SV×Nat×aB)
 | .psl o h off n _=>cl2 z o h off n (c.look o)
 |_=>none
theorem xgG(z:t6)(x:Arg):opC call sg c d (.clr z x)=cpS c d (clC c z (c.ev x)):=by
 show ox c d (eM c d (.clr z x))=_;simp only[eM];cases c.ev x<;>try rfl
 rename_i o y off n cap;simp only[clC];cases c.look o with
 |none=>rfl
 |some ob=>
  cases ob with
  |rc cs=>rfl
  |bar l=>rfl
  |arr h E=>simp only[cl2,clA];unfold gd;split<;>rfl
theorem xgF(h:Nat)(x y:Arg):opC call sg c d (.cpy h x y)=cpS c d (cpC y.isT c h (c.ev y) (c.ev x)):=by
 show ox c d (eM c d (.cpy h x y))=_;simp only[eM];cases c.ev x<;>try rfl
 rename_i o F off n cap;simp only[cpC];cases c.look o with
 |none=>rfl
 |some ob=>
  cases ob with
  |rc cs=>rfl
  |bar l=>
   simp only[cp2];cases eJ c (c.ev y)with
   |none=>rfl
   |some E=>simp only[di,cpB];unfold gd;split<;>rfl
  |arr z H=>
   simp only[cp2];cases gB c h (c.ev y)with
   |none=>rfl
   |some E=>simp only[di,cpL];unfold gd;split<;>rfl
def Pb(call:dr)(sg:Nat->Sig)(c:CSt)(d:t8)(a_:t6):SV->LAd
 | .fn g a b=>iP call (sg g) c d g (a++a_++b)
 |_=>none
theorem xdC(f:Arg)(a_:List Arg):opC call sg c d (.call f a_)=Pb call sg c d (evL c a_) (c.ev f):=by simp only[opC];unfold Pb;rfl
theorem xbC(o:SOp):eB call sg c ⟨d,none,o⟩=opC call sg c d o:=rfl
theorem xce(g:Option (Nat×Bool))(o:SOp)(r:LAc):plC call sg (⟨d,g,o⟩::r) c=nxP call sg r (opC call sg c d o):=by rw[plC]
theorem B3:gA call sg [] c=some c:=by rw[gA]
theorem Ns(i:SI)(h:t7)(r:List RI):gA call sg (.op i h::r) c=nxC call sg h r (eB call sg c i):=by rw[gA]
theorem B4(g:Nat)(b:Bool)(l:LAc)(h:t7)(r:List RI):gA call sg (.grp g b l h::r) c=nxC call sg h r (pT call sg b l c (c.get g)):=by rw[gA]
theorem B0(i:SI)(h:t7)(r:List RI):gA call sg (.tks i h::r) c=nxC call sg h r (Ax c i):=by rw[gA]
theorem P5(d:t8)(x:Arg):Ax c ⟨d,none,.s2b x⟩=P6 c d (c.ev x):=rfl
theorem xbr(k:Nat)(l:d9):P6 c (some k) (.str l)=some (CSt.app c (some k) {val:= .byt l (.id (k+100)),tok:=true}):=rfl
theorem B1(i:SI)(h:t7)(r:List RI):gA call sg (.own i h::r) c=nxC call sg h r (tK c i):=by rw[gA]
theorem Ri(d:t8)(x:Arg):tK c ⟨d,none,.s2b x⟩=Ro c d (c.ev x):=rfl
theorem Rj(d:t8)(y:Nat)(h:List Arg):tK c ⟨d,none,.lit y h⟩=Rl c y (evL c h) d (rows y (evL c h)):=rfl
theorem FH(d:t8)(h:List Arg):tK c ⟨d,none,.litB h⟩=oM c d (toB (evL c h)):=rfl
theorem Rk(d:t8)(z:t6)(b:Nat)(x y:Arg):tK c ⟨d,none,.app z b x y⟩=se c d z b y (c.ev x):=rfl
theorem B5(q:Dir)(r:List RI):gA call sg (.dir q::r) c=nxC call sg [] r (rz c q):=by rw[gA]
theorem lO(h:t7)(r:List RI):nxC call sg h r (some c)=gA call sg r (c.kill h):=by rw[nxC]
theorem lP(h:t7)(r:List RI):nxC call sg h r none=none:=by rw[nxC]
theorem Np:plC call sg [] c=some c:=by rw[plC]
theorem B8(r:LAc):nxP call sg r (some c)=plC call sg r c:=by rw[nxP]
theorem B9(r:LAc):nxP call sg r none=none:=by rw[nxP]
theorem xbq:unL c []=c:=rfl
theorem PZ(g:Option (Nat×Bool))(o:SOp)(r:LAc):unL c (⟨d,g,o⟩::r)=unL (c.put d (.tup [])) r:=rfl
theorem xg2(b:Bool)(l:LAc):pT call sg b l c (.tup [])=some (unL c l):=rfl
theorem xg3(b t:Bool)(l:LAc):pT call sg b l c (.bool t)=if t=b then plC call sg l c else some (unL c l):=rfl
theorem xdE(h:t7)(r:List RI)(p:Prop)[Decidable p](a b:LAd):nxC call sg h r (if p then a else b)=if p then nxC call sg h r a else nxC call sg h r b:=by split<;>rfl
theorem xdO(p:Prop)[Decidable p](l h:List (Nat×SV))(o:List (Nat×aB))(t:t7):(if p then some (CSt.mk l o t)else some (CSt.mk h o t))=some (CSt.mk (if p then l else h) o t):=by split<;>rfl
theorem xdN(p:Prop)[Decidable p](n:Nat)(v w:SV)(l h:List (Nat×SV)):(if p then(n,v)::l else(n,w)::h)=(n,if p then v else w)::(if p then l else h):=by split<;>rfl
theorem RN(p:Prop)[Decidable p]:(if p then([]:List (Nat×SV))else [])=[]:=by split<;>rfl
theorem FU{α:Type}(p:Prop)[Decidable p](a:α):(if p then a else a)=a:=by split<;>rfl
theorem FT(p:Prop)[Decidable p](q:IntKind)(a b:Int):(if p then SV.int q a else SV.int q b)= .int q (if p then a else b):=by split<;>rfl
theorem Ds(p:Prop)[Decidable p](a b:Bool):(if p then SV.bool a else SV.bool b)= .bool (if p then a else b):=by split<;>rfl
theorem RM(p:Prop)[Decidable p](a b:UInt8):(if p then SV.u8 a else SV.u8 b)= .u8 (if p then a else b):=by split<;>rfl
theorem Du(t a b:Bool):iX t (.bool a) (.bool b)= .bool (if t=true then a else b):=by cases t<;>rfl
theorem FV(t:Bool)(q:IntKind)(a b:Int):iX t (.int q a) (.int q b)= .int q (if t=true then a else b):=by cases t<;>rfl
theorem RO(t:Bool)(a b:UInt8):iX t (.u8 a) (.u8 b)= .u8 (if t=true then a else b):=by cases t<;>rfl
theorem Dt(a b:SV):iX true a b=a:=rfl
theorem xT(a b:SV):iX false a b=b:=rfl
variable {rn : RC -> CSt -> hJ}
theorem FM(h:t7):nrm h (some c)=some (.n,c.kill h):=rfl
theorem FN(h:t7):nrm h none=none:=rfl
theorem RA(h:t7)(p:Prop)[Decidable p](a b:LAd):nrm h (if p then a else b)=if p then nrm h a else nrm h b:=by split<;>rfl
theorem xly(b:RC):sq rn b (some (.n,c))=rn b c:=rfl
theorem xlw(b:RC)(id:Nat):sq rn b (some (.x id,c))=some (.x id,c):=rfl
theorem xlx(b:RC):sq rn b (some (.r,c))=some (.r,c):=rfl
theorem Ql(b:RC):sq rn b none=none:=rfl
theorem xbt(b:RC)(p:Prop)[Decidable p](x y:hJ):sq rn b (if p then x else y)=if p then sq rn b x else sq rn b y:=by split<;>rfl
theorem xht(a b:RC)(t:Bool):cnd rn a b c (.bool t)=if t=true then rn a c else rn b c:=rfl
theorem xhw(id:Nat):blk id (some (.n,c))=some (.n,c):=rfl
theorem xhv(id:Nat):blk id (some (.r,c))=some (.r,c):=rfl
theorem xhu(id h:Nat):blk id (some (.x h,c))=if h=id then some (.n,c)else some (.x h,c):=rfl
theorem Gv(id:Nat):blk id none=none:=rfl
theorem SN(id:Nat)(p:Prop)[Decidable p](x y:hJ):blk id (if p then x else y)=if p then blk id x else blk id y:=by split<;>rfl
theorem xl7(b:RC):lp rn b (some (.n,c))=rn (.loop b) c:=rfl
theorem xl5(b:RC)(id:Nat):lp rn b (some (.x id,c))=some (.x id,c):=rfl
theorem xl6(b:RC):lp rn b (some (.r,c))=some (.r,c):=rfl
theorem RD(b:RC):lp rn b none=none:=rfl
theorem xdJ(b:RC)(p:Prop)[Decidable p](x y:hJ):lp rn b (if p then x else y)=if p then lp rn b x else lp rn b y:=by split<;>rfl
theorem FB(a:RC):prD rn a (some c)=rn a c:=rfl
theorem xfI(h:List Dir):psD h (some (.n,c))=prD (fun _ c=>some (.n,c)) .skip (jg c h):=by simp only[psD];cases jg c h<;>rfl
theorem xfG(h:List Dir)(id:Nat):psD h (some (.x id,c))=some (.x id,c):=rfl
theorem xfH(h:List Dir):psD h (some (.r,c))=some (.r,c):=rfl
theorem Fx(h:List Dir):psD h none=none:=rfl
theorem Rf(h:List Dir)(p:Prop)[Decidable p](x y:hJ):psD h (if p then x else y)=if p then psD h x else psD h y:=by split<;>rfl
theorem Gi:jg c []=some c:=rfl
def xld(h:List Dir):LAd->LAd
 |some c=>jg c h
 |none=>none
theorem DL(q:Dir)(h:List Dir):jg c (q::h)=xld h (rz c q):=by simp only[jg];cases rz c q<;>rfl
theorem DM(h:List Dir):xld h (some c)=jg c h:=rfl
theorem xg6(F:FnC)(n:Nat):o5 F n (some (.n,c))=NK F.keep F.raw n c (rZ c F.rs):=rfl
theorem xg5(F:FnC)(n:Nat):o5 F n (some (.r,c))=NK F.keep F.raw n c (rZ c F.rs):=rfl
theorem R8(F:FnC)(n:Nat)(p:Prop)[Decidable p](x y:hJ):o5 F n (if p then x else y)=if p then o5 F n x else o5 F n y:=by split<;>rfl
theorem Gr(sg:Sig)(g:Nat)(a_:t6):iP call sg c d g a_=kB call sg c d g a_ ((SV.idsL a_).isEmpty&&sg.own.isEmpty):=rfl
theorem SJ(sg:Sig)(g:Nat)(a_:t6):kB call sg c d g a_ true=m9 c d (call g (SV.bareL a_) [] 0):=rfl
theorem SK(sg:Sig)(g:Nat)(a_:t6):kB call sg c d g a_ false=ku call sg d g (fE c a_ (jy sg.raw 0 a_)):=rfl
theorem Sa(q:eg):m9 c d (some q)=oO c d q q.bare:=rfl
theorem Sc(q:eg):oO c d q true=some (c.put d q.r):=rfl
theorem Sd(q:eg):oO c d q false=x5 c d q q.small:=rfl
theorem Sb(q:eg):x5 c d q true=some (kD c d [] [] q):=rfl
theorem SQ(r:SV)(os:List (Nat×aB))(tk:t7):(eg.mk r os tk).bare=(os.isEmpty&&tk.isEmpty&&r.ids.isEmpty&&r.toks.isEmpty):=rfl
theorem EU(r:SV)(os:List (Nat×aB))(tk:t7):(eg.mk r os tk).small=(os.all (fun p=>decide (p.1<1000)&&p.2.ids.all (fun k=>decide (k<1000))&&p.2.toks.all (fun k=>decide (k<1000)))&&r.ids.all (fun k=>decide (k<1000))&&r.toks.all (fun k=>decide (k<1000))&&tk.all (fun k=>decide (k<1000))):=rfl
theorem Qm(sg:Sig)(g:Nat)(a_:t6):ku call sg d g (c,a_)=oG call c d g (kG c.tk sg.own 50 0 a_):=rfl
theorem Qs(g:Nat)(a_:t6)(h:List t8):oG call c d g (a_,h)=l4 call c d g a_ h (eD c 60 [] (SV.idsL a_)) (looks c (eD c 60 [] (SV.idsL a_))):=rfl
theorem Qr(g:Nat)(a_:t6)(h:List t8)(m:t7)(os:List aB):l4 call c d g a_ h m (some os)=oF call c d g a_ h m (eS c.tk (50+h.length) os):=rfl
theorem Qq(g:Nat)(a_:t6)(h:List t8)(m:t7)(os:List aB)(y:List t8):oF call c d g a_ h m (os,y)=
 oE call c d g a_ h m os y (pe (SV.idsL a_++gw os) m&&ec m&&ec (cJ (h++y))&&decide (m.length<=40)&&m.all fun o=> !inR (d.getD 0) o):=rfl
theorem Qp(g:Nat)(a_:t6)(h:List t8)(m:t7)(os:List aB)(y:List t8):oE call c d g a_ h m os y true=
 po c d m (cJ (h++y)) (call g (SV.renL (ij m) id a_) (fe (ij m) id os) (h.length+y.length)):=rfl
theorem Qo(m mt:t7)(q:eg):po c d m mt (some q)=xa c d m mt q q.small:=rfl
theorem Qn(m mt:t7)(q:eg):xa c d m mt q true=some (kD c d m mt q):=rfl
theorem xd1(keep raw:t7)(vs:t6):NK keep raw k c (some vs)=R9 keep k (fE c vs (jy raw 0 vs)):=rfl
theorem xdU(keep:t7)(vs:t6):R9 keep k (c,vs)=NJ keep k c vs (decide (k=0)&&(SV.idsL vs).isEmpty&&keep.isEmpty):=rfl
theorem xdZ(keep:t7)(vs:t6):NJ keep k c vs true=some ⟨ka (SV.bareL vs),[],[]⟩:=rfl
theorem xd0(keep:t7)(vs:t6):NJ keep k c vs false=Y3 k c (kG c.tk keep 60 0 vs):=rfl
theorem xdY(vs:t6)(h:List t8):Y3 k c (vs,h)=Y2 k c vs h (eD c 60 [] (lH k++SV.idsL vs)) (looks c (eD c 60 [] (lH k++SV.idsL vs))):=rfl
theorem xdX(vs:t6)(h:List t8)(m:t7)(os:List aB):Y2 k c vs h m (some os)=Y1 k vs h m (eS c.tk (60+h.length) os):=rfl
theorem xdW(vs:t6)(h:List t8)(m:t7)(os:List aB)(y:List t8):Y1 k vs h m (os,y)=
 Y0 k vs h m os y (pe (SV.idsL vs++gw os) m&&ec m&&ec (cJ (h++y))&&decide (m.take k=lH k)&&(m.drop k).all fun o=>decide (k<=o)):=rfl
theorem xdV(vs:t6)(h:List t8)(m:t7)(os:List aB)(y:List t8):Y0 k vs h m os y true=
 some ⟨(ka vs).ren (iF k m) id,(gH 0 (fe (iF k m) id (os.take k)))++(gH (100+k) (fe (iF k m) id (os.drop k))),tks 60 (h.length+y.length)⟩:=rfl
theorem Rq(v:SV):ka [v]=v:=rfl
theorem Rp(v w:SV)(r:t6):ka (v::w::r)= .tup (v::w::r):=rfl
theorem Rr:ka []= .tup []:=rfl
theorem E2(raw:t7)(i:Nat)(q:IntKind)(n:Int):nv raw i (.int q n)=[]:=rfl
theorem CY(raw:t7)(i:Nat)(b:Bool):nv raw i (.bool b)=[]:=rfl
theorem Qv(raw:t7)(i:Nat)(b:UInt8):nv raw i (.u8 b)=[]:=rfl
theorem EY(raw:t7)(i:Nat)(l:d9):nv raw i (.str l)=[]:=rfl
theorem E3(raw:t7)(i:Nat)(l:d9)(t:Tok):nv raw i (.byt l t)=[]:=rfl
theorem E1(raw:t7)(i h:Nat)(l:d8)(t:Tok):nv raw i (.lst h l t)=[]:=rfl
theorem CW(raw:t7)(i:Nat):nv raw i .nilp=[]:=rfl
theorem CX(raw:t7)(i:Nat):nv raw i .nili=[]:=rfl
theorem xe(raw:t7)(i:Nat):nv raw i .undef=[]:=rfl
theorem Qw(raw:t7)(i:Nat)(l:t6):nv raw i (.pp l)=[]:=rfl
theorem EZ(raw:t7)(i o off:Nat):nv raw i (.ptr o off)=[]:=rfl
theorem Qy(raw:t7)(i o h a b:Nat):nv raw i (.ap o h a b)=[]:=rfl
theorem E4(raw:t7)(i:Nat)(l:t6):nv raw i (.agg l)=if raw.contains i=true then []else uI l:=rfl
theorem C8:uI []=[]:=rfl
theorem xj(v:SV)(r:t6):uI (v::r)=iD v++uI r:=rfl
theorem C5(q:IntKind)(n:Int):iD (.int q n)=[]:=rfl
theorem xh(b:Bool):iD (.bool b)=[]:=rfl
theorem E5(b:UInt8):iD (.u8 b)=[]:=rfl
theorem C0(l:d9):iD (.str l)=[]:=rfl
theorem C6(l:d9)(t:Tok):iD (.byt l t)=[]:=rfl
theorem C4(h:Nat)(l:d8)(t:Tok):iD (.lst h l t)=[]:=rfl
theorem xf:iD .nilp=[]:=rfl
theorem xg:iD .nili=[]:=rfl
theorem vt:iD .undef=[]:=rfl
theorem E6(l:t6):iD (.pp l)=[]:=rfl
theorem C1(o off:Nat):iD (.ptr o off)=[]:=rfl
theorem E8(o h a b:Nat):iD (.ap o h a b)=[]:=rfl
theorem C7(l:t6):iD (.agg l)=[]:=rfl
theorem CZ(l:t6):iD (.tup l)=[]:=rfl
theorem E7(f:Nat)(a b:t6):iD (.fn f a b)=[]:=rfl
theorem C3(o h off n:Nat)(m:t8):iD (.psl o h off n m)=[o]:=rfl
theorem EX(raw:t7)(i:Nat)(l:t6):nv raw i (.tup l)=[]:=rfl
theorem Qx(raw:t7)(i f:Nat)(a b:t6):nv raw i (.fn f a b)=[]:=rfl
theorem E0(raw:t7)(i o h off n:Nat)(m:t8):nv raw i (.psl o h off n m)=if raw.contains i=true then []else [o]:=rfl
theorem RU(p:Prop)[Decidable p](a b v:SV):iX (decide p) (if p then a else b) v=iX (decide p) a v:=by by_cases h:p<;>simp[iX,h]
theorem RT(p:Prop)[Decidable p](a b v:SV):iX (decide p) v (if ¬p then a else b)=iX (decide p) v a:=by by_cases h:p<;>simp[iX,h]
theorem RQ(t:Bool)(a b v:SV):iX t (if t=true then a else b) v=iX t a v:=by cases t<;>simp[iX]
theorem RP(t:Bool)(a b v:SV):iX t v (if t=false then a else b)=iX t v a:=by cases t<;>simp[iX]
theorem RS(t:Bool)(a b v:SV):iX (!t) (if t=false then a else b) v=iX (!t) a v:=by cases t<;>simp[iX]
theorem RR(t:Bool)(a b v:SV):iX (!t) v (if t=true then a else b)=iX (!t) v a:=by cases t<;>simp[iX]
theorem SP(p q:Prop)[Decidable p][Decidable q]:(if p then decide q else false)=decide (p/\q):=by by_cases h:p<;>simp[h]
theorem xeh(p q:Prop)[Decidable p][Decidable q]:(if p then true else decide q)=decide (p\/q):=by by_cases h:p<;>simp[h]
theorem SU(v:SV):c.app d {val:=v}=c.put d v:=rfl
theorem SW(l:List (Nat×SV))(ob:List (Nat×aB))(t:t7)(o:aB)(v:SV):
 CSt.app ⟨l,ob,t⟩ (some k) {val:=v,new:=some o}=⟨jZ (dj (k+100) (k+101) l) k v,iW (bq (k+100) (k+101) ob) (k+100) (o.purge (k+100) (k+101)),bV (k+100) (k+101) t⟩:=rfl
theorem xei(l:List (Nat×SV))(ob:List (Nat×aB))(t:t7)(v:SV)(p:Nat×aB):CSt.app ⟨l,ob,t⟩ d {val:=v,wr:=[p]}=CSt.put ⟨l,iW ob p.1 p.2,t⟩ d v:=rfl
theorem Gl(l:List (Nat×SV))(ob:List (Nat×aB))(t:t7)(p:SV×Nat×aB):cpS ⟨l,ob,t⟩ d (some p)=some (CSt.put ⟨l,iW ob p.2.1 p.2.2,t⟩ d p.1):=rfl
theorem FP(z:t6)(p:Nat×Nat):mkS c k z (some p)=some (CA c k (.arr z.length (aJ p.2 z)) (.psl (k+100) z.length 0 p.1 (some p.2))):=rfl
theorem Dm(p:Nat×Nat):xkM c k (some p)=some (CA c k (.bar (aJ p.2 0)) (.psl (k+100) 1 0 p.1 (some p.2))):=rfl
theorem xeR(x:Arg):dv c (.mov x)=some (c.ev x):=by simp only[dv];rw[xe5]
theorem PN(z:t6)(h:List (Nat×Nat×Arg)):dv c (.build z h)=va (jq z (psC c h)):=by simp only[dv];rw[Au]
theorem xeS(h:Nat)(y:List Arg):dv c (.lit h y)=YL h (rows h (evL c y)):=by simp only[dv];rw[S7]
theorem xa6(h:List Arg):dv c (.litB h)=Ea (toB (evL c h)):=by simp only[dv];rw[GJ]
theorem xa5(n:Nat)(h:Bool)(a:Arg):dv c (.load n h a)=mY c n h (c.ev a):=by simp only[dv];rw[xbj]
theorem xa1(x:Arg):dv c (.nchk x)=D4 (c.ev x):=by simp only[dv];rw[xbf]
theorem xeY(op:BinOp)(x y:Arg):dv c (.bin op x y)=Ey op (c.ev x) (c.ev y):=by simp only[dv];rw[xfa]
theorem xeZ(h:Bool)(x y:Arg):dv c (.beq h x y)=Zc h (c.ev x) (c.ev y):=by simp only[dv];rw[xfb]
theorem xeW(z:Bool)(h:t7)(x y:Arg):dv c (.eqS z h x y)=Y9 z h (c.ev x) (c.ev y):=by simp only[dv];rw[xe8]
theorem xll(op:UnOp)(x:Arg):dv c (.un op x)=wP op (c.ev x):=by simp only[dv];rw[xls]
theorem PL(q:IntKind)(x:Arg):dv c (.toInt q x)=iM q (c.ev x):=by simp only[dv];rw[PW]
theorem PK(x:Arg):dv c (.toStr x)=uG (c.ev x):=by simp only[dv];rw[PV]
theorem xa8(h:Bool)(x:Arg):dv c (.isni h x)=Eb h (c.ev x):=by simp only[dv];rw[xbl]
theorem xeQ(x:Arg):dv c (.s2b x)=Th (c.ev x):=by simp only[dv];rw[xe4]
theorem xe0(x:Arg):dv c (.b2s x)=Zd c (c.ev x):=by simp only[dv];rw[xfc]
theorem xa2(f:Nat)(a b:List Arg):dv c (.mkfn f a b)=some (.fn f (evL c a) (evL c b)):=by simp only[dv];rw[xbg]
theorem xaX(x:Arg)(lo hi:Option Arg):dv c (.slcS x lo hi)=DV c lo hi (c.ev x):=by simp only[dv];rw[GI]
theorem xaY(h:Nat)(x:Arg)(lo hi y:Option Arg):dv c (.slcL h x lo hi y)=oY c h (c.ev x) lo hi y:=by simp only[dv];rw[xbd]
theorem xaZ(len h:Nat)(x:Arg)(lo hi y:Option Arg):dv c (.slcA len h x lo hi y)=DW c len h lo hi y (c.ev x):=by simp only[dv];rw[xbe]
theorem PM(off:Nat)(x:Arg):dv c (.faddr off x)=u5 off (c.ev x):=by simp only[dv];rw[PX]
theorem xeU(off n:Nat)(h:Bool)(x:Arg):dv c (.fld off n h x)=YZ off n h (c.ev x):=by simp only[dv];rw[xe6]
theorem EI(h:Nat)(x i:Arg):dv c (.iaddrL h x i)=pS h (c.ev x) (c.ev i).num:=by simp only[dv];rw[EM]
theorem EJ(len h:Nat)(x i:Arg):dv c (.iaddrA len h x i)=nK c len h (c.ev x) (c.ev i).num:=by simp only[dv];rw[vD]
theorem xba(len h:Nat)(y:Bool)(x i:Arg):dv c (.idxA len h y x i)=Ee len h y (c.ev x) (c.ev i).num:=by simp only[dv];rw[xbn]
theorem xa9(x i:Arg):dv c (.idxS x i)=Ed (c.ev x) (c.ev i).num:=by simp only[dv];rw[xbm]
theorem xeV(x:Arg)(i:Nat):dv c (.ext x i)=Y8 i (c.ev x):=by simp only[dv];rw[xe7]
theorem xeT(b:Bool)(x:Arg):dv c (.len b x)=lenC (ky b (c.ev x)):=by simp only[dv];rw[S8]
theorem xa7(n:Nat):dv c (.lenC n)=some (.int .i64 n):=by simp only[dv];rw[xbk]
theorem xeX(x:Arg):dv c (.cap x)=Zb (c.ev x):=by simp only[dv];rw[xe9]
theorem xa3(x y:Arg):dv c (.mini x y)=D8 (c.ev x) (c.ev y):=by simp only[dv];rw[xbh]
theorem xa4(x y:Arg):dv c (.maxi x y)=D9 (c.ev x) (c.ev y):=by simp only[dv];rw[xbi]
theorem xa0(q a b:Arg):dv c (.pick q a b)=D3 (c.ev a) (c.ev b) (c.ev q):=by simp only[dv];cases c.ev q<;>rfl
theorem xlQ(o:SOp):qv c ⟨d,none,o⟩=dv c o:=rfl
theorem xlP(g:Nat)(b:Bool)(o:SOp):qv c ⟨d,some (g,b),o⟩=qg c o b (c.get g):=rfl
theorem xlS(b t:Bool)(o:SOp):qg c o b (.bool t)=if t=b then dv c o else some (.tup []):=rfl
theorem xlR(b:Bool)(o:SOp):qg c o b (.tup [])=some (.tup []):=rfl
def stG(call:dr)(sg:Nat->Sig)(c:CSt)(d:t8)(o:SOp)(b:Bool):SV->LAd
 | .bool t=>if t=b then opC call sg c d o else some (c.put d (.tup []))
 | .tup []=>some (c.put d (.tup []))
 |_=>none
theorem xbB(g:Nat)(b:Bool)(o:SOp):eB call sg c ⟨d,some (g,b),o⟩=stG call sg c d o b (c.get g):=by unfold eB stG;rfl
theorem xfg(b t:Bool)(o:SOp):stG call sg c d o b (.bool t)=if t=b then opC call sg c d o else some (c.put d (.tup [])):=rfl
theorem xff(b:Bool)(o:SOp):stG call sg c d o b (.tup [])=some (c.put d (.tup [])):=rfl
theorem xdS(b:t7)(h:List FI):fO call sg b [] h c=some c:=by rw[fO]
theorem xmJ(b:t7)(n:Nat)(i:SI)(r h:List FI):fO call sg b (⟨n,true,i⟩::r) h c=wx call sg b r (⟨n,true,i⟩::h) c i.dst (qv c i):=by rw[fO]
theorem xmK(b:t7)(n:Nat)(i:SI)(r h:List FI):fO call sg b (⟨n,false,i⟩::r) h c=ru call sg b r h (b.getD n 0) (eB call sg c i):=by rw[fO]
theorem xmH(b:t7)(r h:List FI)(v:SV):wx call sg b r h c d (some v)=fO call sg b r h (c.put d v):=by rw[wx]
theorem xmI(b:t7)(r h:List FI)(m:Nat):ru call sg b r h m (some c)=rx call sg b r h (gdP (tU m c h) c):=by rw[ru]
theorem xmL(b:t7)(r h:List FI):rx call sg b r h (some c)=fO call sg b r h c:=by rw[rx]
theorem R3{α:Type}{p:Prop}(v:α)(h:p):gdP p v=some v:=by unfold gdP;exact if_pos h
theorem xhz(b:t7)(l:List FI)(p:t7):jE call sg b l [p] c=fO call sg b (jk l p) [] c:=by rw[jE]
theorem xhy(b:t7)(l:List FI)(p q:t7)(r:List t7):jE call sg b l (p::q::r) c=oP (fO call sg b (jk l p) [] c) (jE call sg b l (q::r) c):=by rw[jE]
theorem xnu(a h:CSt):oP (some a) (some h)=gdP (a=h) a:=rfl
theorem xdT(m:Nat):tU m c []=True:=rfl
theorem R7(m:Nat)(p:FI)(r:List FI):tU m c (p::r)=((m/2^p.n % 2=1\/qv c p.i=some (c.get (p.i.dst.getD 0)))/\tU m c r):=rfl
end Go.Sy
namespace Go.Sy
variable [aW]
theorem sF{n:Nat}:∀{l:List (Nat×SV)},(∀p∈l,p.1≠n)->fo l n= .undef
 |[],_=>rfl
 |p::r,h=>by simp only[fo];rw[if_neg (h p (aq ..))];exact sF fun q y=>h q (af _ y)
theorem m7(n:Nat)(v:SV)(m:Nat):∀l:List (Nat×SV),fo (jZ l n v) m=if m=n then v else fo l m
 |[]=>by simp only[jZ,fo];by_cases h:n=m<;>simp[h,eq_comm]
 |p::r=>by
  simp only[jZ];split
  ·simp only[fo]
   by_cases h:n=m
   ·simp[h]
   ·rw[if_neg h,if_neg (Ne.symm h)]
  ·split
   ·rename_i z y
    simp only[fo]
    by_cases h:n=m
    ·simp[h]
    ·rw[if_neg h,if_neg (Ne.symm h),if_neg (by omega)]
   ·rename_i z y
    simp only[fo,m7 n v m r]
    by_cases h:p.1=m
    ·rw[if_pos h,if_pos h,if_neg (by omega)]
    ·rw[if_neg h,if_neg h]
theorem mX{n:Nat}{v:SV}{p:Nat×SV}:∀{l:List (Nat×SV)},p∈jZ l n v->p=(n,v)\/p∈l
 |[],h=>by simpa[jZ]using h
 |q::r,h=>by
  simp only[jZ]at h;split at h
  ·rcases al.1 h with h|h
   ·exact .inl h
   ·exact .inr h
  ·split at h
   ·rcases al.1 h with h|h
    ·exact .inl h
    ·exact .inr (af _ h)
   ·rcases al.1 h with h|h
    ·exact .inr (h ▸ aq ..)
    ·rcases mX h with h|h
     ·exact .inl h
     ·exact .inr (af _ h)
theorem gO(lo hi n:Nat):∀l:List (Nat×SV),fo (dj lo hi l) n=(fo l n).purge lo hi
 |[]=>by simp[dj,fo,SV.purge]
 |p::r=>by
  simp only[dj,fo];split
  ·rfl
  ·exact gO lo hi n r
theorem kd{lo hi:Nat}{p:Nat×SV}:∀{l:List (Nat×SV)},p∈dj lo hi l->∃q∈l,p.1=q.1
 |q::r,h=>by
  simp only[dj]at h;rcases al.1 h with h|h
  ·exact⟨q,aq ..,by rw[h]⟩
  ·obtain⟨u,z,y⟩:=kd h
   exact⟨u,af _ z,y⟩
theorem qH{k:t7}{p:Nat×SV}:∀{l:List (Nat×SV)},p∈wE l k->p∈l
 |q::r,h=>by
  simp only[wE]at h;split at h
  ·exact af _ (qH h)
  ·rcases al.1 h with h|h
   ·exact h ▸ aq ..
   ·exact af _ (qH h)
theorem qP(k:t7)(n:Nat):∀l:List (Nat×SV),fo (wE l k) n=if k.contains n=true then .undef else fo l n
 |[]=>by simp[wE,fo]
 |p::r=>by
  simp only[wE,fo];split
  ·rename_i h
   rw[qP k n r]
   by_cases y:p.1=n
   ·subst y;rw[if_pos h,if_pos h]
   ·rw[if_neg y]
  ·rename_i h
   simp only[fo,qP k n r]
   by_cases y:p.1=n
   ·subst y;rw[if_pos rfl,if_neg h,if_pos rfl]
   ·rw[if_neg y,if_neg y]
theorem qQ(n:Nat)(v:aB)(m:Nat):∀l:List (Nat×aB),jo (iW l n v) m=if m=n then some v else jo l m
 |[]=>by simp only[iW,jo];by_cases h:n=m<;>simp[h,eq_comm]
 |p::r=>by
  simp only[iW];split
  ·simp only[jo]
   by_cases h:n=m
   ·simp[h]
   ·rw[if_neg h,if_neg (Ne.symm h)]
  ·split
   ·rename_i z y
    simp only[jo]
    by_cases h:n=m
    ·simp[h]
    ·rw[if_neg h,if_neg (Ne.symm h),if_neg (by omega)]
   ·rename_i z y
    simp only[jo,qQ n v m r]
    by_cases h:p.1=m
    ·rw[if_pos h,if_pos h,if_neg (by omega)]
    ·rw[if_neg h,if_neg h]
theorem lc{n:Nat}{v:aB}{p:Nat×aB}:∀{l:List (Nat×aB)},p∈iW l n v->p=(n,v)\/p∈l
 |[],h=>by simpa[iW]using h
 |q::r,h=>by
  simp only[iW]at h;split at h
  ·rcases al.1 h with h|h
   ·exact .inl h
   ·exact .inr h
  ·split at h
   ·rcases al.1 h with h|h
    ·exact .inl h
    ·exact .inr (af _ h)
   ·rcases al.1 h with h|h
    ·exact .inr (h ▸ aq ..)
    ·rcases lc h with h|h
     ·exact .inl h
     ·exact .inr (af _ h)
theorem uH{n:Nat}{v:aB}:∀{l:List (Nat×aB)},(l.map cI).Pairwise (· < ·)->((iW l n v).map cI).Pairwise (· < ·)
 |[],_=>by simp[iW]
 |p::r,h=>by
  have F:=h;simp only[aG,eL]at h;simp only[iW];split
  ·rename_i z
   rw[aG,eL];refine⟨fun k y=> ?_,F⟩;rw[aG]at y;rcases al.1 y with e|e
   ·omega
   ·have:=h.1 k e;omega
  ·split
   ·rename_i z H
    rw[aG,eL];exact⟨fun k y=>by have:=h.1 k y;omega,h.2⟩
   ·rename_i z H
    rw[aG,eL];refine⟨fun k y=> ?_,uH h.2⟩;obtain⟨q,E,rfl⟩:=aT.1 y;rcases lc E with e|e
    ·rw[e];show p.1<n;omega
    ·exact h.1 _ (iU e)
theorem iS{l:List (Nat×aB)}{n:Nat}{v:aB}(h:jo l n=some v):(n,v)∈l:=by
 induction l with
 |nil=>cases h
 |cons p r z=>
  simp only[jo]at h;split at h
  ·rename_i y
   cases h;subst y;exact aq ..
  ·exact af _ (z h)
theorem jK:∀{l:List (Nat×aB)},(l.map cI).Nodup->∀{p:Nat×aB},p∈l->jo l p.1=some p.2
 |q::r,hn,p,h=>by
  simp only[aG,eZ]at hn;simp only[jo];rcases al.1 h with e|e
  ·subst e;rw[if_pos rfl]
  ·rw[if_neg (fun y=>hn.1 (by rw[y];exact iU e))]
   exact jK hn.2 e
theorem jI{l:List (Nat×aB)}(h:(l.map cI).Pairwise (· < ·)):(l.map cI).Nodup:=h.imp fun h=>Nat.ne_of_lt h
theorem gY(o:Nat):∀l:List (Nat×aB),l.lookup o=jo l o
 |[]=>rfl
 |p::r=>by
  simp only[List.lookup,jo]
  by_cases h:o=p.1
  ·rw[if_pos h.symm];simp[h]
  ·have:(o==p.1)=false:=by simpa using h
   rw[this,if_neg (Ne.symm h)];exact gY o r
theorem kh(lo hi o:Nat):∀l:List (Nat×aB),jo (bq lo hi l) o=if lo<=o/\o<hi then none else(jo l o).map (aB.purge lo hi)
 |[]=>by simp[bq,jo]
 |p::r=>by
  simp only[bq,jo];split
  ·rename_i y
   rw[kh lo hi o r]
   by_cases h:p.1=o
   ·subst h;rw[if_pos y,if_pos y]
   ·rw[if_neg h]
  ·rename_i y
   simp only[jo,kh lo hi o r]
   by_cases h:p.1=o
   ·subst h;rw[if_pos rfl,if_neg y,if_pos rfl];rfl
   ·rw[if_neg h,if_neg h]
theorem vJ{lo hi:Nat}{l:List (Nat×aB)}(h:(l.map cI).Pairwise (· < ·)):((bq lo hi l).map cI).Pairwise (· < ·):=by rw[fy];exact h.filter _
theorem jJ{n t:Nat}:∀{l:t7},t∈kY l n↔t=n\/t∈l
 |[]=>by simp[kY]
 |p::r=>by
  simp only[kY];split
  ·simp
  ·split
   ·rename_i h;subst h;simp
   ·simp only[al,jJ]
    constructor
    ·rintro(h|h|h)
     ·exact .inr (.inl h)
     ·exact .inl h
     ·exact .inr (.inr h)
    ·rintro(h|h|h)
     ·exact .inr (.inl h)
     ·exact .inl h
     ·exact .inr (.inr h)
theorem qr{lo hi:Nat}{o:aB}(h:o.wf=true):(o.purge lo hi).wf=true:=by cases o<;>simpa[aB.purge,aB.wf]using h
def CSt.st(N:Nat)(c:CSt):St:=⟨(bQ N).map c.get,c.ob,c.tk⟩
structure Inv(N:Nat)(c:CSt):Prop where
 dom:∀p∈c.tm,p.1<N
 so:(c.ob.map cI).Pairwise (· < ·)
 wf:∀p∈c.ob,p.2.wf=true
structure Sim(N:Nat)(c:CSt)(s:St):Prop where
 inv:Inv N c
 tm:s.tm=(bQ N).map c.get
 look:∀o,s.look o=c.look o
 tk:∀t,t∈s.tk↔t∈c.tk
variable {N : Nat} {c : CSt} {s : St}
theorem Inv.get(h:Inv N c){n:Nat}(hn:N<=n):c.get n= .undef:=sF fun p y e=>by have:=h.dom p y;omega
theorem Sim.of(h:Inv N c):Sim N c (c.st N):=⟨h,rfl,fun o=>gY o c.ob,fun _=>Iff.rfl⟩
theorem Sim.get(h:Sim N c s)(n:Nat):s.get n=c.get n:=by
 unfold St.get;rw[h.tm,aa,aN];rcases bP n N with hn|hn
 ·rw[cM hn];rfl
 ·rw[eH (by simpa using hn),h.inv.get hn];rfl
theorem Sim.ev(h:Sim N c s)(a:Arg):s.ev a=c.ev a:=by
 cases a with
 |t n=>exact h.get n
 |c v=>rfl
 |f g=>rfl
theorem Sim.evL(h:Sim N c s)(l:List Arg):Sy.evL c l=l.map s.ev:=by
 induction l with
 |nil=>rfl
 |cons a r y=>simp only[Sy.evL,aG,y,h.ev]
theorem Sim.lookmem(h:Sim N c s){o:Nat}{ob:aB}(y:c.look o=some ob):ob.wf=true:=h.inv.wf _ (iS y)
theorem Sim.rows(h:Sim N c s){o z:Nat}{y:d8}(E:c.look o=some (.arr z y)):∀x∈y,x.length=z:=by have:=h.lookmem E;simpa[aB.wf]using this
theorem Inv.put(h:Inv N c){d:t8}(hd:∀k,d=some k->k<N)(v:SV):Inv N (c.put d v):=by
 cases d with
 |none=>exact h
 |some k=>
  refine⟨fun p y=> ?_,h.so,h.wf⟩;rcases mX y with e|e
  ·rw[e];exact hd k rfl
  ·exact h.dom p e
theorem io(c:CSt)(k:Nat)(v:SV)(n:Nat):(c.put (some k) v).get n=if n=k then v else c.get n:=m7 k v n c.tm
theorem Sim.put(h:Sim N c s){d:t8}(hd:∀k,d=some k->k<N)(v:SV):Sim N (c.put d v) (s.put d v):=by
 cases d with
 |none=>exact h
 |some k=>
  refine⟨h.inv.put hd v, ?_,h.look,h.tk⟩;show s.tm.set k v=_;rw[h.tm];apply List.ext_getElem?;intro i;rw[fN,aN,aN];rcases bP i N with hi|hi
  ·rw[cM hi]
   simp only[bn,io,aC,List.length_range]
   by_cases y:k=i
   ·rw[if_pos y,if_pos (by omega),if_pos y.symm]
   ·rw[if_neg y,if_neg (Ne.symm y)]
  ·rw[eH (l:=bQ N) (by simpa using hi)]
   have:=hd k rfl;rw[if_neg (by omega)];rfl
theorem bJ{α:Type}{p:Prop}[Decidable p]{v u:α}(h:gd p v=some u):p/\v=u:=by
 unfold gd at h;split at h
 ·rename_i y;cases h;exact⟨y,rfl⟩
 ·cases h
theorem FX{op:BinOp}{k:IntKind}{a b:Int}{v:SV}(h:xU op k a b=some v)(y:nI op=false):∃p,RX op k a b=some (p,v)/\p:=by
 cases op<;>simp only[xU]at h<;>first
  |(cases y;done)
  |(obtain⟨z,rfl⟩:=bJ h;exact⟨_,rfl,z⟩)
  |(cases h;exact⟨True,rfl,trivial⟩)
theorem SO{op:BinOp}{a b v:SV}(h:Ey op a b=some v):∃p,yf op a b=some (p,v)/\p:=by
 unfold Ey at h;split at h
 ·rename_i k a H b
  split at h
  ·rename_i J
   by_cases E:nI op=true
   ·cases op<;>first
     |(cases E;done)
     |(simp only[xU]at h;obtain⟨y,rfl⟩:=bJ h;exact⟨_,rfl,y⟩)
   ·have z:nI op=false:=by simpa using E
    have F:k=H:=J.resolve_left E;obtain⟨p,y,I⟩:=FX h z;refine⟨p, ?_,I⟩;subst F;cases op<;>first|(cases z;done)|(simp only[yf,if_true];exact y)
  ·cases h
 ·rename_i a k b
  show ∃p,Tb op a b=some (p,v)/\p
  cases op<;>simp only[Oh]at h<;>first
   |(cases h;done)
   |(obtain⟨y,rfl⟩:=bJ h;exact⟨_,rfl,y⟩)
 ·rename_i a b
  show ∃p,DU op a b=some (p,v)/\p
  cases op<;>simp only[yr]at h<;>first
   |(cases h;done)
   |(obtain⟨y,rfl⟩:=bJ h;exact⟨_,rfl,y⟩)
   |(cases h;exact⟨True,rfl,trivial⟩)
 ·rename_i a b
  show ∃p,Tg op a b=some (p,v)/\p
  cases op<;>simp only[Ok]at h<;>first
   |(cases h;done)
   |(obtain⟨y,rfl⟩:=bJ h;exact⟨_,rfl,y⟩)
   |(cases h;exact⟨True,rfl,trivial⟩)
 ·cases h
theorem wi(F:Sim N c s){n:Nat}{H:Bool}{u v:SV}(h:mY c n H u=some v):∃p,jn s n H u=some (p,v)/\p:=by
 cases u with
 |pp cs=>obtain⟨y,rfl⟩:=bJ h;exact⟨_,rfl,y⟩
 |ptr o off=>
  simp only[mY]at h;simp only[jn,F.look];split at h
  ·rename_i cs z;rw[z];obtain⟨y,rfl⟩:=bJ h;exact⟨_,rfl,y⟩
  ·rename_i J I z;rw[z];obtain⟨⟨y,E⟩,rfl⟩:=bJ h;subst y;exact⟨_,rfl,E,F.rows z⟩
  ·rename_i l z;rw[z];obtain⟨⟨y,E⟩,rfl⟩:=bJ h;subst y;exact⟨_,rfl,E⟩
  ·cases h
 |ap o J i j=>
  simp only[mY]at h;simp only[jn,F.look];split at h
  ·rename_i L I z
   rw[z];obtain⟨⟨y,E,O⟩,rfl⟩:=bJ h;refine⟨_,rfl,y,E,O, ?_⟩;rw[aa,ab E,y];exact F.rows z _ (aU _)
  ·rename_i l z;rw[z];obtain⟨y,rfl⟩:=bJ h;exact⟨_,rfl,y⟩
  ·rename_i cs z;rw[z];obtain⟨y,rfl⟩:=bJ h;exact⟨_,rfl,y⟩
  ·cases h
 |_=>cases h
theorem nD(h:Sim N c s)(x:Option Arg)(n:Int):jl s x n=lb c x n:=by
 cases x with
 |none=>rfl
 |some a=>simp only[jl,lb,h.ev]
theorem AG(H:Sim N c s){J:Nat}{u v:SV}{lo hi L:Option Arg}(h:oY c J u lo hi L=some v):∃p,jX s J u lo hi L=some (p,v)/\p:=by
 cases u with
 |byt l t=>
  simp only[oY]at h;simp only[jX,nD H];split at h<;>try (cases h;done)
  rename_i a b m y z F;rw[y,z,F];obtain⟨E,rfl⟩:=bJ h;exact⟨_,rfl,E⟩
 |lst I l t=>
  simp only[oY]at h;simp only[jX,nD H];split at h<;>try (cases h;done)
  rename_i a b m y z F;rw[y,z,F];obtain⟨E,rfl⟩:=bJ h;exact⟨_,rfl,E⟩
 |psl o I off n cap=>
  cases cap with
  |none=>
   simp only[oY]at h;simp only[jX,nD H];split at h<;>try (cases h;done)
   rename_i a b y z;rw[y,z];obtain⟨E,rfl⟩:=bJ h;exact⟨_,rfl,E⟩
  |some cap=>
   simp only[oY]at h;simp only[jX,nD H];split at h<;>try (cases h;done)
   rename_i a b m y z F;rw[y,z,F];obtain⟨E,rfl⟩:=bJ h;exact⟨_,rfl,E⟩
 |_=>cases h
theorem jC(y:Sim N c s){u:SV}{l:d9}(h:eJ c u=some l):∃p,bytesOf s u=some (p,l)/\p:=by
 cases u with
 |byt l t=>cases h;exact⟨True,rfl,trivial⟩
 |str l=>cases h;exact⟨True,rfl,trivial⟩
 |psl o H off n cap=>
  simp only[eJ]at h;simp only[bytesOf,y.look];split at h
  ·rename_i F z;rw[z];obtain⟨E,rfl⟩:=bJ h;exact⟨_,rfl,E⟩
  ·cases h
 |_=>cases h
theorem kW(H:Sim N c s){u:SV}{E:Nat}{l:d8}(h:gB c E u=some l):∃p,kx s E u=some (p,l)/\p:=by
 cases u with
 |lst z l t=>obtain⟨y,rfl⟩:=bJ h;exact⟨_,rfl,y⟩
 |psl o z off n cap=>
  simp only[gB]at h;simp only[kx,H.look];split at h
  ·rename_i F O I
   rw[I];obtain⟨⟨y,J,L⟩,rfl⟩:=bJ h;exact⟨_,rfl,y,J,L,by rw[J];exact H.rows I⟩
  ·cases h
 |_=>cases h
theorem xcc(z:Sim N c s)(h:List (Nat×Nat×Arg)):psC c h=h.map fun(o,n,x)=>(o,n,s.ev x):=by
 induction h with
 |nil=>rfl
 |cons p r y=>obtain⟨o,n,x⟩:=p;simp only[psC,aG,y,z.ev]
theorem PU(F:Sim N c s){so:SOp}{v:SV}(h:cR c so=some v):∃p,val s so=some (p,v)/\p:=by
 cases so with
 |mov x=>cases h;exact⟨True,by simp only[val,F.ev],trivial⟩
 |build z ps=>simp only[cR,xcc F]at h;obtain⟨l,E,rfl⟩:=ae.1 h;exact⟨True,by simp only[val,E,bn],trivial⟩
 |lit L xs=>simp only[cR,F.evL]at h;obtain⟨l,E,rfl⟩:=ae.1 h;exact⟨True,by simp only[val,E,bn],trivial⟩
 |litB xs=>simp only[cR,F.evL]at h;obtain⟨l,E,rfl⟩:=ae.1 h;exact⟨True,by simp only[val,E,bn],trivial⟩
 |load n ag a=>simp only[val,F.ev];exact wi F h
 |nchk x=>simp only[cR]at h;simp only[val,F.ev];cases I:c.ev x<;>rw[I]at h<;>first|(cases h;done)|(cases h;exact⟨True,rfl,trivial⟩)
 |bin op x y=>simp only[val,F.ev];exact SO h
 |beq ne x y=>
  simp only[cR]at h;simp only[val,F.ev];split at h<;>try (cases h;done)
  rename_i a b E H;cases h;rw[E,H];exact⟨True,rfl,trivial⟩
 |eqS ne ts x y=>
  simp only[cR]at h;simp only[val,F.ev];split at h<;>try (cases h;done)
  rename_i a b E H;obtain⟨l,h3,rfl⟩:=ae.1 h;rw[E,H];exact⟨True,by simp only[h3,bn],trivial⟩
 |un op x=>simp only[cR]at h;exact⟨True,by simp only[val,F.ev,h,bn],trivial⟩
 |toInt k x=>simp only[cR]at h;exact⟨True,by simp only[val,F.ev,h,bn],trivial⟩
 |toStr x=>
  simp only[cR]at h;simp only[val,F.ev];split at h<;>try (cases h;done)
  all_goals
   rename_i E;cases h;rw[E];exact⟨True,rfl,trivial⟩
 |slid x=>simp only[cR]at h;cases h
 |newB x=>simp only[cR]at h;cases h
 |isni ne x=>
  simp only[cR]at h;simp only[val,F.ev];split at h<;>try (cases h;done)
  all_goals
   rename_i E;cases h;rw[E];exact⟨True,rfl,trivial⟩
 |s2b x=>
  simp only[cR]at h;simp only[val,F.ev];split at h<;>try (cases h;done)
  rename_i l E;cases h;rw[E];exact⟨True,rfl,trivial⟩
 |b2s x=>
  simp only[cR]at h;simp only[val,F.ev];cases I:c.ev x with
  |byt l t=>rw[I]at h;cases h;exact⟨True,rfl,trivial⟩
  |psl o L off n cap=>
   rw[I]at h;simp only[eJ]at h;simp only[yg,F.look];obtain⟨l,E,rfl⟩:=ae.1 h;split at E
   ·rename_i l' O;rw[O];obtain⟨H,rfl⟩:=bJ E;exact⟨_,rfl,H⟩
   ·cases E
  |_=>rw[I]at h;cases h
 |mkfn f a b=>simp only[cR,F.evL]at h;cases h;exact⟨True,rfl,trivial⟩
 |slcS x lo hi=>
  simp only[cR]at h;simp only[val,F.ev];split at h<;>try (cases h;done)
  rename_i l I;rw[I];simp only[nD F];split at h<;>try (cases h;done)
  rename_i a b E H;rw[E,H];obtain⟨J,rfl⟩:=bJ h;exact⟨_,rfl,J⟩
 |slcL L x lo hi mx=>simp only[val,F.ev];exact AG F h
 |slcA len L x lo hi mx=>
  simp only[cR]at h;simp only[val,F.ev];split at h<;>try (cases h;done)
  rename_i o off I;split at h<;>try (cases h;done)
  rename_i ho;subst ho;rw[I];exact AG F h
 |faddr off x=>simp only[cR]at h;simp only[val,F.ev];cases I:c.ev x<;>rw[I]at h<;>first|(cases h;done)|(cases h;exact⟨True,rfl,trivial⟩)
 |fld off n ag x=>
  simp only[cR]at h;simp only[val,F.ev];split at h<;>try (cases h;done)
  rename_i cs I;rw[I];obtain⟨J,rfl⟩:=bJ h;exact⟨_,rfl,J⟩
 |iaddrL L x i=>
  simp only[cR]at h;simp only[val,F.ev];split at h<;>try (cases h;done)
  all_goals
   rename_i E H;rw[E,H];obtain⟨J,rfl⟩:=bJ h;exact⟨_,rfl,J⟩
 |iaddrA len L x i=>
  simp only[cR]at h;simp only[val,F.ev,F.look];split at h<;>try (cases h;done)
  ·rename_i o off n E H
   rw[E,H];simp only;split at h<;>try (cases h;done)
   ·rename_i cs O
    rw[O];obtain⟨J,rfl⟩:=bJ h;exact⟨_,rfl,J⟩
   ·rename_i ob Z O
    rw[O];obtain⟨⟨J,h5⟩,rfl⟩:=bJ h;cases ob with
    |rc cs=>exact absurd rfl (Z cs)
    |_=>simp only[J,if_true];exact⟨_,rfl,h5⟩
  ·rename_i cs n E H
   rw[E,H];obtain⟨J,rfl⟩:=bJ h;exact⟨_,rfl,J⟩
 |idxA len L ag x i=>
  simp only[cR]at h;simp only[val,F.ev];split at h<;>try (cases h;done)
  rename_i E H;rw[E,H];obtain⟨J,rfl⟩:=bJ h;exact⟨_,rfl,J⟩
 |idxS x i=>
  simp only[cR]at h;simp only[val,F.ev];split at h<;>try (cases h;done)
  rename_i E H;rw[E,H];obtain⟨J,rfl⟩:=bJ h;exact⟨_,rfl,J⟩
 |ext x i=>
  simp only[cR]at h;simp only[val,F.ev];split at h<;>try (cases h;done)
  rename_i vs I;rw[I];obtain⟨J,rfl⟩:=bJ h;exact⟨_,rfl,J⟩
 |len b x=>simp only[cR]at h;obtain⟨n,E,rfl⟩:=ae.1 h;exact⟨True,by simp only[val,F.ev,E],trivial⟩
 |lenC n=>cases h;exact⟨True,rfl,trivial⟩
 |cap x=>
  simp only[cR]at h;simp only[val,F.ev];cases I:c.ev x with
  |psl o L off n m=>cases m<;>rw[I]at h<;>cases h;exact⟨True,rfl,trivial⟩
  |byt l t=>rw[I]at h;simp only at h;split at h<;>cases h;rename_i W;subst W;exact⟨True,rfl,trivial⟩
  |lst L l t=>rw[I]at h;simp only at h;split at h<;>cases h;rename_i W;subst W;exact⟨True,rfl,trivial⟩
  |_=>rw[I]at h;cases h
 |mini x y=>
  simp only[cR]at h;simp only[val,F.ev];split at h<;>try (cases h;done)
  rename_i E H;rw[E,H];simp only;split at h<;>cases h;rename_i Q;exact⟨True,by rw[if_pos Q],trivial⟩
 |maxi x y=>
  simp only[cR]at h;simp only[val,F.ev];split at h<;>try (cases h;done)
  rename_i E H;rw[E,H];simp only;split at h<;>cases h;rename_i Q;exact⟨True,by rw[if_pos Q],trivial⟩
 |_=>cases h
end Go.Sy
namespace Go.Sy
variable [aW]
variable {P : Program} {C : Ctx} {x : Sit} {a : Act} {w : World} {o : Oper} {so : SOp} {N : Nat} {c c' : CSt} {s : St} {d : Option Nat}
def M(C:Ctx)(N:Nat)(c:CSt):LAf:=Eu C (Sim N c)
theorem Sim.purge(h:Sim N c s)(lo hi:Nat):Sim N (c.purge lo hi) (s.purge lo hi):=by
 refine⟨⟨fun p y=> ?_,vJ h.inv.so,fun p y=> ?_⟩, ?_,fun o=> ?_,fun t=> ?_⟩
 ·obtain⟨q,z,e⟩:=kd y
  rw[e];exact h.inv.dom q z
 ·obtain⟨_,ob,F,E⟩:=cG y
  rw[E];exact qr (h.inv.wf _ F)
 ·show SV.purgeL lo hi s.tm=_
  rw[h.tm,dV,wN];apply List.map_congr_left;intro i _;exact(gO lo hi i c.tm).symm
 ·show(bq lo hi s.ob).lookup o=jo (bq lo hi c.ob) o
  have:=h.look o;unfold St.look CSt.look at this;rw[gY]at this ⊢;rw[kh,kh,this]
 ·show t∈bV lo hi s.tk↔t∈bV lo hi c.tk
  rw[bF,bF,h.tk]
theorem Sim.addO(h:Sim N c s)(k:Nat){ob:aB}(E:ob.wf=true):Sim N ⟨c.tm,iW c.ob k ob,c.tk⟩ (s.addO k ob):=by
 refine⟨⟨h.inv.dom,uH h.inv.so,fun p z=> ?_⟩,h.tm,fun o=> ?_,h.tk⟩
 ·rcases lc z with e|e
  ·rw[e];exact E
  ·exact h.inv.wf p e
 ·show((k,ob)::s.ob).lookup o=jo (iW c.ob k ob) o
  have:=h.look o;unfold St.look CSt.look at this;rw[qQ];simp only[List.lookup]
  by_cases y:o=k
  ·subst y;simp
  ·have:(o==k)=false:=by simpa using y
   rw[this,if_neg y];exact h.look o
theorem jf(k:Nat)(ob:aB)(o:Nat):∀l:List (Nat×aB),(Sy.setO k ob l).lookup o=if o=k/\(l.lookup k).isSome=true then some ob else l.lookup o
 |[]=>by simp[Sy.setO]
 |p::r=>by
  simp only[Sy.setO]
  by_cases y:p.1=k
  ·rw[if_pos y]
   subst y;simp only[List.lookup]
   by_cases h:o=p.1
   ·subst h;simp
   ·have:(o==p.1)=false:=by simpa using h
    simp[this,h]
  ·rw[if_neg y]
   have z:(k==p.1)=false:=by simpa using Ne.symm y
   simp only[List.lookup,z,jf k ob o r]
   by_cases h:o=p.1
   ·subst h;simp[y]
   ·have:(o==p.1)=false:=by simpa using h
    simp[this]
theorem Sim.setO(h:Sim N c s){k:Nat}{ob:aB}(F:(c.look k).isSome=true)(E:ob.wf=true):Sim N ⟨c.tm,iW c.ob k ob,c.tk⟩ (s.setO k ob):=by
 refine⟨⟨h.inv.dom,uH h.inv.so,fun p z=> ?_⟩,h.tm,fun o=> ?_,h.tk⟩
 ·rcases lc z with e|e
  ·rw[e];exact E
  ·exact h.inv.wf p e
 ·show(Sy.setO k ob s.ob).lookup o=jo (iW c.ob k ob) o
  rw[qQ,jf]
  have H:(s.ob.lookup k).isSome=true:=by have:=h.look k;unfold St.look at this;rw[this];exact F
  by_cases y:o=k
  ·rw[if_pos ⟨y,H⟩,if_pos y]
  ·rw[if_neg (fun e=>y e.1),if_neg y];exact h.look o
theorem Sim.tks(h:Sim N c s){l k:t7}(y:∀t,t∈l↔t∈k):Sim N ⟨c.tm,c.ob,k⟩ ⟨s.tm,s.ob,l⟩:=⟨⟨h.inv.dom,h.inv.so,h.inv.wf⟩,h.tm,h.look,y⟩
theorem FQ{t:Tok}{l k:t7}(h:∀t,t∈l↔t∈k)(n:Nat):n∈t.eat l↔n∈t.eat k:=by
 cases t with
 |id t=>simp only[Tok.eat,bF,h]
 |_=>exact h n
structure EB(e:o7)(f:Eff):Prop where
 val:f.val=e.val
 wr:f.wr=e.wr
 new:f.new=e.new
 eat:f.eat=e.eat
 tok:f.tok=e.tok
structure EG(c:CSt)(e:o7):Prop where
 new:∀ob,e.new=some ob->ob.wf=true
 wr:e.wr=[]\/∃k ob,e.wr=[(k,ob)]/\(c.look k).isSome=true/\ob.wf=true
theorem Sim.app(h:Sim N c s)(hd:∀k,d=some k->k<N){e:o7}{f:Eff}(y:EB e f)(E:EG c e):Sim N (c.app d e) (s.app d f):=by
 unfold CSt.app St.app;rw[y.new,y.tok,y.val,y.wr,y.eat];cases hn:e.new with
 |some ob=>exact((h.purge _ _).addO _ (qr (E.new ob hn))).put hd _
 |none=>
  cases ht:e.tok with
  |true=>refine Sim.put (c:=⟨_,_,_⟩) ?_ hd _;refine((h.purge (d.getD 0+100) (d.getD 0+100+1)).tks (fun t=> ?_));rw[jJ,al,bF,bF,FQ h.tk]
  |false=>
   rcases E.wr with z|⟨k,ob,z,h1,h2⟩
   ·rw[z];exact h.put hd _
   ·rw[z];exact(h.setO h1 h2).put hd _
theorem EB.v(v:SV)(p:Prop):EB {val:=v} {pre:=p,val:=v}:=⟨rfl,rfl,rfl,rfl,rfl⟩
theorem EG.v(v:SV):EG c {val:=v}:=⟨fun ob h=>(by cases h),.inl rfl⟩
theorem xaV(n:Nat)(z:t6):(aB.arr z.length (aJ n z)).wf=true:=by simp only[aB.wf,aI,decide_eq_true_eq];intro y h;rw[(List.mem_replicate.1 h).2]
theorem jF{z:Nat}{h:d8}:(aB.arr z h).wf=true↔∀y∈h,y.length=z:=by simp only[aB.wf,aI,decide_eq_true_eq]
theorem wI(z:Nat):∀(m:Nat)(v:t6),v.length=m*z->∀y∈ki z m v,y.length=z
 |0,_,_,y,hy=>by cases hy
 |m+1,v,h,y,hy=>by
  rw[eI]at h;simp only[ki]at hy;rcases al.1 hy with rfl|hy
  ·rw[av];omega
  ·exact wI z m (v.drop z) (by rw[aX];omega) y hy
theorem C9{E:Nat}{F:d8}{i j n:Nat}{v:t6}(h:∀y∈F,y.length=E)(hi:i<F.length)(J:j+n<=E)(hv:v.length=n):∀y∈iJ E F i j n v,y.length=E:=by
 intro y H;unfold iJ at H;split at H
 ·rename_i I
  rcases List.mem_or_eq_of_mem_set H with z|z
  ·exact h y z
  ·rw[z,hv];exact I.2
 ·rcases List.mem_or_eq_of_mem_set H with z|z
  ·exact h y z
  ·have:(F.getD i []).length=E:=by
    rw[aa,ab hi];exact h _ (aU _)
   rw[z];simp only[ac,av,aX,this,hv];omega
theorem sa(h:Sim N c s){t:Tok}(y:t.readyC c=true):t.ready s=true:=by
 cases t with
 |no=>cases y
 |clip=>rfl
 |id t=>simp only[Tok.readyC,fI,decide_eq_true_eq]at y;simp only[Tok.ready,fI,decide_eq_true_eq];exact(h.tk t).2 y
theorem Qt(h:aL C x s a w){y:Arg}(z:y.isT=true):Rep x (s.ev y) (match y with| .t n=>a.tmps.getD n undef|_=>undef):=by
 cases y with
 |t n=>exact h.slot n
 |_=>cases z
theorem Ge(h:Sim N c s){e:o7}(E:eM c d so=some e)(hp:∀q y z,so≠ .pick q y z)(hn:∀ne q,so≠ .isnil ne q)(a8:∀sz q y,so≠ .cpy sz q y):∃f,eff s d so=some f/\f.pre/\EB e f/\EG c e:=by
 have a1:∀{so:SOp},eM c d so=As (cR c so)->(eff s d so=match val s so with|some (p,v)=>some {pre:=p,val:=v}|none=>none)->eM c d so=some e->∃f,eff s d so=some f/\f.pre/\EB e f/\EG c e:=by
  intro so F L O;rw[F]at O;cases hv:cR c so with
  |none=>rw[hv]at O;cases O
  |some v=>rw[hv]at O;cases O;obtain⟨p,Q,h5⟩:=PU h hv;exact⟨{pre:=p,val:=v},by rw[L,Q],h5,EB.v v p,EG.v v⟩
 cases so with
 |pick q y z=>exact absurd rfl (hp q y z)
 |isnil ne q=>exact absurd rfl (hn ne q)
 |call _ _=>cases E
 |newB _=>cases E
 |slid _=>cases E
 |new ob=>
  simp only[eM]at E;split at E<;>try (cases E;done)
  obtain⟨F,rfl⟩:=bJ E;exact⟨_,rfl,trivial,⟨rfl,rfl,rfl,rfl,rfl⟩,⟨fun H e=>(by cases e;exact F),.inl rfl⟩⟩
 |box q=>simp only[eM]at E;split at E<;>cases E;exact⟨_,rfl,trivial,⟨rfl,rfl,by simp only[h.ev],rfl,rfl⟩,⟨fun H e=>(by cases e;rfl),.inl rfl⟩⟩
 |mk z bytes n m=>
  simp only[eM]at E;simp only[eff,h.ev];split at E<;>try (cases E;done)
  rename_i F L;rw[F,L];obtain⟨F,rfl⟩:=bJ E;exact⟨_,rfl,F,⟨rfl,rfl,rfl,rfl,rfl⟩,⟨fun H e=>(by cases e;exact xaV _ z),.inl rfl⟩⟩
 |mkB n m=>
  simp only[eM]at E;simp only[eff,h.ev];split at E<;>try (cases E;done)
  rename_i F L;rw[F,L];obtain⟨F,rfl⟩:=bJ E;exact⟨_,rfl,F,⟨rfl,rfl,rfl,rfl,rfl⟩,⟨fun H e=>(by cases e;rfl),.inl rfl⟩⟩
 |store n q y=>
  simp only[eM]at E;simp only[eff,h.ev];split at E<;>try (cases E;done)
  rename_i a6;rw[a6];simp only;unfold lJ at E;unfold rg;split at E
  ·rename_i o' off Z
   rw[Z];simp only[h.look];split at E<;>try (cases E;done)
   ·rename_i cs I
    rw[I];obtain⟨F,rfl⟩:=bJ E;exact⟨_,rfl,F,⟨rfl,rfl,rfl,rfl,rfl⟩,⟨fun H e=>(by cases e),.inr ⟨_,_,rfl,by rw[I];rfl,rfl⟩⟩⟩
   ·rename_i sz xs I
    rw[I];obtain⟨⟨F,L,O,Q⟩,rfl⟩:=bJ E
    exact⟨_,rfl,⟨F,L,O,Q⟩,⟨rfl,rfl,rfl,rfl,rfl⟩,
     ⟨fun H e=>(by cases e),.inr ⟨_,_,rfl,by rw[I];rfl,jF.2 (wI sz _ _ (by rw[aC];omega))⟩⟩⟩
   ·rename_i l I
    rw[I];simp only at E ⊢;split at E<;>try (cases E;done)
    rename_i l' hv;rw[hv];obtain⟨F,rfl⟩:=bJ E;exact⟨_,rfl,F,⟨rfl,rfl,rfl,rfl,rfl⟩,⟨fun H e=>(by cases e),.inr ⟨_,_,rfl,by rw[I];rfl,rfl⟩⟩⟩
  ·rename_i o' sz i j Z
   rw[Z];simp only[h.look];split at E<;>try (cases E;done)
   ·rename_i a7 xs I
    rw[I];obtain⟨⟨F,L,O,Q,h5⟩,rfl⟩:=bJ E
    exact⟨_,rfl,⟨F,L,O,Q,by rw[F];exact h.rows I,h5⟩,⟨rfl,rfl,rfl,rfl,rfl⟩,
     ⟨fun H e=>(by cases e),.inr ⟨_,_,rfl,by rw[I];rfl,jF.2 (by subst F;exact C9 (h.rows I) L O (by simpa using Q))⟩⟩⟩
   ·rename_i l I
    rw[I];simp only at E ⊢;split at E<;>try (cases E;done)
    rename_i b hv;rw[hv];obtain⟨F,rfl⟩:=bJ E;exact⟨_,rfl,F,⟨rfl,rfl,rfl,rfl,rfl⟩,⟨fun H e=>(by cases e),.inr ⟨_,_,rfl,by rw[I];rfl,rfl⟩⟩⟩
  ·cases E
 |app z bytes q y=>
  simp only[eM]at E;simp only[eff,h.ev];split at E<;>try (cases E;done)
  split at E<;>try (cases E;done)
  ·rename_i l t Z
   rw[Z];obtain⟨l',F,L⟩:=Option.bind_eq_some_iff.1 E;obtain⟨p,O,Q⟩:=jC h F;obtain⟨⟨g1,g2,g3,g4⟩,rfl⟩:=bJ L;simp only[O];exact⟨_,rfl,⟨Q,g1,g2,sa h g3,g4⟩,⟨rfl,rfl,rfl,rfl,rfl⟩,⟨fun H e=>(by cases e),.inl rfl⟩⟩
  ·rename_i a7 l t Z
   rw[Z];obtain⟨l',F,L⟩:=Option.bind_eq_some_iff.1 E;obtain⟨p,O,Q⟩:=kW h F;obtain⟨⟨g1,g3,g4⟩,rfl⟩:=bJ L;simp only[O];exact⟨_,rfl,⟨Q,g1,sa h g3,g4⟩,⟨rfl,rfl,rfl,rfl,rfl⟩,⟨fun H e=>(by cases e),.inl rfl⟩⟩
 |cpy sz q y=>exact absurd rfl (a8 sz q y)
 |appO z bytes q y=>cases E
 |clr z q=>
  simp only[eM]at E;simp only[eff,h.ev];split at E<;>try (cases E;done)
  rename_i o' a7 off n cap Z;rw[Z];simp only[h.look];split at E<;>try (cases E;done)
  rename_i b1 xs I;rw[I];obtain⟨⟨g0,g1,g2,g3⟩,rfl⟩:=bJ E;have J:=h.rows I;refine⟨_,rfl,⟨g0,g1,g2,g3,by rw[g2];exact J⟩,⟨rfl,rfl,rfl,rfl,rfl⟩,⟨fun H e=>(by cases e),.inr ⟨_,_,rfl,by rw[I];rfl,jF.2 ?_⟩⟩⟩;intro r W;rcases an.1 W with W|W
  ·rcases an.1 W with W|W
   ·rw[g2];exact J r (cO W)
   ·rw[(List.mem_replicate.1 W).2]
  ·rw[g2];exact J r (List.mem_of_mem_drop W)
 |appM z bytes q y=>cases E
 |ovl q y=>cases E
 |_=>exact a1 (sI rfl) rfl E
theorem Su(P:Program)(h:Sim N c s)(hM:aL C x s a w){e:o7}(H:eM c d so=some e)(hp:∀q y z,so≠ .pick q y z)(hn:∀ne q,so≠ .isnil ne q):∃f,eff s d so=some f/\f.pre/\EB e f/\EG c e:=by
 by_cases L:∃O q y,so= .cpy O q y
 ·obtain⟨O,q,y,rfl⟩:=L
  simp only[eM]at H;simp only[eff,h.ev];split at H<;>try (cases H;done)
  rename_i o' a7 off n cap hq;rw[hq];simp only[h.look];split at H<;>try (cases H;done)
  ·rename_i l J
   rw[J];obtain⟨l',h1,h2⟩:=Option.bind_eq_some_iff.1 H;obtain⟨p,W,Q⟩:=jC h h1;obtain⟨⟨g1,I,g3⟩,rfl⟩:=bJ h2;simp only[W];exact⟨_,rfl,⟨Q,g1,I,g3⟩,⟨rfl,rfl,rfl,rfl,rfl⟩,⟨fun a1 e=>(by cases e),.inr ⟨_,_,rfl,by rw[J];rfl,rfl⟩⟩⟩
  ·rename_i a6 xs J
   rw[J];obtain⟨l',h1,h2⟩:=Option.bind_eq_some_iff.1 H;obtain⟨p,W,Q⟩:=kW h h1;obtain⟨⟨g0,g1,I,g3⟩,rfl⟩:=bJ h2;simp only[W];have E:=h.rows J;obtain⟨_,Z,_⟩:=qx (P:=P) hM (Qt hM g0) (by rw[h.ev];exact W) Q;refine⟨_,rfl,⟨Q,g1,I,g3,by rw[I];exact E⟩,⟨rfl,rfl,rfl,rfl,rfl⟩,⟨fun a1 e=>(by cases e),.inr ⟨_,_,rfl,by rw[J];rfl,jF.2 ?_⟩⟩⟩;intro r F;rcases an.1 F with F|F
   ·rcases an.1 F with F|F
    ·rw[I];exact E r (cO F)
    ·exact Z r (cO F)
   ·rw[I];exact E r (List.mem_of_mem_drop F)
 ·exact Ge h H hp hn (fun O q y e=>L ⟨O,q,y,e⟩)
theorem xfJ(h:M C N c a w)(hr:bv P o=some so)(hd:∀k,o.dst=some k->k<N)(L:ox c o.dst (eM c o.dst so)=some c'){K:LAf}{Q:LAe}(hK:∀a w,M C N c' a w->K a w):o.wp P a w K Q:=by
 obtain⟨x,s,W,F⟩:=h;cases he:eM c o.dst so with
 |none=>rw[he]at L;cases L
 |some e=>
  rw[he]at L;simp only[ox,ao.injEq]at L;subst L
  by_cases hp:∃q y z,so= .pick q y z
  ·obtain⟨q,y,z,rfl⟩:=hp
   simp only[eM]at he;split at he<;>cases he;rename_i t ht;have H:=DK W hr (t:=t) (by rw[F.ev];exact ht);refine cY H (k:=Sim N (c.app o.dst {val:=iX t (c.ev y) (c.ev z)})) ?_ hK;have:(if t=true then s.ev y else s.ev z)=iX t (c.ev y) (c.ev z):=by rw[F.ev,F.ev];rfl
   rw[this];exact F.put hd _
  ·by_cases hn:∃E q,so= .isnil E q
   ·obtain⟨E,q,rfl⟩:=hn
    have Z:∃b,b=E/\cm P C o a w (s.put o.dst (.bool b)):=by
     refine x9 W hr (K:=fun b=>b=E) ?_;rw[F.ev];simp only[eM]at he;split at he<;>try (cases he;done)
     ·rename_i l t O
      obtain⟨J,_⟩:=bJ he
      try rw[O]
      intro b hb;cases b
      ·cases E<;>rfl
      ·exact absurd (hb rfl) J
     ·rename_i sz l t O
      obtain⟨J,_⟩:=bJ he
      try rw[O]
      intro b hb;cases b
      ·cases E<;>rfl
      ·exact absurd (hb rfl) J
     ·rename_i O
      first
       |rw[O]
       |rfl
    obtain⟨b,rfl,H⟩:=Z;refine cY H (k:=Sim N (c.app o.dst e)) ?_ hK
    have:e= {val:= .bool b}:=by
     simp only[eM]at he;split at he
     ·obtain⟨_,I⟩:=bJ he;exact I.symm
     ·obtain⟨_,I⟩:=bJ he;exact I.symm
     ·exact(ao.inj he).symm
     ·cases he
    rw[this];exact F.put hd _
   ·obtain⟨f,J,I,h3,h4⟩:=Su P F W he (fun q y z e=>hp ⟨q,y,z,e⟩) (fun E q e=>hn ⟨E,q,e⟩)
    exact cY (Sp W hr J I) (k:=Sim N (c.app o.dst e)) (F.app hd h3 h4) hK
end Go.Sy
namespace Go.Sy
variable [aW]
variable {P : Program} {C : Ctx} {x : Sit} {a : Act} {w : World} {N : Nat} {c c' : CSt} {s : St}
theorem Sim.exact(h:Sim N c s)(y:aL C x s a w):aL C x (c.st N) a w:=
 ⟨by show cn x ((bQ N).map c.get) _;rw[<-h.tm];exact y.tm,y.defers,y.heap.only (fun p z=>by have F:=jK (jI h.inv.so) z;have E:s.look p.1=some p.2:=(h.look p.1).trans F;exact dh E) (jI h.inv.so) (fun t H=>(h.tk t).2 H)⟩
theorem M.slots(h:M C N c a w)(hi:Inv N c')(L:c'.ob=c.ob)(O:c'.tk=c.tk)(I:∀i,c'.get i=c.get i\/c'.get i= .undef):M C N c' a w:=by
 obtain⟨x,s,F,J⟩:=h;have E:=J.exact F;refine⟨x,c'.st N,⟨⟨?_,fun i y=> ?_⟩,F.defers, ?_⟩,Sim.of hi⟩
 ·have:=E.tm.1;simpa[CSt.st]using this
 ·have H:=E.tm.2 i (by simpa[CSt.st]using y)
  have z:i<N:=by simpa[CSt.st]using y
  simp only[CSt.st,aa,aN,cM z,bn,aO]at H ⊢;rcases I i with e|e
  ·rw[e];exact H
  ·rw[e];exact .undef _
 ·show dq C x c'.ob c'.tk w
  rw[L,O];exact E.heap
theorem Inv.kill(h:Inv N c)(l:t7):Inv N (c.kill l):=by
 cases l with
 |nil=>exact h
 |cons n r=>exact⟨fun p y=>h.dom p (qH y),h.so,h.wf⟩
theorem M.kill(h:M C N c a w)(l:t7):M C N (c.kill l) a w:=by
 have hi:Inv N c:=by obtain⟨x,s,_,z⟩:=h;exact z.inv
 cases l with
 |nil=>exact h
 |cons n r=>
  refine h.slots (hi.kill _) rfl rfl fun i=> ?_
  have e:=qP (n::r) i c.tm
  by_cases y:(n::r).contains i=true
  ·exact .inr (e.trans (if_pos y))
  ·exact .inl (e.trans (if_neg y))
theorem M.purge(h:M C N c a w)(lo hi:Nat):M C N (c.purge lo hi) a w:=by obtain⟨x,s,y,z⟩:=h;exact⟨x,_,y.purge lo hi,z.purge lo hi⟩
theorem M.gc:∀{l:t7}{c:CSt},M C N c a w->M C N (gcC c l) a w
 |[],_,h=>h
 |o::r,c,h=>by show M C N (gcC (c.purge o (o+1)) r) a w;exact M.gc (h.purge o (o+1))
theorem mF{o:Nat}{obj:aB}(cs:t6):SV.pubL o obj cs=cs.map (SV.pub o obj):=by
 induction cs with
 |nil=>rfl
 |cons c r h=>simp only[SV.pubL,aG,h]
theorem Rep.pub{x x':Sit}{o:Nat}{obj:aB}(hβ:x'.bk=x.bk)(hτ:x'.τ=x.τ)(hG:∀b i u,x.G b i=some u->x'.G b i=some u)
 (z:∀k,k<obj.size->∃u,x'.G ((x.bk o).1) k=some u/\cy x'.G (obj.cell k) u) (a8:obj.wf=true) {sv:SV} {v:Value} (h:Rep x sv v):Rep x' (sv.pub o obj) v:=by
 induction h with
 |undef v=>exact .undef v
 |dat s v h ht=>
  have:s.pub o obj=s:=by cases h<;>rfl
  rw[this];exact(Rep.dat s v h ht).grow hG hβ hτ
 |ptr J off=>
  simp only[SV.pub];split
  ·exact .undef _
  ·rw[<-hβ];exact .ptr J off
 |ap J sz i j=>
  simp only[SV.pub];split
  ·exact .undef _
  ·rw[<-hβ];exact .ap J sz i j
 |psl J sz off n cap y F I hn H O=>
  simp only[SV.pub];split
  ·rename_i ho
   subst ho;cases obj with
   |rc cs=>exact .undef _
   |arr Z xs=>
    simp only[xG];split
    ·rename_i hc
     obtain⟨rfl,hb⟩:=hc;have Q:=jF.1 a8;have h1:=leP.psl (o:=J) (cap:=cap) hb Q x x' _ hβ hτ hG (fun k hk=>z k hk) (.psl J Z off n cap y F I hn H O);split
     ·rename_i E
      have L:=H _ E;obtain⟨b,cq,he,_,hD,_⟩:=h1.lst_inv;exact .dat _ _ (hD.tok (.lst Z ((xs.drop off).take n) .clip) (.inr ⟨Z,_,_,_,rfl,rfl⟩)) ⟨_,n,by rw[<-L]⟩
     ·exact h1
    ·exact .undef _
   |bar l=>
    simp only[xG];split
    ·rename_i hc
     obtain⟨rfl,hb⟩:=hc;have a1:((l.drop off).take n).length=n:=by simp;omega
     have hD:∀t,cy x'.G (.byt ((l.drop off).take n) t) (.slice (some ⟨(x.bk J).1,y,none⟩) n F):=by
      intro t;refine .byt _ t _ _ _ _ a1.symm hn fun i hi=> ?_
      have W:y=off:=by omega
      obtain⟨u,hu,hr⟩:=z (off+i) (by simp only[aB.size];omega);rw[W,hu];simp only[aB.cell]at hr
      have e:((l.drop off).take n).getD i 0=l.getD (off+i) 0:=by simp only[aa,bG,if_pos hi,bO]
      rw[e];cases hr with
      |u8 b=>rfl
     split
     ·rename_i E
      have L:=H _ E;exact .dat _ _ (hD .clip) ⟨_,n,by rw[<-L]⟩
     ·exact .dat _ _ (hD .no) trivial
    ·exact .undef _
  ·rw[<-hβ]at O ⊢;exact .psl J sz off n cap y F I hn H O
 |agg cs vs hl _ ih=>simp only[SV.pub,mF];exact .agg _ _ (by simpa using hl) fun i hi=>by rw[aY _ (by rfl)];exact ih i (by simpa using hi)
 |tup cs vs hl _ ih=>simp only[SV.pub,mF];exact .tup _ _ (by simpa using hl) fun i hi=>by rw[aY _ (by rfl)];exact ih i (by simpa using hi)
 |fn f c1 c2 v1 v2 a7 _ b1 _ b2 a6=>simp only[SV.pub,mF];exact .fn _ _ _ _ _ (by simpa using a7) (fun i hi=>by rw[aY _ (by rfl)];exact b2 i (by simpa using hi)) (by simpa using b1) (fun i hi=>by rw[aY _ (by rfl)];exact a6 i (by simpa using hi))
theorem ld{o:Nat}{obj:aB}{p:Nat×aB}:∀{l:List (Nat×aB)},p∈lN o obj l->p.1≠o/\∃q,(p.1,q)∈l/\p.2=oL o obj q
 |q::r,h=>by
  simp only[lN]at h;split at h
  ·obtain⟨z,u,y,E⟩:=ld h
   exact⟨z,u,af _ y,E⟩
  ·rename_i F
   rcases al.1 h with e|e
   ·rw[e];exact⟨F,q.2,aq ..,rfl⟩
   ·obtain⟨z,u,y,E⟩:=ld e
    exact⟨z,u,af _ y,E⟩
theorem qS{o:Nat}{obj:aB}:∀l:List (Nat×aB),(lN o obj l).map cI=(l.map cI).filter fun k=>decide (k≠o)
 |[]=>rfl
 |p::r=>by
  simp only[lN,aG,lG]
  by_cases h:p.1=o
  ·rw[if_pos h,qS r];simp[h]
  ·rw[if_neg h,aG,qS r];simp[h]
theorem qG{o:Nat}{obj:aB}{p:Nat×SV}:∀{l:List (Nat×SV)},p∈mu o obj l->∃q∈l,p.1=q.1
 |q::r,h=>by
  simp only[mu]at h;rcases al.1 h with e|e
  ·exact⟨q,aq ..,by rw[e]⟩
  ·obtain⟨u,z,y⟩:=qG e
   exact⟨u,af _ z,y⟩
theorem lg{o:Nat}{obj:aB}(n:Nat):∀l:List (Nat×SV),fo (mu o obj l) n=(fo l n).pub o obj
 |[]=>rfl
 |p::r=>by
  simp only[mu,fo];split
  ·rfl
  ·exact lg n r
theorem xaW{o:Nat}{obj q:aB}(h:q.wf=true):(oL o obj q).wf=true:=by cases q<;>simpa[oL,aB.wf]using h
theorem pC{o:Nat}{y obj:aB}(hl:c.look o=some y)(e3:∀cs,obj≠ .rc cs)(b3:∀cs,y≠ .rc cs)(e2:obj.size<=y.size)(e1:∀k,k<obj.size->obj.cell k=y.cell k)(d6:obj.wf=true)(hM:aL C x s a w)(H:Sim N c s):
 ∃x',(x'.bk=x.bk/\x'.τ=x.τ/\(∀b i u,x.G b i=some u->x'.G b i=some u)/\(∀i,obj.size<=i->x'.G ((x.bk o).1) i=none)/\(∀k,k<obj.size->∃u,x'.G ((x.bk o).1) k=some u/\cy x'.G (obj.cell k) u))/\(∀sv v,Rep x sv v->Rep x' (sv.pub o obj) v)/\∃s',aL C x' s' a w/\Sim N ⟨mu o obj c.tm,lN o obj c.ob,c.tk⟩ s'/\(∀p∈s'.ob,(x.bk o).1≠(x'.bk p.1).1):=by
 have Q:s.look o=some y:=(H.look o).trans hl;obtain⟨cc,e,fl,fh,hO,e4,hr⟩:=fp hM Q;have Z:=hM.heap.obs _ (dh Q)
 let x':Sit:= {x with G:=fun b i=>if b=(x.bk o).1/\i<obj.size then some (cc.getD i undef)else x.G b i}
 have hG:∀b i u,x.G b i=some u->x'.G b i=some u:=by intro b i u hu;show(if _ then _ else _)=_;rw[if_neg];exact hu;rintro⟨rfl,_⟩;have h0:=Z.2.2 i;simp only at h0;rw[h0]at hu;cases hu
 have J:∀k,k<obj.size->∃u,x'.G ((x.bk o).1) k=some u/\cy x'.G (obj.cell k) u:=by
  intro k hk;refine⟨cc.getD k undef,if_pos ⟨rfl,hk⟩,cy.mono hG ?_⟩;have:=hr k (by omega);rw[e1 k hk];cases y with
  |rc cs=>exact absurd rfl (b3 cs)
  |arr sz xs=>exact this
  |bar l=>exact this
 have L:∀sv v,Rep x sv v->Rep x' (sv.pub o obj) v:=fun sv v h=>Rep.pub (x:=x) (x':=x') rfl rfl hG J d6 h
 have z:=hM.heap
 have W:Inv N ⟨mu o obj c.tm,lN o obj c.ob,c.tk⟩:=by
  refine⟨fun p F=> ?_, ?_,fun p F=> ?_⟩
  ·obtain⟨q,hq,e⟩:=qG F;rw[e];exact H.inv.dom q hq
  ·show((lN o obj c.ob).map cI).Pairwise _
   rw[qS];exact H.inv.so.filter _
  ·obtain⟨_,q,I,h3⟩:=ld F;rw[h3];exact xaW (H.inv.wf _ I)
 have E:∀p∈lN o obj c.ob,p.1≠o/\∃q,(p.1,q)∈s.ob/\p.2=oL o obj q:=by intro p F;obtain⟨O,q,I,h3⟩:=ld F;have h4:=jK (jI H.inv.so) I;exact⟨O,q,dh ((H.look p.1).trans h4),h3⟩
 have b2:∀p∈lN o obj c.ob,(x.bk p.1).1≠(x.bk o).1:=fun p F e=>by obtain⟨O,q,I,_⟩:=E p F;exact O (z.inj (p.1,q) I _ (dh Q) e)
 refine⟨x',⟨rfl,rfl,hG,fun i hi=> ?_,J⟩,L,_,⟨⟨?_,fun i hi=> ?_⟩,hM.defers, ?_⟩,Sim.of W,fun p F=>(b2 p F).symm⟩
 ·show(if _ then _ else _)=_
  rw[if_neg (by rintro⟨_,h⟩;omega)];exact Z.2.2 i
 ·have:=hM.tm.1;rw[H.tm]at this;simpa[CSt.st]using this
 ·have b1:i<N:=by simpa[CSt.st]using hi
  have O:=hM.tm.2 i (by rw[H.tm];simpa using b1);rw[H.tm]at O;simp only[CSt.st,aa,aN,cM b1,bn,aO]at O ⊢;have:(CSt.mk (mu o obj c.tm) (lN o obj c.ob) c.tk).get i=(c.get i).pub o obj:=lg i c.tm;rw[this];exact L _ _ O
 ·refine⟨
   ?_,fun b i v hv=>hG _ _ _ (z.g0 b i v hv), ?_,z.new, ?_,jI W.so, ?_, ?_,fun n hn p F=> ?_,fun n hn m hm=>z.tkd n ((H.tk n).2 hn) m ((H.tk m).2 hm),z.os,z.tape,z.output,z.size,z.ext,z.pin,z.lay⟩
  ·intro b i v hv
   replace hv:(if b=(x.bk o).1/\i<obj.size then some (cc.getD i undef)else x.G b i)=some v:=hv;split at hv
   ·rename_i a7
    obtain⟨rfl,hi⟩:=a7;cases hv;rw[hO.cell,bl,iu (by omega)];rfl
   ·exact z.per b i v hv
  ·intro b i v hv
   replace hv:(if b=(x.bk o).1/\i<obj.size then some (cc.getD i undef)else x.G b i)=some v:=hv;split at hv
   ·rename_i a7
    exact .inr (a7.1 ▸ Z.2.1)
   ·exact z.gm b i v hv
  ·intro p F
   obtain⟨O,q,I,h3⟩:=E p F;obtain⟨g1,g2,g3⟩:=z.obs _ I;refine⟨?_,g2,fun off=> ?_⟩
   ·obtain⟨c',e',b5,b7,d7,a6,a1⟩:=g1
    rw[h3];refine⟨c',e',b5,b7,d7, ?_,fun k hk=> ?_⟩
    ·cases q<;>first|exact a6|exact⟨by simpa[oL,aB.size,mF]using a6.1,a6.2.1,fun h=>by cases h⟩
    ·cases q with
     |rc cs=>
      have b6:k<cs.length:=by simpa[oL,aB.size,mF]using hk
      have:=a1 k b6;simp only[oL,cx,mF]at this ⊢;rw[aY _ (by rfl)];exact L _ _ this
     |arr sz xs=>exact cy.mono hG (a1 k hk)
     |bar l=>exact cy.mono hG (a1 k hk)
   ·show(if _ then _ else _)=_
    rw[if_neg (fun h=>b2 p F h.1)];exact g3 off
  ·intro p F q hq b4
   obtain⟨_,p',e0,_⟩:=E p F;obtain⟨_,q',c7,_⟩:=E q hq;exact z.inj (p.1,p') e0 (q.1,q') c7 b4
  ·intro n d5
   have hn:=(H.tk n).2 d5;rcases z.tks n hn with h|⟨O,I,h3⟩
   ·exact .inl h
   ·by_cases a8:(x.τ n).2.1=(x.τ n).2.2
    ·exact .inl a8
    ·refine .inr ⟨O,I,fun off h4 h5=> ?_⟩
     show(if _ then _ else _)=_;rw[if_neg (fun h=>(z.tko n hn _ (dh Q)).elim (fun hb=>hb h.1) a8)];exact h3 off h4 h5
  ·obtain⟨_,q,I,_⟩:=E p F
   exact z.tko n ((H.tk n).2 hn) (p.1,q) I
theorem pD{o:Nat}{obj:aB}(E:c.look o=some obj)(h:∀cs,obj≠ .rc cs)(I:aL C x s a w)(z:Sim N c s):
 ∃x',(x'.bk=x.bk/\x'.τ=x.τ)/\(∀sv v,Rep x sv v->Rep x' (sv.pub o obj) v)/\∃y,aL C x' y a w/\Sim N ⟨mu o obj c.tm,lN o obj c.ob,c.tk⟩ y:=by
 obtain⟨x',F,J,y,H,L,_⟩:=pC E h h (bc _) (fun _ _=>rfl) (z.lookmem E) I z;exact⟨x',⟨F.1,F.2.1⟩,J,y,H,L⟩
theorem Dg{o:Nat}{obj:aB}(H:c.look o=some obj)(y:∀cs,obj≠ .rc cs)(E:aL C x s a w)(F:Sim N c s):
 ∃x',(∀sv v,Rep x sv v->Rep x' (sv.pub o obj) v)/\∃z,aL C x' z a w/\Sim N ⟨mu o obj c.tm,lN o obj c.ob,c.tk⟩ z:=by
 obtain⟨x',_,h⟩:=pD H y E F;exact⟨x',h⟩
theorem lM{vs:t6}{us:LAa}{o:Nat}(E:aL C x s a w)(F:Sim N c s)(hv:cn x vs us):
 ∃x' h,aL C x' h a w/\Sim N (c.publish o vs).1 h/\cn x' (c.publish o vs).2 us:=by
 unfold CSt.publish
 have H:∀{obj:aB},c.look o=some obj->(∀cs,obj≠ .rc cs)->∃x' h,aL C x' h a w/\Sim N ⟨mu o obj c.tm,lN o obj c.ob,c.tk⟩ h/\cn x' (SV.pubL o obj vs) us:=by intro obj y z;obtain⟨x',I,h,L,J⟩:=Dg y z E F;refine⟨x',h,L,J, ?_⟩;rw[mF];refine⟨by simpa using hv.1,fun i hi=> ?_⟩;rw[aY _ (by rfl)];exact I _ _ (hv.2 i (by simpa using hi))
 split
 ·rename_i Q O y;exact H y (fun cs e=>by cases e)
 ·rename_i l y;exact H y (fun cs e=>by cases e)
 ·exact⟨x,s,E,F,hv⟩
theorem jR{us:LAa}:∀{l:t7}{c:CSt}{s:St}{x:Sit}{vs:t6},aL C x s a w->Sim N c s->cn x vs us->
 ∃x' h,aL C x' h a w/\Sim N (fE c vs l).1 h/\cn x' (fE c vs l).2 us
 |[],_,_,_,_,hM,hS,hv=>⟨_,_,hM,hS,hv⟩
 |o::r,c,s,x,vs,hM,hS,hv=>by obtain⟨x1,F,z,y,E⟩:=lM (o:=o) hM hS hv;simp only[fE];exact jR z y E
theorem M.pub(h:M C N c a w)(o:Nat):M C N (c.publish o []).1 a w:=by obtain⟨x,s,y,z⟩:=h;obtain⟨x',F,H,E,_⟩:=lM (o:=o) (vs:=[]) (us:=[]) y z ⟨rfl,fun i hi=>by simp at hi⟩;exact⟨x',F,H,E⟩
theorem P1(I:aL C x s a w)(O:Sim N c s)(id b lo hi:Nat)(hv:lo=hi\/((∃c e fl fh,fM w b c e fl fh/\hi<=c.size)/\C.mine b/\∀o,lo<=o->o<hi->x.G b o=none))
 (L:∀p∈s.ob,b≠(x.bk p.1).1) (H:∀u∈s.tk,lX (b,lo,hi) (x.τ u)\/(x.τ u).2.1=(x.τ u).2.2) {n:Nat} (hn:n<N) {v:SV}
 (z:Rep (x.newT id b lo hi) v (a.tmps.toList.getD n undef)):
 M C N ⟨jZ (dj id (id+1) c.tm) n v,bq id (id+1) c.ob,kY (bV id (id+1) c.tk) id⟩ a w:=by
 have F:dq C (x.newT id b lo hi) (bq id (id+1) s.ob) (id::bV id (id+1) s.tk) w:=
  I.heap.addT id b lo hi hv (.inr fun p Q _=>L p Q) (.inr fun u hu _=>H u hu)
 have y:aL C (x.newT id b lo hi) ⟨SV.purgeL id (id+1) s.tm,bq id (id+1) s.ob,id::bV id (id+1) s.tk⟩ a w:=
  ⟨cn.mono (x:=x) (x':=x.newT id b lo hi) (lo:=id) (hi:=id+1) (fun _ _ _ h=>h) (fun _ _=>rfl) (Sit.newT_ne x id _ _ _) I.tm,I.defers,F⟩
 have J:Sim N ⟨dj id (id+1) c.tm,bq id (id+1) c.ob,kY (bV id (id+1) c.tk) id⟩ ⟨SV.purgeL id (id+1) s.tm,bq id (id+1) s.ob,id::bV id (id+1) s.tk⟩:=
  (O.purge id (id+1)).tks (fun u=>by rw[jJ,al,bF,bF,O.tk])
 refine⟨x.newT id b lo hi,_, ?_,J.put (d:=some n) (fun k e=>by cases e;exact hn) v⟩;refine⟨⟨?_,fun i hi=> ?_⟩,y.defers,y.heap⟩
 ·have:=y.tm.1;simpa[St.put]using this
 ·simp only[St.put,cW]at hi
  simp only[St.put,aa,fN]
  by_cases E:n=i
  ·subst E
   rw[if_pos rfl,if_pos hi];rw[<-aa];exact z
  ·rw[if_neg E]
   have:=y.tm.2 i hi;simp only[aa]at this;exact this
theorem wT(h:M C N c a w){n id o Q off k W:Nat}(hg:c.get n= .psl o Q off k (some W))(hc:P3 c n id o Q off k W (c.look o)=some c')(hn:n<N):M C N c' a w:=by
 cases hl:c.look o with
 |none=>rw[hl]at hc;cases hc;exact h
 |some H=>
  rw[hl]at hc
  have a7:∀(obj:aB)(v:SV),(∀cs,obj≠ .rc cs)->(∀cs,H≠ .rc cs)->obj.size=(off+k)*Q->(off+W)*Q<=H.size->k<=W->(∀k,k<obj.size->obj.cell k=H.cell k)->obj.wf=true->
   (∀(x':Sit)(z:Nat),(W=0\/z=off*Q)->(∀k,k<obj.size->∃u,x'.G ((x'.bk o).1) k=some u/\cy x'.G (obj.cell k) u)->cy x'.G v (.slice (some ⟨(x'.bk o).1,z,none⟩) k W))->
   (∀x v',Oi x v v'=dM x Q (.id id) v')->
   M C N (D2 c n id o obj v) a w:=by
   intro obj v e9 d5 f2 e5 hk a6 f0 hD c7;obtain⟨x,s,hM,hS⟩:=h;have b7:obj.size<=H.size:=by rw[f2];exact gf (bw _ (by omega)) e5
   obtain⟨x',⟨hβ,hτ,hG,b2,F⟩,g5,s',e6,b5,e8⟩:=pC hl e9 d5 b7 a6 f0 hM hS;have a8:s.look o=some H:=(hS.look o).trans hl;obtain⟨cc,e,fl,fh,hO,g2,_⟩:=fp hM a8;have d6:=hM.heap.obs _ (dh a8);have a1:=hM.slot n;rw[hS.get,hg]at a1;obtain⟨g7,g6,e0,z,he,I⟩:=a1.psl_inv;obtain rfl:=e0 _ rfl
   have b1:a.tmps.toList.getD n undef= .slice (some ⟨(x.bk o).1,z,none⟩) k W:=by rw[<-he];simp[bl,aa]
   refine P1 e6 b5 id ((x.bk o).1) ((off+k)*Q) ((off+W)*Q) (.inr ⟨⟨cc,e,fl,fh,hO,by omega⟩,d6.2.1,fun i h1 h2=>b2 i (by omega)⟩) (fun p hp=>e8 p hp) (fun u hu=> ?_) hn ?_
   ·have e4:=(b5.tk u).1 hu
    have d7:=(hS.tk u).2 e4;rw[hτ];exact(hM.heap.tko u d7 _ (dh a8)).imp (fun h e=>h e.symm) (fun h=>h)
   ·rw[b1]
    have h1:=hD (x'.newT id ((x.bk o).1) ((off+k)*Q) ((off+W)*Q)) z I (by show ∀k,k<obj.size->∃u,x'.G ((x'.bk o).1) k=some u/\cy x'.G (obj.cell k) u;rw[hβ];exact F)
    have e1:(x'.newT id ((x.bk o).1) ((off+k)*Q) ((off+W)*Q)).bk o=x.bk o:=by show x'.bk o=_;rw[hβ]
    rw[e1]at h1;refine .dat _ _ h1 ?_;rw[c7];refine⟨_,k,W,rfl, ?_⟩
    by_cases e7:W=0
    ·exact .inl (by omega)
    ·refine .inr ⟨_,z,rfl, ?_⟩
     rw[Sit.newT_eq,I.resolve_left e7,bN,bN]
  cases H with
  |rc cs=>cases hc;exact h
  |bar l=>
   simp only[P3]at hc;split at hc<;>cases hc
   ·rename_i L
    obtain⟨rfl,h2,h3⟩:=L;refine a7 (.bar (l.take (off+k))) (.byt ((l.drop off).take k) (.id id)) (fun cs e=>by cases e) (fun cs e=>by cases e) (by simp only[aB.size,av];omega) (by simp only[aB.size];omega) h3 (fun i hi=> ?_) rfl (fun x' z I F=> ?_) (fun _ _=>rfl)
    ·simp only[aB.size,av]at hi
     simp only[aB.cell,aa,bG,if_pos (show i<off+k by omega)]
    ·have Z:((l.drop off).take k).length=k:=by simp;omega
     refine .byt _ _ _ _ _ _ Z.symm h3 fun i hi=> ?_
     have J:z=off:=by omega
     obtain⟨u,hu,hr⟩:=F (off+i) (by simp only[aB.size,av];omega);rw[J,hu];simp only[aB.cell]at hr
     have e1:((l.drop off).take k).getD i 0=(l.take (off+k)).getD (off+i) 0:=by simp only[aa,bG,if_pos hi,bO,if_pos (show off+i<off+k by omega)]
     rw[e1];cases hr with
     |u8 b=>rfl
   ·exact h
  |arr E O=>
   simp only[P3]at hc;split at hc<;>cases hc
   ·rename_i L
    obtain⟨rfl,h2,h3⟩:=L;have b4:∀y∈O,y.length=E:=by obtain⟨x,s,hM,hS⟩:=h;exact jF.1 (hS.lookmem hl)
    have b3:∀y∈O.take (off+k),y.length=E:=fun y hy=>b4 y (cO hy)
    have f6:(O.drop off).take k=(O.take (off+k)).drop off:=by rw[List.drop_take,Nat.add_sub_cancel_left]
    refine a7 (.arr E (O.take (off+k))) (.lst E ((O.drop off).take k) (.id id)) (fun cs e=>by cases e) (fun cs e=>by cases e) (by simp only[aB.size,av];congr 1;omega) (by simp only[aB.size];exact bw _ h2) h3 (fun i hi=> ?_) (jF.2 b3) (fun x' z I F=> ?_) (fun _ _=>rfl)
    ·simp only[aB.size,av]at hi
     simp only[aB.cell,aa,bG];have hd:i/E<off+k:=nP (by rw[cK];exact Nat.lt_of_lt_of_le hi (bw _ (Nat.min_le_left _ _)));rw[if_pos hd]
    ·have Z:((O.drop off).take k).length=k:=by simp;omega
     have b6:∀i,i<k->((O.drop off).take k).getD i []=(O.take (off+k)).getD (off+i) []:=fun i hi=>by simp only[aa,bG,if_pos hi,bO,if_pos (show off+i<off+k by omega)]
     have e3:∀i,i<k->((O.drop off).take k).getD i []∈O.take (off+k):=fun i hi=>by rw[b6 i hi,aa,ab (show off+i<(O.take (off+k)).length by rw[av];omega)];exact aU _
     have a6:∀i j,i<k->j<E->∃u,x'.G ((x'.bk o).1) (z+i*E+j)=some u/\cy x'.G ((((O.drop off).take k).getD i []).getD j .undef) u:=by
      intro i j hi hj;have J:z=off*E:=I.resolve_left (by omega)
      have f1:(off+i)*E+j<(off+k)*E:=by have:=bw E (show off+i+1<=off+k by omega);rw[bN,Nat.one_mul]at this;omega
      obtain⟨u,hu,hr⟩:=F ((off+i)*E+j) (by simp only[aB.size,av];rw[iA (by omega)];exact f1);refine⟨u,by rw[J,<-bN];exact hu, ?_⟩;simp only[aB.cell]at hr;have e1:((off+i)*E+j)/E=off+i:=by rw[cK,Nat.mul_add_div (by omega),Nat.div_eq_of_lt hj,bW]
      have e2:((off+i)*E+j) % E=j:=by rw[cK,Nat.mul_add_mod,dF hj]
      rw[e1,e2]at hr;rw[b6 i hi];exact hr
     refine .lst _ _ _ _ _ _ _ (fun i j=>(x'.G ((x'.bk o).1) (z+i*E+j)).getD undef) Z.symm h3 (fun i hi=>b3 _ (e3 i hi)) (fun i j hi hj=> ?_) (fun i j hi hj=> ?_)
     ·obtain⟨u,hu,_⟩:=a6 i j hi hj
      rw[hu];rfl
     ·obtain⟨u,hu,hr⟩:=a6 i j hi hj
      rw[hu];exact hr
   ·exact h
theorem lq(O:aL C x s a w)(E:Sim N c s)(id:Nat)(t:t8)(ht:∀k,t=some k->k∈c.tk){n:Nat}(hn:n<N){v:SV}
 (hv:∀u,Rep x (c.get n) u->Rep (x.newT id ((t.elim (0,0,0) x.τ)).1 ((t.elim (0,0,0) x.τ)).2.1 ((t.elim (0,0,0) x.τ)).2.2) v u):
 M C N ⟨jZ (dj id (id+1) c.tm) n v,bq id (id+1) c.ob,kY (bV id (id+1) (t.elim c.tk fun k=>bV k (k+1) c.tk)) id⟩ a w:=by
 generalize z:t.elim (0,0,0) x.τ=T at hv;generalize hL:(t.elim c.tk fun k=>bV k (k+1) c.tk)=L;have Q:=O.heap
 have I:∀u∈L,u∈s.tk/\∀k,t=some k->u≠k:=by
  intro u hu;rw[<-hL]at hu;cases t with
  |none=>exact⟨(E.tk u).2 hu,fun k e=>by cases e⟩
  |some k=>obtain⟨Z,h2⟩:=bF.1 hu;exact⟨(E.tk u).2 Z,fun k' e=>by cases e;omega⟩
 have H:dq C (x.newT id T.1 T.2.1 T.2.2) (bq id (id+1) s.ob) (id::bV id (id+1) L) w:=by
  refine(Q.sub (tk':=L) (kE.refl _) (fun u hu=>(I u hu).1)).addT id T.1 T.2.1 T.2.2 ?_ ?_ ?_
  ·cases t with
   |none=>subst z;exact .inl rfl
   |some k=>have:=Q.tks k ((E.tk k).2 (ht k rfl));unfold iw at this;subst z;exact this
  ·cases t with
   |none=>subst z;exact .inl rfl
   |some k=>
    by_cases J:(x.τ k).2.1=(x.τ k).2.2
    ·subst z;exact .inl J
    ·subst z
     exact .inr fun p hp _=>(Q.tko k ((E.tk k).2 (ht k rfl)) p hp).resolve_right J
  ·cases t with
   |none=>subst z;exact .inl rfl
   |some k=>
    by_cases J:(x.τ k).2.1=(x.τ k).2.2
    ·subst z;exact .inl J
    ·subst z
     refine .inr fun u hu _=> ?_
     obtain⟨Z,h2⟩:=I u hu;rcases Q.tkd k ((E.tk k).2 (ht k rfl)) u Z (fun e=>h2 k rfl e.symm)with h|h|h
     ·exact .inl h
     ·exact absurd h J
     ·exact .inr h
 have y:aL C (x.newT id T.1 T.2.1 T.2.2) ⟨SV.purgeL id (id+1) s.tm,bq id (id+1) s.ob,id::bV id (id+1) L⟩ a w:=
  ⟨cn.mono (x:=x) (x':=x.newT id T.1 T.2.1 T.2.2) (lo:=id) (hi:=id+1) (fun _ _ _ h=>h) (fun _ _=>rfl) (Sit.newT_ne x id _ _ _) O.tm,O.defers,H⟩
 have a1:Sim N ⟨dj id (id+1) c.tm,bq id (id+1) c.ob,kY (bV id (id+1) L) id⟩ ⟨SV.purgeL id (id+1) s.tm,bq id (id+1) s.ob,id::bV id (id+1) L⟩:=
  (E.purge id (id+1)).tks (fun u=>by rw[jJ,al])
 refine⟨x.newT id T.1 T.2.1 T.2.2,_, ?_,a1.put (d:=some n) (fun k e=>by cases e;exact hn) v⟩;have W:n<s.tm.length:=by rw[E.tm];simpa using hn
 refine⟨⟨?_,fun i hi=> ?_⟩,y.defers,y.heap⟩
 ·have:=y.tm.1;simpa[St.put]using this
 ·simp only[St.put,cW]at hi
  simp only[St.put,aa,fN]
  by_cases F:n=i
  ·subst F
   rw[if_pos rfl,if_pos hi];refine hv _ ?_;have:=O.tm.2 n W;have e:s.tm.getD n .undef=c.get n:=E.get n;rw[e]at this;rw[<-aa];exact this
  ·rw[if_neg F,<-aa,<-aa]
   exact y.tm.2 i hi
theorem wU(h:M C N c a w){n id:Nat}(y:P4 c n id (c.get n)=some c'):M C N c' a w:=by
 have I:c.get n≠ .undef->n<N:=by
  obtain⟨x,s,F,E⟩:=h;intro a1;rcases bP n N with O|O
  ·exact O
  ·exact absurd (E.inv.get O) a1
 cases hg:c.get n with
 |byt l t=>
  rw[hg]at y;have J:=I (by rw[hg];exact fun e=>by cases e);cases t with
  |no=>cases y;exact h
  |clip=>
   cases y;obtain⟨x,s,F,E⟩:=h;refine lq F E id none (fun k e=>by cases e) J fun u hu=> ?_
   rw[hg]at hu;exact leT.byt id l x u hu
  |id t=>
   simp only[P4]at y;split at y
   ·cases y;exact h
   ·split at y<;>cases y
    rename_i O h2;obtain⟨x,s,F,E⟩:=h;refine lq F E id (some t) (fun k e=>by cases e;simpa using h2) J fun u hu=> ?_
    rw[hg]at hu;obtain⟨b,cap,he,_,hD,L⟩:=hu.byt_inv;refine .dat _ _ (hD.tok (.byt l (.id id)) (.inl ⟨l,_,_,rfl,rfl⟩)) ?_;obtain⟨a',Z,z,H,hh⟩:=L;refine⟨a',Z,z,H,hh.imp (fun h=>h) ?_⟩;rintro⟨b,off,h3,h4⟩;exact⟨b,off,h3,by rw[Sit.newT_eq];exact h4⟩
 |lst Q W t=>
  rw[hg]at y;have J:=I (by rw[hg];exact fun e=>by cases e);cases t with
  |no=>cases y;exact h
  |clip=>
   cases y;obtain⟨x,s,F,E⟩:=h;refine lq F E id none (fun k e=>by cases e) J fun u hu=> ?_
   rw[hg]at hu;exact leT.lst id Q W x u hu
  |id t=>
   simp only[P4]at y;split at y
   ·cases y;exact h
   ·split at y<;>cases y
    rename_i O h2;obtain⟨x,s,F,E⟩:=h;refine lq F E id (some t) (fun k e=>by cases e;simpa using h2) J fun u hu=> ?_
    rw[hg]at hu;obtain⟨b,cap,he,_,hD,L⟩:=hu.lst_inv;refine .dat _ _ (hD.tok (.lst Q W (.id id)) (.inr ⟨Q,W,_,_,rfl,rfl⟩)) ?_;obtain⟨a',Z,z,H,hh⟩:=L;refine⟨a',Z,z,H,hh.imp (fun h=>h) ?_⟩;rintro⟨b,off,h3,h4⟩;exact⟨b,off,h3,by rw[Sit.newT_eq];exact h4⟩
 |psl o Q off k cp=>
  rw[hg]at y;have J:=I (by rw[hg];exact fun e=>by cases e);cases cp with
  |none=>cases y;exact h
  |some cp=>exact wT h hg y J
 |_=>rw[hg]at y;cases y;exact h
theorem aL.retag(z:aL C x s a w)(n:Nat){v:SV}(y:Rep x v (a.tmps.toList.getD n undef)):aL C x (s.put (some n) v) a w:=by
 refine⟨⟨?_,fun i hi=> ?_⟩,z.defers,z.heap⟩
 ·have:=z.tm.1;simpa[St.put]using this
 ·simp only[St.put,cW]at hi
  simp only[St.put,aa,fN]
  by_cases h:n=i
  ·subst h
   rw[if_pos rfl,if_pos hi];rw[<-aa];exact y
  ·rw[if_neg h]
   have:=z.tm.2 i hi;simp only[aa]at this;exact this
theorem dq.move{ob:List (Nat×aB)}{tk:t7}(h:dq C x ob tk w){o d:Nat}(a7:100<=d){obj:aB}(ho:(o,obj)∈ob)(a1:∀cs,obj≠ .rc cs):
 dq C (x.newO d (x.bk o).1 (x.bk o).2) ((d,obj)::bq d (d+1) (bq o (o+1) ob)) (bV d (d+1) (bV o (o+1) tk)) w:=by
 have hβ:=Sit.newO_ne x d (x.bk o).1 (k:=(x.bk o).2);obtain⟨⟨c,e,fl,fh,hO,hs,hr⟩,hm,hg⟩:=h.obs _ ho;have y:(x.newO d (x.bk o).1 (x.bk o).2).bk d=x.bk o:=if_pos rfl
 have E:∀p∈bq d (d+1) (bq o (o+1) ob),(x.newO d (x.bk o).1 (x.bk o).2).bk p.1=x.bk p.1/\∃q,(p.1,q)∈ob/\p.1≠o/\¬(d<=p.1/\p.1<d+1)/\p.2=(q.purge o (o+1)).purge d (d+1):=by intro p z;obtain⟨H,q,L,h3⟩:=cG z;obtain⟨h4,W,Z,h6⟩:=cG L;simp only at h4 Z h6;exact⟨hβ _ H,W,Z,by omega,H,by rw[h3,h6]⟩
 have I:∀t∈bV d (d+1) (bV o (o+1) tk),t∈tk:=fun t O=>(bF.1 (bF.1 O).1).1
 refine⟨h.per,h.g0,h.gm,h.new, ?_, ?_, ?_,fun t O=>h.tks t (I t O), ?_,fun t O u hu=>h.tkd t (I t O) u (I u hu),h.os,h.tape,h.output,h.size,h.ext,fun i hi=>by rw[hβ i (by omega)];exact h.pin i hi,h.lay⟩
 ·intro p z
  rcases al.1 z with rfl|z
  ·refine⟨⟨c,e,fl,fh,by rw[y];exact hO,by rw[y];exact hs,fun k hk=> ?_⟩,by rw[y];exact hm,fun off=>by rw[y];exact hg off⟩
   have:=hr k hk;cases obj with
   |rc cs=>exact absurd rfl (a1 cs)
   |arr sz xs=>exact this
   |bar l=>exact this
  ·obtain⟨J,q,H,L,h3,h4⟩:=E p z
   obtain⟨Z,h6,h7⟩:=h.obs _ H;refine⟨?_,by rw[J];exact h6,fun off=>by rw[J];exact h7 off⟩;have e1:=Z.of_heap (x':=x) (w':=w) (lo:=o) (hi:=o+1) rfl (fun _ _ _ h=>h) (fun _ _=>rfl) (fun _ _=>rfl) (by omega);have e2:=e1.of_heap (x':=x.newO d (x.bk o).1 (x.bk o).2) (w':=w) (lo:=d) (hi:=d+1) rfl (fun _ _ _ h=>h) hβ (fun _ _=>rfl) h3;rw[h4];exact e2
 ·rw[aG,eZ,fy,fy]
  refine⟨fun Q=> ?_,(h.nd.filter _).filter _⟩;have:=(List.mem_filter.1 Q).2;simp at this
 ·intro p z q hq F
  rcases al.1 z with rfl|z<;>rcases al.1 hq with rfl|hq
  ·rfl
  ·obtain⟨J,W,H,L,_⟩:=E q hq
   rw[y,J]at F;exact absurd (h.inj (o,obj) ho (q.1,W) H F).symm L
  ·obtain⟨J,W,H,L,_⟩:=E p z
   rw[y,J]at F;exact absurd (h.inj (p.1,W) H (o,obj) ho F) L
  ·obtain⟨J,q1,H,_⟩:=E p z
   obtain⟨a6,q2,L,_⟩:=E q hq;rw[J,a6]at F;exact h.inj (p.1,q1) H (q.1,q2) L F
 ·intro t O p z
  rcases al.1 z with rfl|z
  ·show(x.τ t).1≠((x.newO d (x.bk o).1 (x.bk o).2).bk d).1\/_
   rw[y];exact h.tko t (I t O) (o,obj) ho
  ·obtain⟨J,q,H,_⟩:=E p z
   show(x.τ t).1≠((x.newO d (x.bk o).1 (x.bk o).2).bk p.1).1\/_;rw[J];exact h.tko t (I t O) (p.1,q) H
theorem aL.move(z:aL C x s a w){o d:Nat}(y:100<=d){obj:aB}(F:s.look o=some obj)(E:∀cs,obj≠ .rc cs):
 aL C (x.newO d (x.bk o).1 (x.bk o).2) (((s.purge o (o+1)).purge d (d+1)).addO d obj) a w:=
 ⟨cn.mono (x:=x) (x':=x.newO d (x.bk o).1 (x.bk o).2) (lo:=d) (hi:=d+1) (fun _ _ _ h=>h) (Sit.newO_ne x d _) (fun _ _=>rfl) (z.purge o (o+1)).tm,z.defers,z.heap.move y (dh F) E⟩
theorem vZ{n id o z off k:Nat}{cap:t8}{obj:aB}(L:aL C x s a w)(E:Sim N c s)(hn:n<N)(hid:100<=id)(Q:c.get n= .psl o z off k cap)(O:c.look o=some obj)(I:∀cs,obj≠ .rc cs):
 M C N (mvC c n id o z off k cap obj) a w:=by
 have H:=L.move hid (by rw[E.look];exact O) I;have J:=(((E.purge o (o+1)).purge id (id+1)).addO id (E.lookmem O)).put (d:=some n) (fun k e=>by cases e;exact hn) (.psl id z off k cap);refine⟨x.newO id (x.bk o).1 (x.bk o).2,_, ?_,J⟩
 have hv:Rep x (.psl o z off k cap) (a.tmps.toList.getD n undef):=by have:=L.tm.2 n (by rw[E.tm];simpa using hn);rw[show s.tm.getD n .undef=c.get n from E.get n,Q]at this;exact this
 obtain⟨h,Z,h2,F,he,W,h4⟩:=hv.psl_invA;refine H.retag n ?_;rw[he];have y:(x.newO id (x.bk o).1 (x.bk o).2).bk id=x.bk o:=if_pos rfl;have:=Rep.psl (x:=x.newO id (x.bk o).1 (x.bk o).2) id z off k cap F h W Z h2 (by rw[y];exact h4);rw[y]at this;exact this
theorem xM(h:M C N c a w){n id:Nat}(hid:100<=id)(y:YI c n id (c.get n)=some c'):M C N c' a w:=by
 obtain⟨x,s,E,z⟩:=h;cases hg:c.get n with
 |psl o I off k cap=>
  rw[hg]at y
  have hn:n<N:=by
   rcases bP n N with h|h
   ·exact h
   ·rw[z.inv.get h]at hg;cases hg
  simp only[YI]at y;split at y
  ·cases y;exact⟨x,s,E,z⟩
  ·cases hl:c.look o with
   |none=>rw[hl]at y;cases y;exact⟨x,s,E,z⟩
   |some obj=>
    rw[hl]at y;cases obj with
    |rc cs=>cases y;exact⟨x,s,E,z⟩
    |arr F H=>cases y;exact vZ E z hn hid hg hl (fun cs e=>by cases e)
    |bar l=>cases y;exact vZ E z hn hid hg hl (fun cs e=>by cases e)
 |_=>rw[hg]at y;cases y;exact⟨x,s,E,z⟩
theorem pZ{t:Nat}:∀{cs:t6}{E k:Nat},mI t cs E=some k->∃j F y,k=E+j/\j<cs.length/\cs.getD j .undef= .lst F y (.id t)
 |[],_,_,h=>by cases h
 |v::r,E,k,h=>by
  have z:mI t r (E+1)=some k->∃j F y,k=E+j/\j<(v::r).length/\(v::r).getD j .undef= .lst F y (.id t):=fun h=>by obtain⟨j,F,y,J,I,H⟩:=pZ h;exact⟨j+1,F,y,by omega,by simp;omega,by simpa using H⟩
  unfold mI at h;split at h
  ·split at h
   ·rename_i hu
    cases h;exact⟨0,_,_,rfl,by simp,by rw[dE,hu]⟩
   ·exact z h
  ·exact z h
theorem md(lo hi:Nat):∀(cs:t6),(SV.purgeL lo hi cs).length=cs.length
 |[]=>rfl
 |v::r=>by simp[SV.purgeL,md lo hi r]
theorem jS{lo hi:Nat}{o:Nat}{obj:aB}:∀{ob:List (Nat×aB)},(o,obj)∈ob->¬(lo<=o/\o<hi)->(o,obj.purge lo hi)∈bq lo hi ob
 |p::r,h,hn=>by
  unfold bq;rcases al.1 h with rfl|h
  ·rw[if_neg hn];exact aq
  ·split
   ·exact jS h hn
   ·exact af _ (jS h hn)
theorem xP(hM:aL C x s a w)(hS:Sim N c s){o t id k:Nat}{cs:t6}(hl:c.look o=some (.rc cs))(ht:t∈c.tk)(hk:k<cs.length){Q:Nat}{H:d8}
 (d6:cs.getD k .undef= .lst Q H (.id t)) (e3:¬o=id):
 M C N ⟨dj id (id+1) c.tm,iW (bq id (id+1) c.ob) o (.rc ((SV.purgeL id (id+1) cs).set k (.lst Q H (.id id)))),kY (bV id (id+1) (bV t (t+1) c.tk)) id⟩ a w:=by
 obtain⟨T,W⟩:∃T,T=x.τ t:=⟨_,rfl⟩;have hH:=hM.heap
 have b1:∀u∈bV t (t+1) c.tk,u∈s.tk/\u≠t:=by intro u hu;obtain⟨O,h2⟩:=bF.1 hu;exact⟨(hS.tk u).2 O,by omega⟩
 have J:t∈s.tk:=(hS.tk t).2 ht
 have E:dq C (x.newT id T.1 T.2.1 T.2.2) (bq id (id+1) s.ob) (id::bV id (id+1) (bV t (t+1) c.tk)) w:=by
  refine(hH.sub (tk':=bV t (t+1) c.tk) (kE.refl _) (fun u hu=>(b1 u hu).1)).addT id T.1 T.2.1 T.2.2 ?_ ?_ ?_
  ·have:=hH.tks t J
   unfold iw at this;rw[W];exact this
  ·by_cases hc:(x.τ t).2.1=(x.τ t).2.2
   ·rw[W];exact .inl hc
   ·rw[W]
    exact .inr fun p hp _=>(hH.tko t J p hp).resolve_right hc
  ·by_cases hc:(x.τ t).2.1=(x.τ t).2.2
   ·rw[W];exact .inl hc
   ·rw[W]
    refine .inr fun u hu _=> ?_
    obtain⟨O,h2⟩:=b1 u hu;rcases hH.tkd t J u O (fun e=>h2 e.symm)with h|h|h
    ·exact .inl h
    ·exact absurd h hc
    ·exact .inr h
 have z:(o,aB.rc cs)∈s.ob:=by have:=hS.look o;rw[hl]at this;change List.lookup o s.ob=_ at this;rw[gY]at this;exact iS this
 have y:(o,aB.rc (SV.purgeL id (id+1) cs))∈bq id (id+1) s.ob:=jS z (by omega)
 have a7:eu (x.newT id T.1 T.2.1 T.2.2) w o (.rc ((SV.purgeL id (id+1) cs).set k (.lst Q H (.id id)))):=by
  obtain⟨⟨ca,e,fl,fh,hO,⟨b5,b6,e1⟩,L⟩,_,_⟩:=E.obs _ y;obtain⟨⟨I,e0,e2,d7,b2,_,F⟩,_,_⟩:=hH.obs _ z
  have b4:I=ca:=by have O:(x.newT id T.1 T.2.1 T.2.2).bk o=x.bk o:=rfl;rw[O]at hO;have:=b2.1.symm.trans hO.1;cases this;rfl
  subst b4;refine⟨I,e,fl,fh,hO,⟨?_,b6,fun h=>by cases h⟩,fun j hj=> ?_⟩
  ·simpa[aB.size]using b5
  ·have Z:j<(aB.rc (SV.purgeL id (id+1) cs)).size:=by simpa[aB.size]using hj
   show Rep _ (((SV.purgeL id (id+1) cs).set k (.lst Q H (.id id))).getD j .undef) _;rw[aa,fN]
   by_cases a8:k=j
   ·subst a8
    rw[if_pos rfl,if_pos (by rw[md];exact hk),aO];have hu:Rep x (cs.getD k .undef) (I.getD k undef):=F k (by simpa[aB.size,md]using Z);rw[d6]at hu;obtain⟨b,cap,he,_,hD,c7⟩:=hu.lst_inv;refine .dat _ _ (hD.tok (.lst Q H (.id id)) (.inr ⟨Q,H,_,_,rfl,rfl⟩)) ?_;obtain⟨a',n',a6,b3,hh⟩:=c7;refine⟨a',n',a6,b3,hh.imp (fun h=>h) ?_⟩;rintro⟨b,off,h3,h4⟩;exact⟨b,off,h3,by rw[Sit.newT_eq,W];exact h4⟩
   ·rw[if_neg a8,<-aa]
    exact L j Z
 have hb:=E.block y rfl rfl rfl rfl (fun _ _=>rfl) a7
 have b7:aL C (x.newT id T.1 T.2.1 T.2.2) ⟨SV.purgeL id (id+1) s.tm,setO o (.rc ((SV.purgeL id (id+1) cs).set k (.lst Q H (.id id)))) (bq id (id+1) s.ob),id::bV id (id+1) (bV t (t+1) c.tk)⟩ a w:=
  ⟨cn.mono (x:=x) (x':=x.newT id T.1 T.2.1 T.2.2) (lo:=id) (hi:=id+1) (fun _ _ _ h=>h) (fun _ _=>rfl) (Sit.newT_ne x id _ _ _) hM.tm,hM.defers,hb⟩
 have a1:Sim N ⟨dj id (id+1) c.tm,bq id (id+1) c.ob,kY (bV id (id+1) (bV t (t+1) c.tk)) id⟩ ⟨SV.purgeL id (id+1) s.tm,bq id (id+1) s.ob,id::bV id (id+1) (bV t (t+1) c.tk)⟩:=
  (hS.purge id (id+1)).tks (fun u=>by rw[jJ,al])
 have d5:(CSt.look ⟨dj id (id+1) c.tm,bq id (id+1) c.ob,kY (bV id (id+1) (bV t (t+1) c.tk)) id⟩ o).isSome=true:=by have O:=a1.look o;rw[<-O];show(List.lookup o (bq id (id+1) s.ob)).isSome=true;rw[pM E.nd y];rfl
 exact⟨x.newT id T.1 T.2.1 T.2.2,_,b7,a1.setO d5 rfl⟩
theorem vy(h:M C N c a w){o t b:Nat}(z:D7 c o t b (c.look o)=some c'):M C N c' a w:=by
 cases hl:c.look o with
 |none=>rw[hl]at z;cases z;exact h
 |some obj=>
  rw[hl]at z;cases obj with
  |rc cs=>
   simp only[D7]at z;split at z
   ·rename_i k H
    obtain⟨j,W,Q,E,O,F⟩:=pZ H;rw[cd]at E;subst E;unfold O2 at z;split at z<;>cases z;rename_i y;obtain⟨x,s,I,J⟩:=h;rw[F];exact xP I J hl (by simpa using y.1) O F y.2.1
   ·cases z;exact h
  |arr L Z=>cases z;exact h
  |bar l=>cases z;exact h
theorem pX(h:M C N c a w){q:Dir}(y:rz c q=some c'):M C N c' a w:=by
 cases q with
 |mtok o t b=>exact vy h y
 |kill l=>cases y;exact h.kill l
 |gc l=>cases y;exact h.gc
 |gcr lo hi=>cases y;exact h.purge lo hi
 |pubo o=>cases y;exact h.pub _
 |pub n=>
  simp only[rz]at y;split at y<;>cases y
  ·exact h.pub _
  ·exact h
 |tok n id=>
  simp only[rz]at y;split at y
  ·cases y
  ·exact wU h y
 |obj n id=>
  simp only[rz]at y;split at y
  ·cases y
  ·exact xM h (by omega) y
theorem kO:∀{l:List Dir}{c:CSt},M C N c a w->jg c l=some c'->M C N c' a w
 |[],_,h,hc=>by cases hc;exact h
 |q::r,c,h,hc=>by
  simp only[jg]at hc;split at hc
  ·rename_i c1 y;exact kO (pX h y) hc
  ·cases hc
end Go.Sy
namespace Go.Sy
variable [aW]
variable {P : Program} {C : Ctx} {x : Sit} {a : Act} {w : World} {N : Nat} {c c' : CSt} {s : St}
def gk(P:Program)(f:Nat)(args:t6)(os:List aB)(k:Nat)(R:eg->Prop):Prop:=
 eX P f=true/\∀(C:Ctx)(x:Sit)(w:World)(vs:LAa),C.w0=w->C.G0=x.G->
  (∀b,C.mine b->w.heap.size<=b\/(∃i,i<os.length/\(x.bk i).1=b)\/(∃t,50<=t/\t<50+k/\(x.τ t).2.1≠(x.τ t).2.2/\(x.τ t).1=b))->os.length<=40->
  (∀o∈os,o.wf=true)->dq C x (idx os) (tks 50 k) w->cn x args vs->
  Calls P f ⟨vs⟩ w fun e w'=>∃v x' q,e= .returned v/\R q/\Rep x' q.r v/\dq C x' q.os q.tk w'/\(∀p∈q.os,p.2.wf=true)/\∀i,i<os.length->x'.bk i=x.bk i
theorem lj(cs:t6):SV.bareL cs=cs.map SV.bare:=by
 induction cs with
 |nil=>rfl
 |cons c r h=>simp only[SV.bareL,aG,h]
theorem Rep.bare{x x':Sit}(hG:x'.G=x.G)(W:x'.bk=x.bk){sv:SV}{v:Value}(h:Rep x sv v):Rep x' sv.bare v:=by
 induction h with
 |undef v=>exact .undef v
 |dat s v h ht=>
  have y:=h.toData;rw[<-hG]at y;cases s with
  |byt l t=>exact .dat _ _ y trivial
  |lst z xs t=>exact .dat _ _ y trivial
  |undef=>exact .undef v
  |bool b=>exact .dat _ _ y trivial
  |int k n=>exact .dat _ _ y trivial
  |u8 b=>exact .dat _ _ y trivial
  |str l=>exact .dat _ _ y trivial
  |nilp=>exact .dat _ _ y trivial
  |nili=>exact .dat _ _ y trivial
  |ife=>exact .dat _ _ y trivial
  |pp cs=>exact .dat _ _ y trivial
  |ptr o off=>cases h
  |ap o z i j=>cases h
  |psl o z off n cap=>cases h
  |agg cs=>cases h
  |tup cs=>cases h
  |fn f a b=>cases h
 |ptr o off=>simp only[SV.bare];rw[<-W];exact .ptr o off
 |ap o z i j=>simp only[SV.bare];rw[<-W];exact .ap o z i j
 |psl o z off n cap F E h hn hc Z=>simp only[SV.bare];rw[<-W]at Z ⊢;exact .psl o z off n cap F E h hn hc Z
 |agg cs vs Q _ I=>simp only[SV.bare,lj];exact .agg _ _ (by simpa using Q) fun i hi=>by rw[aY _ (by rfl)];exact I i (by simpa using hi)
 |tup cs vs Q _ I=>simp only[SV.bare,lj];exact .tup _ _ (by simpa using Q) fun i hi=>by rw[aY _ (by rfl)];exact I i (by simpa using hi)
 |fn f c1 c2 v1 v2 J _ L _ O H=>simp only[SV.bare,lj];exact .fn _ _ _ _ _ (by simpa using J) (fun i hi=>by rw[aY _ (by rfl)];exact O i (by simpa using hi)) (by simpa using L) (fun i hi=>by rw[aY _ (by rfl)];exact H i (by simpa using hi))
def Oj(x:Sit):t8->Nat×Nat×Nat
 |none=>(0,0,0)
 |some t=>x.τ t
def o6(x x1:Sit)(j:Nat)(l:List t8):Prop:=∀k,k<l.length->x1.τ (j+k)=Oj x (l.getD k none)
theorem o6.left{x x1:Sit}{j:Nat}{l r:List t8}(h:o6 x x1 j (l++r)):o6 x x1 j l:=fun k y=>by have:=h k (by simp;omega);rwa[aa,bi y,<-aa]at this
theorem o6.right{x x1:Sit}{j:Nat}{l r:List t8}(h:o6 x x1 j (l++r)):o6 x x1 (j+l.length) r:=fun k y=>by have:=h (l.length+k) (by simp;omega);rw[aa,bo (by omega),<-aa]at this;rw[eU,this];congr 2;omega
theorem lD{t:Nat}:∀{l:List t8},t∈cJ l↔some t∈l
 |[]=>by simp[cJ]
 |none::r=>by simp[cJ,lD]
 |some u::r=>by simp[cJ,lD]
theorem gr(l r:List t8):cJ (l++r)=cJ l++cJ r:=by
 induction l with
 |nil=>rfl
 |cons o l h=>cases o<;>simp[cJ,h]
theorem Dr{x x1:Sit}(J:x1.G=x.G)(W:x1.bk=x.bk){v:SV}{u:Value}(h:Rep x v u):Rep x1 v.kclip u:=by
 have z:=h.bare J W;cases v with
 |lst Z O t=>
  cases t with
  |no=>exact z
  |id u=>exact z
  |clip=>
   cases O with
   |cons y r=>exact z
   |nil=>obtain⟨b,cap,Q,_,H,E⟩:=h.lst_inv;obtain⟨L,I,F⟩:=E;rw[<-J]at H;exact .dat _ _ (H.tok (.lst _ [] .clip) (.inr ⟨_,[],_,_,rfl,rfl⟩)) ⟨L,I,F⟩
 |byt l t=>
  cases t with
  |no=>exact z
  |id u=>exact z
  |clip=>
   cases l with
   |cons y r=>exact z
   |nil=>obtain⟨b,cap,Q,_,H,E⟩:=h.byt_inv;obtain⟨L,I,F⟩:=E;rw[<-J]at H;exact .dat _ _ (H.tok (.byt [] .clip) (.inl ⟨[],_,_,rfl,rfl⟩)) ⟨L,I,F⟩
 |_=>exact z
theorem xS{x x1:Sit}(F:x1.G=x.G)(E:x1.bk=x.bk){cs:t6}{u:Value}(h:Rep x (.agg cs) u):Rep x1 (.agg (cs.map SV.kclip)) u:=by
 cases h with
 |dat _ _ h _=>cases h
 |agg _ vs z h=>
  refine .agg _ vs (by rw[aC];exact z) fun i hi=> ?_
  rw[aC]at hi;have y:=Dr F E (h i hi);rw[aa,ab hi,aO]at y;rw[aa,aN,ab hi,bn,aO];exact y
theorem kU{x x1:Sit}(L:x1.G=x.G)(hβ:x1.bk=x.bk){tk:t7}{j:Nat}{v:SV}{u:Value}(h:Rep x v u)(ht:o6 x x1 j (kF tk j v).2):Rep x1 (kF tk j v).1 u:=by
 have O:=h.bare L hβ;cases v with
 |byt l t=>
  cases t with
  |no=>exact O
  |clip=>have e:=ht 0 (by simp[kF]);obtain⟨b,cap,he,_,E,y⟩:=h.byt_inv;obtain⟨I,H,z⟩:=y;rw[<-L]at E;exact .dat _ _ (E.tok (.byt l (.id j)) (.inl ⟨l,_,_,rfl,rfl⟩)) ⟨I,H,H,z,.inl rfl⟩
  |id t=>
   by_cases J:tk.contains t=true
   ·have e:=ht 0 (by simp only[kF,J,if_true,ah];omega)
    simp only[kF,J,if_true]at e ⊢;obtain⟨b,cap,he,_,E,y⟩:=h.byt_inv;obtain⟨I,H,F,z,hh⟩:=y;rw[<-L]at E;refine .dat _ _ (E.tok (.byt l (.id j)) (.inl ⟨l,_,_,rfl,rfl⟩)) ⟨I,H,F,z,hh.imp id ?_⟩;rintro⟨b,off,Z,h2⟩;exact⟨b,off,Z,by rw[bW]at e;rw[e];exact h2⟩
   ·simp only[kF,J,if_false];exact O
 |lst W Q t=>
  cases t with
  |no=>exact O
  |clip=>obtain⟨b,cap,he,_,E,y⟩:=h.lst_inv;obtain⟨I,H,z⟩:=y;rw[<-L]at E;exact .dat _ _ (E.tok (.lst W Q (.id j)) (.inr ⟨W,Q,_,_,rfl,rfl⟩)) ⟨I,H,H,z,.inl rfl⟩
  |id t=>
   by_cases J:tk.contains t=true
   ·have e:=ht 0 (by simp only[kF,J,if_true,ah];omega)
    simp only[kF,J,if_true]at e ⊢;obtain⟨b,cap,he,_,E,y⟩:=h.lst_inv;obtain⟨I,H,F,z,hh⟩:=y;rw[<-L]at E;refine .dat _ _ (E.tok (.lst W Q (.id j)) (.inr ⟨W,Q,_,_,rfl,rfl⟩)) ⟨I,H,F,z,hh.imp id ?_⟩;rintro⟨b,off,Z,h2⟩;exact⟨b,off,Z,by rw[bW]at e;rw[e];exact h2⟩
   ·simp only[kF,J,if_false];exact O
 |agg cs=>exact xS L hβ h
 |_=>exact O
theorem pb{tk:t7}{j:Nat}{v:SV}:∀t∈cJ (kF tk j v).2,t∈tk:=by
 intro t h;cases v with
 |byt l q=>
  cases q with
  |id u=>
   by_cases y:tk.contains u=true
   ·simp only[kF,y,if_true,cJ,bX]at h;subst h;simpa using y
   ·simp only[kF,y,if_false,cJ]at h;cases h
  |_=>cases h
 |lst E z q=>
  cases q with
  |id u=>
   by_cases y:tk.contains u=true
   ·simp only[kF,y,if_true,cJ,bX]at h;subst h;simpa using y
   ·simp only[kF,y,if_false,cJ]at h;cases h
  |_=>cases h
 |_=>cases h
theorem ep{x:Sit}{v:SV}{u:Value}{cs:t6}{us:LAa}:cn x (v::cs) (u::us)↔Rep x v u/\cn x cs us:=by
 constructor
 ·intro h
  exact⟨h.2 0 (by simp),by simpa using h.1,fun i hi=>by simpa using h.2 (i+1) (by simpa using hi)⟩
 ·rintro⟨z,y⟩
  exact⟨by simp[y.1],fun i hi=>by
   cases i with
   |zero=>exact z
   |succ i=>simpa using y.2 i (by simpa using hi)⟩
theorem EN{x x1:Sit}(y:x1.G=x.G)(E:x1.bk=x.bk){tk:t7}{j:Nat}{v:SV}{u:Value}(h:Rep x v u)(z:o6 x x1 j (rV tk j v).2):Rep x1 (rV tk j v).1 u:=by
 cases v with
 |lst J I t=>
  cases t with
  |clip=>
   cases hx:I.isEmpty with
   |true=>simp only[rV,uE,hx,uF];obtain⟨b,cap,L,_,H,F⟩:=h.lst_inv;rw[<-y]at H;exact .dat _ _ H F
   |false=>simp only[rV,uE,hx,uF]at z ⊢;exact kU (tk:=tk) y E h z
  |no=>exact kU y E h z
  |id t=>exact kU y E h z
 |_=>exact kU y E h z
theorem P2{tk:t7}{j:Nat}{v:SV}:∀t∈cJ (rV tk j v).2,t∈tk:=by
 cases v with
 |lst z y t=>
  cases t with
  |clip=>
   cases hx:y.isEmpty with
   |true=>intro t h;simp[rV,uE,hx,uF,cJ]at h
   |false=>intro t h;simp[rV,uE,hx,uF,cJ]at h
  |no=>exact pb
  |id t=>exact pb
 |_=>exact pb
theorem mL{x x1:Sit}(z:x1.G=x.G)(y:x1.bk=x.bk){tk own:t7}:∀{cs:t6}{us:LAa}{j i:Nat},cn x cs us->o6 x x1 j (kG tk own j i cs).2->cn x1 (kG tk own j i cs).1 us
 |[],[],_,_,_,_=>⟨rfl,fun i hi=>by simp[kG]at hi⟩
 |[],_::_,_,_,h,_=>absurd h.1 (by simp)
 |_::_,[],_,_,h,_=>absurd h.1 (by simp)
 |v::r,u::us,j,i,h,ht=>by
  obtain⟨H,F⟩:=ep.1 h;simp only[kG]at ht ⊢;split
  ·rename_i E
   rw[if_pos E]at ht;exact ep.2 ⟨EN z y H ht.left,mL z y F ht.right⟩
  ·rename_i E
   rw[if_neg E]at ht;exact ep.2 ⟨H.bare z y,mL z y F ht⟩
theorem pd{tk own:t7}:∀{cs:t6}{j i:Nat},∀t∈cJ (kG tk own j i cs).2,t∈tk
 |[],_,_,t,ht=>by cases ht
 |v::r,j,i,t,ht=>by
  simp only[kG]at ht;split at ht
  ·rw[gr,an]at ht
   exact ht.elim (P2 t) (pd t)
  ·exact pd t ht
theorem vF{x x1:Sit}(E:x1.G=x.G)(z:x1.bk=x.bk){tk:t7}:∀{cs:t6}{j:Nat}{f:Nat->Value},(∀k,k<cs.length->Rep x (cs.getD k .undef) (f k))->o6 x x1 j (td tk j cs).2->
 (td tk j cs).1.length=cs.length/\∀k,k<cs.length->Rep x1 ((td tk j cs).1.getD k .undef) (f k)
 |[],_,_,_,_=>⟨rfl,fun i hi=>by simp at hi⟩
 |v::r,j,f,h,ht=>by
  simp only[td]at ht ⊢;obtain⟨H,F⟩:=vF (f:=fun k=>f (k+1)) E z (fun k y=>by simpa using h (k+1) (by simpa using y)) ht.right;refine⟨by simp[H],fun k y=> ?_⟩;cases k with
  |zero=>exact kU E z (h 0 (by simp)) ht.left
  |succ k=>simpa using F k (by simpa using y)
theorem Aw{tk:t7}:∀{cs:t6}{j:Nat},∀t∈cJ (td tk j cs).2,t∈tk
 |[],_,t,ht=>by cases ht
 |v::r,j,t,ht=>by simp only[td]at ht;rw[gr,an]at ht;exact ht.elim (pb t) (Aw t)
theorem CQ{x x1:Sit}(H:x1.G=x.G)(y:x1.bk=x.bk){tk:t7}{j o:Nat}{ob:aB}(h:eu x w o ob)(Q:o6 x x1 j (kt tk j ob).2):eu x1 w o (kt tk j ob).1:=by
 obtain⟨F,e,fl,fh,I,E,J⟩:=h;cases ob with
 |rc cs=>obtain⟨L,O⟩:=vF (f:=fun k=>F.getD k undef) H y J Q;exact⟨F,e,fl,fh,by rw[y];exact I,by rw[y];simp only[kt,aB.size,L]at E ⊢;exact E,fun k z=>O k (by simpa only[kt,aB.size,L]using z)⟩
 |arr Z W=>exact⟨F,e,fl,fh,by rw[y];exact I,by rw[y];exact E,fun k z=>by have:=J k z;simp only[kt,cx]at this ⊢;rw[H];exact this⟩
 |bar l=>exact⟨F,e,fl,fh,by rw[y];exact I,by rw[y];exact E,fun k z=>by have:=J k z;simp only[kt,cx]at this ⊢;rw[H];exact this⟩
theorem EO{tk:t7}{j:Nat}{ob:aB}(h:ob.wf=true):(kt tk j ob).1.wf=true:=by cases ob<;>first|rfl|exact h
theorem EP{tk:t7}{j:Nat}{ob:aB}:∀t∈cJ (kt tk j ob).2,t∈tk:=by
 intro t h;cases ob with
 |rc cs=>exact Aw t h
 |_=>cases h
theorem lY{x x1:Sit}(E:x1.G=x.G)(z:x1.bk=x.bk){tk:t7}:∀{obs:List aB}{j:Nat}{f:Nat->Nat},(∀k,k<obs.length->eu x w (f k) (obs.getD k (.rc [])))->o6 x x1 j (eS tk j obs).2->
 (eS tk j obs).1.length=obs.length/\∀k,k<obs.length->eu x1 w (f k) ((eS tk j obs).1.getD k (.rc []))
 |[],_,_,_,_=>⟨rfl,fun i hi=>by simp at hi⟩
 |v::r,j,f,h,ht=>by
  simp only[eS]at ht ⊢;obtain⟨H,F⟩:=lY (f:=fun k=>f (k+1)) E z (fun k y=>by simpa using h (k+1) (by simpa using y)) ht.right;refine⟨by simp[H],fun k y=> ?_⟩;cases k with
  |zero=>exact CQ E z (h 0 (by simp)) ht.left
  |succ k=>simpa using F k (by simpa using y)
theorem nS{tk:t7}:∀{obs:List aB}{j:Nat},∀t∈cJ (eS tk j obs).2,t∈tk
 |[],_,t,ht=>by cases ht
 |v::r,j,t,ht=>by simp only[eS]at ht;rw[gr,an]at ht;exact ht.elim (EP t) (nS t)
theorem nR{tk:t7}:∀{obs:List aB}{j:Nat},(∀o∈obs,o.wf=true)->∀o∈(eS tk j obs).1,o.wf=true
 |[],_,_,o,ho=>by cases ho
 |v::r,j,h,o,ho=>by
  simp only[eS]at ho;rcases al.1 ho with e|e
  ·rw[e];exact EO (h v (aq ..))
  ·exact nR (fun o y=>h o (af _ y)) o e
theorem nH{m:t7}{o:Nat}(h:o∈m):ij m o<m.length/\m.getD (ij m o) 0=o:=by
 induction m with
 |nil=>cases h
 |cons p r z=>
  simp only[ij];split
  ·rename_i y;subst y;simp
  ·rename_i y
   obtain⟨F,E⟩:=z ((al.1 h).resolve_left (Ne.symm y));exact⟨by simpa using F,by simpa using E⟩
theorem kb{l:t7}(h:ec l=true):l.Nodup:=by
 induction l with
 |nil=>exact List.nodup_nil
 |cons p r y=>simp only[ec,aw,ej,fI,decide_eq_false_iff_not]at h;exact eZ.2 ⟨h.1,y h.2⟩
theorem vH{l r:t7}(h:pe l r=true):∀o∈l,o∈r:=by intro o y;simp only[pe,aI,fI,decide_eq_true_eq]at h;exact h o y
theorem qJ:∀{m:t7}{os:List aB},looks c m=some os->os.length=m.length/\∀i,i<m.length->c.look (m.getD i 0)=some (os.getD i (.rc []))
 |[],os,h=>by cases h;exact⟨rfl,fun i hi=>by simp at hi⟩
 |o::r,os,h=>by
  simp only[looks]at h;split at h<;>cases h;rename_i ob l E y;obtain⟨F,z⟩:=qJ y;refine⟨by simp[F],fun i hi=> ?_⟩;cases i with
  |zero=>exact E
  |succ i=>simpa using z i (by simpa using hi)
theorem gU(mo mt:Nat->Nat)(l:List aB):fe mo mt l=l.map fun o=>o.ren mo mt:=by
 induction l with
 |nil=>rfl
 |cons p r h=>simp only[fe,aG,h]
theorem pJ{l:List aB}{o:aB}(h:o∈l):∀k∈o.ids,k∈gw l:=by
 induction l with
 |nil=>cases h
 |cons p r z=>
  intro k y;simp only[gw,an];rcases al.1 h with e|e
  ·subst e;exact .inl y
  ·exact .inr (z e k y)
theorem ot{l:List t8}(h:(cJ l).Nodup):∀{i j:Nat}{t u:Nat},i≠j->l.getD i none=some t->l.getD j none=some u->t≠u:=by
 have F:∀{l:List t8},(cJ l).Nodup->∀{i j:Nat}{t u:Nat},i<j->l.getD i none=some t->l.getD j none=some u->t≠u:=by
  intro l;induction l with
  |nil=>intro _ i j t u _ z;simp at z
  |cons o r I=>
   intro hn i j t u E z y
   have J:(cJ r).Nodup:=by cases o with
    |none=>exact hn
    |some q=>exact(eZ.1 hn).2
   cases j with
   |zero=>omega
   |succ j=>
    rw[nt]at y;cases i with
    |zero=>
     rw[dE]at z;subst z
     have H:some u∈r:=by
      rw[aa]at y;cases hj:r[j]? with
      |none=>rw[hj]at y;cases y
      |some q=>rw[hj]at y;cases y;exact List.mem_of_getElem? hj
     intro e;subst e;exact(eZ.1 hn).1 (lD.2 H)
    |succ i=>rw[nt]at z;exact I J (by omega) z y
 intro i j t u E z y;rcases Nat.lt_or_gt_of_ne E with H|H
 ·exact F h H z y
 ·exact(F h H y z).symm
theorem kp{b n t:Nat}:t∈tks b n↔b<=t/\t<b+n:=by
 unfold tks
 have:∀n k,k∈lH n↔k<n:=by
  intro n;induction n with
  |zero=>intro k;simp[lH]
  |succ n y=>intro k;simp only[lH,an,y,bX];omega
 simp only[aT,this];constructor
 ·rintro⟨k,h,rfl⟩;omega
 ·rintro⟨E,z⟩;exact⟨t-b,by omega,by omega⟩
structure EA(x x2:Sit)(c:CSt)(m:List Nat)(mt:List (Option Nat)):Prop where
 G:x2.G=x.G
 bk:∀i,i<m.length->x2.bk i=x.bk (m.getD i 0)
 τ:o6 x x2 50 mt
 nd:m.Nodup
 ob:∀i,i<m.length->∃ob,(m.getD i 0,ob)∈c.ob
 tnd:(cJ mt).Nodup
 tk:∀t∈cJ mt,t∈c.tk
def Ctx.took(x2:Sit)(w:World)(n k:Nat):Ctx:=
 ⟨w,x2.G,fun b=>w.heap.size<=b\/(∃i,i<n/\(x2.bk i).1=b)\/(∃t,50<=t/\t<50+k/\(x2.τ t).2.1≠(x2.τ t).2.2/\(x2.τ t).1=b),x2.bk⟩
theorem gE{m:t7}{i:Nat}(h:i<m.length):m.getD i 0∈m:=by rw[aa,ab h];exact aU _
theorem ma{m:t7}(h:m.Nodup){i j:Nat}(hi:i<m.length)(y:j<m.length)(e:m.getD i 0=m.getD j 0):i=j:=by rw[aa,aa,ab hi,ab y]at e;exact sj h hi y e
theorem jp{l:List t8}{i t:Nat}(h:l.getD i none=some t):t∈cJ l:=by
 rw[aa]at h;cases hj:l[i]? with
 |none=>rw[hj]at h;cases h
 |some q=>rw[hj]at h;cases h;exact lD.2 (List.mem_of_getElem? hj)
theorem EA.tok{x2:Sit}{m:t7}{mt:List t8}(h:EA x x2 c m mt){t:Nat}(z:50<=t)(y:t<50+mt.length):
 (x2.τ t).2.1=(x2.τ t).2.2\/∃u,mt.getD (t-50) none=some u/\x2.τ t=x.τ u/\u∈c.tk/\u∈cJ mt:=by
 have e:=h.τ (t-50) (by omega);rw[show 50+(t-50)=t by omega]at e;cases hu:mt.getD (t-50) none with
 |none=>rw[hu]at e;rw[e];exact .inl rfl
 |some u=>rw[hu]at e;exact .inr ⟨u,rfl,e,h.tk u (jp hu),jp hu⟩
theorem rU{x2:Sit}{m:t7}{mt:List t8}(H:dq C x c.ob c.tk w)(h:EA x x2 c m mt){z:List aB}(hl:z.length=m.length)
 (ho:∀i,i<m.length->eu x2 w i (z.getD i (.rc []))):dq (Ctx.took x2 w m.length mt.length) x2 (idx z) (tks 50 mt.length) w:=by
 refine⟨fun b o v hv=>H.per b o v (by rw[<-h.G];exact hv),fun _ _ _ hv=>hv,fun _ _ _ hv=> .inl hv,fun b hb=> .inl hb, ?_,nW z, ?_, ?_, ?_, ?_,rfl,rfl,rfl,bc _,fun _ _=>rfl,fun _ _=>rfl,H.lay.mono (fun b o v hv=>by show x2.G b o=some v;rw[h.G];exact H.g0 b o v hv)⟩
 ·intro p O
  obtain⟨y,E⟩:=jv.1 O;rw[hl]at y;obtain⟨ob,J⟩:=h.ob p.1 y;refine⟨by rw[E];exact ho p.1 y,.inr (.inl ⟨p.1,y,rfl⟩),fun off=> ?_⟩;rw[h.G,h.bk _ y];exact(H.obs _ J).2.2 off
 ·intro p O q hq Q
  obtain⟨y,_⟩:=jv.1 O;obtain⟨E,_⟩:=jv.1 hq;rw[hl]at y E;rw[h.bk _ y,h.bk _ E]at Q;obtain⟨o1,g1⟩:=h.ob _ y;obtain⟨o2,W⟩:=h.ob _ E;exact ma h.nd y E (H.inj _ g1 _ W Q)
 ·intro t L
  obtain⟨y,E⟩:=kp.1 L;rcases h.tok y E with J|⟨u,_,I,h5,_⟩
  ·exact .inl J
  ·by_cases F:(x2.τ t).2.1=(x2.τ t).2.2
   ·exact .inl F
   ·have:=H.tks u h5
    unfold iw at this ⊢;rw[I]at F ⊢;rcases this with g|⟨g1,W,g3⟩
    ·exact absurd g F
    ·exact .inr ⟨g1,.inr (.inr ⟨t,y,E,by rw[I];exact F,by rw[I]⟩),by rw[h.G];exact g3⟩
 ·intro t L p O
  obtain⟨y,E⟩:=kp.1 L;obtain⟨Z,_⟩:=jv.1 O;rw[hl]at Z;rcases h.tok y E with J|⟨u,_,I,h5,_⟩
  ·exact .inr J
  ·obtain⟨o1,g1⟩:=h.ob _ Z
   rw[I,h.bk _ Z];exact H.tko u h5 _ g1
 ·intro t L u hu a1
  obtain⟨y,E⟩:=kp.1 L;obtain⟨J,I⟩:=kp.1 hu;rcases h.tok y E with g|⟨t',g1,W,g3,_⟩
  ·exact .inr (.inl g)
  ·rcases h.tok J I with k|⟨u',k1,k2,k3,_⟩
   ·exact .inr (.inr k)
   ·rw[W,k2]
    exact H.tkd t' g3 u' k3 (ot h.tnd (by omega) g1 k1)
end Go.Sy
namespace Go.Sy
variable [aW]
variable {P : Program} {C : Ctx} {x : Sit} {a : Act} {w : World} {N : Nat} {c c' : CSt} {s : St}
theorem Fq(d:Nat)(l:t7):rC d l=l.map (kX d):=by
 induction l with
 |nil=>rfl
 |cons p r h=>simp only[rC,aG,h]
theorem oa{k:t7}{t:Nat}:∀{l:t7},t∈nb k l↔t∈l/\t∉k
 |[]=>by simp[nb]
 |p::r=>by
  simp only[nb];split
  ·rename_i E
   have z:p∈k:=by simpa using E
   rw[oa,al];constructor
   ·rintro⟨h,y⟩;exact⟨.inr h,y⟩
   ·rintro⟨h|h,y⟩
    ·exact absurd (h ▸ z) y
    ·exact⟨h,y⟩
  ·rename_i E
   have z:p∉k:=by simpa using E
   rw[al,oa,al];constructor
   ·rintro(h|⟨h,y⟩)
    ·exact⟨.inl h,h ▸ z⟩
    ·exact⟨.inr h,y⟩
   ·rintro⟨h|h,y⟩
    ·exact .inl h
    ·exact .inr ⟨h,y⟩
theorem sr{t:Nat}:∀{r l:t7},t∈rI l r↔t∈r\/t∈l
 |[],l=>by simp[rI]
 |p::r,l=>by
  simp only[rI];rw[sr,jJ,al];constructor
  ·rintro(h|h|h)
   ·exact .inl (.inr h)
   ·exact .inl (.inl h)
   ·exact .inr h
  ·rintro((h|h)|h)
   ·exact .inr (.inl h)
   ·exact .inl h
   ·exact .inr (.inr h)
theorem nZ{p:Nat×aB}:∀{r l:List (Nat×aB)},p∈rH l r->p∈r\/p∈l
 |[],l,h=> .inr h
 |q::r,l,h=>by
  simp only[rH]at h;rcases nZ h with e|e
  ·exact .inl (af _ e)
  ·rcases lc e with e|e
   ·exact .inl (e ▸ aq ..)
   ·exact .inr e
theorem AE:∀{r l:List (Nat×aB)},(l.map cI).Pairwise (· < ·)->((rH l r).map cI).Pairwise (· < ·)
 |[],_,h=>h
 |_::r,_,h=>AE (r:=r) (uH h)
theorem yz{mo mt:Nat->Nat}{o:aB}(h:o.wf=true):(o.ren mo mt).wf=true:=by cases o<;>first|rfl|exact h
theorem wR{x2:Sit}{m:t7}{mt:List t8}(y:dq C x c.ob c.tk w)(h:EA x x2 c m mt){x':Sit}{w':World}{q:eg}(hH:dq (Ctx.took x2 w m.length mt.length) x' q.os q.tk w'){D:Nat}
 (hm:∀o∈m,inR D o=false) (a7:∀p∈q.os,p.1<1000/\(∀k∈p.2.ids,k<1000)/\∀k∈p.2.toks,k<1000) (b5:∀t∈q.tk,t<1000) (hg:∀i,i<m.length->x'.bk i=x2.bk i):
 ∃x3:Sit,x3.G=x'.G/\(∀b o v,x.G b o=some v->x3.G b o=some v)/\(∀k,k<1000->x3.bk (jt D m k)=x'.bk k)/\(∀k,k<1000->x3.τ (kX D k)=x'.τ k)/\
  (∀k,¬((D+1)*1000<=k/\k<(D+2)*1000)->x3.bk k=x.bk k)/\(∀k,¬((D+1)*1000<=k/\k<(D+2)*1000)->x3.τ k=x.τ k)/\
  dq C x3 (py D m q.os++fT m (bq ((D+1)*1000) ((D+2)*1000) c.ob)) (rC D q.tk++nb (cJ mt) (bV ((D+1)*1000) ((D+2)*1000) c.tk)) w':=by
 let lo:=(D+1)*1000
 let hi:=(D+2)*1000
 have h0:lo=(D+1)*1000:=rfl;have g9:hi=(D+2)*1000:=rfl
 let β2:Nat->Nat×Nat:=fun k=>if inR D k then x'.bk (k-lo)else x.bk k
 let τ2:Nat->Nat×Nat×Nat:=fun k=>if inR D k then x'.τ (k-lo)else x.τ k
 have f0:∀k,k<1000->inR D (lo+k)=true:=by intro k hk;simp only[inR,aw,decide_eq_true_eq];omega
 have d7:∀k,¬(lo<=k/\k<hi)->inR D k=false:=by intro k hk;rw[Bool.eq_false_iff];intro h;simp only[inR,aw,decide_eq_true_eq]at h;exact hk h
 have b1:∀k,¬(lo<=k/\k<hi)->β2 k=x.bk k:=fun k hk=>by simp only[β2];rw[d7 k hk];rfl
 have b4:∀k,¬(lo<=k/\k<hi)->τ2 k=x.τ k:=fun k hk=>by simp only[τ2];rw[d7 k hk];rfl
 have E:∀k,k<1000->β2 (jt D m k)=x'.bk k:=by
  intro k hk
  by_cases b7:k<m.length
  ·have z:jt D m k=m.getD k 0:=if_pos b7
   simp only[β2];rw[z,hm _ (gE b7),hg k b7,h.bk k b7];rfl
  ·have z:jt D m k=lo+k:=if_neg b7
   simp only[β2];rw[z,f0 k hk,if_pos rfl];congr 1;omega
 have F:∀k,k<1000->τ2 (kX D k)=x'.τ k:=by intro k hk;have z:kX D k=lo+k:=rfl;simp only[τ2];rw[z,f0 k hk,if_pos rfl];congr 1;omega
 have hG:∀b o v,x.G b o=some v->x'.G b o=some v:=fun b o v hv=>hH.g0 b o v (by show x2.G b o=_;rw[h.G];exact hv)
 refine⟨⟨x'.G,β2,τ2⟩,rfl,hG,E,F,b1,b4, ?_⟩;rw[vR,Fq]
 have b2:∀b,(Ctx.took x2 w m.length mt.length).mine b->C.mine b:=by
  rintro b (z|⟨i,hi,rfl⟩|⟨t,z,I,H,rfl⟩)
  ·exact y.new b (gf y.size z)
  ·obtain⟨ob,e0⟩:=h.ob i hi
   rw[h.bk i hi];exact(y.obs _ e0).2.1
  ·rcases h.tok z I with g|⟨u,_,g1,g2,_⟩
   ·exact absurd g H
   ·rw[g1]at H ⊢
    rcases y.tks u g2 with k|⟨_,k,_⟩
    ·exact absurd k H
    ·exact k
 have c7:∀b,b<w.heap.size->(∀i,i<m.length->(x.bk (m.getD i 0)).1≠b)->(∀u∈cJ mt,(x.τ u).2.1=(x.τ u).2.2\/(x.τ u).1≠b)->w'.heap[b]? =w.heap[b]? /\((∀off,x.G b off=none)->∀off,x'.G b off=none)/\
  (∀off,x.G b off=none->x'.G b off=none):=by
  intro b hb e4 e2
  have d6:¬(Ctx.took x2 w m.length mt.length).mine b:=by
   rintro(z|⟨i,hi,z⟩|⟨t,z,I,H,h4⟩)
   ·omega
   ·rw[h.bk i hi]at z;exact e4 i hi z
   ·rcases h.tok z I with g|⟨u,_,g1,_,g3⟩
    ·exact H g
    ·rw[g1]at H h4
     rcases e2 u g3 with k|k
     ·exact H k
     ·exact k h4
  have one:∀off,x.G b off=none->x'.G b off=none:=by
   intro off ho;cases hg:x'.G b off with
   |none=>rfl
   |some v=>
    rcases hH.gm b off v hg with z|z
    ·change x2.G b off=some v at z;rw[h.G,ho]at z;cases z
    ·exact absurd z d6
  exact⟨hH.ext b d6,fun h off=>one off (h off),one⟩
 have a1:∀p∈fT m (bq lo hi c.ob),∃ob,(p.1,ob)∈c.ob/\p.2=ob.purge lo hi/\¬(lo<=p.1/\p.1<hi)/\p.1∉m/\(∀i,i<m.length->(x.bk (m.getD i 0)).1≠(x.bk p.1).1)/\(∀u∈cJ mt,(x.τ u).2.1=(x.τ u).2.2\/(x.τ u).1≠(x.bk p.1).1)/\(x.bk p.1).1<w.heap.size:=by
  intro p O;obtain⟨z,I⟩:=ke.1 O;obtain⟨H,ob,h4,h5⟩:=cG z;refine⟨ob,h4,h5,H,I,fun i hi e=> ?_,fun u hu=> ?_, ?_⟩
  ·obtain⟨e7,f1⟩:=h.ob i hi
   have:=y.inj _ f1 _ h4 e;simp only at this;apply I;rw[<-this];exact gE hi
  ·exact(y.tko u (h.tk u hu) _ h4).symm
  ·obtain⟨⟨c,e,fl,fh,hO,_⟩,_⟩:=y.obs _ h4
   exact hO.lt
 have a6:∀p∈q.os.map (fun p=>(jt D m p.1,p.2.ren (jt D m) (kX D))),∃r∈q.os,p=(jt D m r.1,r.2.ren (jt D m) (kX D))/\β2 p.1=x'.bk r.1:=by intro p O;obtain⟨r,Q,rfl⟩:=aT.1 O;exact⟨r,Q,rfl,E _ (a7 r Q).1⟩
 have Z:∀r∈q.os,w.heap.size<=(x'.bk r.1).1\/(∃i,i<m.length/\(x.bk (m.getD i 0)).1=(x'.bk r.1).1)\/(∃u∈cJ mt,(x.τ u).2.1≠(x.τ u).2.2/\(x.τ u).1=(x'.bk r.1).1):=by
  intro r Q;rcases (hH.obs r Q).2.1 with z|⟨i,hi,z⟩|⟨t,z,I,H,h4⟩
  ·exact .inl z
  ·exact .inr (.inl ⟨i,hi,by rw[<-h.bk i hi];exact z⟩)
  ·rcases h.tok z I with g|⟨u,_,g1,_,g3⟩
   ·exact absurd g H
   ·rw[g1]at H h4;exact .inr (.inr ⟨u,g3,H,h4⟩)
 have b3:∀t∈q.tk,(x'.τ t).2.1=(x'.τ t).2.2\/w.heap.size<=(x'.τ t).1\/(∃i,i<m.length/\(x.bk (m.getD i 0)).1=(x'.τ t).1)\/(∃u∈cJ mt,(x.τ u).2.1≠(x.τ u).2.2/\(x.τ u).1=(x'.τ t).1):=by
  intro t L;rcases hH.tks t L with k|⟨_,k,_⟩
  ·exact .inl k
  ·right
   rcases k with z|⟨i,hi,z⟩|⟨t',z,I,H,h4⟩
   ·exact .inl z
   ·exact .inr (.inl ⟨i,hi,by rw[<-h.bk i hi];exact z⟩)
   ·rcases h.tok z I with g|⟨u,_,g1,_,g3⟩
    ·exact absurd g H
    ·rw[g1]at H h4;exact .inr (.inr ⟨u,g3,H,h4⟩)
 have J:∀t∈nb (cJ mt) (bV lo hi c.tk),t∈c.tk/\¬(lo<=t/\t<hi)/\t∉cJ mt:=fun t L=>by obtain⟨z,I⟩:=oa.1 L;obtain⟨H,h4⟩:=bF.1 z;exact⟨H,h4,I⟩
 have W:∀t∈c.tk,t∉cJ mt->(x.τ t).2.1=(x.τ t).2.2\/((x.τ t).1<w.heap.size/\(∀i,i<m.length->(x.bk (m.getD i 0)).1≠(x.τ t).1)/\(∀u∈cJ mt,(x.τ u).2.1=(x.τ u).2.2\/(x.τ u).1≠(x.τ t).1)):=by
  intro t L e2;rcases y.tks t L with z|⟨⟨c,e,fl,fh,hO,_⟩,_⟩
  ·exact .inl z
  ·by_cases he:(x.τ t).2.1=(x.τ t).2.2
   ·exact .inl he
   ·refine .inr ⟨hO.lt,fun i hi e'=> ?_,fun u hu=> ?_⟩
    ·obtain⟨ob,e0⟩:=h.ob i hi
     rcases y.tko t L _ e0 with z|z
     ·exact z e'.symm
     ·exact he z
    ·rcases y.tkd u (h.tk u hu) t L (fun e=>e2 (e ▸ hu))with k|k|k
     ·exact .inr k
     ·exact .inl k
     ·exact absurd k he
 refine⟨hH.per,fun b o v hv=>hG _ _ _ (y.g0 b o v hv), ?_,y.new, ?_, ?_, ?_, ?_, ?_, ?_,hH.os.trans y.os,hH.tape.trans y.tape,hH.output.trans y.output,gf y.size hH.size, ?_,fun i hi=>(b1 i (by omega)).trans (y.pin i hi),y.lay⟩
 ·intro b o v hv
  rcases hH.gm b o v hv with z|z
  ·exact y.gm b o v (by rw[<-h.G];exact z)
  ·exact .inr (b2 b z)
 ·intro p O
  rcases an.1 O with O|O
  ·obtain⟨r,Q,rfl,hb⟩:=a6 p O
   obtain⟨z,I,H⟩:=hH.obs r Q;refine⟨z.renF (x2:=⟨x'.G,β2,τ2⟩) (fun _ _ _ h=>h) (E _ (a7 r Q).1) (fun k hk=>E k ((a7 r Q).2.1 k hk)) (fun t L=>F t ((a7 r Q).2.2 t L)), ?_,fun off=> ?_⟩
   ·show C.mine (β2 (jt D m r.1)).1;rw[E _ (a7 r Q).1];exact b2 _ I
   ·show x'.G (β2 (jt D m r.1)).1 off=none;rw[E _ (a7 r Q).1];exact H off
  ·obtain⟨ob,z,I,H,h4,h5,h6,h7⟩:=a1 p O
   obtain⟨g1,g2,g3⟩:=y.obs _ z;obtain⟨k1,k2,_⟩:=c7 _ h7 h5 h6;have hb:β2 p.1=x.bk p.1:=b1 _ H;refine⟨?_,by show C.mine (β2 p.1).1;rw[hb];exact g2,fun off=>by show x'.G (β2 p.1).1 off=none;rw[hb];exact k2 g3 off⟩;rw[I];exact eu.of_heap (x':=⟨x'.G,β2,τ2⟩) g1 k1 hG b1 b4 H
 ·rw[cz,List.nodup_append]
  refine⟨?_, ?_, ?_⟩
  ·rw[wN]
   have e9:=hZ.1 hH.nd;refine hZ.2 (List.Pairwise.imp_of_mem (fun{p r} O Q e4=> ?_) e9);intro e;simp only[Function.comp]at e;have:(x'.bk p.1).1=(x'.bk r.1).1:=by rw[<-E _ (a7 p O).1,<-E _ (a7 r Q).1,e]
   exact e4 (hH.inj p O r Q this)
  ·have z:(fT m (bq lo hi c.ob)).Sublist (bq lo hi c.ob):=iH _ _
   refine wO.sublist (z.map cI) ?_;rw[fy];exact y.nd.filter _
  ·intro o1 z o2 I e
   subst e;obtain⟨p,O,rfl⟩:=aT.1 z;obtain⟨r,Q,e3⟩:=aT.1 I;obtain⟨u,hu,rfl⟩:=aT.1 O;obtain⟨ob,k1,k2,k3,k4,_⟩:=a1 r Q;simp only at e3
   by_cases e5:u.1<m.length
   ·apply k4;rw[e3];show jt D m u.1∈m;unfold jt;rw[if_pos e5];exact gE e5
   ·apply k3;rw[e3];show lo<=jt D m u.1/\jt D m u.1<hi
    unfold jt;rw[if_neg e5];have:=(a7 u hu).1;omega
 ·intro p O r Q a8
  change (β2 p.1).1=(β2 r.1).1 at a8;rcases an.1 O with O|O<;>rcases an.1 Q with Q|Q
  ·obtain⟨p',e6,rfl,hb⟩:=a6 p O
   obtain⟨r',e1,rfl,f6⟩:=a6 r Q;rw[hb,f6]at a8;have:=hH.inj p' e6 r' e1 a8;simp only;rw[this]
  ·obtain⟨p',e6,rfl,hb⟩:=a6 p O
   obtain⟨ob,k1,k2,k3,k4,k5,k6,k7⟩:=a1 r Q;rw[hb,b1 _ k3]at a8;rcases Z p' e6 with z|⟨i,hi,z⟩|⟨u,hu,z,I⟩
   ·omega
   ·exact absurd (z.trans a8) (k5 i hi)
   ·rcases k6 u hu with g|g
    ·exact absurd g z
    ·exact absurd (I.trans a8) g
  ·obtain⟨r',e1,rfl,hb⟩:=a6 r Q
   obtain⟨ob,k1,k2,k3,k4,k5,k6,k7⟩:=a1 p O;rw[hb,b1 _ k3]at a8;rcases Z r' e1 with z|⟨i,hi,z⟩|⟨u,hu,z,I⟩
   ·omega
   ·exact absurd (z.trans a8.symm) (k5 i hi)
   ·rcases k6 u hu with g|g
    ·exact absurd g z
    ·exact absurd (I.trans a8.symm) g
  ·obtain⟨ob,k1,k2,k3,_⟩:=a1 p O
   obtain⟨e7,g5,g8,g6,_⟩:=a1 r Q;rw[b1 _ k3,b1 _ g6]at a8;exact y.inj (p.1,ob) k1 (r.1,e7) g5 a8
 ·intro t L
  rcases an.1 L with L|L
  ·obtain⟨u,hu,rfl⟩:=aT.1 L
   have:=hH.tks u hu;unfold iw at this ⊢;simp only[F u (b5 u hu)];exact this.imp id fun⟨z,I,H⟩=>⟨z,b2 _ I,H⟩
  ·obtain⟨z,I,H⟩:=J t L
   have:=y.tks t z;unfold iw at this ⊢;simp only[b4 t I];rcases this with g|⟨⟨c,e,fl,fh,hO,hc⟩,h4,h5⟩
   ·exact .inl g
   ·rcases W t z H with g|⟨k1,k2,k3⟩
    ·exact .inl g
    ·obtain⟨g1,_,g2⟩:=c7 _ k1 k2 k3
     exact .inr ⟨⟨c,e,fl,fh,hO.of_heap g1,hc⟩,h4,fun o f2 g7=>g2 o (h5 o f2 g7)⟩
 ·intro t L p O
  rcases an.1 L with L|L<;>rcases an.1 O with O|O
  ·obtain⟨u,hu,rfl⟩:=aT.1 L
   obtain⟨r,Q,rfl,hb⟩:=a6 p O;show(τ2 (kX D u)).1≠(β2 (jt D m r.1)).1\/(τ2 (kX D u)).2.1=(τ2 (kX D u)).2.2;rw[F u (b5 u hu),E _ (a7 r Q).1];exact hH.tko u hu r Q
  ·obtain⟨u,hu,rfl⟩:=aT.1 L
   obtain⟨ob,k1,k2,k3,k4,k5,k6,k7⟩:=a1 p O;show(τ2 (kX D u)).1≠(β2 p.1).1\/(τ2 (kX D u)).2.1=(τ2 (kX D u)).2.2;rw[F u (b5 u hu),b1 _ k3];rcases b3 u hu with g|g|⟨i,hi,g⟩|⟨v,hv,g1,g2⟩
   ·exact .inr g
   ·left;intro e;omega
   ·left;intro e;exact k5 i hi (g.trans e)
   ·left;intro e
    rcases k6 v hv with k|k
    ·exact g1 k
    ·exact k (g2.trans e)
  ·obtain⟨z,I,H⟩:=J t L
   obtain⟨r,Q,rfl,hb⟩:=a6 p O;show(τ2 t).1≠(β2 (jt D m r.1)).1\/(τ2 t).2.1=(τ2 t).2.2;rw[b4 t I,E _ (a7 r Q).1];rcases W t z H with g|⟨k1,k2,k3⟩
   ·exact .inr g
   ·left;intro e
    rcases Z r Q with g|⟨i,hi,g⟩|⟨v,hv,g1,g2⟩
    ·omega
    ·exact k2 i hi (g.trans e.symm)
    ·rcases k3 v hv with k|k
     ·exact g1 k
     ·exact k (g2.trans e.symm)
  ·obtain⟨z,I,H⟩:=J t L
   obtain⟨ob,k1,k2,k3,_⟩:=a1 p O;show(τ2 t).1≠(β2 p.1).1\/(τ2 t).2.1=(τ2 t).2.2;rw[b4 t I,b1 _ k3];exact y.tko t z (p.1,ob) k1
 ·intro t L u hu e8
  show lX (τ2 t) (τ2 u)\/(τ2 t).2.1=(τ2 t).2.2\/(τ2 u).2.1=(τ2 u).2.2;rcases an.1 L with L|L<;>rcases an.1 hu with hu|hu
  ·obtain⟨t',d5,rfl⟩:=aT.1 L
   obtain⟨u',b6,rfl⟩:=aT.1 hu;rw[F t' (b5 t' d5),F u' (b5 u' b6)];exact hH.tkd t' d5 u' b6 (fun e=>e8 (by rw[e]))
  ·obtain⟨t',d5,rfl⟩:=aT.1 L
   obtain⟨z,I,H⟩:=J u hu;rw[F t' (b5 t' d5),b4 u I];rcases W u z H with k|⟨k1,k2,k3⟩
   ·exact .inr (.inr k)
   ·rcases b3 t' d5 with g|g|⟨i,hi,g⟩|⟨v,hv,g1,g2⟩
    ·exact .inr (.inl g)
    ·exact .inl fun e=>by omega
    ·exact .inl fun e=>k2 i hi (g.trans e)
    ·refine .inl fun e=> ?_
     rcases k3 v hv with k|k
     ·exact g1 k
     ·exact k (g2.trans e)
  ·obtain⟨u',b6,rfl⟩:=aT.1 hu
   obtain⟨z,I,H⟩:=J t L;rw[F u' (b5 u' b6),b4 t I];rcases W t z H with k|⟨k1,k2,k3⟩
   ·exact .inr (.inl k)
   ·rcases b3 u' b6 with g|g|⟨i,hi,g⟩|⟨v,hv,g1,g2⟩
    ·exact .inr (.inr g)
    ·exact .inl fun e=>by omega
    ·exact .inl fun e=>k2 i hi (g.trans e.symm)
    ·refine .inl fun e=> ?_
     rcases k3 v hv with k|k
     ·exact g1 k
     ·exact k (g2.trans e.symm)
  ·obtain⟨z,I,_⟩:=J t L
   obtain⟨H,h4,_⟩:=J u hu;rw[b4 t I,b4 u h4];exact y.tkd t z u H e8
 ·intro b hb
  have d6:¬(Ctx.took x2 w m.length mt.length).mine b:=fun h=>hb (b2 b h)
  exact(hH.ext b d6).trans (y.ext b hb)
end Go.Sy
namespace Go.Sy
variable [aW]
variable {P : Program} {C : Ctx} {x : Sit} {a : Act} {w : World} {N : Nat} {c c' : CSt} {s : St}
theorem wS(t:Tok):t.ren (fun k=>k)=t:=by cases t<;>rfl
theorem xbG(sv:SV):sv.ren (fun k=>k) (fun k=>k)=sv:=by
 refine SV.rec (motive_1:=fun sv=>sv.ren (fun k=>k) (fun k=>k)=sv) (motive_2:=fun _=>True) (motive_3:=fun l=>SV.renL (fun k=>k) (fun k=>k) l=l)
  ?_ ?_ ?_ ?_ ?_ ?_ ?_ ?_ ?_ ?_ ?_ ?_ ?_ ?_ ?_ ?_ ?_ ?_ ?_ ?_ ?_ sv
 all_goals intros
 all_goals first
  |trivial
  |rfl
  |(simp only[SV.ren,SV.renL,wS];done)
  |(simp only[SV.ren,SV.renL, *])
theorem xbx{q:eg}(h:q.small=true):(∀p∈q.os,p.1<1000/\(∀k∈p.2.ids,k<1000)/\∀k∈p.2.toks,k<1000)/\(∀k∈q.r.ids,k<1000)/\(∀k∈q.r.toks,k<1000)/\∀k∈q.tk,k<1000:=by simp only[eg.small,aw,aI,decide_eq_true_eq]at h;obtain⟨⟨⟨z,E⟩,H⟩,F⟩:=h;exact⟨fun p y=>⟨(z p y).1.1,(z p y).1.2,(z p y).2⟩,E,H,F⟩
theorem oA{d:t8}{m:t7}{mt:List t8}{q:eg}{x2 x':Sit}{w':World}{v:Value}(W:aL C x s a w)(I:Sim N c s)(hd:∀k,d=some k->k<N)(h:EA x x2 c m mt)
 (hH:dq (Ctx.took x2 w m.length mt.length) x' q.os q.tk w') (y:Rep x' q.r v) (Q:∀p∈q.os,p.2.wf=true) (hg:∀i,i<m.length->x'.bk i=x2.bk i) (hm:∀o∈m,inR (d.getD 0) o=false) (hs:q.small=true):
 M C N (kD c d m (cJ mt) q) (a.put d v) w':=by
 obtain⟨s1,s2,s3,s4⟩:=xbx hs;have J:=I.exact W;obtain⟨H,g1,g2,g3,g4,g5,g6,g7⟩:=wR J.heap h hH hm s1 s4 hg
 let c3:CSt:=⟨dj ((d.getD 0+1)*1000) ((d.getD 0+2)*1000) c.tm,rH (fT m (bq ((d.getD 0+1)*1000) ((d.getD 0+2)*1000) c.ob)) (py (d.getD 0) m q.os),
  rI (nb (cJ mt) (bV ((d.getD 0+1)*1000) ((d.getD 0+2)*1000) c.tk)) (rC (d.getD 0) q.tk)⟩
 have Z:Inv N c3:=by
  refine⟨fun p z=> ?_,AE ?_,fun p z=> ?_⟩
  ·obtain⟨r,y,e⟩:=kd z
   rw[e];exact I.inv.dom r y
  ·exact List.Pairwise.sublist ((iH _ _).map cI) (vJ I.inv.so)
  ·rcases nZ z with e|e
   ·rw[vR]at e
    obtain⟨r,y,rfl⟩:=aT.1 e;exact yz (Q r y)
   ·obtain⟨_,ob,F,h2⟩:=cG (ke.1 e).1
    rw[h2];exact qr (I.inv.wf _ F)
 have L:aL C H (c3.st N) a w':=by
  refine⟨⟨?_,fun i hi=> ?_⟩,W.defers,g7.only (fun p z=> ?_) (jI Z.so) (fun t O=> ?_)⟩
  ·have:=J.tm.1;simpa[CSt.st]using this
  ·have E:i<N:=by simpa[CSt.st]using hi
   have F:=J.tm.2 i (by simpa[CSt.st]using E);simp only[CSt.st,aa,aN,cM E,bn,aO]at F ⊢;have e:c3.get i=(c.get i).purge ((d.getD 0+1)*1000) ((d.getD 0+2)*1000):=gO _ _ i c.tm;rw[e];exact F.mono (x':=H) g2 g5 g6
  ·rcases nZ z with e|e
   ·exact an.2 (.inl e)
   ·exact an.2 (.inr e)
  ·rcases sr.1 O with e|e
   ·exact an.2 (.inl e)
   ·exact an.2 (.inr e)
 refine⟨H,_,L.put d (c:=q.r.ren (jt (d.getD 0) m) (kX (d.getD 0))) ?_,(Sim.of Z).put hd _⟩;exact Rep.renF (x:=x') (x2:=H) (fun b o v hv=>by rw[g1];exact hv) y (fun k hk=>g3 k (s2 k hk)) (fun t O=>g4 t (s3 t O))
theorem xZ{call:dr}{g:Nat}{d:t8}{a_:t6}{vs:LAa}(I:aL C x s a w)(hS:Sim N c s)(hd:∀k,d=some k->k<N)(a6:∀a_ os k q,call g a_ os k=some q->gk P g a_ os k (· =q))
 (E:m9 c d (call g (SV.bareL a_) [] 0)=some c') (Q:cn x a_ vs):Calls P g ⟨vs⟩ w fun en w'=>∃v,en= .returned v/\M C N c' (a.put d v) w':=by
 cases hq:call g (SV.bareL a_) [] 0 with
 |none=>rw[hq]at E;cases E
 |some q=>
  rw[hq]at E
  have hb:cn x (SV.bareL a_) vs:=by rw[lj];refine⟨by simpa using Q.1,fun i hi=> ?_⟩;rw[aY _ (by rfl)];exact(Q.2 i (by simpa using hi)).bare rfl rfl
  obtain⟨_,O⟩:=a6 _ _ _ _ hq
  by_cases y:q.bare=true
  ·simp only[m9,y,oO,ao.injEq]at E
   subst E;have L:=vz (m:=[]) (os:=[]) (mo:=fun k=>k) (mt:=fun k=>k) I (fun i hi=>by simp at hi) rfl (by simp) (fun i hi=>by simp at hi);refine(O (Ctx.callee x w [] (x.back (fun k=>k) (fun k=>k)).bk) x w vs rfl rfl ?_ (by simp) (by simp) L hb).mono ?_
   ·rintro b (h|⟨i,hi,_⟩)
    ·exact .inl h
    ·simp at hi
   ·rintro en w' ⟨v,x',q',rfl,H,hr,hH,J,_⟩
    subst H;simp only[eg.bare,aw,List.isEmpty_iff]at y;obtain⟨⟨⟨Z,b2⟩,b3⟩,b4⟩:=y
    obtain⟨hG,hA⟩:=xV (m:=[]) (os:=[]) (mo:=fun k=>k) (mt:=fun k=>k) (lo:=0) (hi:=0) (β2:=x.bk) (τ2:=x.τ) I rfl (fun i hi=>by simp at hi) hH (fun i hi=>by simp at hi) (fun i hi=>by omega) (fun _ _=>rfl) (fun _ _=>rfl)
     (fun p z=>by rw[Z]at z;cases z) (fun p z=>by rw[Z]at z;cases z) (fun p z=>by rw[Z]at z;cases z) (fun p z=>by rw[Z]at z;cases z) (fun t F=>by rw[b2]at F;cases F)
    have a1:dq C ⟨x'.G,x.bk,x.τ⟩ s.ob s.tk w':=by
     refine hA.only (fun p z=> ?_) I.heap.nd (fun t F=> ?_)
     ·exact an.2 (.inr (ke.2 ⟨by rw[Fv];exact z,by simp⟩))
     ·exact an.2 (.inr (bF.2 ⟨F,by omega⟩))
    refine⟨v,rfl,⟨x'.G,x.bk,x.τ⟩,_, ?_,hS.put hd q'.r⟩;refine aL.put ⟨cn.grow (x:=x) (x':=⟨x'.G,x.bk,x.τ⟩) hG rfl rfl I.tm,I.defers,a1⟩ d ?_;have:=Rep.renF (x:=x') (x2:=⟨x'.G,x.bk,x.τ⟩) (mo:=fun k=>k) (mt:=fun k=>k) (fun _ _ _ h=>h) hr (fun k W=>by rw[b3]at W;cases W) (fun t F=>by rw[b4]at F;cases F);rwa[xbG]at this
  ·have a7:q.bare=false:=by simpa using y
   simp only[m9,a7,oO]at E;cases hsm:q.small with
   |false=>rw[hsm]at E;cases E
   |true=>
    rw[hsm]at E;simp only[x5,ao.injEq]at E;subst E;have hE:=hS.exact I;have hT:EA x x c [] []:=⟨rfl,fun i hi=>by simp at hi,fun k W=>by simp at W,by simp,fun i hi=>by simp at hi,by simp[cJ],fun t F=>by simp[cJ]at F⟩;refine(O (Ctx.took x w 0 0) x w vs rfl rfl ?_ (by simp) (by simp) (rU hE.heap hT rfl (fun i hi=>by simp at hi)) hb).mono ?_
    ·rintro b h;exact h
    ·rintro en w' ⟨v,x',q',rfl,H,hr,hH,J,_⟩
     subst H;exact⟨v,rfl,oA I hS hd hT hH hr J (fun i hi=>by simp at hi) (fun o ho=>by simp at ho) hsm⟩
theorem w8{call:dr}{sg:Sig}{g:Nat}{d:t8}{a_:t6}{vs:LAa}(hM:aL C x s a w)(hS:Sim N c s)(hd:∀k,d=some k->k<N)(e4:∀a_ os k q,call g a_ os k=some q->gk P g a_ os k (· =q))
 (F:ku call sg d g (c,a_)=some c') (e0:cn x a_ vs):Calls P g ⟨vs⟩ w fun en w'=>∃v,en= .returned v/\M C N c' (a.put d v) w':=by
 simp only[ku]at F;generalize hz:kG c.tk sg.own 50 0 a_=z at F;obtain⟨I,E⟩:=z;simp only[oG]at F;generalize eD c 60 [] (SV.idsL I)=m at F;cases ho:looks c m with
 |none=>rw[ho]at F;cases F
 |some O=>
  rw[ho]at F;simp only[l4]at F;generalize W:eS c.tk (50+E.length) O=z2 at F;obtain⟨os,H⟩:=z2;simp only[oF]at F;cases hb:(pe (SV.idsL I++gw os) m&&ec m&&ec (cJ (E++H))&&decide (m.length<=40)&&m.all fun o=> !inR (d.getD 0) o)with
  |false=>rw[hb]at F;cases F
  |true=>
   rw[hb]at F;simp only[oE]at F;simp only[aw,decide_eq_true_eq,aI,ej]at hb;obtain⟨⟨⟨⟨b5,d7⟩,e6⟩,e8⟩,e5⟩:=hb;cases hq:call g (SV.renL (ij m) id I) (fe (ij m) id os) (E.length+H.length)with
   |none=>rw[hq]at F;cases F
   |some q=>
    rw[hq]at F;simp only[po]at F;cases hsm:q.small with
    |false=>rw[hsm]at F;cases F
    |true=>
     rw[hsm]at F;simp only[xa,ao.injEq]at F;subst F;have hE:=hS.exact hM;obtain⟨e9,e7⟩:=qJ ho
     let τ2:Nat->Nat×Nat×Nat:=fun t=>if 50<=t/\t<50+(E++H).length then Oj x ((E++H).getD (t-50) none)else(0,0,0)
     let x1:Sit:=⟨x.G,x.bk,τ2⟩
     let x2:Sit:=⟨x.G,fun i=>x.bk (m.getD i 0),τ2⟩
     have hτ:∀y:Sit,y.τ=τ2->o6 x y 50 (E++H):=by
      intro y hy k hk;rw[hy];show(if _ then _ else _)=_;rw[if_pos ⟨by omega,by omega⟩]
      congr 2;omega
     have J:∀i,i<m.length->(m.getD i 0,O.getD i (.rc []))∈c.ob:=fun i hi=>iS (e7 i hi)
     have Q:=vH b5;have a7:=kb d7
     have hT:EA x x2 c m (E++H):=by
      refine⟨rfl,fun _ _=>rfl,hτ x2 rfl,a7,fun i hi=>⟨_,J i hi⟩,kb e6,fun t ht=> ?_⟩;rw[gr,an]at ht;rcases ht with ht|ht
      ·have:=pd (tk:=c.tk) (own:=sg.own) (cs:=a_) (j:=50) (i:=0) t (by rw[hz];exact ht)
       exact this
      ·have:=nS (tk:=c.tk) (obs:=O) (j:=50+E.length) t (by rw[W];exact ht)
       exact this
     have a6:=hτ x1 rfl
     have b1:cn x1 I vs:=by have:=mL (x:=x) (x1:=x1) rfl rfl (tk:=c.tk) (own:=sg.own) (j:=50) (i:=0) e0 (by rw[hz];exact a6.left);rwa[hz]at this
     have hβ:∀o∈m,x2.bk (ij m o)=x.bk o:=fun o ho=>by show x.bk (m.getD (ij m o) 0)=_;rw[(nH ho).2]
     have d6:cn x2 (SV.renL (ij m) id I) vs:=by
      rw[fP];refine⟨by simpa using b1.1,fun i hi=> ?_⟩;have b7:i<I.length:=by simpa using hi
      rw[aY _ (by rfl)];exact Rep.renF (x:=x1) (x2:=x2) (fun _ _ _ h=>h) (b1.2 i b7) (fun k hk=>hβ k (Q k (an.2 (.inl (lT b7 k hk))))) (fun t _=>rfl)
     obtain⟨a1,L⟩:=lY (x:=x) (x1:=x1) (w:=w) rfl rfl (tk:=c.tk) (obs:=O) (j:=50+E.length) (f:=fun i=>m.getD i 0)
      (fun i hi=>(hE.heap.obs _ (J i (by omega))).1) (by rw[W];exact a6.right)
     rw[W]at a1 L;simp only at a1 L
     have b2:∀i,i<m.length->eu x2 w i ((fe (ij m) id os).getD i (.rc [])):=by
      intro i hi;have h1:=L i (by omega);have b6:i<os.length:=by omega
      have e:(fe (ij m) id os).getD i (.rc [])=(os.getD i (.rc [])).ren (ij m) id:=by rw[gU,aa,aa,aN,ab b6];rfl
      rw[e];have a8:=gE (m:=m) hi;have e1:os.getD i (.rc [])∈os:=by rw[aa,ab b6];exact aU _
      have h2:=h1.renF (x2:=x2) (mo:=ij m) (mt:=id) (fun _ _ _ h=>h) (hβ _ a8) (fun k hk=>hβ k (Q k (an.2 (.inr (pJ e1 k hk))))) (fun t _=>rfl);have e2:ij m (m.getD i 0)=i:=ma a7 (nH a8).1 hi (nH a8).2;rwa[e2]at h2
     have b3:(fe (ij m) id os).length=m.length:=by rw[gU,aC];omega
     obtain⟨_,b4⟩:=e4 _ _ _ _ hq;have c7:E.length+H.length=(E++H).length:=by simp
     rw[c7]at b4;refine(b4 (Ctx.took x2 w m.length (E++H).length) x2 w vs rfl rfl ?_ (by omega) ?_ (rU hE.heap hT b3 b2) d6).mono ?_
     ·rintro b h;rw[b3];exact h
     ·intro o Z
      rw[gU]at Z;obtain⟨r,hr,rfl⟩:=aT.1 Z;refine yz ?_
      have:=nR (tk:=c.tk) (obs:=O) (j:=50+E.length) (fun o h'=>by obtain⟨i,hi,rfl⟩:=bH h';have:=hS.inv.wf _ (J i (by omega));simpa[aa,ab hi]using this) r (by rw[W];exact hr)
      exact this
     ·rintro en w' ⟨v,x',q',rfl,d5,hr,hH,e3,hg⟩
      subst d5;exact⟨v,rfl,oA hM hS hd hT hH hr e3 (fun i hi=>hg i (by omega)) (fun o Z=>e5 o Z) hsm⟩
theorem vA{call:dr}{sg:Sig}{g:Nat}{d:t8}{a_:t6}{vs:LAa}(E:aL C x s a w)(F:Sim N c s)(hd:∀k,d=some k->k<N)(h:∀a_ os k q,call g a_ os k=some q->gk P g a_ os k (· =q))
 (y:iP call sg c d g a_=some c') (z:cn x a_ vs):Calls P g ⟨vs⟩ w fun H w'=>∃v,H= .returned v/\M C N c' (a.put d v) w':=by
 unfold iP at y;generalize ((SV.idsL a_).isEmpty&&sg.own.isEmpty)=b at y;cases b with
 |true=>exact xZ E F hd h y z
 |false=>simp only[kB]at y;obtain⟨x1,O,J,I,L⟩:=jR (l:=jy sg.raw 0 a_) E F z;exact w8 J I hd h y L
end Go.Sy
namespace Go.Sy
variable [aW]
variable {P : Program} {C : Ctx} {x : Sit} {a : Act} {w : World} {N : Nat} {c c' : CSt} {s : St} {call : dr} {sg : Nat -> Sig}
def gT(P:Program)(call:dr):Prop:=∀g a_ os k q,call g a_ os k=some q->gk P g a_ os k (· =q)
theorem yb{sg:Sig}{d:t8}{g:Nat}{a_:t6}(h:iP call sg c d g a_=some c'):∃J os k q,call g J os k=some q:=by
 unfold iP at h;generalize ((SV.idsL a_).isEmpty&&sg.own.isEmpty)=b at h;cases b with
 |true=>
  simp only[kB]at h;cases hq:call g (SV.bareL a_) [] 0 with
  |none=>rw[hq]at h;cases h
  |some q=>exact⟨_,_,_,q,hq⟩
 |false=>
  simp only[kB]at h;generalize fE c a_ (jy sg.raw 0 a_)=z at h;obtain⟨c1,I⟩:=z;simp only[ku]at h;generalize kG c1.tk sg.own 50 0 I=z at h;obtain⟨y,E⟩:=z;simp only[oG]at h;cases ho:looks c1 (eD c1 60 [] (SV.idsL y))with
  |none=>rw[ho]at h;cases h
  |some H=>
   rw[ho]at h;simp only[l4]at h;generalize eS c1.tk (50+E.length) H=z at h;obtain⟨os,F⟩:=z;simp only[oF]at h;generalize (pe (SV.idsL y++gw os) (eD c1 60 [] (SV.idsL y))&&ec (eD c1 60 [] (SV.idsL y))&&ec (cJ (E++F))&&decide ((eD c1 60 [] (SV.idsL y)).length<=40)&&(eD c1 60 [] (SV.idsL y)).all fun o=> !inR (d.getD 0) o)=b at h;cases b with
   |false=>cases h
   |true=>
    simp only[oE]at h;cases hq:call g (SV.renL (ij (eD c1 60 [] (SV.idsL y))) id y) (fe (ij (eD c1 60 [] (SV.idsL y))) id os) (E.length+F.length)with
    |none=>rw[hq]at h;cases h
    |some q=>exact⟨_,_,_,q,hq⟩
theorem dq.freeze{ob:List (Nat×aB)}{tk:t7}(h:dq C x ob tk w){b:Nat}(hb:C.mine b)(ho:∀p∈ob,(x.bk p.1).1≠b)(ht:∀t∈tk,(x.τ t).1≠b\/(x.τ t).2.1=(x.τ t).2.2)(off n:Nat):
 dq C x ob tk (w.freeze ⟨b,off,none⟩ n):=by
 have z:∀y,y≠b->(w.freeze ⟨b,off,none⟩ n).heap[y]? =w.heap[y]? :=by
  intro y J;unfold World.freeze;split
  ·rfl
  ·simp only[Array.getElem?_modify,if_neg (Ne.symm J)]
 have E:∀y i,(w.freeze ⟨b,off,none⟩ n).cell? ⟨y,i,none⟩=w.cell? ⟨y,i,none⟩:=by
  intro y i
  by_cases J:y=b
  ·subst J
   unfold World.freeze;split
   ·rfl
   ·simp only[World.cell?,Array.getElem?_modify,if_true]
    cases hw:w.heap[y]? with
    |none=>rfl
    |some q=>cases q<;>rfl
  ·exact dJ (z y J)
 have L:(w.freeze ⟨b,off,none⟩ n).heap.size=w.heap.size:=by unfold World.freeze;split<;>simp
 have F:(w.freeze ⟨b,off,none⟩ n).os=w.os/\(w.freeze ⟨b,off,none⟩ n).tape=w.tape/\(w.freeze ⟨b,off,none⟩ n).output=w.output:=by unfold World.freeze;split<;>exact⟨rfl,rfl,rfl⟩
 refine⟨fun y i v hv=>by rw[E];exact h.per y i v hv,h.g0,h.gm,h.new,fun p Z=> ?_,h.nd,h.inj,fun t I=> ?_,h.tko,h.tkd,F.1.trans h.os,F.2.1.trans h.tape,F.2.2.trans h.output,by rw[L];exact h.size,fun y H=> ?_,h.pin,h.lay⟩
 ·obtain⟨⟨Q,e,fl,fh,O,r⟩,q⟩:=h.obs p Z
  exact⟨⟨Q,e,fl,fh,O.of_heap (z _ (ho p Z)),r⟩,q⟩
 ·rcases h.tks t I with h1|⟨⟨Q,e,fl,fh,O,h2⟩,h3⟩
  ·exact .inl h1
  ·rcases ht t I with W|W
   ·exact .inr ⟨⟨Q,e,fl,fh,O.of_heap (z _ W),h2⟩,h3⟩
   ·exact .inl W
 ·rw[z y (fun e=>H (e ▸ hb))];exact h.ext y H
theorem Qu{o:Oper}{q:Arg}(y:bv P o=some (.slid q)):∃z X e,o.op= .convert z z X/\P.underlying z=some (.slice e)/\mz P e=true/\bt P z X=some q:=by
 cases ho:o.op with
 |convert z dst X=>
  simp only[bv,ho]at y;split at y<;>try (cases y;done)
  ·split at y<;>cases y
  ·split at y<;>cases y
  ·rename_i e H I hd hX
   split at y<;>try (cases y;done)
   rename_i E;simp only[aw,decide_eq_true_eq]at E;obtain⟨rfl,F⟩:=E;cases y;exact⟨z,X,e,rfl,hd,F,hX⟩
 |_=>exfalso;exact absurd y (by
  intro y;simp only[bv,ho]at y
  first
   |(cases y;done)
   |(obtain⟨_,_,h⟩:=ae.1 y;cases h;done)
   |(repeat' split at y)<;>first|(cases y;done)|contradiction|(obtain⟨_,_,h⟩:=ae.1 y;first|(cases h;done)|(split at h<;>cases h;done)))
theorem Fp{o:Oper}{E:List Arg}(y:bv P o=some (.newB E)):False:=by
 cases ho:o.op with
 |buildSlice t len z=>
  simp only[bv,ho]at y;split at y<;>try (cases y;done)
  split at y<;>try (cases y;done)
  split at y<;>try (cases y;done)
  obtain⟨_,_,h⟩:=ae.1 y;split at h<;>cases h
 |_=>
  simp only[bv,ho]at y
  first
   |(cases y;done)
   |(obtain⟨_,_,h⟩:=ae.1 y;cases h;done)
   |(repeat' split at y)<;>first|(cases y;done)|contradiction|(obtain⟨_,_,h⟩:=ae.1 y;first|(cases h;done)|(split at h<;>cases h;done))
theorem Dd{o:Oper}{z:t6}{b:Nat}{q y:Arg}(E:bv P o=some (.appO z b q y)):False:=by
 cases ho:o.op with
 |buildSlice t len F=>
  simp only[bv,ho]at E;split at E<;>try (cases E;done)
  split at E<;>try (cases E;done)
  split at E<;>try (cases E;done)
  obtain⟨_,_,h⟩:=ae.1 E;split at h<;>cases h
 |_=>
  simp only[bv,ho]at E
  first
   |(cases E;done)
   |(obtain⟨_,_,h⟩:=ae.1 E;cases h;done)
   |(repeat' split at E)<;>first|(cases E;done)|contradiction|(obtain⟨_,_,h⟩:=ae.1 E;first|(cases h;done)|(split at h<;>cases h;done))
theorem xhp{ops:Array Oper}{o:Oper}{i:SI}(h:gM P ops o=some i):i.er=i:=by
 obtain⟨E,_,_⟩:=lu h;obtain⟨d,g,op⟩:=i
 have:op.er=op:=by
  cases op with
  |appO z b q y=>
   rcases E with E|⟨xs,e,_⟩
   ·exact(Dd E).elim
   ·cases e
  |_=>rfl
 show SI.mk d g op.er=_;rw[this]
theorem xd{o:Oper}{q:Arg}(h:M C N c a w)(hr:bv P o=some (.slid q))(hd:∀k,o.dst=some k->k<N)(z:rB c o.dst (c.ev q)=some c'){K:LAf}{Q:LAe}(hK:∀a w,M C N c' a w->K a w):o.wp P a w K Q:=by
 obtain⟨x,s,L,O⟩:=h;unfold rB at z;split at z<;>try (cases z;done)
 rename_i y off n cap hq;unfold pq at z;split at z<;>try (cases z;done)
 rename_i l hl;split at z<;>try (cases z;done)
 rename_i I;obtain⟨hb,rfl⟩:=I;cases z;obtain⟨b3,X,e,ho,hu,h8,hX⟩:=Qu hr;have hv:=aK L hX;rw[O.ev,hq]at hv;obtain⟨cp,b4,b2,a1,W,b1⟩:=hv.psl_inv;have E:s.look y=some (.bar l):=(O.look y).trans hl;obtain⟨cc,e',fl,fh,hO,b5,_⟩:=fp L E;have a7:=L.heap.obs _ (dh E);obtain⟨x',⟨hβ,hτ⟩,hp,s',F,J⟩:=pD hl (fun cs e=>by cases e) L O
 have H:Rep x' (.byt ((l.drop off).take n) .clip) (a.eval X):=by have:=hp _ _ hv;simpa only[SV.pub,if_true,xG,true_and,if_pos hb]using this
 have h1:∀p∈s'.ob,(x'.bk p.1).1≠(x.bk y).1:=by intro p a8 e;rw[hβ]at e;have h2:s'.look p.1=some p.2:=pM F.heap.nd a8;rw[J.look]at h2;obtain⟨h3,q',h4,_⟩:=ld (iS h2);have h5:=jK (jI O.inv.so) h4;exact h3 (L.heap.inj (p.1,q') (dh ((O.look p.1).trans h5)) _ (dh E) e)
 have h2:∀t∈s'.tk,(x'.τ t).1≠(x.bk y).1\/(x'.τ t).2.1=(x'.τ t).2.2:=by intro t ht;rw[hτ];exact L.heap.tko t ((O.tk t).2 ((J.tk t).1 ht)) _ (dh E)
 have a6:aL C x' s' a (w.freeze ⟨(x.bk y).1,cc.size,none⟩ 1):=⟨F.tm,F.defers,F.heap.freeze a7.2.1 h1 h2 _ _⟩
 have Z:(execOp a.eval o).run P w= .ok (.value (a.eval X)) (w.freeze ⟨(x.bk y).1,cc.size,none⟩ 1):=by have hm:(markStringish ⟨(x.bk y).1,a1,none⟩).run P w= .ok () (w.freeze ⟨(x.bk y).1,cc.size,none⟩ 1):=fk (e:=e') (by simp only[World.shape?,hO.1]);simp only[execOp,ho,W,convert,ax,run_underlying hu,ak,beq_self_eq_true,run_underlying (jN h8),hm,aE]
 refine cY ⟨a.eval X,_,x',_,Z,.inl rfl,a6.put o.dst H⟩ (k:=Sim N _) ?_ hK;have e1:(c.publish y []).1=⟨mu y (.bar l) c.tm,lN y (.bar l) c.ob,c.tk⟩:=by unfold CSt.publish;rw[hl]
 rw[e1];exact J.put hd _
theorem pK{o:Oper}{J:List Arg}(h:M C N c a w)(L:bv P o=some (.litB J))(hd:∀k,o.dst=some k->k<N)(E:oM c o.dst (toB (evL c J))=some c'){K:LAf}{Q:LAe}(hK:∀a w,M C N c' a w->K a w):o.wp P a w K Q:=by
 obtain⟨x,s,O,W⟩:=h;rw[W.evL]at E;unfold oM at E;split at E<;>try (cases E;done)
 rename_i k l Z hl;cases E;obtain⟨t,len,H,ho⟩:=RF L;obtain⟨r,e,z,F,y⟩:=xq O ho L hl
 have I:=O.newObj (d:=k+100) o.dst (by omega) (.bar l) (val:= .psl (k+100) 1 0 l.length (some l.length)) (u:= .slice (some ⟨w.heap.size,0,none⟩) l.length l.length) (t:=e) F (fun i hi=>by
  show cy x.G (.u8 (l.getD i 0)) _;rw[y i hi];exact .u8 _) (by
  have:=Rep.psl (x:=x.newO (k+100) w.heap.size) (k+100) 1 0 l.length (some l.length) 0 l.length (.inr rfl) (bc _) (fun _ e=>by cases e;rfl) (fun e=>by cases e);rwa[jm]at this)
 refine cY ⟨_,_,_,_,z,.inl rfl,I⟩ (k:=Sim N _) ?_ hK;have:=W.app hd (e:= {val:= .psl (k+100) 1 0 l.length (some l.length),new:=some (.bar l)}) (f:= {pre:=True,val:= .psl (k+100) 1 0 l.length (some l.length),new:=some (.bar l)}) ⟨rfl,rfl,rfl,rfl,rfl⟩ ⟨fun ob he=>by cases he;rfl,.inl rfl⟩;rw[Z]at this ⊢;exact this
theorem F0(y:aL C x s a w)(z:Sim N c s){g:Nat}{t:Bool}(h:c.get g= .bool t):a.tmps[g]? =some (.bool t):=(F2 y (by rw[z.get];exact h)).2.1
theorem vn{ops:Array Oper}{o:Oper}{j g:Nat}{b:Bool}(h:o.guard=some (j,b))(y:(ops[j]?).bind (·.dst)=some g)(E:∀t,a.tmps[g]? ≠some (.bool t)):Region.wanted o (yielded ops a.tmps)=false:=by
 have z:yielded ops a.tmps j=none:=by
  unfold yielded;rw[y,di];cases hv:a.tmps[g]? with
  |none=>rfl
  |some v=>
   cases v with
   |bool t=>exact absurd hv (E t)
   |_=>rfl
 simp only[Region.wanted,h,z];rfl
theorem vQ{x:Sit}:Rep x (.tup []) undef:= .tup [] [] rfl fun i hi=>by simp at hi
theorem F1(z:aL C x s a w)(E:Sim N c s){g:Nat}(h:c.get g= .tup []):∀t,a.tmps[g]? ≠some (.bool t):=by
 intro t H;have y:=z.slot g;rw[E.get,h]at y
 have F:a.tmps.getD g undef= .bool t:=by rw[bl,H];rfl
 replace y:Rep x (.tup []) (a.tmps.getD g undef):=y;rw[F]at y;cases y with
 |dat _ _ h _=>cases h
theorem GO{o:Oper}{q:Arg}(y:bv P o=some (.s2b q)):∃z dst X e,o.op= .convert z dst X/\P.underlying z=some .string/\P.underlying dst=some (.slice e)/\mz P e=true/\bt P z X=some q:=by
 cases ho:o.op with
 |convert z dst X=>
  simp only[bv,ho]at y;split at y<;>try (cases y;done)
  ·split at y<;>cases y
  ·rename_i e H F hd hX
   split at y<;>try (cases y;done)
   rename_i E;cases y;exact⟨z,dst,X,e,rfl,F,hd,E,hX⟩
  ·split at y<;>cases y
 |_=>exfalso;exact absurd y (by
  intro y;simp only[bv,ho]at y
  first
   |(cases y;done)
   |(obtain⟨_,_,h⟩:=ae.1 y;cases h;done)
   |(repeat' split at y)<;>first|(cases y;done)|contradiction|(obtain⟨_,_,h⟩:=ae.1 y;first|(cases h;done)|(split at h<;>cases h;done)))
theorem xej{o:Oper}{z:t6}{b:Nat}{q r:Arg}(y:bv P o=some (.app z b q r)):∃E,o.op= .call E/\E.callee= .builtin .append:=by
 cases ho:o.op with
 |call E=>
  refine⟨E,rfl, ?_⟩;cases hb:E.callee with
  |builtin F=>
   cases F with
   |append=>rfl
   |_=>
    exfalso;simp only[bv,ho,hb]at y
    first
     |(cases y;done)
     |(repeat' split at y)<;>first|(cases y;done)|contradiction
  |_=>
   exfalso;simp only[bv,ho,hb]at y
   first
    |(cases y;done)
    |(repeat' split at y)<;>first|(cases y;done)|contradiction
 |_=>exfalso;exact absurd y (by
  intro y;simp only[bv,ho]at y
  first
   |(cases y;done)
   |(obtain⟨_,_,h⟩:=ae.1 y;cases h;done)
   |(repeat' split at y)<;>first|(cases y;done)|contradiction|(obtain⟨_,_,h⟩:=ae.1 y;first|(cases h;done)|(split at h<;>cases h;done)))
theorem aL.newObjF(F:aL C x s a w){d:Nat}(z:t8)(y:100<=d){cv:LAb}{t:TypeId}{fl fh:Nat}(obj:aB){val:SV}{u:Value}(Q:∀i,i<cv.size->¬(fl<=i/\i<fh))(H:obj.size<=cv.size)(L:∀k,k<obj.size->cx x obj k (cv.getD k undef))
 (E:obj.arrB=true->¬(fl<=cv.size/\cv.size<fh)) (hv:Rep (x.newO d w.heap.size cv.size) val u) {w':World} (I:w'.heap=(w.alloc (.cells cv t (fl,fh))).heap) (J:w'.os=w.os) (O:w'.tape=w.tape) (W:w'.output=w.output):
 aL C (x.newO d w.heap.size cv.size) (((s.purge d (d+1)).addO d (obj.purge d (d+1))).put z val) (a.put z u) w':=by
 refine aL.put ⟨?_,F.defers, ?_⟩ z hv
 ·exact cn.mono (x:=x) (x':=x.newO d w.heap.size cv.size) (lo:=d) (hi:=d+1) (fun _ _ _ h=>h) (Sit.newO_ne x d _) (fun _ _=>rfl) F.tm
 ·exact dq.congr (w:=w.alloc (.cells cv t (fl,fh))) (F.heap.allocO d y obj Q H L (bc _) E) I J O W
theorem aL.drew(h:aL C x s a w):aL C x s a w.drew:=⟨h.tm,h.defers,h.heap.drew⟩
theorem xK{o:Oper}{q:Arg}(h:M C N c a w)(hr:bv P o=some (.s2b q))(hd:∀k,o.dst=some k->k<N)(H:Ro c o.dst (c.ev q)=some c'){K:LAf}{Q:LAe}(hK:∀a w,M C N c' a w->K a w):o.wp P a w K Q:=by
 obtain⟨x,s,hM,hS⟩:=h;unfold Ro at H;split at H<;>try (cases H;done)
 rename_i k l hk hl;cases H;obtain⟨a1,dst,X,e,ho,hs,L,h8,hX⟩:=GO hr;have O:=jN h8;have h1:=aK hM hX;rw[hS.ev,hl]at h1;have hf:(Question.appendCap (ByteArray.mk ⟨l⟩).size 0 e).forced=false:=rfl
 obtain⟨y,I,W⟩:∃y,(Question.appendCap (ByteArray.mk ⟨l⟩).size 0 e).cut (w.tape w.drawn (Question.appendCap (ByteArray.mk ⟨l⟩).size 0 e))=y/\l.length<=y:=by
  refine⟨_,rfl, ?_⟩;simp only[Question.cut];have:(ByteArray.mk ⟨l⟩).size=l.length:=by simp[ByteArray.size]
  omega
 let cs:LAb:=(ByteArray.mk ⟨l⟩).data.map (fun b=> .int .u8 b.toNat)++ei (y-(ByteArray.mk ⟨l⟩).size) (.int .u8 0)
 have z:(ByteArray.mk ⟨l⟩).size=l.length:=by simp[ByteArray.size]
 have J:cs.size=y:=by simp[cs,z];omega
 have F:∀i,i<l.length->cs[i]? =some (.int .u8 (l.getD i 0).toNat):=by intro i hi;simp only[cs];rw[Array.getElem?_append_left (by simpa using hi)];simp[hi,aa]
 have E:(execOp a.eval o).run P w= .ok (.value (.slice (some ⟨w.heap.size,0,none⟩) l.length y)) ((w.drew.alloc (.cells cs e (0,0))).freeze ⟨w.heap.size,cs.size,none⟩ 1):=by simp only[execOp,ho,h1.str_inv,convert,ax,run_underlying hs,run_underlying L,ak,run_underlying O,Conv.stringToBytes,run_choose_drew,hf,az,if_false,I,newRow,run_newObj_alloc,aE];rw[fk (e:=e) (n:=cs.size) (by simp only[World.shape?];rw[dN])];simp only[ak,z];rfl
 have Z:=hM.drew.newObjF (d:=k+100) o.dst (by omega) (.bar l) (cv:=cs) (t:=e) (fl:=cs.size) (fh:=cs.size+1) (val:= .psl (k+100) 1 0 l.length none) (u:= .slice (some ⟨w.heap.size,0,none⟩) l.length y) (fun i hi h=>by omega) (by simp only[aB.size];omega) (fun i hi=>by
  simp only[aB.size]at hi;show cy x.G (.u8 (l.getD i 0)) _;have:cs.getD i undef= .int .u8 (l.getD i 0).toNat:=by rw[bl,F i hi];rfl
  rw[this];exact .u8 _) (fun h=>by cases h) (by
  have:=Rep.psl (x:=x.newO (k+100) w.drew.heap.size cs.size) (k+100) 1 0 l.length none 0 y (.inr rfl) W (fun _ e=>by cases e) (fun _=> .inr (by rw[nG,J];omega));rw[jm]at this;exact this) (ie w.drew cs e) rfl rfl rfl
 refine cY ⟨_,_,_,_,E,.inl rfl,Z⟩ (k:=Sim N _) ?_ hK;have:=hS.app hd (e:= {val:= .psl (k+100) 1 0 l.length none,new:=some (.bar l)}) (f:= {pre:=True,val:= .psl (k+100) 1 0 l.length none,new:=some (.bar l)}) ⟨rfl,rfl,rfl,rfl,rfl⟩ ⟨fun ob O=>by cases O;rfl,.inl rfl⟩;rw[hk]at this ⊢;exact this
theorem wW{o:Oper}{q:Arg}(h:M C N c a w)(hr:bv P o=some (.s2b q))(hd:∀k,o.dst=some k->k<N)(L:P6 c o.dst (c.ev q)=some c'){K:LAf}{Q:LAe}(hK:∀a w,M C N c' a w->K a w):o.wp P a w K Q:=by
 obtain⟨x,s,z,hS⟩:=h;unfold P6 at L;split at L<;>try (cases L;done)
 rename_i k l hk hl;cases L;obtain⟨b4,dst,X,e,ho,hs,W,h8,hX⟩:=GO hr;have he:=jN h8;have Z:=aK z hX;rw[hS.ev,hl]at Z;have hf:(Question.appendCap (ByteArray.mk ⟨l⟩).size 0 e).forced=false:=rfl
 obtain⟨y,O,b1⟩:∃y,(Question.appendCap (ByteArray.mk ⟨l⟩).size 0 e).cut (w.tape w.drawn (Question.appendCap (ByteArray.mk ⟨l⟩).size 0 e))=y/\l.length<=y:=by
  refine⟨_,rfl, ?_⟩;simp only[Question.cut];have:(ByteArray.mk ⟨l⟩).size=l.length:=by simp[ByteArray.size]
  omega
 let cs:LAb:=(ByteArray.mk ⟨l⟩).data.map (fun b=> .int .u8 b.toNat)++ei (y-(ByteArray.mk ⟨l⟩).size) (.int .u8 0)
 have F:(ByteArray.mk ⟨l⟩).size=l.length:=by simp[ByteArray.size]
 have b3:cs.size=y:=by simp[cs,F];omega
 have J:∀i,i<l.length->cs[i]? =some (.int .u8 (l.getD i 0).toNat):=by intro i hi;simp only[cs];rw[Array.getElem?_append_left (by simpa using hi)];simp[hi,aa]
 have I:(execOp a.eval o).run P w= .ok (.value (.slice (some ⟨w.heap.size,0,none⟩) l.length y)) ((w.drew.alloc (.cells cs e (0,0))).freeze ⟨w.heap.size,cs.size,none⟩ 1):=by simp only[execOp,ho,Z.str_inv,convert,ax,run_underlying hs,run_underlying W,ak,run_underlying he,Conv.stringToBytes,run_choose_drew,hf,az,if_false,O,newRow,run_newObj_alloc,aE];rw[fk (e:=e) (n:=cs.size) (by simp only[World.shape?];rw[dN])];simp only[ak,F];rfl
 have hG:∀o,x.G w.heap.size o=none:=by
  intro o;cases hg:x.G w.heap.size o with
  |none=>rfl
  |some v=>exact absurd (z.heap.ltG hg) (by omega)
 have a8:=z.heap.newD_le cs l.length;have hH:dq C (x.newD w.heap.size cs l.length) s.ob s.tk (w.drew.alloc (.cells cs e (cs.size,cs.size+1))):=z.heap.drew.allocD l.length;have H:fM (w.drew.alloc (.cells cs e (cs.size,cs.size+1))) w.heap.size cs e cs.size (cs.size+1):=⟨dN (w:=w.drew),fun i _ h=>by omega⟩
 have a6:dq C ((x.newD w.heap.size cs l.length).newT (k+100) w.heap.size l.length y) (bq (k+100) (k+100+1) s.ob) ((k+100)::bV (k+100) (k+100+1) s.tk) (w.drew.alloc (.cells cs e (cs.size,cs.size+1))):=by
  refine hH.addT (k+100) w.heap.size _ _ (.inr ⟨⟨cs,e,_,_,H,by omega⟩,z.heap.new _ z.heap.size,fun o Z h2=> ?_⟩) (.inr fun p hp _=> ?_) (.inr fun u hu _=> ?_)
  ·simp only[Sit.newD];rw[if_neg (by omega)];exact hG o
  ·obtain⟨⟨c2,e2,a1,a7,E,_⟩,_⟩:=z.heap.obs p hp
   have:=E.lt;show w.heap.size≠(x.bk p.1).1;omega
  ·rcases z.heap.tks u hu with h|⟨⟨c2,e2,a1,a7,E,_⟩,_⟩
   ·exact .inr h
   ·have:=E.lt
    exact .inl (by show w.heap.size≠(x.τ u).1;omega)
 have b2:aL C ((x.newD w.heap.size cs l.length).newT (k+100) w.heap.size l.length y) ((s.grew .no (k+100)).put o.dst (.byt l (.id (k+100)))) (a.put o.dst (.slice (some ⟨w.heap.size,0,none⟩) l.length y)) ((w.drew.alloc (.cells cs e (0,0))).freeze ⟨w.heap.size,cs.size,none⟩ 1):=by
  refine aL.put ⟨?_,z.defers, ?_⟩ o.dst ?_
  ·exact cn.mono (x:=x) (x':=(x.newD w.heap.size cs l.length).newT (k+100) w.heap.size l.length y) (lo:=k+100) (hi:=k+100+1) a8 (fun _ _=>rfl) (Sit.newT_ne (x.newD w.heap.size cs l.length) (k+100) _ _ _) z.tm
  ·exact dq.congr (w:=w.drew.alloc (.cells cs e (cs.size,cs.size+1))) a6 (ie w.drew cs e) rfl rfl rfl
  ·refine .dat _ _ (.byt l _ w.heap.size 0 y l.length rfl b1 fun i hi=> ?_) ⟨_,l.length,y,rfl,.inr ⟨w.heap.size,0,rfl, ?_⟩⟩
   ·show(x.newD w.heap.size cs l.length).G w.heap.size (0+i)=_
    simp only[Sit.newD];rw[if_pos ⟨trivial,by omega⟩,cd];exact J i hi
   ·rw[Sit.newT_eq,js,js,cd,cd]
 refine cY ⟨_,_,_,_,I,.inl rfl,b2⟩ (k:=Sim N _) ?_ hK;have:=hS.app hd (e:= {val:= .byt l (.id (k+100)),tok:=true}) (f:= {pre:=True,val:= .byt l (.id (k+100)),tok:=true}) ⟨rfl,rfl,rfl,rfl,rfl⟩ ⟨fun ob he=>(by cases he),.inl rfl⟩;rw[hk]at this ⊢;exact this
theorem sR(hM:aL C x s a w){t u I:TypeId}{d2:TypeDesc}{n H:Nat}{zs:LAa}(hd:P.underlying t=some (.slice I))(hu:P.underlying u=some d2)(b7:(∃e',d2= .slice e')\/d2= .string)(hn:fZ P I=some n)(hb:ud P I=some H)
 (hz:gI P I=some zs) (hb0:H≠0) (hzl:zs.length=n) {ty:TypeId} {X Y:Value} {fl h:t6} {ns:LAa} {len m cap:Nat} (hX:CE x.G n fl X len cap)
 (a6:∀w',w'.heap=w.heap->(Builtin.lenOf Y).run P w'= .ok m w') (F:∀w',w'.heap=w.heap->(Builtin.firstCells n m Y).run P w'= .ok ns.toArray w') (b1:ns.length=m*n) (y:New x ns h) (L:(len+m)*H<=140737488355328) (hc:¬len+m<=cap):
 ∃O cv,len+m<=O/\(Builtin.append_ #[t,u] ty #[X,Y]).run P w= .ok (.slice (some ⟨w.heap.size,0,none⟩) (len+m) O) (w.drew.alloc (.cells cv I (0,0)))/\((fl++h).length<=cv.size/\O*n<=cv.size)/\∀k,k<(fl++h).length->cy x.G ((fl++h).getD k .undef) (cv.getD k undef):=by
 obtain⟨a7,e5,a1⟩:=hX;obtain⟨z,b4,b3⟩:=cN hz
 obtain⟨i,hi,e0⟩:∃i,P.info? I=some i/\i.bytes=H:=by
  unfold ud at hb;cases hi:P.info? I with
  |none=>simp[hi]at hb
  |some i=>simp[hi]at hb;exact⟨i,rfl,hb⟩
 obtain⟨bs,d5⟩:∃bs,X= .slice bs len cap:=by
  rcases a1 with⟨b,off,rfl,_⟩|⟨⟨a,rfl⟩,rfl,rfl⟩
  ·exact⟨_,rfl⟩
  ·exact⟨_,rfl⟩
 subst d5;have e4:h.length=m*n:=by rw[y.len,b1]
 obtain⟨os,b5,E,Z⟩:∃os:LAa,(∀w',w'.heap=w.heap->(Builtin.firstCells n len (.slice bs len cap)).run P w'= .ok os.toArray w')/\os.length=fl.length/\∀k,k<fl.length->cy x.G (fl.getD k .undef) (os.getD k undef):=by
  rcases a1 with⟨b,off,Q,hr⟩|⟨Q,h1,h2⟩
  ·simp only[Value.slice.injEq]at Q
   obtain⟨rfl,_⟩:=Q;refine⟨(bQ (len*n)).map fun k=>(w.cell? ⟨b,off+k,none⟩).getD undef,fun w' b6=> ?_,by simp[a7],fun k W=> ?_⟩
   ·simp only[Builtin.firstCells]
    refine run_loadCells w' _ _ _ fun j hj=> ?_
    rw[dD,dJ (w:=w) (by rw[b6])];obtain⟨v,hv,_⟩:=hr j (by omega);rw[hM.heap.per _ _ _ hv];rfl
   ·obtain⟨v,hv,d7⟩:=hr k W
    have:((bQ (len*n)).map fun k=>(w.cell? ⟨b,off+k,none⟩).getD undef).getD k undef=v:=by rw[aa];simp[show k<len*n from by omega,hM.heap.per _ _ _ hv]
    rw[this];exact d7
  ·obtain⟨a,Q⟩:=Q
   simp only[Value.slice.injEq]at Q;obtain⟨rfl,rfl,_⟩:=Q;have:fl=[]:=bx.1 (by rw[<-a7,h1,jx]);subst this;exact⟨[],fun w' _=>by cases bs<;>simp only[Builtin.firstCells,jx]<;>rfl,rfl,fun k W=>by simp at W⟩
 obtain⟨O,c7,a8⟩:=jd (t:=t) (u:=u) (ty:=ty) (Y:=Y) hd hu b7 hn hi e0 hb0 b3 a6 F b5 hc L;refine⟨O,_,c7,a8, ?_,fun k W=> ?_⟩
 ·have b2:z.cells.size=n:=by rw[<-aP,b4];exact hzl
  have e3:len*n+m*n+(O-(len+m))*n=O*n:=by rw[<-bN,<-bN];congr 1;omega
  simp only[ac,Array.size_append,List.size_toArray,E,<-y.len,eQ,b2];omega
 ·have d6:k<os.length+ns.length:=by rw[E,<-y.len,<-ac];exact W
  rw[bl,jh os ns _ k d6]
  by_cases J:k<fl.length
  ·have e1:(fl++h).getD k .undef=fl.getD k .undef:=by simp only[aa,bi J]
   have e2:((os++ns)[k]?).getD undef=os.getD k undef:=by simp only[aa,bi (show k<os.length by omega)]
   rw[e1,e2];exact Z k J
  ·have e1:(fl++h).getD k .undef=h.getD (k-fl.length) .undef:=by simp only[aa,bo (Nat.le_of_not_lt J)]
   have e2:((os++ns)[k]?).getD undef=ns.getD (k-fl.length) undef:=by simp only[aa,bo (show os.length<=k by omega),E]
   rw[e1,e2];exact y.rep _ (by rw[ac]at W;omega)
theorem lE{n:Nat}{fl:t6}{X:Value}{len cap:Nat}(hX:CE x.G n fl X len cap)(z:dM x n .clip X):cap=len:=by
 obtain⟨a,k,E⟩:=z;obtain⟨_,_,y⟩:=hX;rcases y with⟨b,off,h,_⟩|⟨h,h1,h2⟩
 ·rw[h]at E;simp only[Value.slice.injEq]at E;omega
 ·omega
theorem kM(o:Nat)(obj:aB):∀l:List (Nat×aB),bq o (o+1) (setO o obj l)=bq o (o+1) l
 |[]=>rfl
 |p::r=>by
  simp only[setO]
  by_cases h:p.1=o
  ·rw[if_pos h]
   simp only[bq];rw[if_pos (by omega),if_pos (by omega)]
  ·rw[if_neg h]
   simp only[bq];rw[if_neg (by omega),if_neg (by omega),kM o obj r]
theorem xI{o:Oper}{z:t6}{k8 F sz n:Nat}{r q:Arg}(h:M C N c a w)(hr:bv P o=some (.app z k8 r q))(hd:∀k,o.dst=some k->k<N)(hx:c.ev r= .psl F sz 0 n none)
 (hc:Nr c z k8 F sz n o.dst (gB c z.length (.psl F sz 0 n none)) (gB c z.length (c.ev q)) (eJ c (.psl F sz 0 n none)) (eJ c (c.ev q))=some c') {K:LAf} {Q:LAe} (hK:∀a w,M C N c' a w->K a w):o.wp P a w K Q:=by
 obtain⟨x,s,hM,hS⟩:=h;obtain⟨X,Y,t,u,el,d2,zs,I,e8,_⟩:=SX hr (.inl rfl) a;have e8:=e8 rfl;have h1:=aK hM I.hX;have h2:=aK hM I.hY;rw[hS.ev,hx]at h1;unfold Nr at hc;split at hc<;>try (cases hc;done)
 ·rename_i k L E hk a7 i7
  rw[aH]at hc;obtain⟨⟨rfl,J,d7⟩,hc⟩:=hc;obtain⟨p0,f1,g8⟩:=kW hS a7;obtain⟨p1,b6,h8⟩:=kW hS i7;rw[<-hS.ev]at b6;obtain⟨os,g0,n0,s0⟩:=qx (P:=P) hM h1 f1 g8;obtain⟨ns,g1,n1,s1⟩:=qx (P:=P) hM h2 b6 h8
  obtain⟨Z,hl,k3,e0⟩:∃Z,c.look F=some (.arr z.length Z)/\n<=Z.length/\L=Z.take n:=by
   simp only[gB]at a7;split at a7
   ·rename_i l2 Z hl
    obtain⟨⟨_,e1,e2⟩,e3⟩:=bJ a7;exact⟨Z,by rw[hl,<-e1],by omega,by rw[<-e3];rfl⟩
   ·cases a7
  obtain⟨cp,k0,O,g7,b5,g5⟩:=h1.psl_invK;have b4:ns.length=E.length*z.length:=by rw[<-n1.len,bL g1]
  have e9:os.length=n*z.length:=by rw[<-n0.len,bL g0,J]
  have b7:s.look F=some (.arr z.length Z):=(hS.look F).trans hl;obtain⟨cc,e,fl,fh,hO,⟨k7,f2,k4⟩,b2⟩:=fp hM b7;have d6:∀y∈L++E,y.length=z.length:=fun y hy=>(an.1 hy).elim (g0 y) (g1 y)
  have l0:∀y∈Z,y.length=z.length:=hS.rows hl;have hN:=n0.append n1;rw[<-cj]at hN;have H:(aB.arr z.length (L++E)).size=(n+E.length)*z.length:=by simp only[aB.size,ac,J]
  have W:=(hS.purge F (F+1)).app (d:=o.dst) hd (e:= {val:= .psl (k+100) z.length 0 (n+E.length) none,new:=some (.arr z.length (L++E))}) (f:= {pre:=True,val:= .psl (k+100) z.length 0 (n+E.length) none,new:=some (.arr z.length (L++E))}) ⟨rfl,rfl,rfl,rfl,rfl⟩ ⟨fun ob he=>by cases he;exact jF.2 d6,.inl rfl⟩;have i1:=ao.inj hc;subst i1;have d5:=I.ex;rw[g7]at d5;have e5:(n+E.length)*z.length=n*z.length+E.length*z.length:=bN _ _ _
  by_cases a6:n+E.length<=cp
  ·have c7:n*z.length+ns.length<=cc.size:=by
    rcases g5 with h0|h0
    ·have h3:n=0:=by omega
     have h4:E.length=0:=by omega
     rw[b4,h3,h4];omega
    ·have h3:(n+E.length)*z.length<=cp*z.length:=bw _ a6
     rw[b4];omega
   obtain⟨q1,q2,q3,q4,q5⟩:=fQ ((x.bk F).1) ns w (n*z.length);obtain⟨c2,h9,e4,h7⟩:=fr ns w (n*z.length) cc hO c7
   have j0:aL C x (s.setO F (.arr z.length (L++E))) a (cr w ((x.bk F).1) (n*z.length) ns):=
    ⟨hM.tm,hM.defers,hM.heap.block (dh b7) q1 q2 q3 q4 q5 ⟨c2,e,fl,fh,h9,⟨by rw[H,e4];omega,by rw[e4];exact f2,fun h=>by rw[e4];exact k4 rfl⟩,fun i hi=>by
     rw[H]at hi;rw[h7 i];have l1:i<(L++E).length*z.length:=by rw[ac,J];exact hi
     show cy x.G ((((L++E)).getD (i/z.length) []).getD (i % z.length) .undef) _;rw[<-cQ _ d6 i l1,cj];have j9:L.flatten.length=n*z.length:=by rw[bL g0,J]
     by_cases f0:n*z.length<=i
     ·rw[if_pos ⟨f0,by omega⟩]
      have:=n1.rep (i-n*z.length) (by rw[bL g1];omega);rw[aa,bo (by omega),j9,<-aa];exact this
     ·rw[if_neg (fun h=>f0 h.1)]
      have l3:n*z.length<=Z.length*z.length:=bw _ k3;have h3:=b2 i (by simp only[aB.size];omega);change cy x.G ((Z.getD (i/z.length) []).getD (i % z.length) .undef) _ at h3;rw[<-cQ Z l0 i (by omega)]at h3;rw[aa,bi (by omega),e0]
      have e6:Z.flatten[i]? =(Z.take n).flatten[i]? :=by
       have:Z.flatten=(Z.take n).flatten++(Z.drop n).flatten:=by rw[<-cj,kQ]
       rw[this,bi (by rw[<-e0];omega)]
      rw[<-e6,<-aa];exact h3⟩⟩
   have g6:=j0.move (d:=k+100) (by omega) (obj:= .arr z.length (L++E)) (by show(setO F _ s.ob).lookup F=_;have h3:s.ob.lookup F=some (.arr z.length Z):=b7;rw[jf,if_pos ⟨rfl,by rw[h3];rfl⟩]) (fun cs e=>by cases e)
   have j7:(s.setO F (.arr z.length (L++E))).purge F (F+1)=s.purge F (F+1):=by simp only[St.purge,St.setO,kM]
   rw[j7]at g6;have g2:(x.newO (k+100) (x.bk F).1 (x.bk F).2).bk (k+100)=x.bk F:=if_pos rfl
   have hv:Rep (x.newO (k+100) (x.bk F).1 (x.bk F).2) (.psl (k+100) z.length 0 (n+E.length) none) (.slice (some ⟨(x.bk F).1,O,none⟩) (n+E.length) cp):=by have:=Rep.psl (x:=x.newO (k+100) (x.bk F).1 (x.bk F).2) (k+100) z.length 0 (n+E.length) none O cp b5 a6 (fun _ e=>by cases e) (fun _=>by rw[g2];exact g5);rw[g2]at this;exact this
   have i6:=g6.put o.dst hv
   have a8:=gL (P:=P) (t:=t) (u:=u) (ty:=o.type) (Y:=a.eval Y) (bs:=some ⟨(x.bk F).1,O,none⟩) (len:=n) (m:=E.length) (cap:=cp) (w1:=cr w ((x.bk F).1) (n*z.length) ns) I.hd I.hu e8 I.hn (s1.len w rfl) (s1.cells w rfl) a6 (by
    simp only[dD]
    by_cases j1:cp=0
    ·have:ns=[]:=bx.1 (by
      rw[b4];have:E.length=0:=by omega
      rw[this,jx])
     rw[this];simp[storeCells,cr]
    ·rw[b5.resolve_left j1,jx,cd]
     exact fq (n*z.length) ns w cc 0 hO (by omega) n1.one)
   refine cY ⟨_,_,_,.value _, ?_,.inl rfl,i6⟩ (k:=Sim N _) ?_ hK
   ·rw[d5];simp only[ax,a8,ak,aE]
   ·rw[hk]at W ⊢
    exact W
  ·obtain⟨i,hi,j2⟩:=sQ I.hby
   obtain⟨zv,j5,j4⟩:=cN I.hz
   obtain⟨nc,f6,a8⟩:=jd (P:=P) (t:=t) (u:=u) (ty:=o.type) (Y:=a.eval Y) (bs:=some ⟨(x.bk F).1,O,none⟩) (len:=n) (m:=E.length) (cap:=cp) (os:=os) (ns:=ns) I.hd I.hu e8 I.hn hi j2 I.hb0 j4 s1.len s1.cells (by have:=s0.cells;rw[g7,J]at this;exact this) a6 d7
   have j3:zv.cells.size=z.length:=by rw[<-aP,j5];exact I.hzl.symm
   have b3:(os.toArray++ns.toArray++Builtin.zeroCells zv.cells (nc-(n+E.length))).size=nc*z.length:=by simp only[Array.size_append,List.size_toArray,eQ,j3,e9,b4];rw[<-bN,<-bN];congr 1;omega
   have h6:=(hM.purge F (F+1)).drew.newObjF (d:=k+100) o.dst (by omega) (.arr z.length (L++E)) (cv:=os.toArray++ns.toArray++Builtin.zeroCells zv.cells (nc-(n+E.length))) (t:=el) (fl:=0) (fh:=0) (val:= .psl (k+100) z.length 0 (n+E.length) none) (u:= .slice (some ⟨w.heap.size,0,none⟩) (n+E.length) nc) (fun i hi h=>by omega) (by
    rw[H,b3];exact bw _ f6) (fun i hi=>by
    rw[H]at hi;have h3:=DQ d6 hN i (by rw[ac,J];exact hi)
    have e7:(os.toArray++ns.toArray++Builtin.zeroCells zv.cells (nc-(n+E.length))).getD i undef=(⟨os++ns⟩:LAb).getD i undef:=by rw[bl,jh os ns _ i (by rw[e9,b4];omega),bl];simp
    rw[e7];exact h3) (fun _ h=>by omega) (by
    have:=Rep.psl (x:=x.newO (k+100) w.drew.heap.size (os.toArray++ns.toArray++Builtin.zeroCells zv.cells (nc-(n+E.length))).size) (k+100) z.length 0 (n+E.length) none 0 nc (.inr (by omega)) f6 (fun _ e=>by cases e) (fun _=> .inr (by rw[nG,b3];omega));rw[jm]at this;exact this) (w':=w.drew.alloc (.cells (os.toArray++ns.toArray++Builtin.zeroCells zv.cells (nc-(n+E.length))) el (0,0))) rfl rfl rfl rfl
   refine cY ⟨_,_,_,.value _, ?_,.inl rfl,h6⟩ (k:=Sim N _) ?_ hK
   ·rw[d5];simp only[ax,a8,ak,aE]
   ·rw[hk]at W ⊢
    exact W
 ·rename_i k L E hk _ a7 i7
  rw[aH]at hc;obtain⟨⟨k6,rfl,J,d7⟩,hc⟩:=hc;obtain⟨p0,f1,g8⟩:=jC hS a7;obtain⟨p1,b6,h8⟩:=jC hS i7;rw[<-hS.ev]at b6;obtain⟨a0,b0⟩:=fU (P:=P) hM h1 f1 g8;obtain⟨a1,b1⟩:=fU (P:=P) hM h2 b6 h8
  obtain⟨Z,hl,k3,e0⟩:∃Z,c.look F=some (.bar Z)/\n<=Z.length/\L=Z.take n:=by
   simp only[eJ]at a7;split at a7
   ·rename_i Z hl
    obtain⟨⟨_,e2⟩,e3⟩:=bJ a7;exact⟨Z,hl,by omega,by rw[<-e3];rfl⟩
   ·cases a7
  obtain⟨cp,k0,O,g7,b5,g5⟩:=h1.psl_invK;have h5:=lx (x:=x) E;have k9:=lx (x:=x) L;have b4:(E.map fun b=>Value.int .u8 b.toNat).length=E.length:=aC ..;have e9:(L.map fun b=>Value.int .u8 b.toNat).length=n:=by rw[aC,J]
  have j8:∀w':World,w'.heap=w.heap->(Builtin.firstCells 1 n (a.eval X)).run P w'= .ok (L.map fun b=>Value.int .u8 b.toNat).toArray w':=fun w' j6=>by have:=b0 n (by omega) w' j6;rwa[bh (by omega)]at this
  have k5:∀w':World,w'.heap=w.heap->(Builtin.firstCells 1 E.length (a.eval Y)).run P w'= .ok (E.map fun b=>Value.int .u8 b.toNat).toArray w':=fun w' j6=>by have:=b1 E.length (bc _) w' j6;rwa[ba]at this
  generalize (E.map fun b=>Value.int .u8 b.toNat)=ns at*;generalize (L.map fun b=>Value.int .u8 b.toNat)=os at*;have b7:s.look F=some (.bar Z):=(hS.look F).trans hl;obtain⟨cc,e,fl,fh,hO,⟨k7,f2, -⟩,b2⟩:=fp hM b7;simp only[aB.size]at k7 b2;have H:(aB.bar (L++E)).size=n+E.length:=by simp only[aB.size,ac,J]
  have W:=(hS.purge F (F+1)).app (d:=o.dst) hd (e:= {val:= .psl (k+100) 1 0 (n+E.length) none,new:=some (.bar (L++E))}) (f:= {pre:=True,val:= .psl (k+100) 1 0 (n+E.length) none,new:=some (.bar (L++E))}) ⟨rfl,rfl,rfl,rfl,rfl⟩ ⟨fun ob he=>by cases he;rfl,.inl rfl⟩;have i1:=ao.inj hc;subst i1;have d5:=I.ex;rw[g7]at d5 j8;have g9:=I.hn;rw[k6]at g9
  by_cases a6:n+E.length<=cp
  ·have c7:n+ns.length<=cc.size:=by
    rcases g5 with h0|h0
    ·omega
    ·omega
   obtain⟨q1,q2,q3,q4,q5⟩:=fQ ((x.bk F).1) ns w n;obtain⟨c2,h9,e4,h7⟩:=fr ns w n cc hO c7
   have j0:aL C x (s.setO F (.bar (L++E))) a (cr w ((x.bk F).1) n ns):=
    ⟨hM.tm,hM.defers,hM.heap.block (dh b7) q1 q2 q3 q4 q5 ⟨c2,e,fl,fh,h9,⟨by rw[H,e4];omega,by rw[e4];exact f2,fun h=>by cases h⟩,fun i hi=>by
     rw[H]at hi;rw[h7 i];show cy x.G (.u8 ((L++E).getD i 0)) _
     by_cases f0:n<=i
     ·rw[if_pos ⟨f0,by omega⟩]
      have:=h5.rep (i-n) (by rw[aC];omega);rw[fu _ _ (by omega:i-n<E.length)]at this;rw[aa,bo (by omega),J,<-aa];exact this
     ·rw[if_neg (fun h=>f0 h.1)]
      have h3:=b2 i (by omega);change cy x.G (.u8 (Z.getD i 0)) _ at h3;rw[aa,bi (by omega),e0,bG,if_pos (by omega),<-aa];exact h3⟩⟩
   have g6:=j0.move (d:=k+100) (by omega) (obj:= .bar (L++E)) (by show(setO F _ s.ob).lookup F=_;have h3:s.ob.lookup F=some (.bar Z):=b7;rw[jf,if_pos ⟨rfl,by rw[h3];rfl⟩]) (fun cs e=>by cases e)
   have j7:(s.setO F (.bar (L++E))).purge F (F+1)=s.purge F (F+1):=by simp only[St.purge,St.setO,kM]
   rw[j7]at g6;have g2:(x.newO (k+100) (x.bk F).1 (x.bk F).2).bk (k+100)=x.bk F:=if_pos rfl
   have hv:Rep (x.newO (k+100) (x.bk F).1 (x.bk F).2) (.psl (k+100) 1 0 (n+E.length) none) (.slice (some ⟨(x.bk F).1,O,none⟩) (n+E.length) cp):=by have:=Rep.psl (x:=x.newO (k+100) (x.bk F).1 (x.bk F).2) (k+100) 1 0 (n+E.length) none O cp b5 a6 (fun _ e=>by cases e) (fun _=>by rw[g2];exact g5);rw[g2]at this;exact this
   have i6:=g6.put o.dst hv
   have a8:=gL (P:=P) (t:=t) (u:=u) (ty:=o.type) (Y:=a.eval Y) (bs:=some ⟨(x.bk F).1,O,none⟩) (len:=n) (m:=E.length) (cap:=cp) (w1:=cr w ((x.bk F).1) n ns) I.hd I.hu e8 g9 (a1 w rfl) (k5 w rfl) a6 (by
    simp only[dD]
    by_cases j1:cp=0
    ·have:ns=[]:=bx.1 (by omega)
     rw[this];simp[storeCells,cr]
    ·rw[b5.resolve_left j1,jx,cd,js]
     exact fq n ns w cc 0 hO (by omega) h5.one)
   refine cY ⟨_,_,_,.value _, ?_,.inl rfl,i6⟩ (k:=Sim N _) ?_ hK
   ·rw[d5];simp only[ax,a8,ak,aE]
   ·rw[hk]at W ⊢
    exact W
  ·obtain⟨i,hi,j2⟩:=sQ I.hby
   obtain⟨zv,j5,j4⟩:=cN I.hz;obtain⟨nc,f6,a8⟩:=jd (P:=P) (t:=t) (u:=u) (ty:=o.type) (Y:=a.eval Y) (bs:=some ⟨(x.bk F).1,O,none⟩) (len:=n) (m:=E.length) (cap:=cp) (os:=os) (ns:=ns) I.hd I.hu e8 g9 hi j2 I.hb0 j4 a1 k5 j8 a6 d7;have j3:zv.cells.size=1:=by rw[<-aP,j5,<-k6];exact I.hzl.symm
   have b3:(os.toArray++ns.toArray++Builtin.zeroCells zv.cells (nc-(n+E.length))).size=nc:=by simp only[Array.size_append,List.size_toArray,eQ,j3,e9,b4];omega
   have h6:=(hM.purge F (F+1)).drew.newObjF (d:=k+100) o.dst (by omega) (.bar (L++E)) (cv:=os.toArray++ns.toArray++Builtin.zeroCells zv.cells (nc-(n+E.length))) (t:=el) (fl:=0) (fh:=0) (val:= .psl (k+100) 1 0 (n+E.length) none) (u:= .slice (some ⟨w.heap.size,0,none⟩) (n+E.length) nc) (fun i hi h=>by omega) (by
    rw[H,b3];exact f6) (fun i hi=>by
    rw[H]at hi;show cy x.G (.u8 ((L++E).getD i 0)) _;rw[bl,jh os ns _ i (by rw[e9,b4];omega)]
    by_cases f0:i<n
    ·rw[bi (by omega),<-aa]
     have:=k9.rep i (by rw[aC];omega);rw[fu _ _ (by omega:i<L.length)]at this;rw[aa (l:=L++E),bi (by omega),<-aa];exact this
    ·rw[bo (by omega),e9,<-aa]
     have:=h5.rep (i-n) (by rw[aC];omega);rw[fu _ _ (by omega:i-n<E.length)]at this;rw[aa (l:=L++E),bo (by omega),J,<-aa];exact this) (fun h _=>by cases h) (by
    have:=Rep.psl (x:=x.newO (k+100) w.drew.heap.size (os.toArray++ns.toArray++Builtin.zeroCells zv.cells (nc-(n+E.length))).size) (k+100) 1 0 (n+E.length) none 0 nc (.inr (by omega)) f6 (fun _ e=>by cases e) (fun _=> .inr (by rw[nG,b3];omega));rw[jm]at this;exact this) (w':=w.drew.alloc (.cells (os.toArray++ns.toArray++Builtin.zeroCells zv.cells (nc-(n+E.length))) el (0,0))) rfl rfl rfl rfl
   refine cY ⟨_,_,_,.value _, ?_,.inl rfl,h6⟩ (k:=Sim N _) ?_ hK
   ·rw[d5];simp only[ax,a8,ak,aE]
   ·rw[hk]at W ⊢
    exact W
theorem pH{o:Oper}{z:t6}{e2:Nat}{r q:Arg}(h:M C N c a w)(J:bv P o=some (.app z e2 r q))(hd:∀k,o.dst=some k->k<N)(F:se c o.dst z e2 q (c.ev r)=some c'){K:LAf}{Q:LAe}(hK:∀a w,M C N c' a w->K a w):o.wp P a w K Q:=by
 by_cases b6:∃o' sz n,c.ev r= .psl o' sz 0 n none
 ·obtain⟨o',sz,n,hx⟩:=b6
  rw[hx]at F;exact xI h J hd hx F hK
 obtain⟨x,s,hM,hS⟩:=h;obtain⟨cl,ho,hb⟩:=xej J;simp only[bv,ho,hb]at J;split at J<;>try (cases J;done)
 rename_i X Y t u hX ht;split at J<;>try (cases J;done)
 rename_i el d2 r' q' b5 hu e9 f1;split at J<;>try (cases J;done)
 rename_i n f2 z' hn hby hz
 rw[aH]at J;obtain⟨b1,J⟩:=J;simp only[aw,decide_eq_true_eq]at b1;obtain⟨⟨hb0,hn0⟩,e5⟩:=b1;obtain⟨zs,e8,g7,_⟩:=jU hz;have hzl:zs.length=n:=by omega
 obtain⟨b4,rfl,rfl,rfl,rfl⟩:((∃e',d2= .slice e')\/d2= .string)/\z'=z/\f2=e2/\r'=r/\q'=q:=by
  split at J<;>try (cases J;done)
  ·cases J;exact⟨.inl ⟨_,rfl⟩,rfl,rfl,rfl,rfl⟩
  ·rw[aH]at J
   obtain⟨_,J⟩:=J;cases J;exact⟨.inr rfl,rfl,rfl,rfl,rfl⟩
 have Z:=aK hM e9;have h2:=aK hM f1;have ea:cl.args= #[X,Y]:=by apply eK;simpa using hX
 have et:cl.argTypes= #[t,u]:=by apply eK;simpa using ht
 have e1:=gx (a:=a) ho hb _ rfl;rw[ea,et]at e1;have em: #[X,Y].map a.eval= #[a.eval X,a.eval Y]:=by simp
 rw[em]at e1
 have W:∀{v w'},(Builtin.append_ #[t,u] o.type #[a.eval X,a.eval Y]).run P w= .ok v w'->(execOp a.eval o).run P w= .ok (.value v) w':=by intro v w' E;rw[e1];simp[E]
 rw[hS.ev]at Z
 have e7:∀{k nc cv}(obj:aB)(sz m:Nat),o.dst=some k->m<=nc->(Builtin.append_ #[t,u] o.type #[a.eval X,a.eval Y]).run P w= .ok (.slice (some ⟨w.heap.size,0,none⟩) m nc) (w.drew.alloc (.cells cv el (0,0)))->
  obj.size<=cv.size->nc*sz<=cv.size->(∀i,i<obj.size->cx x obj i (cv.getD i undef))->obj.wf=true->c'=c.app (some k) {val:= .psl (k+100) sz 0 m none,new:=some obj}->o.wp P a w K Q:=by
  intro k nc cv obj sz m hk a7 E a6 g8 H g6 f0;subst f0
  have g5:=hM.drew.newObjF (d:=k+100) o.dst (by omega) obj (cv:=cv) (t:=el) (fl:=0) (fh:=0) (val:= .psl (k+100) sz 0 m none) (u:= .slice (some ⟨w.heap.size,0,none⟩) m nc) (fun i hi h=>by omega) a6 H (fun _ h=>by omega) (by have:=Rep.psl (x:=x.newO (k+100) w.drew.heap.size cv.size) (k+100) sz 0 m none 0 nc (.inr (by omega)) a7 (fun _ e=>by cases e) (fun _=> .inr (by rw[nG];omega));rw[jm]at this;exact this) (w':=w.drew.alloc (.cells cv el (0,0))) rfl rfl rfl rfl
  refine cY ⟨_,_,_,_,W E,.inl rfl,g5⟩ (k:=Sim N _) ?_ hK;have:=hS.app hd (e:= {val:= .psl (k+100) sz 0 m none,new:=some obj}) (f:= {pre:=True,val:= .psl (k+100) sz 0 m none,new:=some obj}) ⟨rfl,rfl,rfl,rfl,rfl⟩ ⟨fun ob he=>by cases he;exact g6,.inl rfl⟩;rw[hk]at this ⊢;exact this
 unfold se at F;split at F<;>try (cases F;done)
 ·rename_i l tk hl
  rw[aH]at F;obtain⟨rfl,F⟩:=F;unfold Rn at F;split at F<;>try (cases F;done)
  rename_i k l' hk c7;split at F<;>try (cases F;done)
  rename_i e4;have e4:z'.length=1:=Classical.not_not.1 e4;obtain rfl:n=1:=by omega
  obtain⟨p,O,d6⟩:=jC hS c7;rw[<-hS.ev]at O;rw[hl]at Z;obtain⟨g1,g2⟩:=fU (P:=P) hM h2 O d6;obtain⟨_,_,_,_,_,b3⟩:=Z.byt_inv;obtain⟨cap,hF,_⟩:=wy (Z.data rfl)
  by_cases I:l'=[]
  ·rw[if_pos I]at F
   cases F;subst I
   obtain⟨bs,d7⟩:∃bs,a.eval X= .slice bs l.length cap:=by
    rcases hF.2.2 with⟨b,off,h,_⟩|⟨h,Z,h2⟩
    ·exact⟨_,h⟩
    ·exact⟨_,by rw[h.choose_spec,Z,h2]⟩
   have a8:=lE hF b3;rw[d7]at Z W
   have E:=gL (P:=P) (t:=t) (u:=u) (ty:=o.type) (Y:=a.eval Y) (ns:=[]) (w:=w) (w1:=w) (m:=0) (bs:=bs) (len:=l.length) (cap:=cap) b5 hu b4 hn (g1 w rfl) (by have:=g2 0 (bc _) w rfl;simpa using this) (by omega) (by cases bs<;>rfl)
   refine cY ⟨_,_,_,_,W E,.inl rfl,hM.put o.dst Z⟩ (k:=Sim N _) ?_ hK;have:=hS.put hd (.byt l .clip);rw[hk]at this ⊢;exact this
  ·rw[if_neg I]at F
   rw[aH]at F;obtain⟨⟨rfl,b2⟩,F⟩:=F;have a8:=lE hF b3;have e6:0<l'.length:=nq.2 I
   obtain⟨nc,cv,a7,E,a6,H⟩:=sR (ty:=o.type) hM b5 hu b4 hn hby e8 hb0 hzl hF g1 (fun w' e0=>by have:=g2 l'.length (bc _) w' e0;rwa[ba]at this) (by simp) (lx l') (by omega) (by omega)
   refine e7 (.bar (l++l')) 1 _ hk a7 E (by simp only[aB.size];simpa using a6.1) a6.2 (fun i hi=> ?_) rfl (ao.inj F).symm;simp only[aB.size]at hi;have:=H i (by simpa using hi);rw[<-cz,fu _ _ hi]at this;exact this
 ·rename_i sz l tk hl
  rw[aH]at F;obtain⟨rfl,F⟩:=F;unfold Rm at F;split at F<;>try (cases F;done)
  rename_i k l' hk c7;obtain⟨p,O,d6⟩:=kW hS c7;rw[<-hS.ev]at O;rw[hl]at Z;obtain⟨a1,g1,ns,b7,g2⟩:=iE (P:=P) hM h2 O d6;obtain⟨_,_,_,_,_,b3⟩:=Z.lst_inv;obtain⟨cap,hF,_,d5⟩:=qT (Z.data rfl)
  by_cases I:l'=[]
  ·rw[if_pos I]at F
   cases F;subst I
   obtain⟨bs,d7⟩:∃bs,a.eval X= .slice bs l.length cap:=by
    rcases hF.2.2 with⟨b,off,h,_⟩|⟨h,Z,h2⟩
    ·exact⟨_,h⟩
    ·exact⟨_,by rw[h.choose_spec,Z,h2]⟩
   have a8:=lE hF b3;rw[d7]at Z W
   have E:=gL (P:=P) (t:=t) (u:=u) (ty:=o.type) (Y:=a.eval Y) (ns:=[]) (w:=w) (w1:=w) (m:=0) (bs:=bs) (len:=l.length) (cap:=cap) b5 hu b4 hn (g1 w rfl) (by have:=g2 0 (bc _) w rfl;rw[e5]at this;simpa using this) (by omega) (by cases bs<;>rfl)
   refine cY ⟨_,_,_,_,W E,.inl rfl,hM.put o.dst Z⟩ (k:=Sim N _) ?_ hK;have:=hS.put hd (.lst sz l .clip);rw[hk]at this ⊢;exact this
  ·rw[if_neg I]at F
   rw[aH]at F;obtain⟨⟨rfl,b2⟩,F⟩:=F;obtain rfl:n=z'.length:=by omega
   have a8:=lE hF b3;have e6:0<l'.length:=nq.2 I;have e3:ns.length=l'.length*z'.length:=by rw[<-b7.len,bL a1]
   obtain⟨nc,cv,a7,E,a6,H⟩:=sR (ty:=o.type) hM b5 hu b4 hn hby e8 hb0 hzl hF g1 (fun w' e0=>by have:=g2 l'.length (bc _) w' e0;rwa[<-e3,ba]at this) e3 b7 b2 (by omega)
   have L:∀y∈l++l',y.length=z'.length:=fun y hy=>(an.1 hy).elim (d5 y) (a1 y)
   have f6:(l++l').length*z'.length=(l.flatten++l'.flatten).length:=by rw[<-cj,bL L]
   refine e7 (.arr z'.length (l++l')) z'.length _ hk a7 E (by simp only[aB.size];omega) a6.2 (fun i hi=> ?_) (jF.2 L) (ao.inj F).symm;simp only[aB.size]at hi;have:=H i (by omega);rw[<-cj,cQ _ L i hi]at this;exact this
 ·rename_i o' sz n hl
  exact absurd ⟨o',sz,n,hl⟩ b6
theorem si(I:gT P call){o:Oper}{so:SOp}(h:M C N c a w)(H:rO P o so.er)(hd:∀k,o.dst=some k->k<N)(E:opC call sg c o.dst so=some c'){K:LAf}{Q:LAe}(hK:∀a w,M C N c' a w->K a w):o.wp P a w K Q:=by
 by_cases W:∃z b q y,so= .appO z b q y
 ·obtain⟨z,b,q,y,rfl⟩:=W
  exact pH h (H.old (by intro J e;cases e)) hd E hK
 have b2:so.er=so:=by cases so<;>first|rfl|exact absurd ⟨_,_,_,_,rfl⟩ W
 rw[b2]at H
 by_cases O:∃J,so= .newB J
 ·obtain⟨J,rfl⟩:=O
  rcases H with L|⟨ys,e,L⟩
  ·exact(Fp L).elim
  ·cases e
   exact pK h L hd E hK
 have L:=H.old fun J e=>O ⟨J,e⟩
 by_cases Z:∃q,so= .slid q
 ·obtain⟨q,rfl⟩:=Z
  exact xd h L hd E hK
 by_cases a1:∃f a_,so= .call f a_
 ·obtain⟨f,a_,rfl⟩:=a1
  simp only[opC]at E;split at E<;>try (cases E;done)
  rename_i g c1 c2 hg;obtain⟨x,s,hM,hS⟩:=h;obtain⟨cl,F,ho,hb,h1,h2,h3⟩:=Gq L;obtain⟨b4,b3,k',q',a8⟩:=yb E;have b1:eX P g=true:=(I _ _ _ _ _ a8).1;obtain⟨vs,a6,a7⟩:=DF hM ho hb h1 h2 h3 (by rw[hS.ev];exact hg) b1;rw[<-hS.evL]at a7;exact vk a6 (vA hM hS hd (I g) E a7) hK
 ·refine xfJ h L hd ?_ hK
  cases so with
  |call f a_=>exact absurd ⟨f,a_,rfl⟩ a1
  |newB J=>exact absurd ⟨J,rfl⟩ O
  |slid q=>exact absurd ⟨q,rfl⟩ Z
  |appO z b q y=>exact absurd ⟨_,_,_,_,rfl⟩ W
  |_=>exact E
theorem xJ{o:Oper}{J:Nat}{y:List Arg}(h:M C N c a w)(I:bv P o=some (.lit J y))(hd:∀k,o.dst=some k->k<N)(hc:Rl c J (evL c y) o.dst (rows J (evL c y))=some c'){K:LAf}{Q:LAe}(hK:∀a w,M C N c' a w->K a w):o.wp P a w K Q:=by
 obtain⟨x,s,hM,hS⟩:=h;rw[hS.evL]at hc
 obtain⟨t,len,z,ho⟩:∃t len z,o.op= .buildSlice t len z:=by
  cases ho:o.op with
  |buildSlice t len z=>exact⟨t,len,z,rfl⟩
  |_=>exfalso;exact absurd I (by
   intro I;simp only[bv,ho]at I
   first
    |(cases I;done)
    |(obtain⟨_,_,h⟩:=ae.1 I;cases h;done)
    |(repeat' split at I)<;>first|(cases I;done)|contradiction|(obtain⟨_,_,h⟩:=ae.1 I;first|(cases h;done)|(split at h<;>cases h;done)))
 unfold Rl at hc;split at hc<;>try (cases hc;done)
 rotate_left
 ·rename_i k hk hl
  obtain⟨⟨rfl,a1⟩,rfl⟩:=bJ hc;have L:(y.map s.ev).length=y.length:=aC ..
  have F:∀i,i<(y.map s.ev).length->((y.map s.ev).getD i .undef).one=true:=fun i hi=>by rw[aa,ab hi];exact aI.1 a1 _ (aU _)
  have W:∀v:SV,v.one=true->v.isDef=true/\v.cells=[v]:=fun v hv=>by cases v<;>first|(simp[SV.one]at hv;done)|exact⟨rfl,rfl⟩
  obtain⟨r,e,H,a6,E⟩:=pu hM ho I (fun i hi=>⟨(W _ (F i hi)).1,by rw[(W _ (F i hi)).2];rfl⟩)
  have Z:=hM.newObj (cv:=r) (d:=k+100) o.dst (by omega) (.rc (y.map s.ev)) (val:= .psl (k+100) 1 0 (y.map s.ev).length (some (y.map s.ev).length)) (u:= .slice (some ⟨w.heap.size,0,none⟩) y.length y.length) (t:=e) (by simp only[aB.size,L];omega) (fun i hi=>by
   simp only[aB.size,L]at hi;have h1:=E i (by omega);rw[Nat.div_one,Nat.mod_one,(W _ (F i (by omega))).2]at h1;exact h1) (by
   have:=Rep.psl (x:=x.newO (k+100) w.heap.size) (k+100) 1 0 y.length (some y.length) 0 y.length (.inr (by omega)) (bc _) (fun _ e=>by cases e;rfl) (fun e=>by cases e);rw[jm]at this;rw[L];exact this)
  refine cY ⟨_,_,_,_,H,.inl rfl,Z⟩ (k:=Sim N _) ?_ hK;have:=hS.app hd (e:= {val:= .psl (k+100) 1 0 (y.map s.ev).length (some (y.map s.ev).length),new:=some (.rc (y.map s.ev))}) (f:= {pre:=True,val:= .psl (k+100) 1 0 (y.map s.ev).length (some (y.map s.ev).length),new:=some (.rc (y.map s.ev))}) ⟨rfl,rfl,rfl,rfl,rfl⟩ ⟨fun ob he=>by cases he;rfl,.inl rfl⟩;rw[hk]at this ⊢;exact this
 rename_i k l hk hl;cases hc;obtain⟨r,e,H,a6,O,E⟩:=xo hM ho I hl
 have Z:=hM.newObj (d:=k+100) o.dst (by omega) (.arr J l) (val:= .psl (k+100) J 0 l.length (some l.length)) (u:= .slice (some ⟨w.heap.size,0,none⟩) l.length l.length) (t:=e) (by simp only[aB.size];omega) (fun i hi=>E i hi) (by have:=Rep.psl (x:=x.newO (k+100) w.heap.size) (k+100) J 0 l.length (some l.length) 0 l.length (.inr (by omega)) (bc _) (fun _ e=>by cases e;rfl) (fun e=>by cases e);rwa[jm]at this)
 refine cY ⟨_,_,_,_,H,.inl rfl,Z⟩ (k:=Sim N _) ?_ hK;have:=hS.app hd (e:= {val:= .psl (k+100) J 0 l.length (some l.length),new:=some (.arr J l)}) (f:= {pre:=True,val:= .psl (k+100) J 0 l.length (some l.length),new:=some (.arr J l)}) ⟨rfl,rfl,rfl,rfl,rfl⟩ ⟨fun ob he=>by cases he;exact jF.2 O,.inl rfl⟩;rw[hk]at this ⊢;exact this
theorem xH{ops:Array Oper}{n:Nat}{o:Oper}{i:SI}(h:M C N c a w)(hi:i.ok N=true)(ho:ops[n]? =some o)(W:gM P ops o=some i)(F:tK c i=some c'){K:LAf}{Q:LAe}
 (I:∀a w,M C N c' a w->K a w):wpOp P ops Q n K a w:=by
 obtain⟨J,h2,h3⟩:=lu W
 have hd:∀k,i.dst=some k->k<N:=by intro k Z;unfold SI.ok at hi;rw[Z]at hi;simpa using hi
 unfold wpOp;rw[ho];simp only;unfold tK at F;split at F<;>try (cases F;done)
 rename_i O;rcases h3 with⟨_,L⟩|⟨j,b,g,hg',_⟩
 ·rw[kL L,if_pos rfl]
  rw[h2]at F hd;left;unfold xkK at F;split at F<;>try (cases F;done)
  ·rename_i sz H E
   exact xJ h (J.old (fun H e=>by rw[e]at E;cases E)|>fun e=>by rw[E]at e;exact e) hd F I
  ·rename_i H E
   exact pK h (J.old (fun H e=>by rw[e]at E;cases E)|>fun e=>by rw[E]at e;exact e) hd F I
  ·rename_i q E
   exact xK h (J.old (fun H e=>by rw[e]at E;cases E)|>fun e=>by rw[E]at e;exact e) hd F I
  ·rename_i z a1 q y E
   exact pH h (J.old (fun H e=>by rw[e]at E;cases E)|>fun e=>by rw[E]at e;exact e) hd F I
 ·rw[O]at hg';cases hg'
theorem wV{ops:Array Oper}{n:Nat}{o:Oper}{i:SI}(h:M C N c a w)(hi:i.ok N=true)(J:ops[n]? =some o)(H:gM P ops o=some i)(y:Ax c i=some c'){K:LAf}{Q:LAe}
 (O:∀a w,M C N c' a w->K a w):wpOp P ops Q n K a w:=by
 obtain⟨W,L,Z⟩:=lu H
 have hd:∀k,i.dst=some k->k<N:=by intro k I;unfold SI.ok at hi;rw[I]at hi;simpa using hi
 unfold wpOp;rw[J];simp only;unfold Ax at y;split at y<;>try (cases y;done)
 rename_i F;rcases Z with⟨_,E⟩|⟨j,b,g,hg',_⟩
 ·rw[kL E,if_pos rfl]
  rw[L]at y hd;left;unfold xiY at y;split at y<;>try (cases y;done)
  ·rename_i q z
   exact wW h (W.old (fun xs e=>by rw[e]at z;cases z)|>fun e=>by rw[z]at e;exact e) hd y O
 ·rw[F]at hg';cases hg'
theorem gW(E:gT P call){ops:Array Oper}{n:Nat}{o:Oper}{i:SI}(h:M C N c a w)(hi:i.ok N=true)(ho:ops[n]? =some o)(hr:gM P ops o=some i.er)(y:eB call sg c i=some c'){K:LAf}{Q:LAe}
 (L:∀a w,M C N c' a w->K a w):wpOp P ops Q n K a w:=by
 obtain⟨W,F,h3⟩:=lu hr;change rO P o i.op.er at W;change i.dst=o.dst at F;change (i.g=none/\o.guard=none\/∃j b g,i.g=some (g,b)/\o.guard=some (j,b)/\(ops[j]?).bind (·.dst)=some g)at h3
 have hd:∀k,i.dst=some k->k<N:=by intro k hk;unfold SI.ok at hi;rw[hk]at hi;simpa using hi
 unfold wpOp;rw[ho];simp only;unfold eB at y;rcases h3 with⟨O,z⟩|⟨j,b,g,O,z,hdg⟩
 ·rw[O]at y
  rw[kL z,if_pos rfl];rw[F]at y hd;exact .inl (si E h W hd y L)
 ·rw[O]at y
  simp only at y;split at y<;>try (cases y;done)
  rotate_left
  ·rename_i Z
   cases y;obtain⟨x,s,I,J⟩:=h;rw[vn z hdg (F1 I J Z),if_neg (by simp)];rw[F]at hd;rw[F]at L;exact L _ _ ⟨x,_,I.put o.dst vQ,J.put hd _⟩
  rename_i t Z;have hv:a.tmps[g]? =some (.bool t):=by obtain⟨x,s,I,J⟩:=h;exact F0 I J Z
  rw[vm z hdg hv];split at y
  ·rename_i H
   subst H;rw[if_pos (by simp)];rw[F]at y hd;exact .inl (si E h W hd y L)
  ·rename_i H
   cases y;rw[if_neg (by simpa using H)];obtain⟨x,s,I,J⟩:=h;rw[F]at hd;rw[F]at L;exact L _ _ ⟨x,_,I.put o.dst vQ,J.put hd _⟩
theorem jQ(y:gT P call){ops:Array Oper}{n:Nat}{o:Oper}{i:SI}(h:M C N c a w)(hi:i.ok N=true)(E:ops[n]? =some o)(z:gM P ops o=some i)(H:eB call sg c i=some c'){K:LAf}{Q:LAe}
 (F:∀a w,M C N c' a w->K a w):wpOp P ops Q n K a w:=gW y h hi E (by rw[xhp z];exact z) H F
theorem ii{d:t8}{g:Nat}{t:Bool}{v:SV}(hd:d≠some g)(h:c.get g= .bool t):(c.put d v).get g= .bool t:=by
 cases d with
 |none=>exact h
 |some k=>rw[io,if_neg (fun e=>hd (by rw[e]))];exact h
theorem Do{d:t8}{g:Nat}{u v:SV}(hd:d≠some g)(h:c.get g=u):(c.put d v).get g=u:=by
 cases d with
 |none=>exact h
 |some k=>rw[io,if_neg (fun e=>hd (by rw[e]))];exact h
theorem iN{g lo hi:Nat}{t:Bool}{l:List (Nat×SV)}(h:fo l g= .bool t):fo (dj lo hi l) g= .bool t:=by rw[gO,h];rfl
theorem jL{d:t8}{g:Nat}{t:Bool}{e:o7}(hd:d≠some g)(h:c.get g= .bool t):(c.app d e).get g= .bool t:=by
 have wr:∀(l:List (Nat×aB))(c:CSt),(c.wr l).tm=c.tm:=by
  intro l;induction l with
  |nil=>intro c;rfl
  |cons p r y=>intro c;simp only[CSt.wr];rw[y]
 unfold CSt.app;split
 ·exact ii (c:=⟨_,_,_⟩) hd (iN h)
 ·exact ii (c:=⟨_,_,_⟩) hd (iN h)
 ·refine ii hd ?_
  show fo (c.wr e.wr).tm g=_;rw[wr];exact h
theorem pP{d:t8}{g:Nat}{t:Bool}{m mt:t7}{q:eg}(hd:d≠some g)(h:c.get g= .bool t):(kD c d m mt q).get g= .bool t:=ii (c:=⟨_,_,_⟩) hd (iN h)
theorem my{g o:Nat}{t:Bool}{vs:t6}(h:c.get g= .bool t):(c.publish o vs).1.get g= .bool t:=by
 have k:∀obj,fo (mu o obj c.tm) g= .bool t:=fun obj=>by rw[lg];have:fo c.tm g= .bool t:=h;rw[this];rfl
 unfold CSt.publish;split
 ·exact k _
 ·exact k _
 ·exact h
theorem ou{g:Nat}{t:Bool}:∀{l:t7}{c:CSt}{vs:t6},c.get g= .bool t->(fE c vs l).1.get g= .bool t
 |[],_,_,h=>h
 |o::r,c,vs,h=>by show(fE (c.publish o vs).1 (c.publish o vs).2 r).1.get g=_;exact ou (my h)
theorem Dq{sg:Sig}{d:t8}{g n:Nat}{a_:t6}{t:Bool}(y:iP call sg c d n a_=some c')(hd:d≠some g)(h:c.get g= .bool t):c'.get g= .bool t:=by
 unfold iP at y;generalize ((SV.idsL a_).isEmpty&&sg.own.isEmpty)=b at y;cases b with
 |true=>
  simp only[kB]at y;cases hq:call n (SV.bareL a_) [] 0 with
  |none=>rw[hq]at y;cases y
  |some q=>
   rw[hq]at y;simp only[m9]at y;cases hb:q.bare with
   |true=>rw[hb]at y;cases y;exact ii hd h
   |false=>
    rw[hb]at y;simp only[oO]at y;cases hs:q.small with
    |true=>rw[hs]at y;cases y;exact pP hd h
    |false=>rw[hs]at y;cases y
 |false=>
  simp only[kB]at y;have L:=ou (l:=jy sg.raw 0 a_) (vs:=a_) h;generalize fE c a_ (jy sg.raw 0 a_)=z at y L;obtain⟨c1,I⟩:=z;simp only[ku]at y;generalize kG c1.tk sg.own 50 0 I=z at y;obtain⟨E,F⟩:=z;simp only[oG]at y;generalize eD c1 60 [] (SV.idsL E)=m at y;cases ho:looks c1 m with
  |none=>rw[ho]at y;cases y
  |some J=>
   rw[ho]at y;simp only[l4]at y;generalize eS c1.tk (50+F.length) J=z at y;obtain⟨os,H⟩:=z;simp only[oF]at y;generalize (pe (SV.idsL E++gw os) m&&ec m&&ec (cJ (F++H))&&decide (m.length<=40)&&m.all fun o=> !inR (d.getD 0) o)=b at y;cases b with
   |false=>cases y
   |true=>
    simp only[oE]at y;cases hq:call n (SV.renL (ij m) id E) (fe (ij m) id os) (F.length+H.length)with
    |none=>rw[hq]at y;cases y
    |some q=>
     rw[hq]at y;simp only[po]at y;cases hs:q.small with
     |true=>rw[hs]at y;cases y;exact pP hd L
     |false=>rw[hs]at y;cases y
theorem Dp{d:t8}{g:Nat}{z:t6}{b:Nat}{y:Arg}{v:SV}{t:Bool}(E:se c d z b y v=some c')(hd:d≠some g)(h:c.get g= .bool t):c'.get g= .bool t:=by
 unfold se at E;split at E<;>try (cases E;done)
 ·split at E<;>try (cases E;done)
  unfold Rn at E;split at E<;>try (cases E;done)
  split at E<;>try (cases E;done)
  split at E
  ·cases E;exact ii hd h
  ·split at E<;>try (cases E;done)
   cases E;exact jL hd h
 ·split at E<;>try (cases E;done)
  unfold Rm at E;split at E<;>try (cases E;done)
  split at E
  ·cases E;exact ii hd h
  ·split at E<;>try (cases E;done)
   cases E;exact jL hd h
 ·unfold Nr at E
  split at E<;>try (cases E;done)
  ·split at E<;>try (cases E;done)
   cases E;exact jL hd (iN h)
  ·split at E<;>try (cases E;done)
   cases E;exact jL hd (iN h)
theorem RJ{d:t8}{g:Nat}{o:SOp}{t:Bool}(E:opC call sg c d o=some c')(hd:d≠some g)(h:c.get g= .bool t):c'.get g= .bool t:=by
 have e:ox c d (eM c d o)=some c'->c'.get g= .bool t:=by
  intro E;cases he:eM c d o with
  |none=>rw[he]at E;cases E
  |some e=>rw[he]at E;cases E;exact jL hd h
 cases o with
 |call f a_=>
  simp only[opC]at E;split at E<;>try (cases E;done)
  exact Dq E hd h
 |appO z b q y=>exact Dp E hd h
 |newB F=>
  simp only[opC]at E;unfold oM at E;split at E<;>try (cases E;done)
  cases E;exact jL hd h
 |slid q=>
  simp only[opC]at E;unfold rB at E;split at E<;>try (cases E;done)
  unfold pq at E;split at E<;>try (cases E;done)
  split at E<;>try (cases E;done)
  cases E;exact ii hd (my h)
 |_=>exact e E
theorem vX{g:Nat}{b:Bool}{i:SI}(h:i.okG N g b=true):(∀k,i.dst=some k->k<N)/\i.g=some (g,b)/\i.dst≠some g:=by
 simp only[SI.okG,aw,decide_eq_true_eq]at h;obtain⟨⟨z,y⟩,H⟩:=h;refine⟨fun k F=> ?_, ?_,H⟩
 ·unfold SI.ok at z;rw[F]at z;simpa using z
 ·split at y
  ·rename_i I J E
   simp only[aw,decide_eq_true_eq,beq_iff_eq]at y;rw[E,y.1,y.2]
  ·cases y
theorem Dh(L:gT P call){ops:Array Oper}{y E:LAc}(hl:kf (gM P ops) ops.toList=some y){Q:LAe}{g:Nat}{b:Bool}{c1:CSt}
 (a7:∀(m n:Nat),n+m=ops.size->E=y.drop n->∀a w,M C N c1 a w->wpOps P ops Q (List.range' n m) a w):
 ∀(l:LAc)(m n:Nat)(c:CSt)(a:Act)(w:World),n+m=ops.size->l++E=y.drop n->(∀i∈l,i.okG N g b=true)->M C N c a w->c.get g= .bool b->plC call sg l c=some c1->wpOps P ops Q (List.range' n m) a w:=by
 obtain⟨J,I⟩:=fG hl;intro l;induction l with
 |nil=>intro m n c a w hn H _ hM _ z;rw[Np]at z;cases z;exact a7 m n hn H a w hM
 |cons i l Z=>
  intro m n c a w hn H W hM ht z;obtain⟨g1,g2,g3⟩:=vX (W i (aq ..));simp only[br]at H
  have F:n<y.length:=by
   rcases bP n y.length with h|h
   ·exact h
   ·rw[ct h]at H;cases H
  rw[aF F]at H;obtain⟨a6,b1⟩:=bp.inj H;have O:n<ops.toList.length:=by omega
  obtain⟨m',rfl⟩:∃m',m=m'+1:=⟨m-1,by rw[J,aP]at F;omega⟩;simp only[List.range'_succ];rw[wpOps_cons];rw[plC]at z;cases h1:opC call sg c i.dst i.op with
  |none=>rw[h1,B9]at z;cases z
  |some c2=>
   rw[h1,B8]at z;have a8:eB call sg c i=some c2:=by unfold eB;rw[g2];simp only[ht,if_true];exact h1
   have a1:i.ok N=true:=by
    unfold SI.ok;cases hdd:i.dst with
    |none=>rfl
    |some k=>simpa using g1 k hdd
   refine jQ L hM a1 (o:=ops.toList[n]) (by rw[<-dA,ab O]) (by rw[a6];exact I n O F) a8 ?_;intro a' w' b2;exact Z m' (n+1) c2 a' w' (by omega) b1 (fun j hj=>W j (af _ hj)) b2 (RJ h1 g3 ht) z
theorem rT(J:gT P call){ops:Array Oper}{y z:LAc}(hl:kf (gM P ops) ops.toList=some y){Q:LAe}{g:Nat}{b:Bool}{v:SV}(a7:v= .tup []\/∃t,v= .bool t/\t≠b){c1:CSt}
 (a6:∀(m n:Nat),n+m=ops.size->z=y.drop n->∀a w,M C N c1 a w->wpOps P ops Q (List.range' n m) a w):
 ∀(l:LAc)(m n:Nat)(c:CSt)(a:Act)(w:World),n+m=ops.size->l++z=y.drop n->(∀i∈l,i.okG N g b=true)->M C N c a w->c.get g=v->unL c l=c1->wpOps P ops Q (List.range' n m) a w:=by
 obtain⟨I,H⟩:=fG hl;intro l;induction l with
 |nil=>intro m n c a w hn F _ hM _ hs;cases hs;exact a6 m n hn F a w hM
 |cons i l W=>
  intro m n c a w hn F O hM ht hs;obtain⟨g1,g2,g3⟩:=vX (O i (aq ..));simp only[br]at F
  have E:n<y.length:=by
   rcases bP n y.length with h|h
   ·exact h
   ·rw[ct h]at F;cases F
  rw[aF E]at F;obtain⟨a1,b1⟩:=bp.inj F;have L:n<ops.toList.length:=by omega
  obtain⟨m',rfl⟩:∃m',m=m'+1:=⟨m-1,by rw[I,aP]at E;omega⟩;simp only[List.range'_succ];rw[wpOps_cons]
  have a8:eB call (fun _=> {}) c i=some (c.put i.dst (.tup [])):=by
   unfold eB;rw[g2];simp only[ht];rcases a7 with rfl|⟨t,rfl,htb⟩
   ·rfl
   ·simp only[htb,if_false]
  have Z:i.ok N=true:=by
   unfold SI.ok;cases hdd:i.dst with
   |none=>rfl
   |some k=>simpa using g1 k hdd
  refine jQ J hM Z (o:=ops.toList[n]) (by rw[<-dA,ab L]) (by rw[a1];exact H n L E) a8 ?_;intro a' w' b2;exact W m' (n+1) _ a' w' (by omega) b1 (fun j hj=>O j (af _ hj)) b2 (Do g3 ht) hs
theorem xL(a1:gT P call){ops:Array Oper}{y:LAc}(hl:kf (gM P ops) ops.toList=some y){Q:LAe}:
 ∀(l:List RI)(m n:Nat),n+m=ops.size->erL l=y.drop n->l.all (RI.ok N)=true->∀{c:CSt}{a:Act}{w:World},M C N c a w->gA call sg l c=some c'->(∀a w,M C N c' a w->Q .normal a w)->wpOps P ops Q (List.range' n m) a w:=by
 obtain⟨Z,a7⟩:=fG hl;intro l;induction l with
 |nil=>
  intro m n hn E _ c a w hM z hQ;have h1:y.length<=n:=List.drop_eq_nil_iff.1 E.symm;rw[Z,aP]at h1;have:m=0:=by omega
  subst this;simp only[List.range'_zero,wpOps];rw[B3]at z;cases z;exact hQ _ _ hM
 |cons q r ih=>
  intro m n hn E b3 c a w hM z hQ;rw[fV,aw]at b3;obtain⟨O,I⟩:=b3;cases q with
  |dir q=>
   rw[B5]at z;cases hd:rz c q with
   |none=>rw[hd,lP]at z;cases z
   |some c1=>rw[hd,lO,qL]at z;exact ih m n hn E I (pX hM hd) z hQ
  |own i F=>
   rw[B1]at z;simp only[erL]at E
   have H:n<y.length:=by
    rcases bP n y.length with h|h
    ·exact h
    ·rw[ct h]at E;cases E
   rw[aF H]at E;obtain⟨a6,a8⟩:=bp.inj E;have W:n<ops.toList.length:=by omega
   obtain⟨m',rfl⟩:∃m',m=m'+1:=⟨m-1,by rw[Z,aP]at H;omega⟩;simp only[List.range'_succ];rw[wpOps_cons];cases hs:tK c i with
   |none=>rw[hs,lP]at z;cases z
   |some c1=>rw[hs,lO]at z;refine xH hM O (o:=ops.toList[n]) (by rw[<-dA,ab W]) (by rw[a6];exact a7 n W H) hs ?_;intro a' w' L;exact ih m' (n+1) (by omega) a8 I (L.kill F) z hQ
  |tks i F=>
   rw[B0]at z;simp only[erL]at E
   have H:n<y.length:=by
    rcases bP n y.length with h|h
    ·exact h
    ·rw[ct h]at E;cases E
   rw[aF H]at E;obtain⟨a6,a8⟩:=bp.inj E;have W:n<ops.toList.length:=by omega
   obtain⟨m',rfl⟩:∃m',m=m'+1:=⟨m-1,by rw[Z,aP]at H;omega⟩;simp only[List.range'_succ];rw[wpOps_cons];cases hs:Ax c i with
   |none=>rw[hs,lP]at z;cases z
   |some c1=>rw[hs,lO]at z;refine wV hM O (o:=ops.toList[n]) (by rw[<-dA,ab W]) (by rw[a6];exact a7 n W H) hs ?_;intro a' w' L;exact ih m' (n+1) (by omega) a8 I (L.kill F) z hQ
  |op i F=>
   rw[Ns]at z;simp only[erL]at E
   have H:n<y.length:=by
    rcases bP n y.length with h|h
    ·exact h
    ·rw[ct h]at E;cases E
   rw[aF H]at E;obtain⟨a6,a8⟩:=bp.inj E;have W:n<ops.toList.length:=by omega
   obtain⟨m',rfl⟩:∃m',m=m'+1:=⟨m-1,by rw[Z,aP]at H;omega⟩;simp only[List.range'_succ];rw[wpOps_cons];cases hs:eB call sg c i with
   |none=>rw[hs,lP]at z;cases z
   |some c1=>rw[hs,lO]at z;refine jQ a1 hM O (o:=ops.toList[n]) (by rw[<-dA,ab W]) (by rw[a6];exact a7 n W H) hs ?_;intro a' w' L;exact ih m' (n+1) (by omega) a8 I (L.kill F) z hQ
  |grp g b l F=>
   rw[B4]at z;cases hs:pT call sg b l c (c.get g)with
   |none=>rw[hs,lP]at z;cases z
   |some c1=>
    rw[hs,lO]at z;unfold pT at hs;have b4:=hs;split at hs<;>try (cases hs;done)
    rotate_left
    ·rename_i ht
     have J:∀i∈l,i.okG N g b=true:=by simpa[RI.ok]using O
     have b1:∀(m n:Nat),n+m=ops.size->erL r=y.drop n->∀a w,M C N c1 a w->wpOps P ops Q (List.range' n m) a w:=fun m n hn E a w L=>ih m n hn E I (L.kill F) z hQ
     simp only[erL]at E;cases hs;exact rT a1 hl (.inl rfl) b1 l m n c a w hn E J hM ht rfl
    rename_i t ht;have J:∀i∈l,i.okG N g b=true:=by simpa[RI.ok]using O
    have b1:∀(m n:Nat),n+m=ops.size->erL r=y.drop n->∀a w,M C N c1 a w->wpOps P ops Q (List.range' n m) a w:=fun m n hn E a w L=>ih m n hn E I (L.kill F) z hQ
    simp only[erL]at E;split at hs
    ·rename_i b2
     exact Dh a1 hl b1 l m n c a w hn E J hM (by rw[ht,b2]) hs
    ·rename_i b2
     cases hs;exact rT a1 hl (.inr ⟨t,rfl,b2⟩) b1 l m n c a w hn E J hM ht rfl
end Go.Sy
