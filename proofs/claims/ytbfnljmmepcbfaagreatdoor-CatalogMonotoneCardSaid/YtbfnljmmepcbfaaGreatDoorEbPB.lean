/- A sound engine for Go code. No condition. -/
import Derived.Test.YtbfnljmmepcbfaaGreatDoorEaPB
open Array renaming ext' -> eI, getD_eq_getD_getElem? -> aS, getElem?_append_left -> co, getElem?_eq_getElem -> cy, getElem?_toList -> cY, length_toList -> aU, replicate -> eU, size_append -> cQ
open Bool renaming and_eq_true -> aC, false_eq_true -> aO, not_eq_true' -> cT
open List renaming Nodup -> zZ, Pairwise -> fP, Sublist -> o7, all_eq_true -> bf, cons -> mP, cons_append -> bi, contains_eq_mem -> fE, drop_eq_getElem_cons -> bt, drop_eq_nil_of_le -> bN, drop_take -> fY, filter_cons -> fe, flatten_append -> b9, getD_cons_succ -> jg, getD_eq_getElem?_getD -> aa, getElem?_append_left -> bo, getElem?_append_right -> bA, getElem?_drop -> bz, getElem?_eq_getElem -> ac, getElem?_eq_none -> ia, getElem?_map -> aT, getElem?_range -> cz, getElem?_set -> ij, getElem?_take -> bL, getElem_mem -> bv, getElem_of_mem -> bp, length_append -> ae, length_cons -> al, length_drop -> aG, length_eq_zero_iff -> cu, length_map -> aY, length_set -> ny, length_take -> aq, map_append -> cf, map_cons -> aI, mem_append -> am, mem_cons -> av, mem_cons_of_mem -> aw, mem_cons_self -> aB, mem_map -> aZ, mem_map_of_mem -> jf, mem_of_mem_drop -> cB, mem_of_mem_take -> bC, mem_singleton -> bj, nodup_cons -> eB, pairwise_cons -> bV, pairwise_map -> ii, range -> bM, range' -> tp, replicate -> aL, size_toArray -> bZ, take_append_drop -> dH, take_length -> dA
open Nat renaming add_assoc -> fu, add_mul -> bE, add_zero -> ft, div_eq_of_lt -> Bz, le_max_right -> By, le_refl -> aJ, le_trans -> mC, lt_or_ge -> bK, min_eq_left -> fR, mod_eq_of_lt -> cH, mul_comm -> cM, mul_le_mul_right -> bh, mul_one -> dp, one_mul -> pz, succ_mul -> ee, zero_add -> bT, zero_mul -> ip
open Go.Op renaming bytesLess -> bH
open Option renaming bind_some -> dl, getD_some -> aM, ite_none_right_eq_some -> aK, map_eq_some_iff -> ah, map_some -> bB, some -> ax
open Prod renaming fst -> cS, mk -> bD
open Go.Result renaming andThen_ok -> an
open Go.Sem renaming run_bind -> aD, run_pure -> aN
open UInt8 renaming ofNat -> io
set_option linter.unusedVariables false
set_option linter.unusedSimpArgs false
set_option linter.unnecessarySimpa false
set_option linter.unusedSectionVars false
namespace Go.Sy
variable [br]
variable {P : Program} {C : Ctx} {x : Sit} {s : St} {a : Act} {w : World}
theorem xhS(p:Nat->Prop)(h:∃n,p n):∃n,p n/\∀m,p m->n<=m:=by
 obtain⟨n,hn⟩:=h;induction n using Nat.strongRecOn with
 |_ n J=>
  by_cases E:∃m,m<n/\p m
  ·obtain⟨m,I,y⟩:=E;exact J m I y
  ·exact⟨n,hn,fun m y=>Nat.le_of_not_lt fun F=>E ⟨m,F,y⟩⟩
def AG(P:Program)(s:St):List ResultVar->Option (Prop×t8)
 |[]=>some (True,[])
 | .tmp t::r=>match AG P s r with
  |some (p,vs)=>some (p,s.get t::vs)
  |none=>none
 | .cell t ty::r=>match fK P ty,sX P ty,AG P s r with
  |some n,some ag,some (p,vs)=>match (if ag||n==1 then jv s n ag (s.get t)else none)with
   |some (q,v)=>some (q/\p,v::vs)
   |none=>none
  |_,_,_=>none
def kr:t8->SV
 |[v]=>v
 |vs=> .tup vs
theorem sV(hM:aR C x s a w){t:TypeId}{n:Nat}{E:Bool}{u c:SV}{v:Value}{p:Prop}(hn:fK P t=some n)(F:sX P t=some E)(hu:Rep x u v)(h:(if E||n==1 then jv s n E u else none)=some (p,c))(O:p):
 ∃I r,v= .pointer (some I)/\(loadVar t I).run P w= .ok r w/\Rep x c r:=by
 split at h<;>try (cases h;done)
 rename_i L;obtain⟨b,off,cs,rfl,rfl,J⟩:=mW hM hu h O;obtain⟨r,Q,y⟩:=qx (P:=P) J hn F L;exact⟨_,r,rfl,Q,y⟩
def xbl(tmps:LAd):ResultVar->Sem Value
 | .tmp t=>pure (tmps.getD t undef)
 | .cell a t=>do loadVar t (<-asAddr (tmps.getD a undef))
theorem AF(fn:Func)(tmps:LAd):results fn tmps=(do let vs<-fn.results.mapM (xbl tmps);pure (if h:vs.size=1 then vs[0]else .tuple vs)):=by
 unfold results
 congr 1
theorem sG(hM:aR C x s a w):∀{rs:List ResultVar}{p:Prop}{vs:t8},AG P s rs=some (p,vs)->p->
 ∃us,(rs.mapM (xbl a.tmps)).run P w= .ok us w/\cE x vs us:=by
 intro rs;induction rs with
 |nil=>intro p vs h _;simp only[AG,ax.injEq,bD.injEq]at h;obtain⟨_,rfl⟩:=h;exact⟨[],rfl,rfl,fun i hi=>by simp at hi⟩
 |cons r rs ih=>
  intro p vs h W
  have cons:∀{c:SV}{u:Value}{cs:t8}{us:LAc},Rep x c u->cE x cs us->cE x (c::cs) (u::us):=by
   intro c u cs us h1 Z
   exact⟨by simp[Z.1],fun i hi=>by
    cases i with
    |zero=>exact h1
    |succ i=>simpa using Z.2 i (by simpa using hi)⟩
  cases r with
  |tmp t=>
   simp only[AG]at h;split at h<;>try (cases h;done)
   rename_i q I J;simp only[ax.injEq,bD.injEq]at h;obtain⟨rfl,rfl⟩:=h;obtain⟨us,y,O⟩:=ih J W;refine⟨_, ?_,cons (hM.slot t) O⟩;simp only[List.mapM_cons,xbl,aD,aN,an,y]
  |cell t ty=>
   simp only[AG]at h;split at h<;>try (cases h;done)
   rename_i n ag q I hn Q J;split at h<;>try (cases h;done)
   rename_i q' v' hv;simp only[ax.injEq,bD.injEq]at h;obtain⟨rfl,rfl⟩:=h;obtain⟨us,y,O⟩:=ih J W.2;obtain⟨ad,r,E,L,F⟩:=sV hM hn Q (hM.slot t) hv W.1;refine⟨_, ?_,cons F O⟩;have hA:(asAddr (a.tmps.getD t undef)).run P w= .ok ad w:=by rw[E];rfl
   simp only[List.mapM_cons,xbl,aD,hA,aN,an,L,y]
end Go.Sy
namespace Go.Sy
variable [br]
variable {P : Program}
end Go.Sy
namespace Go.Sy
variable [br]
variable {P : Program} {C : Ctx} {x : Sit} {s : St} {a : Act} {w : World}
def leT(t:Nat)(a b:SV):Prop:=∀(x:Sit)(v:Value),Rep x a v->Rep (x.newT t 0 0 0) b v
theorem leT.lst(t y:Nat)(h:d8):leT t (.lst y h .clip) (.lst y h (.id t)):=fun x v O=>by obtain⟨b,cap,Q,_,L,E⟩:=O.lst_inv;obtain⟨J,I,F⟩:=E;exact .dat _ _ (L.tok (.lst y h (.id t)) (.inr ⟨y,h,_,_,rfl,rfl⟩)) ⟨J,I,I,F,.inl rfl⟩
theorem leT.byt(t:Nat)(l:d9):leT t (.byt l .clip) (.byt l (.id t)):=fun x v J=>by obtain⟨b,cap,L,_,I,h⟩:=J.byt_inv;obtain⟨F,E,y⟩:=h;exact .dat _ _ (I.tok (.byt l (.id t)) (.inl ⟨l,_,_,rfl,rfl⟩)) ⟨F,E,E,y,.inl rfl⟩
def leP(o h:Nat)(y:d8)(a b:SV):Prop:=∀(x x':Sit)(v:Value),x'.bk=x.bk->x'.τ=x.τ->(∀b i u,x.G b i=some u->x'.G b i=some u)->
 (∀k,k<y.length*h->∃u,x'.G ((x.bk o).1) k=some u/\cL x'.G ((y.getD (k/h) []).getD (k % h) .undef) u)->Rep x a v->Rep x' b v
theorem leP.psl{o h off n:Nat}{cap:LAb}{E:d8}(hb:off+n<=E.length)(O:∀y∈E,y.length=h):leP o h E (.psl o h off n cap) (.lst h ((E.drop off).take n) .no):=by
 intro x x' v hβ hτ hG hc hv;obtain⟨cap,Z,_,W,he,a1⟩:=hv.psl_inv;rw[he];have J:((E.drop off).take n).length=n:=by simp;omega
 refine .dat _ _ ?_ trivial
 by_cases hn:n=0
 ·subst hn
  refine .lst _ _ _ _ _ _ _ (fun _ _=>undef) J.symm Z (fun i hi=>by omega) (fun i j hi=>by omega) (fun i j hi=>by omega)
 ·have L:W=off*h:=by omega
  have I:∀i,i<n->(((E.drop off).take n).getD i [])=E.getD (off+i) []:=fun i hi=>by simp only[aa,bL,if_pos hi,bz]
  have hl:∀i,i<n->(E.getD (off+i) []).length=h:=fun i hi=>by rw[aa,ac (by omega)];exact O _ (bv _)
  have hk:∀i j,i<n->j<h->off*h+i*h+j<E.length*h:=fun i j hi F=>by have:=bh h (show off+i+1<=E.length by omega);simp only[bE,pz]at this;omega
  have Q:∀i j,j<h->(off*h+i*h+j)/h=off+i/\(off*h+i*h+j) % h=j:=fun i j F=>by rw[<-bE,cM,Nat.mul_add_div (by omega),Bz F,ft];exact⟨rfl,by rw[Nat.mul_add_mod,cH F]⟩
  refine .lst _ _ _ _ _ _ _ (fun i j=>(x'.G ((x.bk o).1) (off*h+i*h+j)).getD undef) J.symm Z (fun i hi=>by rw[I i hi];exact hl i hi) (fun i j hi F=> ?_) (fun i j hi F=> ?_)
  ·obtain⟨u,hu,_⟩:=hc _ (hk i j hi F)
   rw[L,hu];rfl
  ·obtain⟨u,hu,hr⟩:=hc _ (hk i j hi F)
   rw[hu,I i hi];rw[(Q i j F).1,(Q i j F).2]at hr;exact hr
end Go.Sy
namespace Go.Sy
variable [br]
structure CSt where
 tm:List (Nat×SV)
 ob:List (Nat×aH)
 tk:List Nat
abbrev LAf:=Option CSt
def ff:List (Nat×SV)->Nat->SV
 |[],_=> .undef
 |p::r,n=>if p.1=n then p.2 else ff r n
def kq:List (Nat×SV)->Nat->SV->List (Nat×SV)
 |[],n,v=> [(n,v)]
 |p::r,n,v=>if n<p.1 then(n,v)::p::r else if n=p.1 then(n,v)::r else p::kq r n v
def zJ:List (Nat×SV)->LAa->List (Nat×SV)
 |[],_=> []
 |p::r,l=>if l.contains p.1 then zJ r l else p::zJ r l
def jy:List (Nat×aH)->Nat->Option aH
 |[],_=>none
 |p::r,n=>if p.1=n then some p.2 else jy r n
def jE:List (Nat×aH)->Nat->aH->List (Nat×aH)
 |[],n,v=> [(n,v)]
 |p::r,n,v=>if n<p.1 then(n,v)::p::r else if n=p.1 then(n,v)::r else p::jE r n v
def xoj:List (Nat×aH)->Nat->List (Nat×aH)
 |[],_=> []
 |p::r,n=>if p.1=n then xoj r n else p::xoj r n
def nX:LAa->Nat->LAa
 |[],n=> [n]
 |p::r,n=>if n<p then n::p::r else if n=p then p::r else p::nX r n
def dN(lo hi:Nat):List (Nat×SV)->List (Nat×SV)
 |[]=> []
 |p::r=>(p.1,p.2.purge lo hi)::dN lo hi r
def CSt.get(c:CSt)(n:Nat):SV:=ff c.tm n
def CSt.ev(c:CSt):Arg->SV
 | .t n=>c.get n
 | .c v=>v
 | .f g=> .fn g [] []
def evL(c:CSt):List Arg->t8
 |[]=> []
 |a::r=>c.ev a::evL c r
def CSt.put(c:CSt)(d:LAb)(v:SV):CSt:=
 match d with
 |some d=>⟨kq c.tm d v,c.ob,c.tk⟩
 |none=>c
def CSt.look(c:CSt)(o:Nat):Option aH:=jy c.ob o
def CSt.purge(c:CSt)(lo hi:Nat):CSt:=⟨dN lo hi c.tm,bP lo hi c.ob,cJ lo hi c.tk⟩
def CSt.kill(c:CSt)(l:LAa):CSt:=
 match l with
 |[]=>c
 |l=>⟨zJ c.tm l,c.ob,c.tk⟩
def gd{α:Type}(p:Prop)[Decidable p](v:α):Option α:=if p then some v else none
def A4(op:BinOp)(k:IntKind)(a b:Int):Option SV:=
 match op with
 | .add=>some (.int k (k.wrap (a+b)))
 | .sub=>some (.int k (k.wrap (a-b)))
 | .mul=>some (.int k (k.wrap (a*b)))
 | .quo=>gd (b≠0) (.int k (k.wrap (a.tdiv b)))
 | .rem=>gd (b≠0) (.int k (a.tmod b))
 | .and=>some (.int k (cn .and k a b))
 | .or=>some (.int k (cn .or k a b))
 | .xor=>some (.int k (cn .xor k a b))
 | .andNot=>some (.int k (cn .andNot k a b))
 | .shl=>gd (0<=b) (.int k (k.wrap (a*2^(min b.toNat k.bits))))
 | .shr=>gd (0<=b) (.int k (a.fdiv (2^(min b.toNat k.bits))))
 | .eql=>some (.bool (decide (a=b)))
 | .neq=>some (.bool (decide (a≠b)))
 | .lss=>some (.bool (decide (a<b)))
 | .leq=>some (.bool (decide (a<=b)))
 | .gtr=>some (.bool (decide (b<a)))
 | .geq=>some (.bool (decide (b<=a)))
def BD(op:BinOp)(a b:UInt8):Option SV:=
 match op with
 | .add=>some (.u8 (a+b))
 | .sub=>some (.u8 (a-b))
 | .mul=>some (.u8 (a*b))
 | .quo=>gd (b≠0) (.u8 (a/b))
 | .rem=>gd (b≠0) (.u8 (a % b))
 | .and=>some (.u8 (a&&&b))
 | .or=>some (.u8 (a|||b))
 | .xor=>some (.u8 (a^^^b))
 | .andNot=>some (.u8 (a&&& ~~~b))
 | .eql=>some (.bool (decide (a=b)))
 | .neq=>some (.bool (decide (a≠b)))
 | .lss=>some (.bool (decide (a<b)))
 | .leq=>some (.bool (decide (a<=b)))
 | .gtr=>some (.bool (decide (b<a)))
 | .geq=>some (.bool (decide (b<=a)))
 |_=>none
def UG(op:BinOp)(a:UInt8)(b:Int):Option SV:=
 match op with
 | .shl=>gd (0<=b) (.u8 (io (a.toNat*2^(min b.toNat 8))))
 | .shr=>gd (0<=b) (.u8 (io (a.toNat/2^(min b.toNat 8))))
 |_=>none
def UM(op:BinOp)(a b:d9):Option SV:=
 match op with
 | .add=>gd (a.length+b.length<=9223372036854775807) (.str (a++b))
 | .eql=>some (.bool (decide (a=b)))
 | .neq=>some (.bool (decide (a≠b)))
 | .lss=>some (.bool (bH a b))
 | .leq=>some (.bool (bH a b||decide (a=b)))
 | .gtr=>some (.bool (!(bH a b||decide (a=b))))
 | .geq=>some (.bool (!bH a b))
 |_=>none
def oi:BinOp->Bool
 | .shl| .shr=>true
 |_=>false
def I1(op:BinOp):SV->SV->Option SV
 | .int k a,.int k' b=>if oi op=true\/k=k' then A4 op k a b else none
 | .u8 a,.int _ b=>UG op a b
 | .u8 a,.u8 b=>BD op a b
 | .str a,.str b=>UM op a b
 |_,_=>none
def nK(c:CSt)(n:Nat)(h:Bool):SV->Option SV
 | .pp cs=>gd (n<=cs.length) (ej h n (cs.map SV.data))
 | .ptr o off=>match c.look o with
  |some (.rc cs)=>gd (off+n<=cs.length) (ej h n (cs.drop off))
  |some (.arr _ xs)=>gd (off=0/\n<=xs.flatten.length) (ej h n (xs.flatten.map SV.data))
  |some (.bar l)=>gd (off=0/\n<=l.length) (ej h n (l.map .u8))
  |none=>none
 | .ap o y i j=>match c.look o with
  |some (.arr sz' xs)=>gd (y=sz'/\i<xs.length/\j+n<=y) (ej h n (((xs.getD i []).drop j).map SV.data))
  |some (.bar l)=>gd (y=1/\j=0/\n=1/\i<l.length) (ej h n [.u8 (l.getD i 0)])
  |_=>none
 |_=>none
def lz(c:CSt)(x:Option Arg)(h:Int):Option Int:=
 match x with
 |none=>some h
 |some a=>(c.ev a).num
def pF(c:CSt)(E:Nat)(x:SV)(lo hi y:Option Arg):Option SV:=
 match x with
 | .byt l t=>
  match lz c lo 0,lz c hi l.length,lz c y l.length with
  |some a,some b,some m=>gd (0<=a/\a<=b/\b<=m/\m<=l.length/\E=1/\(y.isSome=true->b=m)) (.byt ((l.take b.toNat).drop a.toNat) (nb t hi.isNone y.isSome))
  |_,_,_=>none
 | .lst h l t=>
  match lz c lo 0,lz c hi l.length,lz c y l.length with
  |some a,some b,some m=>gd (0<=a/\a<=b/\b<=m/\m<=l.length/\E=h/\(y.isSome=true->b=m)) (.lst E ((l.take b.toNat).drop a.toNat) (nb t hi.isNone y.isSome))
  |_,_,_=>none
 | .psl o h off n none=>
  match lz c lo 0,lz c hi n,y with
  |some a,some b,none=>gd (0<=a/\a<=b/\b<=n/\E=h) (.psl o E (off+a.toNat) (b.toNat-a.toNat) none)
  |_,_,_=>none
 | .psl o h off n (some cap)=>
  match lz c lo 0,lz c hi n,lz c y cap with
  |some a,some b,some m=>gd (0<=a/\a<=b/\b<=m/\m<=cap/\E=h) (.psl o E (off+a.toNat) (b.toNat-a.toNat) (some (m.toNat-a.toNat)))
  |_,_,_=>none
 |_=>none
def fm(c:CSt):SV->Option d9
 | .byt l _=>some l
 | .str l=>some l
 | .psl o h off n _=>match c.look o with
  |some (.bar l)=>gd (h=1/\off+n<=l.length) ((l.drop off).take n)
  |_=>none
 |_=>none
def gC(c:CSt)(E:Nat):SV->Option d8
 | .lst h y _=>gd (E=h) y
 | .psl o h off n _=>match c.look o with
  |some (.arr sz'' y)=>gd (E=h/\E=sz''/\off+n<=y.length) ((y.drop off).take n)
  |_=>none
 |_=>none
def psC(c:CSt):List (Nat×Nat×Arg)->List (Nat×Nat×SV)
 |[]=> []
 |(o,n,x)::r=>(o,n,c.ev x)::psC c r
def jl(t:Bool)(a b:SV):SV:=if t=true then a else b
def cW(c:CSt):SOp->Option SV
 | .mov x=>some (c.ev x)
 | .build z O=>(jA z (psC c O)).map .agg
 | .lit h E=>(rows h (evL c E)).map fun r=> .lst h r .clip
 | .litB E=>(toB (evL c E)).map fun r=> .byt r .clip
 | .load n I a=>nK c n I (c.ev a)
 | .nchk x=>match c.ev x with
  | .ptr o off=>some (.ptr o off)
  | .ap o h i j=>some (.ap o h i j)
  | .pp cs=>some (.pp cs)
  | .fn f a b=>some (.fn f a b)
  |_=>none
 | .bin op x y=>I1 op (c.ev x) (c.ev y)
 | .beq F x y=>match c.ev x,c.ev y with
  | .bool a,.bool b=>some (.bool (if F then decide (a≠b)else decide (a=b)))
  |_,_=>none
 | .eqS F L x y=>match c.ev x,c.ev y with
  | .agg cs,.agg ds=>(ix L cs ds).map fun b=> .bool (if F then !b else b)
  |_,_=>none
 | .un op x=>Aa op (c.ev x)
 | .toInt k x=>iT k (c.ev x)
 | .toStr x=>match c.ev x with| .str l=>some (.str l)|_=>none
 | .slid _=>none
 | .newB _=>none
 | .isni F x=>match c.ev x with| .nili=>some (.bool (!F))|_=>none
 | .s2b x=>match c.ev x with| .str l=>some (.byt l .no)|_=>none
 | .b2s x=>match c.ev x with
  | .str _=>none
  |v=>(fm c v).map .str
 | .mkfn f a b=>some (.fn f (evL c a) (evL c b))
 | .slcS x lo hi=>match c.ev x with
  | .str l=>match lz c lo 0,lz c hi l.length with
   |some a,some b=>gd (0<=a/\a<=b/\b<=l.length) (.str ((l.take b.toNat).drop a.toNat))
   |_,_=>none
  |_=>none
 | .slcL h x lo hi J=>pF c h (c.ev x) lo hi J
 | .slcA len h x lo hi J=>match c.ev x with
  | .ptr o off=>if off=0 then pF c h (.psl o h 0 len (some len)) lo hi J else none
  |_=>none
 | .faddr off x=>match c.ev x with
  | .ptr o k=>some (.ptr o (k+off))
  | .ap o h i j=>some (.ap o h i (j+off))
  | .pp cs=>some (.pp (cs.drop off))
  |_=>none
 | .fld off n I x=>match c.ev x with
  | .agg cs=>gd (off+n<=cs.length) (ej I n (cs.drop off))
  |_=>none
 | .iaddrL h x i=>match c.ev x,(c.ev i).num with
  | .byt l _,some n=>gd (0<=n/\n<l.length/\h=1) (.pp [.u8 (l.getD n.toNat 0)])
  | .lst sz' E _,some n=>gd (0<=n/\n<E.length/\h=sz') (.pp (E.getD n.toNat []))
  | .psl o sz' off k _,some n=>gd (0<=n/\n<k/\h=sz') (.ap o h (off+n.toNat) 0)
  |_,_=>none
 | .iaddrA len h x i=>match c.ev x,(c.ev i).num with
  | .ptr o off,some n=>match c.look o with
   |some (.rc _)=>gd (0<=n/\n<len) (.ptr o (off+n.toNat*h))
   |some _=>gd (off=0/\0<=n/\n<len) (.ap o h n.toNat 0)
   |none=>none
  | .pp cs,some n=>gd (0<=n/\n<len/\cs.length=len*h) (.pp (cs.drop (n.toNat*h)))
  |_,_=>none
 | .idxA len h I x i=>match c.ev x,(c.ev i).num with
  | .agg cs,some n=>gd (0<=n/\n<len/\cs.length=len*h) (ej I h (cs.drop (n.toNat*h)))
  |_,_=>none
 | .idxS x i=>match c.ev x,(c.ev i).num with
  | .str l,some n=>gd (0<=n/\n<l.length) (.u8 (l.getD n.toNat 0))
  |_,_=>none
 | .ext x i=>match c.ev x with
  | .tup vs=>gd (i<vs.length) (vs.getD i .undef)
  |_=>none
 | .len b x=>(kX b (c.ev x)).map fun n=> .int .i64 (n:Nat)
 | .lenC n=>some (.int .i64 n)
 | .cap x=>match c.ev x with
  | .psl _ _ _ _ (some m)=>some (.int .i64 m)
  | .byt l t=>if t= .clip then some (.int .i64 l.length)else none
  | .lst _ E t=>if t= .clip then some (.int .i64 E.length)else none
  |_=>none
 | .mini x y=>match c.ev x,c.ev y with
  | .int k a,.int k' b=>if k=k' then some (.int k (if b<a then b else a))else none
  |_,_=>none
 | .maxi x y=>match c.ev x,c.ev y with
  | .int k a,.int k' b=>if k=k' then some (.int k (if a<b then b else a))else none
  |_,_=>none
 |_=>none
structure pJ where
 val:SV
 wr:List (Nat×aH):=[]
 new:Option aH:=none
 eat:Tok:= .no
 tok:Bool:=false
def Arg.isT:Arg->Bool
 | .t _=>true
 |_=>false
def aH.wf:aH->Bool
 | .arr y h=>h.all fun x=>decide (x.length=y)
 |_=>true
def mf(c:CSt)(n:Nat)(v:t8):SV->Option pJ
 | .ptr o off=>match c.look o with
  |some (.rc cs)=>gd (off+n<=cs.length/\v.length=n/\v.all SV.one=true) {val:= .undef,wr:=[(o,.rc (setCells cs off v))]}
  |some (.arr h xs)=>gd (off=0/\n=xs.length*h/\v.length=n/\v.all SV.isData=true) {val:= .undef,wr:=[(o,.arr h (kG h xs.length (v.map SV.data)))]}
  |some (.bar l)=>match toB v with
   |some y=>gd (off=0/\n=l.length/\y.length=n) {val:= .undef,wr:=[(o,.bar y)]}
   |none=>none
  |_=>none
 | .ap o h i j=>match c.look o with
  |some (.arr sz' xs)=>gd (h=sz'/\i<xs.length/\j+n<=h/\v.length=n/\v.all SV.isData=true) {val:= .undef,wr:=[(o,.arr sz' (jX h xs i j n (v.map SV.data)))]}
  |some (.bar l)=>match v with
   |[.u8 b]=>gd (h=1/\j=0/\n=1/\i<l.length) {val:= .undef,wr:=[(o,.bar (l.set i b))]}
   |_=>none
  |_=>none
 |_=>none
def Tok.readyC(c:CSt):Tok->Bool
 | .no=>false
 | .clip=>true
 | .id t=>c.tk.contains t
def eJ(c:CSt)(d:LAb):SOp->Option pJ
 | .new o=>match d with
  |some d=>gd (o.wf=true) {val:= .ptr (d+100) 0,new:=some o}
  |none=>none
 | .box x=>match d with
  |some d=>some {val:= .ptr (d+100) 0,new:=some (.rc (c.ev x).cells)}
  |none=>none
 | .mk z bytes n m=>match d,c.ev n,c.ev m with
  |some d,.int _ n,.int _ m=>gd (0<=n/\n<=m/\bytes*m<=140737488355328/\m<=9223372036854775807) {val:= .psl (d+100) z.length 0 n.toNat (some m.toNat),new:=some (.arr z.length (aL m.toNat z))}
  |_,_,_=>none
 | .mkB n m=>match d,c.ev n,c.ev m with
  |some d,.int _ n,.int _ m=>gd (0<=n/\n<=m/\m<=140737488355328) {val:= .psl (d+100) 1 0 n.toNat (some m.toNat),new:=some (.bar (aL m.toNat 0))}
  |_,_,_=>none
 | .store n a x=>if(c.ev x).isDef=true then mf c n (c.ev x).cells (c.ev a)else none
 | .app z bytes x y=>match d with
  |some d=>match c.ev x with
   | .byt l t=>(fm c (c.ev y)).bind fun E=>gd (z.length=1/\bytes=1/\t.readyC c=true/\l.length+E.length<=140737488355328) {val:= .byt (l++E) (.id (d+100)),eat:=t,tok:=true}
   | .lst h l t=>(gC c z.length (c.ev y)).bind fun E=>gd (z.length=h/\t.readyC c=true/\(l.length+E.length)*bytes<=140737488355328) {val:= .lst z.length (l++E) (.id (d+100)),eat:=t,tok:=true}
   |_=>none
  |none=>none
 | .clr z x=>match c.ev x with
  | .psl o h off n _=>match c.look o with
   |some (.arr sz'' F)=>gd (0<n/\z.length=h/\z.length=sz''/\off+n<=F.length) {val:= .tup [],wr:=[(o,.arr z.length (F.take off++aL n z++F.drop (off+n)))]}
   |_=>none
  |_=>none
 | .cpy I x y=>match c.ev x with
  | .psl o h off n _=>match c.look o with
   |some (.bar l)=>(fm c (c.ev y)).bind fun E=>gd (I=1/\h=1/\off+n<=l.length) {val:= .int .i64 (min E.length n:Nat),wr:=[(o,.bar (l.take off++E.take n++l.drop (off+(E.take n).length)))]}
   |some (.arr sz'' F)=>(gC c I (c.ev y)).bind fun E=>gd (y.isT=true/\I=h/\I=sz''/\off+n<=F.length) {val:= .int .i64 (min E.length n:Nat),wr:=[(o,.arr I (F.take off++E.take n++F.drop (off+(E.take n).length)))]}
   |_=>none
  |_=>none
 | .pick k a b=>match c.ev k with
  | .bool t=>some {val:=jl t (c.ev a) (c.ev b)}
  |_=>none
 | .call _ _=>none
 | .isnil J x=>match c.ev x with
  | .byt l _=>gd (l≠ []) {val:= .bool J}
  | .lst _ F _=>gd (F≠ []) {val:= .bool J}
  | .psl _ _ _ _ _=>some {val:= .bool J}
  |_=>none
 |so=>match cW c so with
  |some v=>some {val:=v}
  |none=>none
def CSt.wr(c:CSt):List (Nat×aH)->CSt
 |[]=>c
 |p::r=>CSt.wr ⟨c.tm,jE c.ob p.1 p.2,c.tk⟩ r
def CSt.app(c:CSt)(d:LAb)(e:pJ):CSt:=
 match e.new,e.tok with
 |some o,_=>CSt.put ⟨dN (d.getD 0+100) (d.getD 0+101) c.tm,jE (bP (d.getD 0+100) (d.getD 0+101) c.ob) (d.getD 0+100) (o.purge (d.getD 0+100) (d.getD 0+101)),cJ (d.getD 0+100) (d.getD 0+101) c.tk⟩ d e.val
 |none,true=>CSt.put ⟨dN (d.getD 0+100) (d.getD 0+101) c.tm,bP (d.getD 0+100) (d.getD 0+101) c.ob,nX (cJ (d.getD 0+100) (d.getD 0+101) (e.eat.eat c.tk)) (d.getD 0+100)⟩ d e.val
 |none,false=>(c.wr e.wr).put d e.val
end Go.Sy
namespace Go.Sy
variable [br]
mutual
def SV.bare:SV->SV
 | .byt l _=> .byt l .no
 | .lst y h _=> .lst y h .no
 | .agg cs=> .agg (SV.bareL cs)
 | .tup cs=> .tup (SV.bareL cs)
 | .fn f a b=> .fn f (SV.bareL a) (SV.bareL b)
 |v=>v
def SV.bareL:t8->t8
 |[]=> []
 |v::r=>v.bare::SV.bareL r
end
def AO(obj:aH)(y off n:Nat)(cap:LAb):SV:=
 match obj with
 | .arr h E=>if h=y/\off+n<=E.length then .lst y ((E.drop off).take n) (if cap=some n then .clip else .no)else .undef
 | .bar l=>if y=1/\off+n<=l.length then .byt ((l.drop off).take n) (if cap=some n then .clip else .no)else .undef
 | .rc _=> .undef
mutual
def SV.pub(o:Nat)(obj:aH):SV->SV
 | .psl h y off n cap=>if h=o then AO obj y off n cap else .psl h y off n cap
 | .ptr h off=>if h=o then .undef else .ptr h off
 | .ap h y i j=>if h=o then .undef else .ap h y i j
 | .agg cs=> .agg (SV.pubL o obj cs)
 | .tup cs=> .tup (SV.pubL o obj cs)
 | .fn f a b=> .fn f (SV.pubL o obj a) (SV.pubL o obj b)
 |v=>v
def SV.pubL(o:Nat)(obj:aH):t8->t8
 |[]=> []
 |v::r=>v.pub o obj::SV.pubL o obj r
end
def mU(o:Nat)(obj:aH):List (Nat×SV)->List (Nat×SV)
 |[]=> []
 |p::r=>(p.1,p.2.pub o obj)::mU o obj r
def pr(o:Nat)(obj:aH):aH->aH
 | .rc cs=> .rc (SV.pubL o obj cs)
 |ob=>ob
def mm(o:Nat)(obj:aH):List (Nat×aH)->List (Nat×aH)
 |[]=> []
 |p::r=>if p.1=o then mm o obj r else(p.1,pr o obj p.2)::mm o obj r
def CSt.publish(c:CSt)(o:Nat)(vs:t8):CSt×t8:=
 match c.look o with
 |some (.arr sz xs)=>(⟨mU o (.arr sz xs) c.tm,mm o (.arr sz xs) c.ob,c.tk⟩,SV.pubL o (.arr sz xs) vs)
 |some (.bar l)=>(⟨mU o (.bar l) c.tm,mm o (.bar l) c.ob,c.tk⟩,SV.pubL o (.bar l) vs)
 |_=>(c,vs)
def iG:SV->LAa
 | .psl o _ _ _ _=> [o]
 |_=> []
def w7:t8->LAa
 |[]=> []
 |v::r=>iG v++w7 r
def nW(raw:LAa)(i:Nat):SV->LAa
 | .psl o _ _ _ _=>if raw.contains i=true then []else [o]
 | .agg cs=>if raw.contains i=true then []else w7 cs
 |_=> []
def jN(raw:LAa):Nat->t8->LAa
 |_,[]=> []
 |i,v::r=>nW raw i v++jN raw (i+1) r
def fB(c:CSt)(vs:t8):LAa->CSt×t8
 |[]=>(c,vs)
 |o::r=>fB (c.publish o vs).1 (c.publish o vs).2 r
def Tok.kc:Tok->Bool->Tok
 | .clip,b=>if b=true then .clip else .no
 | .no,_=> .no
 | .id _,_=> .no
def SV.kclip:SV->SV
 | .lst y h t=> .lst y h (t.kc h.isEmpty)
 | .byt l t=> .byt l (t.kc l.isEmpty)
 |v=>v.bare
def lc(tk:LAa)(j:Nat):SV->SV×List LAb
 | .agg cs=>(.agg (cs.map SV.kclip),[])
 | .byt l .no=>(.byt l .no,[])
 | .byt l .clip=>(.byt l (.id j),[none])
 | .byt l (.id t)=>if tk.contains t=true then(.byt l (.id j),[some t])else(.byt l .no,[])
 | .lst sz xs .no=>(.lst sz xs .no,[])
 | .lst sz xs .clip=>(.lst sz xs (.id j),[none])
 | .lst sz xs (.id t)=>if tk.contains t=true then(.lst sz xs (.id j),[some t])else(.lst sz xs .no,[])
 |v=>(v.bare,[])
def wX(j y:Nat)(h:d8):Bool->SV×List LAb
 |true=>(.lst y h .clip,[])
 |false=>(.lst y h (.id j),[none])
def wW(tk:LAa)(j y:Nat)(h:d8):Tok->SV×List LAb
 | .clip=>wX j y h h.isEmpty
 | .no=>lc tk j (.lst y h .no)
 | .id t=>lc tk j (.lst y h (.id t))
def tN(tk:LAa)(j:Nat):SV->SV×List LAb
 | .lst y h t=>wW tk j y h t
 |v=>lc tk j v
def ld(tk:LAa)(own:LAa):Nat->Nat->t8->t8×List LAb
 |_,_,[]=>([],[])
 |j,i,v::r=>
  if own.contains i=true then
   ((tN tk j v).1::(ld tk own (j+(tN tk j v).2.length) (i+1) r).1,(tN tk j v).2++(ld tk own (j+(tN tk j v).2.length) (i+1) r).2)
  else(v.bare::(ld tk own j (i+1) r).1,(ld tk own j (i+1) r).2)
def vh(tk:LAa):Nat->t8->t8×List LAb
 |_,[]=>([],[])
 |j,v::r=>((lc tk j v).1::(vh tk (j+(lc tk j v).2.length) r).1,(lc tk j v).2++(vh tk (j+(lc tk j v).2.length) r).2)
def kP(tk:LAa)(j:Nat):aH->aH×List LAb
 | .rc cs=>(.rc (vh tk j cs).1,(vh tk j cs).2)
 |o=>(o,[])
def eW(tk:LAa):Nat->List aH->List aH×List LAb
 |_,[]=>([],[])
 |j,v::r=>((kP tk j v).1::(eW tk (j+(kP tk j v).2.length) r).1,(kP tk j v).2++(eW tk (j+(kP tk j v).2.length) r).2)
def cI:List LAb->LAa
 |[]=> []
 |none::r=>cI r
 |some t::r=>t::cI r
def eE(c:CSt):Nat->LAa->LAa->LAa
 |0,acc,_=>acc
 |_+1,acc,[]=>acc
 |
  f+1,acc,o::t=>if acc.contains o=true then eE c f acc t else
  match c.look o with
  |some ob=>eE c f (acc++ [o]) (t++ob.ids)
  |none=>eE c f acc t
def ik(c:CSt):LAa->Option (List aH)
 |[]=>some []
 |o::r=>match c.look o,ik c r with
  |some ob,some l=>some (ob::l)
  |_,_=>none
def iv:LAa->Nat->Nat
 |[],_=>0
 |p::r,o=>if p=o then 0 else iv r o+1
def gp:List aH->LAa
 |[]=> []
 |o::r=>o.ids++gp r
def eh:LAa->Bool
 |[]=>true
 |a::r=> !r.contains a&&eh r
def pP(a b:LAa):Bool:=a.all b.contains
def fb(mo mt:Nat->Nat):List aH->List aH
 |[]=> []
 |o::r=>o.ren mo mt::fb mo mt r
structure dV where
 r:SV
 os:List (Nat×aH)
 tk:List Nat
structure Sig where
 own:List Nat:=[]
 raw:List Nat:=[]
def tC(ob:List (Nat×aH)):List (Nat×aH)->List (Nat×aH)
 |[]=>ob
 |p::r=>tC (jE ob p.1 p.2) r
def tD(tk:LAa):LAa->LAa
 |[]=>tk
 |t::r=>tD (nX tk t) r
def nO(l:LAa):LAa->LAa
 |[]=> []
 |t::r=>if l.contains t=true then nO l r else t::nO l r
def tu(d:Nat):LAa->LAa
 |[]=> []
 |t::r=>kK d t::tu d r
def dV.small(q:dV):Bool:=q.os.all (fun p=>decide (p.1<1000)&&p.2.ids.all (fun k=>decide (k<1000))&&p.2.toks.all (fun k=>decide (k<1000)))&&q.r.ids.all (fun k=>decide (k<1000))&&q.r.toks.all (fun k=>decide (k<1000))&&q.tk.all (fun k=>decide (k<1000))
def kZ(c:CSt)(d:LAb)(m mt:LAa)(q:dV):CSt:=
 CSt.put ⟨dN ((d.getD 0+1)*1000) ((d.getD 0+2)*1000) c.tm,
  tC (fM m (bP ((d.getD 0+1)*1000) ((d.getD 0+2)*1000) c.ob)) (pZ (d.getD 0) m q.os),
  tD (nO mt (cJ ((d.getD 0+1)*1000) ((d.getD 0+2)*1000) c.tk)) (tu (d.getD 0) q.tk)⟩ d (q.r.ren (jk (d.getD 0) m) (kK (d.getD 0)))
abbrev dy:=Nat->t8->List aH->Nat->Option dV
def dV.bare(q:dV):Bool:=q.os.isEmpty&&q.tk.isEmpty&&q.r.ids.isEmpty&&q.r.toks.isEmpty
def Bd(c:CSt)(d:LAb)(q:dV):Bool->LAf
 |true=>some (kZ c d [] [] q)
 |false=>none
def pw(c:CSt)(d:LAb)(q:dV):Bool->LAf
 |true=>some (c.put d q.r)
 |false=>Bd c d q q.small
def nM(c:CSt)(d:LAb):Option dV->LAf
 |some q=>pw c d q q.bare
 |none=>none
def Aq(c:CSt)(d:LAb)(m mt:LAa)(q:dV):Bool->LAf
 |true=>some (kZ c d m mt q)
 |false=>none
def pU(c:CSt)(d:LAb)(m mt:LAa):Option dV->LAf
 |some q=>Aq c d m mt q q.small
 |none=>none
def pd(call:dy)(c:CSt)(d:LAb)(g:Nat)(a_:t8)(y:List LAb)(m:LAa)(os:List aH)(h:List LAb):Bool->LAf
 |true=>pU c d m (cI (y++h)) (call g (SV.renL (iv m) id a_) (fb (iv m) id os) (y.length+h.length))
 |false=>none
def pe(call:dy)(c:CSt)(d:LAb)(g:Nat)(a_:t8)(h:List LAb)(m:LAa):List aH×List LAb->LAf
 |(os,mt2)=>pd call c d g a_ h m os mt2 (pP (SV.idsL a_++gp os) m&&eh m&&eh (cI (h++mt2))&&decide (m.length<=40)&&m.all fun o=> !inR (d.getD 0) o)
def mF(call:dy)(c:CSt)(d:LAb)(g:Nat)(a_:t8)(h:List LAb)(m:LAa):Option (List aH)->LAf
 |some os=>pe call c d g a_ h m (eW c.tk (50+h.length) os)
 |none=>none
def pf(call:dy)(c:CSt)(d:LAb)(g:Nat):t8×List LAb->LAf
 |(a_,mt1)=>mF call c d g a_ mt1 (eE c 60 [] (SV.idsL a_)) (ik c (eE c 60 [] (SV.idsL a_)))
def kQ(call:dy)(sg:Sig)(d:LAb)(g:Nat):CSt×t8->LAf
 |(c,a_)=>pf call c d g (ld c.tk sg.own 50 0 a_)
def kY(call:dy)(sg:Sig)(c:CSt)(d:LAb)(g:Nat)(a_:t8):Bool->LAf
 |true=>nM c d (call g (SV.bareL a_) [] 0)
 |false=>kQ call sg d g (fB c a_ (jN sg.raw 0 a_))
def i9(call:dy)(sg:Sig)(c:CSt)(d:LAb)(g:Nat)(a_:t8):LAf:=
 kY call sg c d g a_ ((SV.idsL a_).isEmpty&&sg.own.isEmpty)
inductive Dir where
 |kill (l:List Nat)
 |gc (l:List Nat)
 |gcr (lo hi:Nat)
 |pub (n:Nat)
 |pubo (o:Nat)
 |tok (n id:Nat)
 |obj (n id:Nat)
inductive RI where
 |op (i:SI) (dead:List Nat)
 |grp (g:Nat) (b:Bool) (l:List SI) (dead:List Nat)
 |own (i:SI) (dead:List Nat)
 |tks (i:SI) (dead:List Nat)
 |dir (d:Dir)
structure FI where
 n:Nat
 q:Bool
 i:SI
inductive RC where
 |skip
 |ops (l:List RI)
 |flt (b ds:List Nat) (l:List FI) (dead:List Nat)
 |fla (b ds:List Nat) (l:List FI) (ps:List (List Nat)) (dead:List Nat)
 |seq (a b:RC)
 |cond (c:Arg) (a b:RC)
 |block (id:Nat) (b:RC)
 |loop (b:RC)
 |exit (id:Nat)
 |ret
 |pre (ds:List Dir) (a:RC)
 |post (a:RC) (ds:List Dir)
 |bad
def erL:List RI->LAe
 |[]=> []
 | .op i _::r=>i::erL r
 | .grp _ _ l _::r=>l++erL r
 | .own i _::r=>i::erL r
 | .tks i _::r=>i::erL r
 | .dir _::r=>erL r
def SOp.er:SOp->SOp
 | .appO z b x y=> .app z b x y
 |o=>o
def SI.er(i:SI):SI:=⟨i.dst,i.g,i.op.er⟩
def IE:List FI->Nat->SI
 |[],_=>⟨none,none,.lenC 0⟩
 |f::r,k=>if f.n=k then f.i.er else IE r k
def unF(l:List FI):LAe:=(bM l.length).map (IE l)
def RC.er:RC->gJ
 | .skip=> .skip
 | .ops l=> .ops (erL l)
 | .flt b h l _=> .drw b h (unF l)
 | .fla b h l _ _=> .drw b h (unF l)
 | .seq a b=> .seq a.er b.er
 | .cond c a b=> .cond c a.er b.er
 | .block id b=> .block id b.er
 | .loop b=> .loop b.er
 | .exit id=> .exit id
 | .ret=> .ret
 | .pre _ a=>a.er
 | .post a _=>a.er
 | .bad=> .bad
def gcC(c:CSt):LAa->CSt
 |[]=>c
 |o::r=>gcC (c.purge o (o+1)) r
def Ir(c:CSt)(n id o:Nat)(obj:aH)(v:SV):CSt:=
 ⟨kq (dN id (id+1) (mU o obj c.tm)) n v,bP id (id+1) (mm o obj c.ob),nX (cJ id (id+1) c.tk) id⟩
def Yr(c:CSt)(n id o y off k h:Nat):Option aH->LAf
 |some (.bar l)=>if y=1/\off+h<=l.length/\k<=h then some (Ir c n id o (.bar (l.take (off+k))) (.byt ((l.drop off).take k) (.id id)))else some c
 |some (.arr sz' xs)=>if sz'=y/\off+h<=xs.length/\k<=h then some (Ir c n id o (.arr sz' (xs.take (off+k))) (.lst y ((xs.drop off).take k) (.id id)))else some c
 |_=>some c
def Ys(c:CSt)(n id:Nat):SV->LAf
 | .byt l t=>match t with
  | .no=>some c
  | .clip=>some ⟨kq (dN id (id+1) c.tm) n (.byt l (.id id)),bP id (id+1) c.ob,nX (cJ id (id+1) c.tk) id⟩
  | .id t=>if t=id then some c else if c.tk.contains t=true then some ⟨kq (dN id (id+1) c.tm) n (.byt l (.id id)),bP id (id+1) c.ob,nX (cJ id (id+1) (cJ t (t+1) c.tk)) id⟩else none
 | .lst h y t=>match t with
  | .no=>some c
  | .clip=>some ⟨kq (dN id (id+1) c.tm) n (.lst h y (.id id)),bP id (id+1) c.ob,nX (cJ id (id+1) c.tk) id⟩
  | .id t=>if t=id then some c else if c.tk.contains t=true then some ⟨kq (dN id (id+1) c.tm) n (.lst h y (.id id)),bP id (id+1) c.ob,nX (cJ id (id+1) (cJ t (t+1) c.tk)) id⟩else none
 | .psl o h off k (some cp)=>Yr c n id o h off k cp (c.look o)
 |_=>some c
def mvC(c:CSt)(n id o h off k:Nat)(cap:LAb)(obj:aH):CSt:=
 ⟨kq (dN id (id+1) (dN o (o+1) c.tm)) n (.psl id h off k cap),jE (bP id (id+1) (bP o (o+1) c.ob)) id obj,cJ id (id+1) (cJ o (o+1) c.tk)⟩
def xu6(c:CSt)(n id o h off k:Nat)(cap:LAb):Option aH->LAf
 |some (.bar l)=>some (mvC c n id o h off k cap (.bar l))
 |some (.arr sz' xs)=>some (mvC c n id o h off k cap (.arr sz' xs))
 |_=>some c
def xhN(c:CSt)(n id:Nat):SV->LAf
 | .psl o h off k cap=>if o=id then some c else xu6 c n id o h off k cap (c.look o)
 |_=>some c
def s9(c:CSt):Dir->LAf
 | .kill l=>some (c.kill l)
 | .gc l=>some (gcC c l)
 | .gcr lo hi=>some (c.purge lo hi)
 | .pubo o=>some (c.publish o []).1
 | .pub n=>match c.get n with
  | .psl o _ _ _ _=>some (c.publish o []).1
  |_=>some c
 | .tok n id=>if id=99 then none else Ys c n id (c.get n)
 | .obj n id=>if id<100 then none else xhN c n id (c.get n)
def jq(c:CSt):List Dir->LAf
 |[]=>some c
 |d::r=>match s9 c d with
  |some c'=>jq c' r
  |none=>none
inductive Ex where
 |n
 |x (id:Nat)
 |r
abbrev iB:=Option (Ex×CSt)
def oW(c:CSt)(d:LAb):Option pJ->LAf
 |some e=>some (c.app d e)
 |none=>none
def pt(c:CSt):LAb->Option d9->LAf
 |some k,some l=>some (c.app (some k) {val:= .psl (k+100) 1 0 l.length (some l.length),new:=some (.bar l)})
 |_,_=>none
def pV(c:CSt)(d:LAb)(o off n:Nat)(cap:LAb):Option aH->LAf
 |some (.bar l)=>if off+n<=l.length/\cap=some n then some (((c.publish o []).1).put d (.byt ((l.drop off).take n) .clip))else none
 |_=>none
def tq(c:CSt)(d:LAb):SV->LAf
 | .psl o 1 off n cap=>pV c d o off n cap (c.look o)
 |_=>none
def Zn(c:CSt):LAb->SV->LAf
 |some k,.str l=>some (c.app (some k) {val:= .psl (k+100) 1 0 l.length none,new:=some (.bar l)})
 |_,_=>none
def Zm(c:CSt)(z:t8)(bytes:Nat)(l:d9):LAb->Option d9->LAf
 |some k,some l'=>if z.length≠1 then none else if l'=[]then some (c.put (some k) (.byt l .clip))else if bytes=1/\l.length+l'.length<=140737488355328 then some (c.app (some k) {val:= .psl (k+100) 1 0 (l.length+l'.length) none,new:=some (.bar (l++l'))})else none
 |_,_=>none
def Zl(c:CSt)(z:t8)(bytes h:Nat)(l:d8):LAb->Option d8->LAf
 |some k,some l'=>if l'=[]then some (c.put (some k) (.lst h l .clip))else if z.length=h/\(l.length+l'.length)*bytes<=140737488355328 then some (c.app (some k) {val:= .psl (k+100) h 0 (l.length+l'.length) none,new:=some (.arr h (l++l'))})else none
 |_,_=>none
def TW(c:CSt)(z:t8)(bytes o h n:Nat):LAb->Option d8->Option d8->LAf
 |some k,some R,some l'=>if z.length=h/\R.length=n/\(n+l'.length)*bytes<=140737488355328 then some ((c.purge o (o+1)).app (some k) {val:= .psl (k+100) h 0 (n+l'.length) none,new:=some (.arr h (R++l'))})else none
 |_,_,_=>none
def ua(c:CSt)(d:LAb)(z:t8)(bytes:Nat)(y:Arg):SV->LAf
 | .byt l t=>if t= .clip then Zm c z bytes l d (fm c (c.ev y))else none
 | .lst h l t=>if t= .clip then Zl c z bytes h l d (gC c z.length (c.ev y))else none
 | .psl o h 0 n none=>TW c z bytes o h n d (gC c z.length (.psl o h 0 n none)) (gC c z.length (c.ev y))
 |_=>none
def opC(call:dy)(sg:Nat->Sig)(c:CSt)(d:LAb)(o:SOp):LAf:=
 match o with
 | .newB h=>pt c d (toB (evL c h))
 | .slid x=>tq c d (c.ev x)
 | .appO z bytes x y=>ua c d z bytes y (c.ev x)
 | .call f a_=>match c.ev f with
  | .fn g a b=>i9 call (sg g) c d g (a++evL c a_++b)
  |_=>none
 |o=>oW c d (eJ c d o)
def eD(call:dy)(sg:Nat->Sig)(c:CSt)(i:SI):LAf:=
 match i.g with
 |none=>opC call sg c i.dst i.op
 |some (g,b)=>match c.get g with
  | .bool t=>if t=b then opC call sg c i.dst i.op else some (c.put i.dst (.tup []))
  | .tup []=>some (c.put i.dst (.tup []))
  |_=>none
mutual
def plC(call:dy)(sg:Nat->Sig):LAe->CSt->LAf
 |[],c=>some c
 |i::r,c=>nxP call sg r (opC call sg c i.dst i.op)
def nxP(call:dy)(sg:Nat->Sig):LAe->LAf->LAf
 |r,some c=>plC call sg r c
 |_,none=>none
end
def unL(c:CSt):LAe->CSt
 |[]=>c
 |i::r=>unL (c.put i.dst (.tup [])) r
def qJ(call:dy)(sg:Nat->Sig)(b:Bool)(l:LAe)(c:CSt):SV->LAf
 | .bool t=>if t=b then plC call sg l c else some (unL c l)
 | .tup []=>some (unL c l)
 |_=>none
def Zk(c:CSt)(h:Nat):LAb->Option d8->LAf
 |some k,some xs=>some (c.app (some k) {val:= .psl (k+100) h 0 xs.length (some xs.length),new:=some (.arr h xs)})
 |_,_=>none
def xu4(c:CSt)(d:LAb):SOp->LAf
 | .lit E h=>Zk c E d (rows E (evL c h))
 | .litB h=>pt c d (toB (evL c h))
 | .s2b x=>Zn c d (c.ev x)
 | .app z bytes x y=>ua c d z bytes y (c.ev x)
 |_=>none
def Yu(c:CSt):LAb->SV->LAf
 |some k,.str l=>some (c.app (some k) {val:= .byt l (.id (k+100)),tok:=true})
 |_,_=>none
def xto(c:CSt)(d:LAb):SOp->LAf
 | .s2b x=>Yu c d (c.ev x)
 |_=>none
def DQ(c:CSt)(i:SI):LAf:=match i.g with
 |none=>xto c i.dst i.op
 |some _=>none
def vJ(c:CSt)(i:SI):LAf:=match i.g with
 |none=>xu4 c i.dst i.op
 |some _=>none
mutual
def gw(call:dy)(sg:Nat->Sig):List RI->CSt->LAf
 |[],c=>some c
 | .op i dead::r,c=>nxC call sg dead r (eD call sg c i)
 | .grp g b l dead::r,c=>nxC call sg dead r (qJ call sg b l c (c.get g))
 | .own i dead::r,c=>nxC call sg dead r (vJ c i)
 | .tks i dead::r,c=>nxC call sg dead r (DQ c i)
 | .dir d::r,c=>nxC call sg [] r (s9 c d)
def nxC(call:dy)(sg:Nat->Sig)(h:LAa):List RI->LAf->LAf
 |r,some c=>gw call sg r (c.kill h)
 |_,none=>none
end
def dz(c:CSt):SOp->Option SV
 | .pick k a b=>match c.ev k with
  | .bool t=>some (jl t (c.ev a) (c.ev b))
  |_=>none
 |so=>cW c so
def qg(c:CSt)(o:SOp)(b:Bool):SV->Option SV
 | .bool t=>if t=b then dz c o else some (.tup [])
 | .tup []=>some (.tup [])
 |_=>none
def qv(c:CSt)(i:SI):Option SV:=match i.g with
 |none=>dz c i.op
 |some (g,b)=>qg c i.op b (c.get g)
def vZ(m:Nat)(c:CSt):List FI->Prop
 |[]=>True
 |p::r=>(m/2^p.n % 2=1\/qv c p.i=some (c.get (p.i.dst.getD 0)))/\vZ m c r
open Classical in
noncomputable def gdP{α:Type}(p:Prop)(v:α):Option α:=if p then some v else none
mutual
noncomputable def fJ(call:dy)(sg:Nat->Sig)(b:LAa):List FI->List FI->CSt->LAf
 |[],_,c=>some c
 |⟨n,true,i⟩::r,ps,c=>zk call sg b r (⟨n,true,i⟩::ps) c i.dst (qv c i)
 |⟨n,false,i⟩::r,ps,c=>s6 call sg b r ps (b.getD n 0) (eD call sg c i)
noncomputable def zk(call:dy)(sg:Nat->Sig)(b:LAa):List FI->List FI->CSt->LAb->Option SV->LAf
 |r,ps,c,d,some v=>fJ call sg b r ps (c.put d v)
 |_,_,_,_,none=>none
noncomputable def s6(call:dy)(sg:Nat->Sig)(b:LAa):List FI->List FI->Nat->LAf->LAf
 |r,ps,m,some c=>s7 call sg b r ps (gdP (vZ m c ps) c)
 |_,_,_,none=>none
noncomputable def s7(call:dy)(sg:Nat->Sig)(b:LAa):List FI->List FI->LAf->LAf
 |r,ps,some c=>fJ call sg b r ps c
 |_,_,none=>none
end
def xz:List FI->Nat->FI
 |[],k=>⟨k,false,⟨none,none,.lenC 0⟩⟩
 |f::r,k=>if f.n=k then f else xz r k
def jt(l:List FI):LAa->List FI
 |[]=> []
 |k::r=>xz l k::jt l r
noncomputable def px:LAf->LAf->LAf
 |some a,some b=>gdP (a=b) a
 |_,_=>none
noncomputable def jV(call:dy)(sg:Nat->Sig)(b:LAa)(l:List FI):List LAa->CSt->LAf
 |[],_=>none
 |[p],c=>fJ call sg b (jt l p) [] c
 |p::q::r,c=>px (fJ call sg b (jt l p) [] c) (jV call sg b l (q::r) c)
def nrm(h:LAa):LAf->iB
 |some c=>some (.n,c.kill h)
 |none=>none
def sq(rn:RC->CSt->iB)(b:RC):iB->iB
 |some (.n,c)=>rn b c
 |r=>r
def cnd(rn:RC->CSt->iB)(a b:RC)(c:CSt):SV->iB
 | .bool t=>if t=true then rn a c else rn b c
 |_=>none
def blk(id:Nat):iB->iB
 |some (.x id',c)=>if id'=id then some (.n,c)else some (.x id',c)
 |r=>r
def lp(rn:RC->CSt->iB)(b:RC):iB->iB
 |some (.n,c)=>rn (.loop b) c
 |r=>r
def prD(rn:RC->CSt->iB)(a:RC):LAf->iB
 |some c=>rn a c
 |none=>none
def psD(h:List Dir):iB->iB
 |some (.n,c)=>match jq c h with
  |some c'=>some (.n,c')
  |none=>none
 |r=>r
noncomputable def eC(rn:RC->CSt->iB)(call:dy)(sg:Nat->Sig):RC->CSt->iB
 | .skip,c=>some (.n,c)
 | .ops l,c=>nrm [] (gw call sg l c)
 | .flt b _ l dead,c=>nrm dead (fJ call sg b l [] c)
 | .fla b _ l ps dead,c=>nrm dead (jV call sg b l ps c)
 | .seq a b,c=>sq rn b (rn a c)
 | .cond k a b,c=>cnd rn a b c (c.ev k)
 | .block id b,c=>blk id (rn b c)
 | .loop b,c=>lp rn b (rn b c)
 | .exit id,c=>some (.x id,c)
 | .ret,c=>some (.r,c)
 | .pre ds a,c=>prD rn a (jq c ds)
 | .post a ds,c=>psD ds (rn a c)
 | .bad,_=>none
def SI.ok(N:Nat)(i:SI):Bool:=match i.dst with
 |some d=>decide (d<N)
 |none=>true
def SI.okG(N g:Nat)(b:Bool)(i:SI):Bool:=i.ok N&&(match i.g with|some (g',b')=>decide (g'=g)&&(b'==b)|none=>false)&&decide (i.dst≠some g)
def RI.ok(N:Nat):RI->Bool
 | .op i _=>i.ok N
 | .grp g b l _=>l.all (SI.okG N g b)
 | .own i _=>i.ok N
 | .tks i _=>i.ok N
 | .dir _=>true
def oV(b:LAa)(i j:Nat):Bool:=(b.getD j 0).testBit i
def pj(b:LAa):LAb->List FI->Bool
 |_,[]=>true
 |
  s,f::r=>if f.q then(match s with|some s=>oV b s f.n|none=>true)&&pj b s r
  else(match s with|some s=>oV b s f.n|none=>true)&&pj b (some f.n) r
def TV(b:LAa)(p q:FI):Bool:= !oV b q.n p.n&&(p.q||q.q||oV b p.n q.n)
def qk(b:LAa):List FI->Bool
 |[]=>true
 |p::r=>r.all (TV b p)&&qk b r
def SI.rds(i:SI):LAa:=i.op.args.filterMap (fun| .t n=>some n|_=>none)++(match i.g with|some (g,_)=> [g]|none=> [])
def Z4(b:LAa)(l:List FI):Bool:=l.all fun q=> !q.q||(match q.i.dst with|some d=>l.all fun p=> !p.i.rds.contains d||(oV b q.n p.n&&decide (p.n≠q.n))|none=>false)
def VD(b:LAa)(l:List FI):Bool:=pj b none l&&qk b l&&Z4 b l&&decide ((l.map FI.n).Nodup)&&l.all (fun f=>decide (f.n<l.length))&&(bM l.length).all (l.map FI.n).contains
def AA(b:LAa):LAb->List FI->Bool
 |_,[]=>true
 |s,f::r=>if f.q then(match s with|some s=>oV b s f.n|none=>true)&&AA b s r else AA b (some f.n) r
def xA(b:LAa):List FI->Bool
 |[]=>true
 |p::r=>r.all (fun q=> !oV b q.n p.n)&&xA b r
def fX(l:List FI):LAa:=l.filterMap fun f=>if f.q then none else some f.n
def l7(b:LAa):Nat->List LAa->Bool
 |_,[]=>false
 |_,[]::_=>true
 |0,_=>false
 |k+1,A@((h::t)::_)=>(h::t).all fun g=>(h::t).any (fun x=>decide (x≠g)&&oV b x g)||l7 b k (A.filterMap fun p=>match p with|x::r=>if x=g then some r else none|[]=>none)
def V8(b:LAa)(l:List FI)(h:List LAa):Bool:=
 Z4 b l&&decide ((l.map FI.n).Nodup)&&l.all (fun f=>decide (f.n<l.length))&&(bM l.length).all (l.map FI.n).contains&&
 h.all (fun p=>decide p.Nodup&&p.all (l.map FI.n).contains&&(l.map FI.n).all p.contains&&AA b none (jt l p)&&xA b (jt l p))&&l7 b l.length (h.map fun p=>fX (jt l p))
def RC.ok(N:Nat):RC->Bool
 | .ops l=>l.all (RI.ok N)
 | .flt b _ l _=>l.all (fun f=>f.i.ok N)&&VD b l
 | .fla b _ l h _=>l.all (fun f=>f.i.ok N)&&V8 b l h
 | .seq a b=>a.ok N&&b.ok N
 | .cond _ a b=>a.ok N&&b.ok N
 | .block _ b=>b.ok N
 | .loop b=>b.ok N
 | .pre _ a=>a.ok N
 | .post a _=>a.ok N
 |_=>true
inductive RV where
 |tmp (t:Nat)
 |cell (t n:Nat) (ag:Bool)
structure FnC where
 code:RC
 n:Nat
 rs:List RV
 keep:List Nat:=[]
 raw:List Nat:=[]
inductive FnB where
 |code (F:FnC)
 |prim (f:List SV->List aH->Nat->Option dV)
structure iL where
 fn:Nat->Option FnB
 sg:Nat->Sig
def tY(c:CSt):List RV->Option t8
 |[]=>some []
 | .tmp t::r=>match tY c r with
  |some vs=>some (c.get t::vs)
  |none=>none
 | .cell t n ag::r=>match (if ag=true\/n=1 then nK c n ag (c.get t)else none),tY c r with
  |some v,some vs=>some (v::vs)
  |_,_=>none
def lu:Nat->LAa
 |0=> []
 |n+1=>lu n++ [n]
def gQ(k:Nat):List aH->List (Nat×aH)
 |[]=> []
 |o::r=>(k,o)::gQ (k+1) r
def iJ(k:Nat)(m:LAa)(o:Nat):Nat:=if o<k then o else 100+iv m o
def tks(b n:Nat):LAa:=(lu n).map (b+ ·)
def xh1(k:Nat)(vs:t8)(y:List LAb)(m:LAa)(os:List aH)(h:List LAb):Bool->Option dV
 |true=>some ⟨(kr vs).ren (iJ k m) id,(gQ 0 (fb (iJ k m) id (os.take k)))++(gQ (100+k) (fb (iJ k m) id (os.drop k))),tks 60 (y.length+h.length)⟩
 |false=>none
def xh2(k:Nat)(vs:t8)(h:List LAb)(m:LAa):List aH×List LAb->Option dV
 |(os,mt2)=>xh1 k vs h m os mt2 (pP (SV.idsL vs++gp os) m&&eh m&&eh (cI (h++mt2))&&decide (m.take k=lu k)&&(m.drop k).all fun o=>decide (k<=o))
def xh3(k:Nat)(c:CSt)(vs:t8)(h:List LAb)(m:LAa):Option (List aH)->Option dV
 |some os=>xh2 k vs h m (eW c.tk (60+h.length) os)
 |none=>none
def xh4(k:Nat)(c:CSt):t8×List LAb->Option dV
 |(vs,mt1)=>xh3 k c vs mt1 (eE c 60 [] (lu k++SV.idsL vs)) (ik c (eE c 60 [] (lu k++SV.idsL vs)))
def Ug(keep:LAa)(k:Nat)(c:CSt)(vs:t8):Bool->Option dV
 |true=>some ⟨kr (SV.bareL vs),[],[]⟩
 |false=>xh4 k c (ld c.tk keep 60 0 vs)
def Z9(keep:LAa)(k:Nat):CSt×t8->Option dV
 |(c,vs)=>Ug keep k c vs (decide (k=0)&&(SV.idsL vs).isEmpty&&keep.isEmpty)
def Uh(keep raw:LAa)(k:Nat)(c:CSt):Option t8->Option dV
 |some vs=>Z9 keep k (fB c vs (jN raw 0 vs))
 |none=>none
def IZ(F:FnC)(k:Nat):iB->Option dV
 |some (.n,c)=>Uh F.keep F.raw k c (tY c F.rs)
 |some (.r,c)=>Uh F.keep F.raw k c (tY c F.rs)
 |_=>none
def pu:Nat->t8->List (Nat×SV)
 |_,[]=> []
 |i,v::r=>(i,v)::pu (i+1) r
def tF(args:t8)(os:List aH)(k:Nat):CSt:=⟨pu 0 args,gQ 0 os,tks 50 k⟩
def IY(rn:RC->CSt->iB)(F:FnC)(args:t8)(os:List aH)(k:Nat):iB:=if args.length<=F.n then rn F.code (tF args os k)else none
def nT(rn:RC->CSt->iB):Option FnB->t8->List aH->Nat->Option dV
 |some (.code F),args,os,k=>IZ F os.length (IY rn F args os k)
 |some (.prim f),args,os,k=>f args os k
 |none,_,_,_=>none
noncomputable def gu(T:iL):Nat->RC->CSt->iB
 |0,_,_=>none
 |n+1,r,c=>eC (gu T n) (fun g args os k=>nT (gu T n) (T.fn g) args os k) T.sg r c
noncomputable def fz(T:iL)(n:Nat):dy:=fun g args os k=>nT (gu T n) (T.fn g) args os k
noncomputable def lim{α:Type}(g:Nat->Option α):Option α:=open Classical in if h:∃n x,g n=some x then g (Classical.choose h)else none
noncomputable def run(T:iL)(r:RC)(c:CSt):iB:=lim fun n=>gu T n r c
noncomputable def call(T:iL):dy:=fun g args os k=>lim fun n=>fz T n g args os k
end Go.Sy
namespace Go.Sy
variable [br]
def leR(f g:RC->CSt->iB):Prop:=∀r c x,f r c=some x->g r c=some x
def leC(f g:dy):Prop:=∀a b o k x,f a b o k=some x->g a b o k=some x
theorem Ba{c:CSt}{d:LAb}{x:CSt}{a b:Option dV}(h:∀q,a=some q->b=some q)(k:nM c d a=some x):nM c d b=some x:=by
 cases a with
 |none=>cases k
 |some q=>rw[h q rfl];exact k
theorem Ar{c:CSt}{d:LAb}{m mt:LAa}{x:CSt}{a b:Option dV}(h:∀q,a=some q->b=some q)(k:pU c d m mt a=some x):pU c d m mt b=some x:=by
 cases a with
 |none=>cases k
 |some q=>rw[h q rfl];exact k
theorem As{f g:dy}(h:leC f g){c:CSt}{d:LAb}{n:Nat}{a_:t8}{y:List LAb}{m:LAa}{o:Option (List aH)}{x:CSt}
 (k:mF f c d n a_ y m o=some x):mF g c d n a_ y m o=some x:=by
 cases o with
 |none=>cases k
 |some os=>
  simp only[mF]at k ⊢;generalize eW c.tk (50+y.length) os=z at k ⊢;obtain⟨F,E⟩:=z;simp only[pe]at k ⊢;generalize (pP (SV.idsL a_++gp F) m&&eh m&&eh (cI (y++E))&&decide (m.length<=40)&&m.all fun o=> !inR (d.getD 0) o)=b at k ⊢;cases b with
  |false=>cases k
  |true=>simp only[pd]at k ⊢;exact Ar (fun q I=>h _ _ _ _ _ I) k
theorem Ap{f g:dy}(h:leC f g){sg:Sig}{d:LAb}{n:Nat}{p:CSt×t8}{x:CSt}(k:kQ f sg d n p=some x):kQ g sg d n p=some x:=by obtain⟨c,a_⟩:=p;simp only[kQ]at k ⊢;generalize ld c.tk sg.own 50 0 a_=z at k ⊢;obtain⟨y,E⟩:=z;simp only[pf]at k ⊢;exact As h k
theorem Bj{f g:dy}(h:leC f g){sg:Sig}{c:CSt}{d:LAb}{n:Nat}{a_:t8}{x:CSt}(k:i9 f sg c d n a_=some x):i9 g sg c d n a_=some x:=by
 unfold i9 at k ⊢;generalize ((SV.idsL a_).isEmpty&&sg.own.isEmpty)=b at k ⊢;cases b with
 |true=>exact Ba (fun q y=>h _ _ _ _ _ y) k
 |false=>exact Ap h k
theorem nG{f g:dy}(h:leC f g){sg:Nat->Sig}{c:CSt}{d:LAb}{o:SOp}{x:CSt}(k:opC f sg c d o=some x):opC g sg c d o=some x:=by
 cases o with
 |call a a_=>simp only[opC]at k ⊢;split at k<;>first|exact Bj h k|cases k
 |_=>exact k
theorem km{f g:dy}(h:leC f g){sg:Nat->Sig}{c:CSt}{i:SI}{x:CSt}(k:eD f sg c i=some x):eD g sg c i=some x:=by
 unfold eD at k ⊢;split at k
 ·exact nG h k
 ·split at k
  ·split at k
   ·rename_i y;rw[if_pos y];exact nG h k
   ·rename_i y;rw[if_neg y];exact k
  ·exact k
  ·cases k
theorem yD{f g:dy}(h:leC f g){sg:Nat->Sig}:∀{l:LAe}{c x:CSt},plC f sg l c=some x->plC g sg l c=some x:=by
 intro l;induction l with
 |nil=>intro c x k;simpa[plC]using k
 |cons i r y=>
  intro c x k;simp only[plC]at k ⊢;cases hs:opC f sg c i.dst i.op with
  |none=>rw[hs]at k;simp[nxP]at k
  |some c1=>rw[hs]at k;rw[nG h hs];simp only[nxP]at k ⊢;exact y k
theorem ut{f g:dy}(h:leC f g){sg:Nat->Sig}{b:Bool}{l:LAe}{c x:CSt}{v:SV}(k:qJ f sg b l c v=some x):qJ g sg b l c v=some x:=by
 unfold qJ at k ⊢;split at k
 ·split at k
  ·rename_i y;rw[if_pos y];exact yD h k
  ·rename_i y;rw[if_neg y];exact k
 ·exact k
 ·cases k
theorem oD{f g:dy}(h:leC f g){sg:Nat->Sig}:∀{l:List RI}{c x:CSt},gw f sg l c=some x->gw g sg l c=some x:=by
 intro l;induction l with
 |nil=>intro c x k;simpa[gw]using k
 |cons i r E=>
  intro c x k;cases i with
  |op i y=>
   simp only[gw]at k ⊢;cases hs:eD f sg c i with
   |none=>rw[hs]at k;simp[nxC]at k
   |some c1=>rw[hs]at k;rw[km h hs];simp only[nxC]at k ⊢;exact E k
  |grp q b l y=>
   simp only[gw]at k ⊢;cases hs:qJ f sg b l c (c.get q)with
   |none=>rw[hs]at k;simp[nxC]at k
   |some c1=>rw[hs]at k;rw[ut h hs];simp only[nxC]at k ⊢;exact E k
  |own i y=>
   simp only[gw]at k ⊢;cases hs:vJ c i with
   |none=>rw[hs]at k;simp[nxC]at k
   |some c1=>rw[hs]at k;simp only[nxC]at k ⊢;exact E k
  |tks i y=>
   simp only[gw]at k ⊢;cases hs:DQ c i with
   |none=>rw[hs]at k;simp[nxC]at k
   |some c1=>rw[hs]at k;simp only[nxC]at k ⊢;exact E k
  |dir d=>
   simp only[gw]at k ⊢;cases hs:s9 c d with
   |none=>rw[hs]at k;simp[nxC]at k
   |some c1=>rw[hs]at k;simp only[nxC]at k ⊢;exact E k
theorem jS{f g:dy}(h:leC f g){sg:Nat->Sig}{b:LAa}:∀{l y:List FI}{c x:CSt},fJ f sg b l y c=some x->fJ g sg b l y c=some x:=by
 intro l;induction l with
 |nil=>intro y c x k;simpa[fJ]using k
 |cons i r E=>
  intro y c x k;obtain⟨n,q,i⟩:=i;cases q with
  |true=>
   simp only[fJ]at k ⊢;cases hq:qv c i with
   |none=>rw[hq]at k;simp[zk]at k
   |some v=>rw[hq]at k;simp only[zk]at k ⊢;exact E k
  |false=>
   simp only[fJ]at k ⊢;cases hs:eD f sg c i with
   |none=>rw[hs]at k;simp[s6]at k
   |some c1=>
    rw[hs]at k;rw[km h hs];simp only[s6]at k ⊢;cases hg:gdP (vZ (b.getD n 0) c1 y) c1 with
    |none=>rw[hg]at k;simp[s7]at k
    |some c2=>rw[hg]at k;simp only[s7]at k ⊢;exact E k
theorem oM{f g:dy}(h:leC f g){sg:Nat->Sig}{b:LAa}{l:List FI}:∀{E:List LAa}{c x:CSt},jV f sg b l E c=some x->jV g sg b l E c=some x
 |[],c,x,k=>by simp[jV]at k
 |[p],c,x,k=>jS h k
 |p::q::r,c,x,k=>by
  simp only[jV]at k ⊢;cases h1:fJ f sg b (jt l p) [] c with
  |none=>rw[h1]at k;simp[px]at k
  |some y=>
   cases h2:jV f sg b l (q::r) c with
   |none=>rw[h1,h2]at k;simp[px]at k
   |some z=>rw[h1,h2]at k;rw[jS h h1,oM h h2];exact k
theorem mE{rn F:RC->CSt->iB}{f g:dy}(E:leR rn F)(h:leC f g){sg:Nat->Sig}{r:RC}{c:CSt}{x:Ex×CSt}(k:eC rn f sg r c=some x):eC F g sg r c=some x:=by
 cases r with
 |skip=>exact k
 |ret=>exact k
 |exit id=>exact k
 |ops l=>
  simp only[eC]at k ⊢;cases hs:gw f sg l c with
  |none=>rw[hs]at k;cases k
  |some c1=>rw[hs]at k;rw[oD h hs];exact k
 |flt b J l I=>
  simp only[eC]at k ⊢;cases hs:fJ f sg b l [] c with
  |none=>rw[hs]at k;simp[nrm]at k
  |some c1=>rw[hs]at k;rw[jS h hs];exact k
 |fla b J l O I=>
  simp only[eC]at k ⊢;cases hs:jV f sg b l O c with
  |none=>rw[hs]at k;simp[nrm]at k
  |some c1=>rw[hs]at k;rw[oM h hs];exact k
 |seq a b=>
  simp only[eC]at k ⊢;cases hs:rn a c with
  |none=>rw[hs]at k;cases k
  |some p=>
   rw[hs]at k;rw[E _ _ _ hs];obtain⟨e,c1⟩:=p;cases e with
   |n=>exact E _ _ _ k
   |x id=>exact k
   |r=>exact k
 |cond a y z=>
  simp only[eC]at k ⊢;unfold cnd at k ⊢;split at k
  ·split at k
   ·rename_i L;rw[if_pos L];exact E _ _ _ k
   ·rename_i L;rw[if_neg L];exact E _ _ _ k
  ·cases k
 |block id b=>
  simp only[eC]at k ⊢;cases hs:rn b c with
  |none=>rw[hs]at k;cases k
  |some p=>rw[hs]at k;rw[E _ _ _ hs];exact k
 |loop b=>
  simp only[eC]at k ⊢;cases hs:rn b c with
  |none=>rw[hs]at k;cases k
  |some p=>
   rw[hs]at k;rw[E _ _ _ hs];obtain⟨e,c1⟩:=p;cases e with
   |n=>exact E _ _ _ k
   |x id=>exact k
   |r=>exact k
 |pre J a=>
  simp only[eC]at k ⊢;cases hs:jq c J with
  |none=>rw[hs]at k;cases k
  |some c1=>rw[hs]at k;exact E _ _ _ k
 |bad=>cases k
 |post a J=>
  simp only[eC]at k ⊢;cases hs:rn a c with
  |none=>rw[hs]at k;cases k
  |some p=>rw[hs]at k;rw[E _ _ _ hs];exact k
theorem ja{rn y:RC->CSt->iB}(E:leR rn y){o:Option FnB}{a:t8}{os:List aH}{k:Nat}{x:dV}(h:nT rn o a os k=some x):nT y o a os k=some x:=by
 cases o with
 |none=>cases h
 |some b=>
  cases b with
  |prim f=>exact h
  |code F=>
   simp only[nT,IY]at h ⊢;split at h
   ·rename_i I
    rw[if_pos I];cases hs:rn F.code (tF a os k)with
    |none=>rw[hs]at h;cases h
    |some p=>rw[hs]at h;rw[E _ _ _ hs];exact h
   ·cases h
variable {T : iL}
theorem tU:∀n,leR (gu T n) (gu T (n+1))
 |0=>fun r c x h=>by simp[gu]at h
 |n+1=>fun r c x h=>by have y:=tU n;rw[gu]at h ⊢;exact mE y (fun g a os k x h=>ja y h) h
theorem lQ{n m:Nat}(h:n<=m):leR (gu T n) (gu T m):=by
 induction m with
 |zero=>
  have:n=0:=by omega
  subst this;exact fun _ _ _ h=>h
 |succ m F=>
  rcases bK n (m+1)with E|E
  ·exact fun r c x y=>tU m r c x (F (by omega) r c x y)
  ·have:n=m+1:=by omega
   subst this;exact fun _ _ _ h=>h
theorem eF{n m:Nat}(h:n<=m):leC (fz T n) (fz T m):=fun _ _ _ _ _ y=>ja (lQ h) y
theorem yY{α:Type}{g:Nat->Option α}(F:∀n m x,n<=m->g n=some x->g m=some x){n:Nat}{x:α}(h:g n=some x):lim g=some x:=by have E:∃n x,g n=some x:=⟨n,x,h⟩;unfold lim;rw[dif_pos E];obtain⟨y,I⟩:=Classical.choose_spec E;have J:=F _ (max n (Classical.choose E)) _ (By _ _) I;have L:=F _ (max n (Classical.choose E)) _ (Nat.le_max_left _ _) h;rw[I,<-J,L]
theorem T0{α:Type}{g:Nat->Option α}{x:α}(h:lim g=some x):∃n,g n=some x:=by
 unfold lim at h;split at h
 ·exact⟨_,h⟩
 ·cases h
theorem LA{n:Nat}{r:RC}{c:CSt}{x:Ex×CSt}(h:gu T n r c=some x):run T r c=some x:=yY (fun _ _ _ y h=>lQ y _ _ _ h) h
theorem iE{r:RC}{c:CSt}{x:Ex×CSt}(h:run T r c=some x):∃n,gu T n r c=some x:=T0 h
theorem rf{n:Nat}{g:Nat}{a:t8}{os:List aH}{k:Nat}{x:dV}(h:fz T n g a os k=some x):call T g a os k=some x:=yY (fun _ _ _ y h=>eF y _ _ _ _ _ h) h
theorem qp{g:Nat}{a:t8}{os:List aH}{k:Nat}{x:dV}(h:call T g a os k=some x):∃n,fz T n g a os k=some x:=T0 h
theorem LB(n:Nat):leR (gu T n) (run T):=fun _ _ _ h=>LA h
theorem xaE(n:Nat):leC (fz T n) (call T):=fun _ _ _ _ _ h=>rf h
theorem Bl{sg:Sig}{c:CSt}{d:LAb}{g:Nat}{a_:t8}{x:CSt}(k:i9 (call T) sg c d g a_=some x):∃n,i9 (fz T n) sg c d g a_=some x:=by
 unfold i9 at k ⊢;generalize ((SV.idsL a_).isEmpty&&sg.own.isEmpty)=b at k ⊢;cases b with
 |true=>
  simp only[kY]at k ⊢;cases hq:call T g (SV.bareL a_) [] 0 with
  |none=>rw[hq]at k;cases k
  |some q=>obtain⟨n,hn⟩:=qp hq;exact⟨n,by rw[hn];rw[hq]at k;exact k⟩
 |false=>
  simp only[kY]at k ⊢;generalize fB c a_ (jN sg.raw 0 a_)=z at k ⊢;obtain⟨c1,I⟩:=z;simp only[kQ]at k ⊢;generalize ld c1.tk sg.own 50 0 I=z at k ⊢;obtain⟨h,y⟩:=z;simp only[pf]at k ⊢;cases ho:ik c1 (eE c1 60 [] (SV.idsL h))with
  |none=>rw[ho]at k;cases k
  |some os=>
   rw[ho]at k;simp only[mF]at k ⊢;generalize eW c1.tk (50+y.length) os=z at k ⊢;obtain⟨F,E⟩:=z;simp only[pe]at k ⊢;generalize (pP (SV.idsL h++gp F) (eE c1 60 [] (SV.idsL h))&&eh (eE c1 60 [] (SV.idsL h))&&eh (cI (y++E))&&decide ((eE c1 60 [] (SV.idsL h)).length<=40)&&(eE c1 60 [] (SV.idsL h)).all fun o=> !inR (d.getD 0) o)=b at k ⊢;cases b with
   |false=>cases k
   |true=>
    simp only[pd]at k ⊢;cases hq:call T g (SV.renL (iv (eE c1 60 [] (SV.idsL h))) id h) (fb (iv (eE c1 60 [] (SV.idsL h))) id F) (y.length+E.length)with
    |none=>rw[hq]at k;cases k
    |some q=>obtain⟨n,hn⟩:=qp hq;exact⟨n,by rw[hn];rw[hq]at k;exact k⟩
theorem rI{sg:Nat->Sig}{c:CSt}{d:LAb}{o:SOp}{x:CSt}(k:opC (call T) sg c d o=some x):∃n,opC (fz T n) sg c d o=some x:=by
 cases o with
 |call a a_=>simp only[opC]at k ⊢;split at k<;>first|exact Bl k|cases k
 |_=>exact⟨0,k⟩
theorem pR{sg:Nat->Sig}{c:CSt}{i:SI}{x:CSt}(k:eD (call T) sg c i=some x):∃n,eD (fz T n) sg c i=some x:=by
 unfold eD at k ⊢;split at k
 ·exact rI k
 ·split at k
  ·split at k
   ·rename_i h;simp only[if_pos h];exact rI k
   ·rename_i h;simp only[if_neg h];exact⟨0,k⟩
  ·exact⟨0,k⟩
  ·cases k
theorem Ka{sg:Nat->Sig}:∀{l:LAe}{c x:CSt},plC (call T) sg l c=some x->∃n,plC (fz T n) sg l c=some x:=by
 intro l;induction l with
 |nil=>intro c x k;exact⟨0,by simpa[plC]using k⟩
 |cons i r y=>
  intro c x k;simp only[plC]at k ⊢;cases hs:opC (call T) sg c i.dst i.op with
  |none=>rw[hs]at k;simp[nxP]at k
  |some c1=>rw[hs]at k;simp only[nxP]at k;obtain⟨n,hn⟩:=rI hs;obtain⟨m,h⟩:=y k;refine⟨max n m, ?_⟩;rw[nG (eF (Nat.le_max_left n m)) hn];simp only[nxP];exact yD (eF (By n m)) h
theorem HI{sg:Nat->Sig}{b:Bool}{l:LAe}{c x:CSt}{v:SV}(k:qJ (call T) sg b l c v=some x):∃n,qJ (fz T n) sg b l c v=some x:=by
 unfold qJ at k ⊢;split at k
 ·split at k
  ·rename_i h;simp only[if_pos h];exact Ka k
  ·rename_i h;simp only[if_neg h];exact⟨0,k⟩
 ·exact⟨0,k⟩
 ·cases k
theorem Hp{sg:Nat->Sig}:∀{l:List RI}{c x:CSt},gw (call T) sg l c=some x->∃n,gw (fz T n) sg l c=some x:=by
 intro l;induction l with
 |nil=>intro c x k;exact⟨0,by simpa[gw]using k⟩
 |cons i r y=>
  intro c x k;cases i with
  |op i h=>
   simp only[gw]at k ⊢;cases hs:eD (call T) sg c i with
   |none=>rw[hs]at k;simp[nxC]at k
   |some c1=>rw[hs]at k;simp only[nxC]at k;obtain⟨n,hn⟩:=pR hs;obtain⟨m,E⟩:=y k;refine⟨max n m, ?_⟩;rw[km (eF (Nat.le_max_left n m)) hn];simp only[nxC];exact oD (eF (By n m)) E
  |grp q b l h=>
   simp only[gw]at k ⊢;cases hs:qJ (call T) sg b l c (c.get q)with
   |none=>rw[hs]at k;simp[nxC]at k
   |some c1=>rw[hs]at k;simp only[nxC]at k;obtain⟨n,hn⟩:=HI hs;obtain⟨m,E⟩:=y k;refine⟨max n m, ?_⟩;rw[ut (eF (Nat.le_max_left n m)) hn];simp only[nxC];exact oD (eF (By n m)) E
  |own i h=>
   simp only[gw]at k ⊢;cases hs:vJ c i with
   |none=>rw[hs]at k;simp[nxC]at k
   |some c1=>rw[hs]at k;simp only[nxC]at k ⊢;exact y k
  |tks i h=>
   simp only[gw]at k ⊢;cases hs:DQ c i with
   |none=>rw[hs]at k;simp[nxC]at k
   |some c1=>rw[hs]at k;simp only[nxC]at k ⊢;exact y k
  |dir d=>
   simp only[gw]at k ⊢;cases hs:s9 c d with
   |none=>rw[hs]at k;simp[nxC]at k
   |some c1=>rw[hs]at k;simp only[nxC]at k ⊢;exact y k
theorem oI{sg:Nat->Sig}{b:LAa}:∀{l h:List FI}{c x:CSt},fJ (call T) sg b l h c=some x->∃n,fJ (fz T n) sg b l h c=some x:=by
 intro l;induction l with
 |nil=>intro h c x k;exact⟨0,by simpa[fJ]using k⟩
 |cons i r I=>
  intro h c x k;obtain⟨n,q,i⟩:=i;cases q with
  |true=>
   simp only[fJ]at k ⊢;cases hq:qv c i with
   |none=>rw[hq]at k;simp[zk]at k
   |some v=>rw[hq]at k;simp only[zk]at k ⊢;exact I k
  |false=>
   simp only[fJ]at k ⊢;cases hs:eD (call T) sg c i with
   |none=>rw[hs]at k;simp[s6]at k
   |some c1=>
    rw[hs]at k;simp only[s6]at k;cases hg:gdP (vZ (b.getD n 0) c1 h) c1 with
    |none=>rw[hg]at k;simp[s7]at k
    |some c2=>rw[hg]at k;simp only[s7]at k;obtain⟨F,y⟩:=pR hs;obtain⟨m2,E⟩:=I k;refine⟨max F m2, ?_⟩;rw[km (eF (Nat.le_max_left F m2)) y];simp only[s6];rw[hg];simp only[s7];exact jS (eF (By F m2)) E
theorem uO{sg:Nat->Sig}{b:LAa}{l:List FI}:∀{h:List LAa}{c x:CSt},jV (call T) sg b l h c=some x->∃n,jV (fz T n) sg b l h c=some x
 |[],c,x,k=>by simp[jV]at k
 |[p],c,x,k=>oI k
 |p::q::r,c,x,k=>by
  simp only[jV]at k ⊢;cases h1:fJ (call T) sg b (jt l p) [] c with
  |none=>rw[h1]at k;simp[px]at k
  |some y=>
   cases h2:jV (call T) sg b l (q::r) c with
   |none=>rw[h1,h2]at k;simp[px]at k
   |some z=>rw[h1,h2]at k;obtain⟨n,hn⟩:=oI h1;obtain⟨m,E⟩:=uO h2;exact⟨max n m,by rw[jS (eF (Nat.le_max_left n m)) hn,oM (eF (By n m)) E];exact k⟩
theorem two{r s:RC}{c d:CSt}{x y:Ex×CSt}(h:run T r c=some x)(k:run T s d=some y):∃n,gu T n r c=some x/\gu T n s d=some y:=by obtain⟨n,hn⟩:=iE h;obtain⟨m,E⟩:=iE k;exact⟨max n m,lQ (Nat.le_max_left n m) _ _ _ hn,lQ (By n m) _ _ _ E⟩
theorem Aj{r:RC}{c:CSt}{x:Ex×CSt}(k:eC (run T) (call T) T.sg r c=some x):∃n,eC (gu T n) (fz T n) T.sg r c=some x:=by
 cases r with
 |skip=>exact⟨0,k⟩
 |ret=>exact⟨0,k⟩
 |exit id=>exact⟨0,k⟩
 |ops l=>
  simp only[eC]at k ⊢;cases hs:gw (call T) T.sg l c with
  |none=>rw[hs]at k;cases k
  |some c1=>obtain⟨n,hn⟩:=Hp hs;exact⟨n,by rw[hn];rw[hs]at k;exact k⟩
 |flt b E l h=>
  simp only[eC]at k ⊢;cases hs:fJ (call T) T.sg b l [] c with
  |none=>rw[hs]at k;simp[nrm]at k
  |some c1=>obtain⟨n,hn⟩:=oI hs;exact⟨n,by rw[hn];rw[hs]at k;exact k⟩
 |fla b E l L h=>
  simp only[eC]at k ⊢;cases hs:jV (call T) T.sg b l L c with
  |none=>rw[hs]at k;simp[nrm]at k
  |some c1=>obtain⟨n,hn⟩:=uO hs;exact⟨n,by rw[hn];rw[hs]at k;exact k⟩
 |seq a b=>
  simp only[eC]at k ⊢;cases hs:run T a c with
  |none=>rw[hs]at k;cases k
  |some p=>
   rw[hs]at k;obtain⟨e,c1⟩:=p;cases e with
   |n=>obtain⟨n,J,F⟩:=two hs k;exact⟨n,by rw[J];exact F⟩
   |x id=>obtain⟨n,hn⟩:=iE hs;exact⟨n,by rw[hn];exact k⟩
   |r=>obtain⟨n,hn⟩:=iE hs;exact⟨n,by rw[hn];exact k⟩
 |cond a y z=>
  simp only[eC]at k ⊢;unfold cnd at k ⊢;split at k
  ·split at k
   ·rename_i I;simp only[if_pos I];exact iE k
   ·rename_i I;simp only[if_neg I];exact iE k
  ·cases k
 |block id b=>
  simp only[eC]at k ⊢;cases hs:run T b c with
  |none=>rw[hs]at k;cases k
  |some p=>obtain⟨n,hn⟩:=iE hs;exact⟨n,by rw[hn];rw[hs]at k;exact k⟩
 |loop b=>
  simp only[eC]at k ⊢;cases hs:run T b c with
  |none=>rw[hs]at k;cases k
  |some p=>
   rw[hs]at k;obtain⟨e,c1⟩:=p;cases e with
   |n=>obtain⟨n,J,F⟩:=two hs k;exact⟨n,by rw[J];exact F⟩
   |x id=>obtain⟨n,hn⟩:=iE hs;exact⟨n,by rw[hn];exact k⟩
   |r=>obtain⟨n,hn⟩:=iE hs;exact⟨n,by rw[hn];exact k⟩
 |pre E a=>
  simp only[eC]at k ⊢;cases hs:jq c E with
  |none=>rw[hs]at k;cases k
  |some c1=>rw[hs]at k;exact iE k
 |bad=>cases k
 |post a E=>
  simp only[eC]at k ⊢;cases hs:run T a c with
  |none=>rw[hs]at k;cases k
  |some p=>obtain⟨n,hn⟩:=iE hs;exact⟨n,by rw[hn];rw[hs]at k;exact k⟩
theorem vK{α:Type}{a b:Option α}(h:∀x,a=some x->b=some x)(k:∀x,b=some x->a=some x):a=b:=by
 cases a with
 |none=>cases b with
  |none=>rfl
  |some x=>exact absurd (k x rfl) (by simp)
 |some x=>exact(h x rfl).symm
theorem iP(r:RC)(c:CSt):run T r c=eC (run T) (call T) T.sg r c:=by
 refine vK (fun x h=> ?_) (fun x h=> ?_)
 ·obtain⟨n,hn⟩:=iE h
  cases n with
  |zero=>simp[gu]at hn
  |succ n=>rw[gu]at hn;exact mE (LB n) (xaE n) hn
 ·obtain⟨n,hn⟩:=Aj h
  exact LA (n:=n+1) (by rw[gu];exact hn)
theorem Gh(g:Nat)(a:t8)(os:List aH)(k:Nat):call T g a os k=nT (run T) (T.fn g) a os k:=by
 refine vK (fun x h=> ?_) (fun x h=> ?_)
 ·obtain⟨n,hn⟩:=qp h
  exact ja (LB n) hn
 ·cases hF:T.fn g with
  |none=>rw[hF]at h;cases h
  |some b=>
   cases b with
   |prim f=>exact rf (n:=0) (by unfold fz;rw[hF];rw[hF]at h;exact h)
   |code F=>
    rw[hF]at h;simp only[nT,IY]at h;split at h
    ·rename_i y
     cases hs:run T F.code (tF a os k)with
     |none=>rw[hs]at h;cases h
     |some p=>obtain⟨n,hn⟩:=iE hs;refine rf (n:=n) ?_;unfold fz;rw[hF];simp only[nT,IY,if_pos y];rw[hn];rw[hs]at h;exact h
    ·cases h
theorem JU(c:CSt):run T .skip c=some (.n,c):=iP _ _
theorem YN(c:CSt):run T .ret c=some (.r,c):=iP _ _
theorem JY(id:Nat)(c:CSt):run T (.exit id) c=some (.x id,c):=iP _ _
theorem YP(l:List RI)(c:CSt):run T (.ops l) c=nrm [] (gw (call T) T.sg l c):=iP _ _
theorem YR(b E:LAa)(l:List FI)(y:List LAa)(h:LAa)(c:CSt):run T (.fla b E l y h) c=nrm h (jV (call T) T.sg b l y c):=iP _ _
theorem YQ(b y:LAa)(l:List FI)(h:LAa)(c:CSt):run T (.flt b y l h) c=nrm h (fJ (call T) T.sg b l [] c):=iP _ _
theorem YM(a b:RC)(c:CSt):run T (.seq a b) c=sq (run T) b (run T a c):=iP _ _
theorem JZ(k:Arg)(a b:RC)(c:CSt):run T (.cond k a b) c=cnd (run T) a b c (c.ev k):=iP _ _
theorem Hg(id:Nat)(b:RC)(c:CSt):run T (.block id b) c=blk id (run T b c):=iP _ _
theorem ai(b:RC)(c:CSt):run T (.loop b) c=lp (run T) b (run T b c):=iP _ _
theorem YO(h:List Dir)(a:RC)(c:CSt):run T (.pre h a) c=prD (run T) a (jq c h):=iP _ _
theorem JW(a:RC)(h:List Dir)(c:CSt):run T (.post a h) c=psD h (run T a c):=iP _ _
theorem aj{g:Nat}{F:FnC}(h:T.fn g=some (.code F))(a:t8)(os:List aH)(k:Nat):call T g a os k=IZ F os.length (IY (run T) F a os k):=by rw[Gh,h];rfl
theorem fj{g:Nat}{f:t8->List aH->Nat->Option dV}(h:T.fn g=some (.prim f))(a:t8)(os:List aH)(k:Nat):call T g a os k=f a os k:=by rw[Gh,h];rfl
end Go.Sy
namespace Go.Sy
variable [br]
variable {call : dy} {sg : Nat -> Sig} {c : CSt} {d : Option Nat} {k : Nat}
theorem xns{α:Type}{p:Prop}[Decidable p]{v:α}(h:p):gd p v=some v:=if_pos h
def gj(c:CSt)(d:LAb):Option SV->LAf
 |some v=>some (c.put d v)
 |none=>none
theorem Hk(v:SV):gj c d (some v)=some (c.put d v):=rfl
theorem Hl:gj c d none=none:=rfl
theorem J3(l:List (Nat×SV))(o:List (Nat×aH))(t:LAa)(v:SV):CSt.put ⟨l,o,t⟩ (some k) v=⟨kq l k v,o,t⟩:=rfl
theorem J4(v:SV):CSt.put c none v=c:=rfl
theorem xnr(l:List (Nat×SV))(o:List (Nat×aH))(t:LAa)(n:Nat):CSt.get ⟨l,o,t⟩ n=ff l n:=rfl
theorem ZH(l:List (Nat×SV))(o:List (Nat×aH))(t:LAa)(n:Nat):CSt.look ⟨l,o,t⟩ n=jy o n:=rfl
theorem xx8(n:Nat):c.ev (.t n)=c.get n:=rfl
theorem xya(v:SV):c.ev (.c v)=v:=rfl
theorem xx9(g:Nat):c.ev (.f g)= .fn g [] []:=rfl
theorem rQ:c.kill []=c:=rfl
theorem Hx(l:List (Nat×SV))(o:List (Nat×aH))(t:LAa)(n:Nat)(r:LAa):CSt.kill ⟨l,o,t⟩ (n::r)=⟨zJ l (n::r),o,t⟩:=rfl
def DM:Option SV->Option pJ
 |some v=>some {val:=v}
 |none=>none
theorem GN(v:SV):DM (some v)=some {val:=v}:=rfl
theorem GO:DM none=none:=rfl
theorem sh{so:SOp}{o:Option SV}(h:eJ c d so=DM o):oW c d (eJ c d so)=gj c d o:=by rw[h];cases o<;>rfl
theorem Yh(o:Option SV):(match o with|some v=>some {val:=v}|none=>none:Option pJ)=DM o:=by cases o<;>rfl
def It:SV->Option SV
 | .ptr o off=>some (.ptr o off)
 | .ap o h i j=>some (.ap o h i j)
 | .pp cs=>some (.pp cs)
 | .fn f a b=>some (.fn f a b)
 |_=>none
def xie(h:Bool):SV->SV->Option SV
 | .bool a,.bool b=>some (.bool (if h then decide (a≠b)else decide (a=b)))
 |_,_=>none
def xh9(y:Bool)(h:LAa):SV->SV->Option SV
 | .agg cs,.agg ds=>(ix h cs ds).map fun b=> .bool (if y then !b else b)
 |_,_=>none
def wY:SV->Option SV
 | .str l=>some (.str l)
 |_=>none
def Iz(h:Bool):SV->Option SV
 | .nili=>some (.bool (!h))
 |_=>none
def xbj:SV->Option SV
 | .str l=>some (.byt l .no)
 |_=>none
def xif(c:CSt):SV->Option SV
 | .str _=>none
 |v=>(fm c v).map .str
def Lw(l:d9):Option Int->Option Int->Option SV
 |some a,some b=>gd (0<=a/\a<=b/\b<=l.length) (.str ((l.take b.toNat).drop a.toNat))
 |_,_=>none
def Ig(c:CSt)(lo hi:Option Arg):SV->Option SV
 | .str l=>Lw l (lz c lo 0) (lz c hi l.length)
 |_=>none
def Ih(c:CSt)(len h:Nat)(lo hi y:Option Arg):SV->Option SV
 | .ptr o off=>if off=0 then pF c h (.psl o h 0 len (some len)) lo hi y else none
 |_=>none
def xG(off:Nat):SV->Option SV
 | .ptr o k=>some (.ptr o (k+off))
 | .ap o h i j=>some (.ap o h i (j+off))
 | .pp cs=>some (.pp (cs.drop off))
 |_=>none
def xh0(off n:Nat)(h:Bool):SV->Option SV
 | .agg cs=>gd (off+n<=cs.length) (ej h n (cs.drop off))
 |_=>none
def qI(h:Nat):SV->Option Int->Option SV
 | .byt l _,some n=>gd (0<=n/\n<l.length/\h=1) (.pp [.u8 (l.getD n.toNat 0)])
 | .lst sz' xs _,some n=>gd (0<=n/\n<xs.length/\h=sz') (.pp (xs.getD n.toNat []))
 | .psl o sz' off k _,some n=>gd (0<=n/\n<k/\h=sz') (.ap o h (off+n.toNat) 0)
 |_,_=>none
def rU(len h o off:Nat)(n:Int):Option aH->Option SV
 |some (.rc _)=>gd (0<=n/\n<len) (.ptr o (off+n.toNat*h))
 |some _=>gd (off=0/\0<=n/\n<len) (.ap o h n.toNat 0)
 |none=>none
def ol(c:CSt)(len h:Nat):SV->Option Int->Option SV
 | .ptr o off,some n=>rU len h o off n (c.look o)
 | .pp cs,some n=>gd (0<=n/\n<len/\cs.length=len*h) (.pp (cs.drop (n.toNat*h)))
 |_,_=>none
def IC(len h:Nat)(y:Bool):SV->Option Int->Option SV
 | .agg cs,some n=>gd (0<=n/\n<len/\cs.length=len*h) (ej y h (cs.drop (n.toNat*h)))
 |_,_=>none
def IB:SV->Option Int->Option SV
 | .str l,some n=>gd (0<=n/\n<l.length) (.u8 (l.getD n.toNat 0))
 |_,_=>none
def xh8(i:Nat):SV->Option SV
 | .tup vs=>gd (i<vs.length) (vs.getD i .undef)
 |_=>none
def lenC:LAb->Option SV
 |some n=>some (.int .i64 (n:Nat))
 |none=>none
def xib:SV->Option SV
 | .psl _ _ _ _ (some m)=>some (.int .i64 m)
 | .byt l t=>if t= .clip then some (.int .i64 l.length)else none
 | .lst _ h t=>if t= .clip then some (.int .i64 h.length)else none
 |_=>none
def Iw:SV->SV->Option SV
 | .int k a,.int k' b=>if k=k' then some (.int k (if b<a then b else a))else none
 |_,_=>none
def Ix:SV->SV->Option SV
 | .int k a,.int k' b=>if k=k' then some (.int k (if a<b then b else a))else none
 |_,_=>none
def xM:Option t8->Option SV
 |some l=>some (.agg l)
 |none=>none
def xhR(h:Nat):Option d8->Option SV
 |some r=>some (.lst h r .clip)
 |none=>none
def Iy:Option d9->Option SV
 |some r=>some (.byt r .clip)
 |none=>none
theorem xoM(x:Arg):cW c (.mov x)=some (c.ev x):=rfl
theorem DO(z:t8)(h:List (Nat×Nat×Arg)):cW c (.build z h)=xM (jA z (psC c h)):=by simp only[cW];cases jA z (psC c h)<;>rfl
theorem xa9(h:Nat)(y:List Arg):cW c (.lit h y)=xhR h (rows h (evL c y)):=by simp only[cW];cases rows h (evL c y)<;>rfl
theorem Lr(h:List Arg):cW c (.litB h)=Iy (toB (evL c h)):=by simp only[cW];cases toB (evL c h)<;>rfl
theorem xkC(n:Nat)(h:Bool)(a:Arg):cW c (.load n h a)=nK c n h (c.ev a):=rfl
theorem xky(x:Arg):cW c (.nchk x)=It (c.ev x):=rfl
theorem xoR(op:BinOp)(x y:Arg):cW c (.bin op x y)=I1 op (c.ev x) (c.ev y):=rfl
theorem xoS(h:Bool)(x y:Arg):cW c (.beq h x y)=xie h (c.ev x) (c.ev y):=rfl
theorem xoP(E:Bool)(h:LAa)(x y:Arg):cW c (.eqS E h x y)=xh9 E h (c.ev x) (c.ev y):=rfl
theorem xvY(op:UnOp)(x:Arg):cW c (.un op x)=Aa op (c.ev x):=rfl
theorem Yk(q:IntKind)(x:Arg):cW c (.toInt q x)=iT q (c.ev x):=rfl
theorem Yj(x:Arg):cW c (.toStr x)=wY (c.ev x):=rfl
theorem xkE(h:Bool)(x:Arg):cW c (.isni h x)=Iz h (c.ev x):=rfl
theorem xoL(x:Arg):cW c (.s2b x)=xbj (c.ev x):=rfl
theorem xoT(x:Arg):cW c (.b2s x)=xif c (c.ev x):=rfl
theorem xkz(f:Nat)(a b:List Arg):cW c (.mkfn f a b)=some (.fn f (evL c a) (evL c b)):=rfl
theorem Lq(x:Arg)(lo hi:Option Arg):cW c (.slcS x lo hi)=Ig c lo hi (c.ev x):=by simp only[cW];cases c.ev x<;>rfl
theorem xkw(h:Nat)(x:Arg)(lo hi y:Option Arg):cW c (.slcL h x lo hi y)=pF c h (c.ev x) lo hi y:=rfl
theorem xkx(len y:Nat)(x:Arg)(lo hi h:Option Arg):cW c (.slcA len y x lo hi h)=Ih c len y lo hi h (c.ev x):=rfl
theorem Yl(off:Nat)(x:Arg):cW c (.faddr off x)=xG off (c.ev x):=rfl
theorem xoN(off n:Nat)(h:Bool)(x:Arg):cW c (.fld off n h x)=xh0 off n h (c.ev x):=rfl
theorem Jv(h:Nat)(x i:Arg):cW c (.iaddrL h x i)=qI h (c.ev x) (c.ev i).num:=rfl
theorem x9(len h:Nat)(x i:Arg):cW c (.iaddrA len h x i)=ol c len h (c.ev x) (c.ev i).num:=by simp only[cW];unfold ol rU;rfl
theorem xkG(len y:Nat)(h:Bool)(x i:Arg):cW c (.idxA len y h x i)=IC len y h (c.ev x) (c.ev i).num:=rfl
theorem xkF(x i:Arg):cW c (.idxS x i)=IB (c.ev x) (c.ev i).num:=rfl
theorem xoO(x:Arg)(i:Nat):cW c (.ext x i)=xh8 i (c.ev x):=rfl
theorem xba(b:Bool)(x:Arg):cW c (.len b x)=lenC (kX b (c.ev x)):=by simp only[cW];cases kX b (c.ev x)<;>rfl
theorem xkD(n:Nat):cW c (.lenC n)=some (.int .i64 n):=rfl
theorem xoQ(x:Arg):cW c (.cap x)=xib (c.ev x):=rfl
theorem xkA(x y:Arg):cW c (.mini x y)=Iw (c.ev x) (c.ev y):=rfl
theorem xkB(x y:Arg):cW c (.maxi x y)=Ix (c.ev x) (c.ev y):=rfl
def SOp.pure:SOp->Bool
 | .new _| .box _| .mk _ _ _ _| .mkB _ _| .store _ _ _| .app _ _ _ _| .cpy _ _ _| .pick _ _ _| .call _ _| .isnil _ _| .newB _| .slid _| .appO _ _ _ _| .clr _ _=>false
 |_=>true
theorem uE{so:SOp}(h:so.pure=true):eJ c d so=DM (cW c so):=by
 cases so<;>first|cases h;done|rfl|exact Yh _
theorem cj{so:SOp}(h:so.pure=true):opC call sg c d so=gj c d (cW c so):=by
 have y:opC call sg c d so=oW c d (eJ c d so):=by cases so<;>first|rfl|cases h
 rw[y];exact sh (uE h)
theorem xqX(x:Arg):opC call sg c d (.mov x)=gj c d (some (c.ev x)):=cj rfl
theorem Zz(z:t8)(h:List (Nat×Nat×Arg)):opC call sg c d (.build z h)=gj c d (xM (jA z (psC c h))):=(cj rfl).trans (by rw[DO])
theorem xqZ(h:Nat)(y:List Arg):opC call sg c d (.lit h y)=gj c d (xhR h (rows h (evL c y))):=(cj rfl).trans (by rw[xa9])
theorem xnc(h:List Arg):opC call sg c d (.litB h)=gj c d (Iy (toB (evL c h))):=(cj rfl).trans (by rw[Lr])
theorem xnb(n:Nat)(h:Bool)(a:Arg):opC call sg c d (.load n h a)=gj c d (nK c n h (c.ev a)):=cj rfl
theorem xm7(x:Arg):opC call sg c d (.nchk x)=gj c d (It (c.ev x)):=cj rfl
theorem xq8(op:BinOp)(x y:Arg):opC call sg c d (.bin op x y)=gj c d (I1 op (c.ev x) (c.ev y)):=cj rfl
theorem xq9(h:Bool)(x y:Arg):opC call sg c d (.beq h x y)=gj c d (xie h (c.ev x) (c.ev y)):=cj rfl
theorem xq3(E:Bool)(h:LAa)(x y:Arg):opC call sg c d (.eqS E h x y)=gj c d (xh9 E h (c.ev x) (c.ev y)):=cj rfl
theorem xwr(op:UnOp)(x:Arg):opC call sg c d (.un op x)=gj c d (Aa op (c.ev x)):=cj rfl
theorem Zv(q:IntKind)(x:Arg):opC call sg c d (.toInt q x)=gj c d (iT q (c.ev x)):=cj rfl
theorem Zu(x:Arg):opC call sg c d (.toStr x)=gj c d (wY (c.ev x)):=cj rfl
theorem xm6(h:List Arg):opC call sg c d (.newB h)=pt c d (toB (evL c h)):=rfl
theorem xm1(x:Arg):opC call sg c d (.slid x)=tq c d (c.ev x):=rfl
theorem AV(k:Nat)(l:d9):pt c (some k) (some l)=some (CSt.app c (some k) {val:= .psl (k+100) 1 0 l.length (some l.length),new:=some (.bar l)}):=rfl
theorem GV(o off n:Nat)(cap:LAb):tq c d (.psl o 1 off n cap)=pV c d o off n cap (c.look o):=rfl
theorem GX(o off n:Nat)(cap:LAb)(l:d9):pV c d o off n cap (some (.bar l))=if off+n<=l.length/\cap=some n then some (((c.publish o []).1).put d (.byt ((l.drop off).take n) .clip))else none:=rfl
theorem xne(h:Bool)(x:Arg):opC call sg c d (.isni h x)=gj c d (Iz h (c.ev x)):=cj rfl
theorem xqV(x:Arg):opC call sg c d (.s2b x)=gj c d (xbj (c.ev x)):=cj rfl
theorem xra(x:Arg):opC call sg c d (.b2s x)=gj c d (xif c (c.ev x)):=cj rfl
theorem xm8(f:Nat)(a b:List Arg):opC call sg c d (.mkfn f a b)=gj c d (some (.fn f (evL c a) (evL c b))):=cj rfl
theorem xm2(x:Arg)(lo hi:Option Arg):opC call sg c d (.slcS x lo hi)=gj c d (Ig c lo hi (c.ev x)):=(cj rfl).trans (by rw[Lq])
theorem xm3(h:Nat)(x:Arg)(lo hi y:Option Arg):opC call sg c d (.slcL h x lo hi y)=gj c d (pF c h (c.ev x) lo hi y):=cj rfl
theorem xm4(len y:Nat)(x:Arg)(lo hi h:Option Arg):opC call sg c d (.slcA len y x lo hi h)=gj c d (Ih c len y lo hi h (c.ev x)):=cj rfl
theorem Zy(off:Nat)(x:Arg):opC call sg c d (.faddr off x)=gj c d (xG off (c.ev x)):=cj rfl
theorem xq1(off n:Nat)(h:Bool)(x:Arg):opC call sg c d (.fld off n h x)=gj c d (xh0 off n h (c.ev x)):=cj rfl
theorem Kg(h:Nat)(x i:Arg):opC call sg c d (.iaddrL h x i)=gj c d (qI h (c.ev x) (c.ev i).num):=cj rfl
theorem Kh(len h:Nat)(x i:Arg):opC call sg c d (.iaddrA len h x i)=gj c d (ol c len h (c.ev x) (c.ev i).num):=(cj rfl).trans (by rw[x9])
theorem xng(len y:Nat)(h:Bool)(x i:Arg):opC call sg c d (.idxA len y h x i)=gj c d (IC len y h (c.ev x) (c.ev i).num):=cj rfl
theorem xnf(x i:Arg):opC call sg c d (.idxS x i)=gj c d (IB (c.ev x) (c.ev i).num):=cj rfl
theorem xq2(x:Arg)(i:Nat):opC call sg c d (.ext x i)=gj c d (xh8 i (c.ev x)):=cj rfl
theorem xq0(b:Bool)(x:Arg):opC call sg c d (.len b x)=gj c d (lenC (kX b (c.ev x))):=(cj rfl).trans (by rw[xba])
theorem xnd(n:Nat):opC call sg c d (.lenC n)=gj c d (some (.int .i64 n)):=cj rfl
theorem xq6(x:Arg):opC call sg c d (.cap x)=gj c d (xib (c.ev x)):=cj rfl
theorem xm9(x y:Arg):opC call sg c d (.mini x y)=gj c d (Iw (c.ev x) (c.ev y)):=cj rfl
theorem xna(x y:Arg):opC call sg c d (.maxi x y)=gj c d (Ix (c.ev x) (c.ev y)):=cj rfl
def Is(a b:SV):SV->Option SV
 | .bool t=>some (jl t a b)
 |_=>none
theorem xnL(q a b:Arg):eJ c d (.pick q a b)=DM (Is (c.ev a) (c.ev b) (c.ev q)):=by simp only[eJ];cases c.ev q<;>rfl
theorem xm5(q a b:Arg):opC call sg c d (.pick q a b)=gj c d (Is (c.ev a) (c.ev b) (c.ev q)):=sh (xnL q a b)
def xB(h:Bool):SV->Option SV
 | .byt l _=>gd (l≠ []) (.bool h)
 | .lst _ y _=>gd (y≠ []) (.bool h)
 | .psl _ _ _ _ _=>some (.bool h)
 |_=>none
theorem xau(h:Bool)(x:Arg):eJ c d (.isnil h x)=DM (xB h (c.ev x)):=by simp only[eJ];cases c.ev x<;>first|rfl|(simp only[xB];unfold gd;split<;>rfl)
theorem Zx(h:Bool)(x:Arg):opC call sg c d (.isnil h x)=gj c d (xB h (c.ev x)):=sh (xau h x)
def Gm(c:CSt)(k:Nat)(o:aH)(v:SV):CSt:=CSt.app c (some k) {val:=v,new:=some o}
theorem xaU(l:List (Nat×SV))(ob:List (Nat×aH))(t:LAa)(o:aH)(v:SV):
 Gm ⟨l,ob,t⟩ k o v=⟨kq (dN (k+100) (k+101) l) k v,jE (bP (k+100) (k+101) ob) (k+100) (o.purge (k+100) (k+101)),cJ (k+100) (k+101) t⟩:=rfl
def jK(c:CSt)(k:Nat)(v:SV):Option aH->LAf
 |some o=>some (Gm c k o v)
 |none=>none
theorem H9(v:SV)(o:aH):jK c k v (some o)=some (Gm c k o v):=rfl
theorem xqW(o:aH):opC call sg c (some k) (.new o)=jK c k (.ptr (k+100) 0) (gd (o.wf=true) o):=by show oW c (some k) (gd _ _)=_;unfold gd;split<;>rfl
theorem xq7(x:Arg):opC call sg c (some k) (.box x)=some (Gm c k (.rc (c.ev x).cells) (.ptr (k+100) 0)):=rfl
def mkE(bytes:Nat):SV->SV->Option (Nat×Nat)
 | .int _ n,.int _ m=>gd (0<=n/\n<=m/\bytes*m<=140737488355328/\m<=9223372036854775807) (n.toNat,m.toNat)
 |_,_=>none
def mkS(c:CSt)(k:Nat)(z:t8):Option (Nat×Nat)->LAf
 |some p=>some (Gm c k (.arr z.length (aL p.2 z)) (.psl (k+100) z.length 0 p.1 (some p.2)))
 |none=>none
theorem xws(z:t8)(bytes:Nat)(n m:Arg):opC call sg c (some k) (.mk z bytes n m)=mkS c k z (mkE bytes (c.ev n) (c.ev m)):=by show oW c (some k) (eJ c (some k) (.mk z bytes n m))=_;simp only[eJ];cases h1:c.ev n<;>cases h2:c.ev m<;>first|rfl|(simp only[mkE];unfold gd;split<;>rfl)
def xn5:SV->SV->Option (Nat×Nat)
 | .int _ n,.int _ m=>gd (0<=n/\n<=m/\m<=140737488355328) (n.toNat,m.toNat)
 |_,_=>none
def xu7(c:CSt)(k:Nat):Option (Nat×Nat)->LAf
 |some p=>some (Gm c k (.bar (aL p.2 0)) (.psl (k+100) 1 0 p.1 (some p.2)))
 |none=>none
theorem xqY(n m:Arg):opC call sg c (some k) (.mkB n m)=xu7 c k (xn5 (c.ev n) (c.ev m)):=by show oW c (some k) (eJ c (some k) (.mkB n m))=_;simp only[eJ];cases h1:c.ev n<;>cases h2:c.ev m<;>first|rfl|(simp only[xn5];unfold gd;split<;>rfl)
def stC(c:CSt)(n:Nat)(v:t8):SV->Option (Nat×aH)
 | .ptr o off=>match c.look o with
  |some (.rc cs)=>gd (off+n<=cs.length/\v.length=n/\v.all SV.one=true) (o,.rc (setCells cs off v))
  |some (.arr h xs)=>gd (off=0/\n=xs.length*h/\v.length=n/\v.all SV.isData=true) (o,.arr h (kG h xs.length (v.map SV.data)))
  |some (.bar l)=>match toB v with
   |some y=>gd (off=0/\n=l.length/\y.length=n) (o,.bar y)
   |none=>none
  |_=>none
 | .ap o h i j=>match c.look o with
  |some (.arr sz' xs)=>gd (h=sz'/\i<xs.length/\j+n<=h/\v.length=n/\v.all SV.isData=true) (o,.arr sz' (jX h xs i j n (v.map SV.data)))
  |some (.bar l)=>match v with
   |[.u8 b]=>gd (h=1/\j=0/\n=1/\i<l.length) (o,.bar (l.set i b))
   |_=>none
  |_=>none
 |_=>none
def stS(c:CSt):Option (Nat×aH)->LAf
 |some p=>some ⟨c.tm,jE c.ob p.1 p.2,c.tk⟩
 |none=>none
theorem JB(l:List (Nat×SV))(ob:List (Nat×aH))(t:LAa)(p:Nat×aH):stS ⟨l,ob,t⟩ (some p)=some ⟨l,jE ob p.1 p.2,t⟩:=rfl
theorem GT(n:Nat)(v:t8)(a:SV):mf c n v a=(stC c n v a).map fun p=> {val:= .undef,wr:=[p]}:=by
 cases a with
 |ptr o off=>
  simp only[mf,stC];cases c.look o with
  |none=>rfl
  |some ob=>
   cases ob with
   |rc cs=>simp only;unfold gd;split<;>rfl
   |arr h y=>simp only;unfold gd;split<;>rfl
   |bar l=>simp only;cases toB v<;>first|rfl|(simp only;unfold gd;split<;>rfl)
 |ap o E i j=>
  simp only[mf,stC];cases c.look o with
  |none=>rfl
  |some ob=>
   cases ob with
   |rc cs=>rfl
   |arr h y=>simp only;unfold gd;split<;>rfl
   |bar l=>
    rcases v with _|⟨u,_|⟨u2,r⟩⟩
    ·rfl
    ·cases u<;>first|rfl|(simp only;unfold gd;split<;>rfl)
    ·cases u<;>rfl
 |_=>rfl
theorem Zw(n:Nat)(a x:Arg):opC call sg c none (.store n a x)=if(c.ev x).isDef=true then stS c (stC c n (c.ev x).cells (c.ev a))else none:=by
 show oW c none (eJ c none (.store n a x))=_;simp only[eJ];split
 ·rw[GT];cases stC c n (c.ev x).cells (c.ev a)<;>rfl
 ·rfl
def apB(c:CSt)(k:Nat)(l:d9)(t:Tok)(z:t8)(bytes:Nat):Option d9->LAf
 |some h=>if z.length=1/\bytes=1/\t.readyC c=true/\l.length+h.length<=140737488355328 then some (CSt.app c (some k) {val:= .byt (l++h) (.id (k+100)),eat:=t,tok:=true})else none
 |none=>none
def apL(c:CSt)(k:Nat)(h:Nat)(l:d8)(t:Tok)(z:t8)(bytes:Nat):Option d8->LAf
 |some y=>if z.length=h/\t.readyC c=true/\(l.length+y.length)*bytes<=140737488355328 then some (CSt.app c (some k) {val:= .lst z.length (l++y) (.id (k+100)),eat:=t,tok:=true})else none
 |none=>none
theorem xaS(l:List (Nat×SV))(ob:List (Nat×aH))(t:LAa)(v:SV)(e:Tok):
 CSt.app ⟨l,ob,t⟩ (some k) {val:=v,eat:=e,tok:=true}=⟨kq (dN (k+100) (k+101) l) k v,bP (k+100) (k+101) ob,nX (cJ (k+100) (k+101) (e.eat t)) (k+100)⟩:=rfl
def apS(c:CSt)(k:Nat)(z:t8)(bytes:Nat)(y:SV):SV->LAf
 | .byt l t=>apB c k l t z bytes (fm c y)
 | .lst h l t=>apL c k h l t z bytes (gC c z.length y)
 |_=>none
theorem xrb(z:t8)(bytes:Nat)(x y:Arg):opC call sg c (some k) (.app z bytes x y)=apS c k z bytes (c.ev y) (c.ev x):=by
 show oW c (some k) (eJ c (some k) (.app z bytes x y))=_;simp only[eJ];cases c.ev x<;>try rfl
 ·simp only[apS]
  cases fm c (c.ev y)with
  |none=>rfl
  |some h=>simp only[dl,apB];unfold gd;split<;>rfl
 ·simp only[apS]
  cases gC c z.length (c.ev y)with
  |none=>rfl
  |some h=>simp only[dl,apL];unfold gd;split<;>rfl
def cpB(o off n:Nat)(E h:Nat)(l:d9):Option d9->Option (SV×Nat×aH)
 |some y=>gd (E=1/\h=1/\off+n<=l.length) (.int .i64 (min y.length n:Nat),o,.bar (l.take off++y.take n++l.drop (off+(y.take n).length)))
 |none=>none
def cpL(b:Bool)(o off n:Nat)(I y h:Nat)(F:d8):Option d8->Option (SV×Nat×aH)
 |some E=>gd (b=true/\I=y/\I=h/\off+n<=F.length) (.int .i64 (min E.length n:Nat),o,.arr I (F.take off++E.take n++F.drop (off+(E.take n).length)))
 |none=>none
def cp2(b:Bool)(c:CSt)(E o h off n:Nat)(y:SV):Option aH->Option (SV×Nat×aH)
 |some (.bar l)=>cpB o off n E h l (fm c y)
 |some (.arr sz'' xs)=>cpL b o off n E h sz'' xs (gC c E y)
 |_=>none
def cpC(b:Bool)(c:CSt)(E:Nat)(y:SV):SV->Option (SV×Nat×aH)
 | .psl o h off n _=>cp2 b c E o h off n y (c.look o)
 |_=>none
def cpS(c:CSt)(d:LAb):Option (SV×Nat×aH)->LAf
 |some p=>some (CSt.put ⟨c.tm,jE c.ob p.2.1 p.2.2,c.tk⟩ d p.1)
 |none=>none
theorem xni(z:t8)(b:Nat)(x y:Arg):opC call sg c d (.appO z b x y)=ua c d z b y (c.ev x):=rfl
def clA(o off n:Nat)(z:t8)(y h:Nat)(E:d8):Option (SV×Nat×aH):=gd (0<n/\z.length=y/\z.length=h/\off+n<=E.length) (.tup [],o,.arr z.length (E.take off++aL n z++E.drop (off+n)))
def cl2(z:t8)(o h off n:Nat):Option aH->Option (SV×Nat×aH)
 |some (.arr sz'' xs)=>clA o off n z h sz'' xs
 |_=>none
def clC(c:CSt)(z:t8):SV->Option (SV×Nat×aH)
 | .psl o h off n _=>cl2 z o h off n (c.look o)
 |_=>none
theorem xq5(z:t8)(x:Arg):opC call sg c d (.clr z x)=cpS c d (clC c z (c.ev x)):=by
 show oW c d (eJ c d (.clr z x))=_;simp only[eJ];cases c.ev x<;>try rfl
 rename_i o y off n cap;simp only[clC];cases c.look o with
 |none=>rfl
 |some ob=>
  cases ob with
  |rc cs=>rfl
  |bar l=>rfl
  |arr h E=>simp only[cl2,clA];unfold gd;split<;>rfl
theorem xq4(h:Nat)(x y:Arg):opC call sg c d (.cpy h x y)=cpS c d (cpC y.isT c h (c.ev y) (c.ev x)):=by
 show oW c d (eJ c d (.cpy h x y))=_;simp only[eJ];cases c.ev x<;>try rfl
 rename_i o F off n cap;simp only[cpC];cases c.look o with
 |none=>rfl
 |some ob=>
  cases ob with
  |rc cs=>rfl
  |bar l=>
   simp only[cp2];cases fm c (c.ev y)with
   |none=>rfl
   |some I=>simp only[dl,cpB];unfold gd;split<;>rfl
  |arr E J=>
   simp only[cp2];cases gC c h (c.ev y)with
   |none=>rfl
   |some I=>simp only[dl,cpL];unfold gd;split<;>rfl
def VI(call:dy)(sg:Nat->Sig)(c:CSt)(d:LAb)(a_:t8):SV->LAf
 | .fn g a b=>i9 call (sg g) c d g (a++a_++b)
 |_=>none
theorem xnh(f:Arg)(a_:List Arg):opC call sg c d (.call f a_)=VI call sg c d (evL c a_) (c.ev f):=by simp only[opC];unfold VI;rfl
theorem xkV(o:SOp):eD call sg c ⟨d,none,o⟩=opC call sg c d o:=rfl
theorem xlN(g:Option (Nat×Bool))(o:SOp)(r:LAe):plC call sg (⟨d,g,o⟩::r) c=nxP call sg r (opC call sg c d o):=by rw[plC]
theorem FC:gw call sg [] c=some c:=by rw[gw]
theorem TX(i:SI)(h:LAa)(r:List RI):gw call sg (.op i h::r) c=nxC call sg h r (eD call sg c i):=by rw[gw]
theorem FD(g:Nat)(b:Bool)(l:LAe)(h:LAa)(r:List RI):gw call sg (.grp g b l h::r) c=nxC call sg h r (qJ call sg b l c (c.get g)):=by rw[gw]
theorem FA(i:SI)(h:LAa)(r:List RI):gw call sg (.tks i h::r) c=nxC call sg h r (DQ c i):=by rw[gw]
theorem Yt(d:LAb)(x:Arg):DQ c ⟨d,none,.s2b x⟩=Yu c d (c.ev x):=rfl
theorem xkN(k:Nat)(l:d9):Yu c (some k) (.str l)=some (CSt.app c (some k) {val:= .byt l (.id (k+100)),tok:=true}):=rfl
theorem FB(i:SI)(h:LAa)(r:List RI):gw call sg (.own i h::r) c=nxC call sg h r (vJ c i):=by rw[gw]
theorem Zh(d:LAb)(x:Arg):vJ c ⟨d,none,.s2b x⟩=Zn c d (c.ev x):=rfl
theorem Zi(d:LAb)(h:Nat)(y:List Arg):vJ c ⟨d,none,.lit h y⟩=Zk c h d (rows h (evL c y)):=rfl
theorem Ke(d:LAb)(h:List Arg):vJ c ⟨d,none,.litB h⟩=pt c d (toB (evL c h)):=rfl
theorem Zj(d:LAb)(z:t8)(b:Nat)(x y:Arg):vJ c ⟨d,none,.app z b x y⟩=ua c d z b y (c.ev x):=rfl
theorem FE(q:Dir)(r:List RI):gw call sg (.dir q::r) c=nxC call sg [] r (s9 c q):=by rw[gw]
theorem mn(h:LAa)(r:List RI):nxC call sg h r (some c)=gw call sg r (c.kill h):=by rw[nxC]
theorem mp(h:LAa)(r:List RI):nxC call sg h r none=none:=by rw[nxC]
theorem TU:plC call sg [] c=some c:=by rw[plC]
theorem FG(r:LAe):nxP call sg r (some c)=plC call sg r c:=by rw[nxP]
theorem FH(r:LAe):nxP call sg r none=none:=by rw[nxP]
theorem xkL:unL c []=c:=rfl
theorem Ym(g:Option (Nat×Bool))(o:SOp)(r:LAe):unL c (⟨d,g,o⟩::r)=unL (c.put d (.tup [])) r:=rfl
theorem xrs(b:Bool)(l:LAe):qJ call sg b l c (.tup [])=some (unL c l):=rfl
theorem xrt(b t:Bool)(l:LAe):qJ call sg b l c (.bool t)=if t=b then plC call sg l c else some (unL c l):=rfl
theorem xnj(h:LAa)(r:List RI)(p:Prop)[Decidable p](a b:LAf):nxC call sg h r (if p then a else b)=if p then nxC call sg h r a else nxC call sg h r b:=by split<;>rfl
theorem xno(p:Prop)[Decidable p](l h:List (Nat×SV))(o:List (Nat×aH))(t:LAa):(if p then some (CSt.mk l o t)else some (CSt.mk h o t))=some (CSt.mk (if p then l else h) o t):=by split<;>rfl
theorem xnn(p:Prop)[Decidable p](n:Nat)(v w:SV)(l h:List (Nat×SV)):(if p then(n,v)::l else(n,w)::h)=(n,if p then v else w)::(if p then l else h):=by split<;>rfl
theorem ZP(p:Prop)[Decidable p]:(if p then([]:List (Nat×SV))else [])=[]:=by split<;>rfl
theorem Kz{α:Type}(p:Prop)[Decidable p](a:α):(if p then a else a)=a:=by split<;>rfl
theorem Ky(p:Prop)[Decidable p](q:IntKind)(a b:Int):(if p then SV.int q a else SV.int q b)= .int q (if p then a else b):=by split<;>rfl
theorem HD(p:Prop)[Decidable p](a b:Bool):(if p then SV.bool a else SV.bool b)= .bool (if p then a else b):=by split<;>rfl
theorem ZO(p:Prop)[Decidable p](a b:UInt8):(if p then SV.u8 a else SV.u8 b)= .u8 (if p then a else b):=by split<;>rfl
theorem HF(t a b:Bool):jl t (.bool a) (.bool b)= .bool (if t=true then a else b):=by cases t<;>rfl
theorem KA(t:Bool)(q:IntKind)(a b:Int):jl t (.int q a) (.int q b)= .int q (if t=true then a else b):=by cases t<;>rfl
theorem ZQ(t:Bool)(a b:UInt8):jl t (.u8 a) (.u8 b)= .u8 (if t=true then a else b):=by cases t<;>rfl
theorem HE(a b:SV):jl true a b=a:=rfl
theorem A1(a b:SV):jl false a b=b:=rfl
variable {rn : RC -> CSt -> iB}
theorem Ki(h:LAa):nrm h (some c)=some (.n,c.kill h):=rfl
theorem Kj(h:LAa):nrm h none=none:=rfl
theorem ZA(h:LAa)(p:Prop)[Decidable p](a b:LAf):nrm h (if p then a else b)=if p then nrm h a else nrm h b:=by split<;>rfl
theorem xv4(b:RC):sq rn b (some (.n,c))=rn b c:=rfl
theorem xv2(b:RC)(id:Nat):sq rn b (some (.x id,c))=some (.x id,c):=rfl
theorem xv3(b:RC):sq rn b (some (.r,c))=some (.r,c):=rfl
theorem Yx(b:RC):sq rn b none=none:=rfl
theorem xkP(b:RC)(p:Prop)[Decidable p](x y:iB):sq rn b (if p then x else y)=if p then sq rn b x else sq rn b y:=by split<;>rfl
theorem xrQ(a b:RC)(t:Bool):cnd rn a b c (.bool t)=if t=true then rn a c else rn b c:=rfl
theorem xrV(id:Nat):blk id (some (.n,c))=some (.n,c):=rfl
theorem xrU(id:Nat):blk id (some (.r,c))=some (.r,c):=rfl
theorem xrT(id h:Nat):blk id (some (.x h,c))=if h=id then some (.n,c)else some (.x h,c):=rfl
theorem K9(id:Nat):blk id none=none:=rfl
theorem xaI(id:Nat)(p:Prop)[Decidable p](x y:iB):blk id (if p then x else y)=if p then blk id x else blk id y:=by split<;>rfl
theorem xwA(b:RC):lp rn b (some (.n,c))=rn (.loop b) c:=rfl
theorem xwy(b:RC)(id:Nat):lp rn b (some (.x id,c))=some (.x id,c):=rfl
theorem xwz(b:RC):lp rn b (some (.r,c))=some (.r,c):=rfl
theorem ZG(b:RC):lp rn b none=none:=rfl
theorem xnm(b:RC)(p:Prop)[Decidable p](x y:iB):lp rn b (if p then x else y)=if p then lp rn b x else lp rn b y:=by split<;>rfl
theorem J8(a:RC):prD rn a (some c)=rn a c:=rfl
theorem xpy(h:List Dir):psD h (some (.n,c))=prD (fun _ c=>some (.n,c)) .skip (jq c h):=by simp only[psD];cases jq c h<;>rfl
theorem xpw(h:List Dir)(id:Nat):psD h (some (.x id,c))=some (.x id,c):=rfl
theorem xpx(h:List Dir):psD h (some (.r,c))=some (.r,c):=rfl
theorem J7(h:List Dir):psD h none=none:=rfl
theorem Zf(h:List Dir)(p:Prop)[Decidable p](x y:iB):psD h (if p then x else y)=if p then psD h x else psD h y:=by split<;>rfl
theorem KU:jq c []=some c:=rfl
def xvm(h:List Dir):LAf->LAf
 |some c=>jq c h
 |none=>none
theorem HX(q:Dir)(h:List Dir):jq c (q::h)=xvm h (s9 c q):=by simp only[jq];cases s9 c q<;>rfl
theorem HY(h:List Dir):xvm h (some c)=jq c h:=rfl
theorem xry(F:FnC)(n:Nat):IZ F n (some (.n,c))=Uh F.keep F.raw n c (tY c F.rs):=rfl
theorem xrx(F:FnC)(n:Nat):IZ F n (some (.r,c))=Uh F.keep F.raw n c (tY c F.rs):=rfl
theorem Z8(F:FnC)(n:Nat)(p:Prop)[Decidable p](x y:iB):IZ F n (if p then x else y)=if p then IZ F n x else IZ F n y:=by split<;>rfl
theorem K5(sg:Sig)(g:Nat)(a_:t8):i9 call sg c d g a_=kY call sg c d g a_ ((SV.idsL a_).isEmpty&&sg.own.isEmpty):=rfl
theorem xaF(sg:Sig)(g:Nat)(a_:t8):kY call sg c d g a_ true=nM c d (call g (SV.bareL a_) [] 0):=rfl
theorem xaG(sg:Sig)(g:Nat)(a_:t8):kY call sg c d g a_ false=kQ call sg d g (fB c a_ (jN sg.raw 0 a_)):=rfl
theorem xaa(q:dV):nM c d (some q)=pw c d q q.bare:=rfl
theorem xac(q:dV):pw c d q true=some (c.put d q.r):=rfl
theorem xad(q:dV):pw c d q false=Bd c d q q.small:=rfl
theorem xab(q:dV):Bd c d q true=some (kZ c d [] [] q):=rfl
theorem xaM(r:SV)(os:List (Nat×aH))(tk:LAa):(dV.mk r os tk).bare=(os.isEmpty&&tk.isEmpty&&r.ids.isEmpty&&r.toks.isEmpty):=rfl
theorem JD(r:SV)(os:List (Nat×aH))(tk:LAa):(dV.mk r os tk).small=(os.all (fun p=>decide (p.1<1000)&&p.2.ids.all (fun k=>decide (k<1000))&&p.2.toks.all (fun k=>decide (k<1000)))&&r.ids.all (fun k=>decide (k<1000))&&r.toks.all (fun k=>decide (k<1000))&&tk.all (fun k=>decide (k<1000))):=rfl
theorem Yy(sg:Sig)(g:Nat)(a_:t8):kQ call sg d g (c,a_)=pf call c d g (ld c.tk sg.own 50 0 a_):=rfl
theorem YE(g:Nat)(a_:t8)(h:List LAb):pf call c d g (a_,h)=mF call c d g a_ h (eE c 60 [] (SV.idsL a_)) (ik c (eE c 60 [] (SV.idsL a_))):=rfl
theorem YD(g:Nat)(a_:t8)(h:List LAb)(m:LAa)(os:List aH):mF call c d g a_ h m (some os)=pe call c d g a_ h m (eW c.tk (50+h.length) os):=rfl
theorem YC(g:Nat)(a_:t8)(y:List LAb)(m:LAa)(os:List aH)(h:List LAb):pe call c d g a_ y m (os,h)=
 pd call c d g a_ y m os h (pP (SV.idsL a_++gp os) m&&eh m&&eh (cI (y++h))&&decide (m.length<=40)&&m.all fun o=> !inR (d.getD 0) o):=rfl
theorem YB(g:Nat)(a_:t8)(y:List LAb)(m:LAa)(os:List aH)(h:List LAb):pd call c d g a_ y m os h true=
 pU c d m (cI (y++h)) (call g (SV.renL (iv m) id a_) (fb (iv m) id os) (y.length+h.length)):=rfl
theorem YA(m mt:LAa)(q:dV):pU c d m mt (some q)=Aq c d m mt q q.small:=rfl
theorem Yz(m mt:LAa)(q:dV):Aq c d m mt q true=some (kZ c d m mt q):=rfl
theorem xnD(keep raw:LAa)(vs:t8):Uh keep raw k c (some vs)=Z9 keep k (fB c vs (jN raw 0 vs)):=rfl
theorem xnw(keep:LAa)(vs:t8):Z9 keep k (c,vs)=Ug keep k c vs (decide (k=0)&&(SV.idsL vs).isEmpty&&keep.isEmpty):=rfl
theorem xnB(keep:LAa)(vs:t8):Ug keep k c vs true=some ⟨kr (SV.bareL vs),[],[]⟩:=rfl
theorem xnC(keep:LAa)(vs:t8):Ug keep k c vs false=xh4 k c (ld c.tk keep 60 0 vs):=rfl
theorem xnA(vs:t8)(h:List LAb):xh4 k c (vs,h)=xh3 k c vs h (eE c 60 [] (lu k++SV.idsL vs)) (ik c (eE c 60 [] (lu k++SV.idsL vs))):=rfl
theorem xnz(vs:t8)(h:List LAb)(m:LAa)(os:List aH):xh3 k c vs h m (some os)=xh2 k vs h m (eW c.tk (60+h.length) os):=rfl
theorem xny(vs:t8)(y:List LAb)(m:LAa)(os:List aH)(h:List LAb):xh2 k vs y m (os,h)=
 xh1 k vs y m os h (pP (SV.idsL vs++gp os) m&&eh m&&eh (cI (y++h))&&decide (m.take k=lu k)&&(m.drop k).all fun o=>decide (k<=o)):=rfl
theorem xnx(vs:t8)(y:List LAb)(m:LAa)(os:List aH)(h:List LAb):xh1 k vs y m os h true=
 some ⟨(kr vs).ren (iJ k m) id,(gQ 0 (fb (iJ k m) id (os.take k)))++(gQ (100+k) (fb (iJ k m) id (os.drop k))),tks 60 (y.length+h.length)⟩:=rfl
theorem Zs(v:SV):kr [v]=v:=rfl
theorem Zr(v w:SV)(r:t8):kr (v::w::r)= .tup (v::w::r):=rfl
theorem Zt:kr []= .tup []:=rfl
theorem JK(raw:LAa)(i:Nat)(q:IntKind)(n:Int):nW raw i (.int q n)=[]:=rfl
theorem G1(raw:LAa)(i:Nat)(b:Bool):nW raw i (.bool b)=[]:=rfl
theorem YH(raw:LAa)(i:Nat)(b:UInt8):nW raw i (.u8 b)=[]:=rfl
theorem JG(raw:LAa)(i:Nat)(l:d9):nW raw i (.str l)=[]:=rfl
theorem JL(raw:LAa)(i:Nat)(l:d9)(t:Tok):nW raw i (.byt l t)=[]:=rfl
theorem JJ(raw:LAa)(i h:Nat)(l:d8)(t:Tok):nW raw i (.lst h l t)=[]:=rfl
theorem GY(raw:LAa)(i:Nat):nW raw i .nilp=[]:=rfl
theorem GZ(raw:LAa)(i:Nat):nW raw i .nili=[]:=rfl
theorem Av(raw:LAa)(i:Nat):nW raw i .undef=[]:=rfl
theorem YI(raw:LAa)(i:Nat)(l:t8):nW raw i (.pp l)=[]:=rfl
theorem JH(raw:LAa)(i o off:Nat):nW raw i (.ptr o off)=[]:=rfl
theorem YK(raw:LAa)(i o h a b:Nat):nW raw i (.ap o h a b)=[]:=rfl
theorem JM(raw:LAa)(i:Nat)(l:t8):nW raw i (.agg l)=if raw.contains i=true then []else w7 l:=rfl
theorem Ha:w7 []=[]:=rfl
theorem Az(v:SV)(r:t8):w7 (v::r)=iG v++w7 r:=rfl
theorem G7(q:IntKind)(n:Int):iG (.int q n)=[]:=rfl
theorem Ay(b:Bool):iG (.bool b)=[]:=rfl
theorem JN(b:UInt8):iG (.u8 b)=[]:=rfl
theorem G3(l:d9):iG (.str l)=[]:=rfl
theorem G8(l:d9)(t:Tok):iG (.byt l t)=[]:=rfl
theorem G6(h:Nat)(l:d8)(t:Tok):iG (.lst h l t)=[]:=rfl
theorem Aw:iG .nilp=[]:=rfl
theorem Ax:iG .nili=[]:=rfl
theorem xX:iG .undef=[]:=rfl
theorem JO(l:t8):iG (.pp l)=[]:=rfl
theorem G4(o off:Nat):iG (.ptr o off)=[]:=rfl
theorem JQ(o h a b:Nat):iG (.ap o h a b)=[]:=rfl
theorem G9(l:t8):iG (.agg l)=[]:=rfl
theorem G2(l:t8):iG (.tup l)=[]:=rfl
theorem JP(f:Nat)(a b:t8):iG (.fn f a b)=[]:=rfl
theorem G5(o h off n:Nat)(m:LAb):iG (.psl o h off n m)=[o]:=rfl
theorem JF(raw:LAa)(i:Nat)(l:t8):nW raw i (.tup l)=[]:=rfl
theorem YJ(raw:LAa)(i f:Nat)(a b:t8):nW raw i (.fn f a b)=[]:=rfl
theorem JI(raw:LAa)(i o h off n:Nat)(m:LAb):nW raw i (.psl o h off n m)=if raw.contains i=true then []else [o]:=rfl
theorem ZW(p:Prop)[Decidable p](a b v:SV):jl (decide p) (if p then a else b) v=jl (decide p) a v:=by by_cases h:p<;>simp[jl,h]
theorem ZV(p:Prop)[Decidable p](a b v:SV):jl (decide p) v (if ¬p then a else b)=jl (decide p) v a:=by by_cases h:p<;>simp[jl,h]
theorem ZS(t:Bool)(a b v:SV):jl t (if t=true then a else b) v=jl t a v:=by cases t<;>simp[jl]
theorem ZR(t:Bool)(a b v:SV):jl t v (if t=false then a else b)=jl t v a:=by cases t<;>simp[jl]
theorem ZU(t:Bool)(a b v:SV):jl (!t) (if t=false then a else b) v=jl (!t) a v:=by cases t<;>simp[jl]
theorem ZT(t:Bool)(a b v:SV):jl (!t) v (if t=true then a else b)=jl (!t) v a:=by cases t<;>simp[jl]
theorem xaK(p q:Prop)[Decidable p][Decidable q]:(if p then decide q else false)=decide (p/\q):=by by_cases h:p<;>simp[h]
theorem xnU(p q:Prop)[Decidable p][Decidable q]:(if p then true else decide q)=decide (p\/q):=by by_cases h:p<;>simp[h]
theorem xaP(v:SV):c.app d {val:=v}=c.put d v:=rfl
theorem xaQ(l:List (Nat×SV))(ob:List (Nat×aH))(t:LAa)(o:aH)(v:SV):
 CSt.app ⟨l,ob,t⟩ (some k) {val:=v,new:=some o}=⟨kq (dN (k+100) (k+101) l) k v,jE (bP (k+100) (k+101) ob) (k+100) (o.purge (k+100) (k+101)),cJ (k+100) (k+101) t⟩:=rfl
theorem xnW(l:List (Nat×SV))(ob:List (Nat×aH))(t:LAa)(v:SV)(p:Nat×aH):CSt.app ⟨l,ob,t⟩ d {val:=v,wr:=[p]}=CSt.put ⟨l,jE ob p.1 p.2,t⟩ d v:=rfl
theorem KY(l:List (Nat×SV))(ob:List (Nat×aH))(t:LAa)(p:SV×Nat×aH):cpS ⟨l,ob,t⟩ d (some p)=some (CSt.put ⟨l,jE ob p.2.1 p.2.2,t⟩ d p.1):=rfl
theorem Ko(z:t8)(p:Nat×Nat):mkS c k z (some p)=some (Gm c k (.arr z.length (aL p.2 z)) (.psl (k+100) z.length 0 p.1 (some p.2))):=rfl
theorem Hv(p:Nat×Nat):xu7 c k (some p)=some (Gm c k (.bar (aL p.2 0)) (.psl (k+100) 1 0 p.1 (some p.2))):=rfl
theorem xoB(x:Arg):dz c (.mov x)=some (c.ev x):=by simp only[dz];rw[xoM]
theorem X9(z:t8)(h:List (Nat×Nat×Arg)):dz c (.build z h)=xM (jA z (psC c h)):=by simp only[dz];rw[DO]
theorem xoC(h:Nat)(y:List Arg):dz c (.lit h y)=xhR h (rows h (evL c y)):=by simp only[dz];rw[xa9]
theorem xkr(h:List Arg):dz c (.litB h)=Iy (toB (evL c h)):=by simp only[dz];rw[Lr]
theorem xkq(n:Nat)(h:Bool)(a:Arg):dz c (.load n h a)=nK c n h (c.ev a):=by simp only[dz];rw[xkC]
theorem xkm(x:Arg):dz c (.nchk x)=It (c.ev x):=by simp only[dz];rw[xky]
theorem xoI(op:BinOp)(x y:Arg):dz c (.bin op x y)=I1 op (c.ev x) (c.ev y):=by simp only[dz];rw[xoR]
theorem xoJ(h:Bool)(x y:Arg):dz c (.beq h x y)=xie h (c.ev x) (c.ev y):=by simp only[dz];rw[xoS]
theorem xoG(E:Bool)(h:LAa)(x y:Arg):dz c (.eqS E h x y)=xh9 E h (c.ev x) (c.ev y):=by simp only[dz];rw[xoP]
theorem xvT(op:UnOp)(x:Arg):dz c (.un op x)=Aa op (c.ev x):=by simp only[dz];rw[xvY]
theorem X7(q:IntKind)(x:Arg):dz c (.toInt q x)=iT q (c.ev x):=by simp only[dz];rw[Yk]
theorem X6(x:Arg):dz c (.toStr x)=wY (c.ev x):=by simp only[dz];rw[Yj]
theorem xkt(h:Bool)(x:Arg):dz c (.isni h x)=Iz h (c.ev x):=by simp only[dz];rw[xkE]
theorem xoA(x:Arg):dz c (.s2b x)=xbj (c.ev x):=by simp only[dz];rw[xoL]
theorem xoK(x:Arg):dz c (.b2s x)=xif c (c.ev x):=by simp only[dz];rw[xoT]
theorem xkn(f:Nat)(a b:List Arg):dz c (.mkfn f a b)=some (.fn f (evL c a) (evL c b)):=by simp only[dz];rw[xkz]
theorem xki(x:Arg)(lo hi:Option Arg):dz c (.slcS x lo hi)=Ig c lo hi (c.ev x):=by simp only[dz];rw[Lq]
theorem xkj(h:Nat)(x:Arg)(lo hi y:Option Arg):dz c (.slcL h x lo hi y)=pF c h (c.ev x) lo hi y:=by simp only[dz];rw[xkw]
theorem xkk(len y:Nat)(x:Arg)(lo hi h:Option Arg):dz c (.slcA len y x lo hi h)=Ih c len y lo hi h (c.ev x):=by simp only[dz];rw[xkx]
theorem X8(off:Nat)(x:Arg):dz c (.faddr off x)=xG off (c.ev x):=by simp only[dz];rw[Yl]
theorem xoE(off n:Nat)(h:Bool)(x:Arg):dz c (.fld off n h x)=xh0 off n h (c.ev x):=by simp only[dz];rw[xoN]
theorem Jj(h:Nat)(x i:Arg):dz c (.iaddrL h x i)=qI h (c.ev x) (c.ev i).num:=by simp only[dz];rw[Jv]
theorem Jk(len h:Nat)(x i:Arg):dz c (.iaddrA len h x i)=ol c len h (c.ev x) (c.ev i).num:=by simp only[dz];rw[x9]
theorem xkv(len y:Nat)(h:Bool)(x i:Arg):dz c (.idxA len y h x i)=IC len y h (c.ev x) (c.ev i).num:=by simp only[dz];rw[xkG]
theorem xku(x i:Arg):dz c (.idxS x i)=IB (c.ev x) (c.ev i).num:=by simp only[dz];rw[xkF]
theorem xoF(x:Arg)(i:Nat):dz c (.ext x i)=xh8 i (c.ev x):=by simp only[dz];rw[xoO]
theorem xoD(b:Bool)(x:Arg):dz c (.len b x)=lenC (kX b (c.ev x)):=by simp only[dz];rw[xba]
theorem xks(n:Nat):dz c (.lenC n)=some (.int .i64 n):=by simp only[dz];rw[xkD]
theorem xoH(x:Arg):dz c (.cap x)=xib (c.ev x):=by simp only[dz];rw[xoQ]
theorem xko(x y:Arg):dz c (.mini x y)=Iw (c.ev x) (c.ev y):=by simp only[dz];rw[xkA]
theorem xkp(x y:Arg):dz c (.maxi x y)=Ix (c.ev x) (c.ev y):=by simp only[dz];rw[xkB]
theorem xkl(q a b:Arg):dz c (.pick q a b)=Is (c.ev a) (c.ev b) (c.ev q):=by simp only[dz];cases c.ev q<;>rfl
theorem xwk(o:SOp):qv c ⟨d,none,o⟩=dz c o:=rfl
theorem xwj(g:Nat)(b:Bool)(o:SOp):qv c ⟨d,some (g,b),o⟩=qg c o b (c.get g):=rfl
theorem xwm(b t:Bool)(o:SOp):qg c o b (.bool t)=if t=b then dz c o else some (.tup []):=rfl
theorem xwl(b:Bool)(o:SOp):qg c o b (.tup [])=some (.tup []):=rfl
def stG(call:dy)(sg:Nat->Sig)(c:CSt)(d:LAb)(o:SOp)(b:Bool):SV->LAf
 | .bool t=>if t=b then opC call sg c d o else some (c.put d (.tup []))
 | .tup []=>some (c.put d (.tup []))
 |_=>none
theorem xkU(g:Nat)(b:Bool)(o:SOp):eD call sg c ⟨d,some (g,b),o⟩=stG call sg c d o b (c.get g):=by unfold eD stG;rfl
theorem xoY(b t:Bool)(o:SOp):stG call sg c d o b (.bool t)=if t=b then opC call sg c d o else some (c.put d (.tup [])):=rfl
theorem xoX(b:Bool)(o:SOp):stG call sg c d o b (.tup [])=some (c.put d (.tup [])):=rfl
theorem xnu(b:LAa)(h:List FI):fJ call sg b [] h c=some c:=by rw[fJ]
theorem xxo(b:LAa)(n:Nat)(i:SI)(r h:List FI):fJ call sg b (⟨n,true,i⟩::r) h c=zk call sg b r (⟨n,true,i⟩::h) c i.dst (qv c i):=by rw[fJ]
theorem xxp(b:LAa)(n:Nat)(i:SI)(r h:List FI):fJ call sg b (⟨n,false,i⟩::r) h c=s6 call sg b r h (b.getD n 0) (eD call sg c i):=by rw[fJ]
theorem xxm(b:LAa)(r h:List FI)(v:SV):zk call sg b r h c d (some v)=fJ call sg b r h (c.put d v):=by rw[zk]
theorem xxn(b:LAa)(r h:List FI)(m:Nat):s6 call sg b r h m (some c)=s7 call sg b r h (gdP (vZ m c h) c):=by rw[s6]
theorem xxr(b:LAa)(r h:List FI):s7 call sg b r h (some c)=fJ call sg b r h c:=by rw[s7]
theorem Z1{α:Type}{p:Prop}(v:α)(h:p):gdP p v=some v:=by unfold gdP;exact if_pos h
theorem xrZ(b:LAa)(l:List FI)(p:LAa):jV call sg b l [p] c=fJ call sg b (jt l p) [] c:=by rw[jV]
theorem xrY(b:LAa)(l:List FI)(p q:LAa)(r:List LAa):jV call sg b l (p::q::r) c=px (fJ call sg b (jt l p) [] c) (jV call sg b l (q::r) c):=by rw[jV]
theorem xyi(a h:CSt):px (some a) (some h)=gdP (a=h) a:=rfl
theorem xnv(m:Nat):vZ m c []=True:=rfl
theorem Z7(m:Nat)(p:FI)(r:List FI):vZ m c (p::r)=((m/2^p.n % 2=1\/qv c p.i=some (c.get (p.i.dst.getD 0)))/\vZ m c r):=rfl
end Go.Sy
namespace Go.Sy
variable [br]
theorem uu{n:Nat}:∀{l:List (Nat×SV)},(∀p∈l,p.1≠n)->ff l n= .undef
 |[],_=>rfl
 |p::r,h=>by simp only[ff];rw[if_neg (h p (aB ..))];exact uu fun q y=>h q (aw _ y)
theorem nL(n:Nat)(v:SV)(m:Nat):∀l:List (Nat×SV),ff (kq l n v) m=if m=n then v else ff l m
 |[]=>by simp only[kq,ff];by_cases h:n=m<;>simp[h,eq_comm]
 |p::r=>by
  simp only[kq];split
  ·simp only[ff]
   by_cases h:n=m
   ·simp[h]
   ·rw[if_neg h,if_neg (Ne.symm h)]
  ·split
   ·rename_i y E
    simp only[ff]
    by_cases h:n=m
    ·simp[h]
    ·rw[if_neg h,if_neg (Ne.symm h),if_neg (by omega)]
   ·rename_i y E
    simp only[ff,nL n v m r]
    by_cases h:p.1=m
    ·rw[if_pos h,if_pos h,if_neg (by omega)]
    ·rw[if_neg h,if_neg h]
theorem nI{n:Nat}{v:SV}{p:Nat×SV}:∀{l:List (Nat×SV)},p∈kq l n v->p=(n,v)\/p∈l
 |[],h=>by simpa[kq]using h
 |q::r,h=>by
  simp only[kq]at h;split at h
  ·rcases av.1 h with h|h
   ·exact .inl h
   ·exact .inr h
  ·split at h
   ·rcases av.1 h with h|h
    ·exact .inl h
    ·exact .inr (aw _ h)
   ·rcases av.1 h with h|h
    ·exact .inr (h ▸ aB ..)
    ·rcases nI h with h|h
     ·exact .inl h
     ·exact .inr (aw _ h)
theorem gW(lo hi n:Nat):∀l:List (Nat×SV),ff (dN lo hi l) n=(ff l n).purge lo hi
 |[]=>by simp[dN,ff,SV.purge]
 |p::r=>by
  simp only[dN,ff];split
  ·rfl
  ·exact gW lo hi n r
theorem kx{lo hi:Nat}{p:Nat×SV}:∀{l:List (Nat×SV)},p∈dN lo hi l->∃q∈l,p.1=q.1
 |q::r,h=>by
  simp only[dN]at h;rcases av.1 h with h|h
  ·exact⟨q,aB ..,by rw[h]⟩
  ·obtain⟨u,y,E⟩:=kx h
   exact⟨u,aw _ y,E⟩
theorem rN{k:LAa}{p:Nat×SV}:∀{l:List (Nat×SV)},p∈zJ l k->p∈l
 |q::r,h=>by
  simp only[zJ]at h;split at h
  ·exact aw _ (rN h)
  ·rcases av.1 h with h|h
   ·exact h ▸ aB ..
   ·exact aw _ (rN h)
theorem rV(k:LAa)(n:Nat):∀l:List (Nat×SV),ff (zJ l k) n=if k.contains n=true then .undef else ff l n
 |[]=>by simp[zJ,ff]
 |p::r=>by
  simp only[zJ,ff];split
  ·rename_i h
   rw[rV k n r]
   by_cases y:p.1=n
   ·subst y;rw[if_pos h,if_pos h]
   ·rw[if_neg y]
  ·rename_i h
   simp only[ff,rV k n r]
   by_cases y:p.1=n
   ·subst y;rw[if_pos rfl,if_neg h,if_pos rfl]
   ·rw[if_neg y,if_neg y]
theorem rW(n:Nat)(v:aH)(m:Nat):∀l:List (Nat×aH),jy (jE l n v) m=if m=n then some v else jy l m
 |[]=>by simp only[jE,jy];by_cases h:n=m<;>simp[h,eq_comm]
 |p::r=>by
  simp only[jE];split
  ·simp only[jy]
   by_cases h:n=m
   ·simp[h]
   ·rw[if_neg h,if_neg (Ne.symm h)]
  ·split
   ·rename_i y E
    simp only[jy]
    by_cases h:n=m
    ·simp[h]
    ·rw[if_neg h,if_neg (Ne.symm h),if_neg (by omega)]
   ·rename_i y E
    simp only[jy,rW n v m r]
    by_cases h:p.1=m
    ·rw[if_pos h,if_pos h,if_neg (by omega)]
    ·rw[if_neg h,if_neg h]
theorem lC{n:Nat}{v:aH}{p:Nat×aH}:∀{l:List (Nat×aH)},p∈jE l n v->p=(n,v)\/p∈l
 |[],h=>by simpa[jE]using h
 |q::r,h=>by
  simp only[jE]at h;split at h
  ·rcases av.1 h with h|h
   ·exact .inl h
   ·exact .inr h
  ·split at h
   ·rcases av.1 h with h|h
    ·exact .inl h
    ·exact .inr (aw _ h)
   ·rcases av.1 h with h|h
    ·exact .inr (h ▸ aB ..)
    ·rcases lC h with h|h
     ·exact .inl h
     ·exact .inr (aw _ h)
theorem w6{n:Nat}{v:aH}:∀{l:List (Nat×aH)},(l.map cS).Pairwise (· < ·)->((jE l n v).map cS).Pairwise (· < ·)
 |[],_=>by simp[jE]
 |p::r,h=>by
  have F:=h;simp only[aI,bV]at h;simp only[jE];split
  ·rename_i E
   rw[aI,bV];refine⟨fun k y=> ?_,F⟩;rw[aI]at y;rcases av.1 y with e|e
   ·omega
   ·have:=h.1 k e;omega
  ·split
   ·rename_i E J
    rw[aI,bV];exact⟨fun k y=>by have:=h.1 k y;omega,h.2⟩
   ·rename_i E J
    rw[aI,bV];refine⟨fun k y=> ?_,w6 h.2⟩;obtain⟨q,I,rfl⟩:=aZ.1 y;rcases lC I with e|e
    ·rw[e];show p.1<n;omega
    ·exact h.1 _ (jf e)
theorem ke{l:List (Nat×aH)}{n:Nat}{v:aH}(h:jy l n=some v):(n,v)∈l:=by
 induction l with
 |nil=>cases h
 |cons p r E=>
  simp only[jy]at h;split at h
  ·rename_i y
   cases h;subst y;exact aB ..
  ·exact aw _ (E h)
theorem jZ:∀{l:List (Nat×aH)},(l.map cS).Nodup->∀{p:Nat×aH},p∈l->jy l p.1=some p.2
 |q::r,hn,p,h=>by
  simp only[aI,eB]at hn;simp only[jy];rcases av.1 h with e|e
  ·subst e;rw[if_pos rfl]
  ·rw[if_neg (fun y=>hn.1 (by rw[y];exact jf e))]
   exact jZ hn.2 e
theorem jW{l:List (Nat×aH)}(h:(l.map cS).Pairwise (· < ·)):(l.map cS).Nodup:=h.imp fun h=>Nat.ne_of_lt h
theorem jo(o:Nat):∀l:List (Nat×aH),l.lookup o=jy l o
 |[]=>rfl
 |p::r=>by
  simp only[List.lookup,jy]
  by_cases h:o=p.1
  ·rw[if_pos h.symm];simp[h]
  ·have:(o==p.1)=false:=by simpa using h
   rw[this,if_neg (Ne.symm h)];exact jo o r
theorem kF(lo hi o:Nat):∀l:List (Nat×aH),jy (bP lo hi l) o=if lo<=o/\o<hi then none else(jy l o).map (aH.purge lo hi)
 |[]=>by simp[bP,jy]
 |p::r=>by
  simp only[bP,jy];split
  ·rename_i y
   rw[kF lo hi o r]
   by_cases h:p.1=o
   ·subst h;rw[if_pos y,if_pos y]
   ·rw[if_neg h]
  ·rename_i y
   simp only[jy,kF lo hi o r]
   by_cases h:p.1=o
   ·subst h;rw[if_pos rfl,if_neg y,if_pos rfl];rfl
   ·rw[if_neg h,if_neg h]
theorem yg{lo hi:Nat}{l:List (Nat×aH)}(h:(l.map cS).Pairwise (· < ·)):((bP lo hi l).map cS).Pairwise (· < ·):=by rw[fy];exact h.filter _
theorem lD{n t:Nat}:∀{l:LAa},t∈nX l n↔t=n\/t∈l
 |[]=>by simp[nX]
 |p::r=>by
  simp only[nX];split
  ·simp
  ·split
   ·rename_i h;subst h;simp
   ·simp only[av,lD]
    constructor
    ·rintro(h|h|h)
     ·exact .inr (.inl h)
     ·exact .inl h
     ·exact .inr (.inr h)
    ·rintro(h|h|h)
     ·exact .inr (.inl h)
     ·exact .inl h
     ·exact .inr (.inr h)
theorem rB{lo hi:Nat}{o:aH}(h:o.wf=true):(o.purge lo hi).wf=true:=by cases o<;>simpa[aH.purge,aH.wf]using h
def CSt.st(N:Nat)(c:CSt):St:=⟨(bM N).map c.get,c.ob,c.tk⟩
structure Inv(N:Nat)(c:CSt):Prop where
 dom:∀p∈c.tm,p.1<N
 so:(c.ob.map cS).Pairwise (· < ·)
 wf:∀p∈c.ob,p.2.wf=true
structure Sim(N:Nat)(c:CSt)(s:St):Prop where
 inv:Inv N c
 tm:s.tm=(bM N).map c.get
 look:∀o,s.look o=c.look o
 tk:∀t,t∈s.tk↔t∈c.tk
variable {N : Nat} {c : CSt} {s : St}
theorem Inv.get(h:Inv N c){n:Nat}(hn:N<=n):c.get n= .undef:=uu fun p y e=>by have:=h.dom p y;omega
theorem Sim.of(h:Inv N c):Sim N c (c.st N):=⟨h,rfl,fun o=>jo o c.ob,fun _=>Iff.rfl⟩
theorem Sim.get(h:Sim N c s)(n:Nat):s.get n=c.get n:=by
 unfold St.get;rw[h.tm,aa,aT];rcases bK n N with hn|hn
 ·rw[cz hn];rfl
 ·rw[ia (by simpa using hn),h.inv.get hn];rfl
theorem Sim.ev(h:Sim N c s)(a:Arg):s.ev a=c.ev a:=by
 cases a with
 |t n=>exact h.get n
 |c v=>rfl
 |f g=>rfl
theorem Sim.evL(h:Sim N c s)(l:List Arg):Sy.evL c l=l.map s.ev:=by
 induction l with
 |nil=>rfl
 |cons a r y=>simp only[Sy.evL,aI,y,h.ev]
theorem Sim.lookmem(h:Sim N c s){o:Nat}{ob:aH}(y:c.look o=some ob):ob.wf=true:=h.inv.wf _ (ke y)
theorem Sim.rows(h:Sim N c s){o y:Nat}{E:d8}(F:c.look o=some (.arr y E)):∀x∈E,x.length=y:=by have:=h.lookmem F;simpa[aH.wf]using this
theorem Inv.put(h:Inv N c){d:LAb}(hd:∀k,d=some k->k<N)(v:SV):Inv N (c.put d v):=by
 cases d with
 |none=>exact h
 |some k=>
  refine⟨fun p y=> ?_,h.so,h.wf⟩;rcases nI y with e|e
  ·rw[e];exact hd k rfl
  ·exact h.dom p e
theorem iy(c:CSt)(k:Nat)(v:SV)(n:Nat):(c.put (some k) v).get n=if n=k then v else c.get n:=nL k v n c.tm
theorem Sim.put(h:Sim N c s){d:LAb}(hd:∀k,d=some k->k<N)(v:SV):Sim N (c.put d v) (s.put d v):=by
 cases d with
 |none=>exact h
 |some k=>
  refine⟨h.inv.put hd v, ?_,h.look,h.tk⟩;show s.tm.set k v=_;rw[h.tm];apply List.ext_getElem?;intro i;rw[ij,aT,aT];rcases bK i N with hi|hi
  ·rw[cz hi]
   simp only[bB,iy,aY,List.length_range]
   by_cases y:k=i
   ·rw[if_pos y,if_pos (by omega),if_pos y.symm]
   ·rw[if_neg y,if_neg (Ne.symm y)]
  ·rw[ia (l:=bM N) (by simpa using hi)]
   have:=hd k rfl;rw[if_neg (by omega)];rfl
theorem bY{α:Type}{p:Prop}[Decidable p]{v u:α}(h:gd p v=some u):p/\v=u:=by
 unfold gd at h;split at h
 ·rename_i y;cases h;exact⟨y,rfl⟩
 ·cases h
theorem KG{op:BinOp}{k:IntKind}{a b:Int}{v:SV}(h:A4 op k a b=some v)(E:oi op=false):∃p,ZX op k a b=some (p,v)/\p:=by
 cases op<;>simp only[A4]at h<;>first
  |(cases E;done)
  |(obtain⟨y,rfl⟩:=bY h;exact⟨_,rfl,y⟩)
  |(cases h;exact⟨True,rfl,trivial⟩)
theorem xaJ{op:BinOp}{a b v:SV}(h:I1 op a b=some v):∃p,Bm op a b=some (p,v)/\p:=by
 unfold I1 at h;split at h
 ·rename_i k a J b
  split at h
  ·rename_i O
   by_cases F:oi op=true
   ·cases op<;>first
     |(cases F;done)
     |(simp only[A4]at h;obtain⟨y,rfl⟩:=bY h;exact⟨_,rfl,y⟩)
   ·have E:oi op=false:=by simpa using F
    have I:k=J:=O.resolve_left F;obtain⟨p,y,L⟩:=KG h E;refine⟨p, ?_,L⟩;subst I;cases op<;>first|(cases E;done)|(simp only[Bm,if_true];exact y)
  ·cases h
 ·rename_i a k b
  show ∃p,xbc op a b=some (p,v)/\p
  cases op<;>simp only[UG]at h<;>first
   |(cases h;done)
   |(obtain⟨y,rfl⟩:=bY h;exact⟨_,rfl,y⟩)
 ·rename_i a b
  show ∃p,Ic op a b=some (p,v)/\p
  cases op<;>simp only[BD]at h<;>first
   |(cases h;done)
   |(obtain⟨y,rfl⟩:=bY h;exact⟨_,rfl,y⟩)
   |(cases h;exact⟨True,rfl,trivial⟩)
 ·rename_i a b
  show ∃p,xbi op a b=some (p,v)/\p
  cases op<;>simp only[UM]at h<;>first
   |(cases h;done)
   |(obtain⟨y,rfl⟩:=bY h;exact⟨_,rfl,y⟩)
   |(cases h;exact⟨True,rfl,trivial⟩)
 ·cases h
theorem yW(I:Sim N c s){n:Nat}{J:Bool}{u v:SV}(h:nK c n J u=some v):∃p,jv s n J u=some (p,v)/\p:=by
 cases u with
 |pp cs=>obtain⟨y,rfl⟩:=bY h;exact⟨_,rfl,y⟩
 |ptr o off=>
  simp only[nK]at h;simp only[jv,I.look];split at h
  ·rename_i cs E;rw[E];obtain⟨y,rfl⟩:=bY h;exact⟨_,rfl,y⟩
  ·rename_i O W E;rw[E];obtain⟨⟨y,F⟩,rfl⟩:=bY h;subst y;exact⟨_,rfl,F,I.rows E⟩
  ·rename_i l E;rw[E];obtain⟨⟨y,F⟩,rfl⟩:=bY h;subst y;exact⟨_,rfl,F⟩
  ·cases h
 |ap o O i j=>
  simp only[nK]at h;simp only[jv,I.look];split at h
  ·rename_i Q W E
   rw[E];obtain⟨⟨y,F,L⟩,rfl⟩:=bY h;refine⟨_,rfl,y,F,L, ?_⟩;rw[aa,ac F,y];exact I.rows E _ (bv _)
  ·rename_i l E;rw[E];obtain⟨y,rfl⟩:=bY h;exact⟨_,rfl,y⟩
  ·cases h
 |_=>cases h
theorem oc(h:Sim N c s)(x:Option Arg)(n:Int):ju s x n=lz c x n:=by
 cases x with
 |none=>rfl
 |some a=>simp only[ju,lz,h.ev]
theorem DZ(J:Sim N c s){O:Nat}{u v:SV}{lo hi Q:Option Arg}(h:pF c O u lo hi Q=some v):∃p,kp s O u lo hi Q=some (p,v)/\p:=by
 cases u with
 |byt l t=>
  simp only[pF]at h;simp only[kp,oc J];split at h<;>try (cases h;done)
  rename_i a b m F y I;rw[F,y,I];obtain⟨E,rfl⟩:=bY h;exact⟨_,rfl,E⟩
 |lst L l t=>
  simp only[pF]at h;simp only[kp,oc J];split at h<;>try (cases h;done)
  rename_i a b m F y I;rw[F,y,I];obtain⟨E,rfl⟩:=bY h;exact⟨_,rfl,E⟩
 |psl o L off n cap=>
  cases cap with
  |none=>
   simp only[pF]at h;simp only[kp,oc J];split at h<;>try (cases h;done)
   rename_i a b F y;rw[F,y];obtain⟨E,rfl⟩:=bY h;exact⟨_,rfl,E⟩
  |some cap=>
   simp only[pF]at h;simp only[kp,oc J];split at h<;>try (cases h;done)
   rename_i a b m F y I;rw[F,y,I];obtain⟨E,rfl⟩:=bY h;exact⟨_,rfl,E⟩
 |_=>cases h
theorem oL(F:Sim N c s){u:SV}{l:d9}(h:fm c u=some l):∃p,bytesOf s u=some (p,l)/\p:=by
 cases u with
 |byt l t=>cases h;exact⟨True,rfl,trivial⟩
 |str l=>cases h;exact⟨True,rfl,trivial⟩
 |psl o I off n cap=>
  simp only[fm]at h;simp only[bytesOf,F.look];split at h
  ·rename_i J y;rw[y];obtain⟨E,rfl⟩:=bY h;exact⟨_,rfl,E⟩
  ·cases h
 |_=>cases h
theorem lx(F:Sim N c s){u:SV}{J:Nat}{l:d8}(h:gC c J u=some l):∃p,iQ s J u=some (p,l)/\p:=by
 cases u with
 |lst y l t=>obtain⟨E,rfl⟩:=bY h;exact⟨_,rfl,E⟩
 |psl o y off n cap=>
  simp only[gC]at h;simp only[iQ,F.look];split at h
  ·rename_i O W L
   rw[L];obtain⟨⟨E,I,Q⟩,rfl⟩:=bY h;exact⟨_,rfl,E,I,Q,by rw[I];exact F.rows L⟩
  ·cases h
 |_=>cases h
theorem xlM(E:Sim N c s)(h:List (Nat×Nat×Arg)):psC c h=h.map fun(o,n,x)=>(o,n,s.ev x):=by
 induction h with
 |nil=>rfl
 |cons p r y=>obtain⟨o,n,x⟩:=p;simp only[psC,aI,y,E.ev]
theorem Yi(F:Sim N c s){so:SOp}{v:SV}(h:cW c so=some v):∃p,val s so=some (p,v)/\p:=by
 cases so with
 |mov x=>cases h;exact⟨True,by simp only[val,F.ev],trivial⟩
 |build z ps=>simp only[cW,xlM F]at h;obtain⟨l,E,rfl⟩:=ah.1 h;exact⟨True,by simp only[val,E,bB],trivial⟩
 |lit O xs=>simp only[cW,F.evL]at h;obtain⟨l,E,rfl⟩:=ah.1 h;exact⟨True,by simp only[val,E,bB],trivial⟩
 |litB xs=>simp only[cW,F.evL]at h;obtain⟨l,E,rfl⟩:=ah.1 h;exact⟨True,by simp only[val,E,bB],trivial⟩
 |load n ag a=>simp only[val,F.ev];exact yW F h
 |nchk x=>simp only[cW]at h;simp only[val,F.ev];cases J:c.ev x<;>rw[J]at h<;>first|(cases h;done)|(cases h;exact⟨True,rfl,trivial⟩)
 |bin op x y=>simp only[val,F.ev];exact xaJ h
 |beq ne x y=>
  simp only[cW]at h;simp only[val,F.ev];split at h<;>try (cases h;done)
  rename_i a b E I;cases h;rw[E,I];exact⟨True,rfl,trivial⟩
 |eqS ne ts x y=>
  simp only[cW]at h;simp only[val,F.ev];split at h<;>try (cases h;done)
  rename_i a b E I;obtain⟨l,h3,rfl⟩:=ah.1 h;rw[E,I];exact⟨True,by simp only[h3,bB],trivial⟩
 |un op x=>simp only[cW]at h;exact⟨True,by simp only[val,F.ev,h,bB],trivial⟩
 |toInt k x=>simp only[cW]at h;exact⟨True,by simp only[val,F.ev,h,bB],trivial⟩
 |toStr x=>
  simp only[cW]at h;simp only[val,F.ev];split at h<;>try (cases h;done)
  all_goals
   rename_i E;cases h;rw[E];exact⟨True,rfl,trivial⟩
 |slid x=>simp only[cW]at h;cases h
 |newB x=>simp only[cW]at h;cases h
 |isni ne x=>
  simp only[cW]at h;simp only[val,F.ev];split at h<;>try (cases h;done)
  rename_i E;cases h;rw[E];exact⟨True,rfl,trivial⟩
 |s2b x=>
  simp only[cW]at h;simp only[val,F.ev];split at h<;>try (cases h;done)
  rename_i l E;cases h;rw[E];exact⟨True,rfl,trivial⟩
 |b2s x=>
  simp only[cW]at h;simp only[val,F.ev];cases J:c.ev x with
  |byt l t=>rw[J]at h;cases h;exact⟨True,rfl,trivial⟩
  |psl o O off n cap=>
   rw[J]at h;simp only[fm]at h;simp only[Bn,F.look];obtain⟨l,E,rfl⟩:=ah.1 h;split at E
   ·rename_i l' Q;rw[Q];obtain⟨I,rfl⟩:=bY E;exact⟨_,rfl,I⟩
   ·cases E
  |_=>rw[J]at h;cases h
 |mkfn f a b=>simp only[cW,F.evL]at h;cases h;exact⟨True,rfl,trivial⟩
 |slcS x lo hi=>
  simp only[cW]at h;simp only[val,F.ev];split at h<;>try (cases h;done)
  rename_i l J;rw[J];simp only[oc F];split at h<;>try (cases h;done)
  rename_i a b E I;rw[E,I];obtain⟨L,rfl⟩:=bY h;exact⟨_,rfl,L⟩
 |slcL O x lo hi mx=>simp only[val,F.ev];exact DZ F h
 |slcA len O x lo hi mx=>
  simp only[cW]at h;simp only[val,F.ev];split at h<;>try (cases h;done)
  rename_i o off J;split at h<;>try (cases h;done)
  rename_i ho;subst ho;rw[J];exact DZ F h
 |faddr off x=>simp only[cW]at h;simp only[val,F.ev];cases J:c.ev x<;>rw[J]at h<;>first|(cases h;done)|(cases h;exact⟨True,rfl,trivial⟩)
 |fld off n ag x=>
  simp only[cW]at h;simp only[val,F.ev];split at h<;>try (cases h;done)
  rename_i cs J;rw[J];obtain⟨L,rfl⟩:=bY h;exact⟨_,rfl,L⟩
 |iaddrL O x i=>
  simp only[cW]at h;simp only[val,F.ev];split at h<;>try (cases h;done)
  all_goals
   rename_i E I;rw[E,I];obtain⟨L,rfl⟩:=bY h;exact⟨_,rfl,L⟩
 |iaddrA len O x i=>
  simp only[cW]at h;simp only[val,F.ev,F.look];split at h<;>try (cases h;done)
  ·rename_i o off n E I
   rw[E,I];simp only;split at h<;>try (cases h;done)
   ·rename_i cs Q
    rw[Q];obtain⟨L,rfl⟩:=bY h;exact⟨_,rfl,L⟩
   ·rename_i ob Z Q
    rw[Q];obtain⟨⟨L,h5⟩,rfl⟩:=bY h;cases ob with
    |rc cs=>exact absurd rfl (Z cs)
    |_=>simp only[L,if_true];exact⟨_,rfl,h5⟩
  ·rename_i cs n E I
   rw[E,I];obtain⟨L,rfl⟩:=bY h;exact⟨_,rfl,L⟩
 |idxA len O ag x i=>
  simp only[cW]at h;simp only[val,F.ev];split at h<;>try (cases h;done)
  rename_i E I;rw[E,I];obtain⟨L,rfl⟩:=bY h;exact⟨_,rfl,L⟩
 |idxS x i=>
  simp only[cW]at h;simp only[val,F.ev];split at h<;>try (cases h;done)
  rename_i E I;rw[E,I];obtain⟨L,rfl⟩:=bY h;exact⟨_,rfl,L⟩
 |ext x i=>
  simp only[cW]at h;simp only[val,F.ev];split at h<;>try (cases h;done)
  rename_i vs J;rw[J];obtain⟨L,rfl⟩:=bY h;exact⟨_,rfl,L⟩
 |len b x=>simp only[cW]at h;obtain⟨n,E,rfl⟩:=ah.1 h;exact⟨True,by simp only[val,F.ev,E],trivial⟩
 |lenC n=>cases h;exact⟨True,rfl,trivial⟩
 |cap x=>
  simp only[cW]at h;simp only[val,F.ev];cases J:c.ev x with
  |psl o O off n m=>cases m<;>rw[J]at h<;>cases h;exact⟨True,rfl,trivial⟩
  |byt l t=>rw[J]at h;simp only at h;split at h<;>cases h;rename_i ht;subst ht;exact⟨True,rfl,trivial⟩
  |lst O l t=>rw[J]at h;simp only at h;split at h<;>cases h;rename_i ht;subst ht;exact⟨True,rfl,trivial⟩
  |_=>rw[J]at h;cases h
 |mini x y=>
  simp only[cW]at h;simp only[val,F.ev];split at h<;>try (cases h;done)
  rename_i E I;rw[E,I];simp only;split at h<;>cases h;rename_i W;exact⟨True,by rw[if_pos W],trivial⟩
 |maxi x y=>
  simp only[cW]at h;simp only[val,F.ev];split at h<;>try (cases h;done)
  rename_i E I;rw[E,I];simp only;split at h<;>cases h;rename_i W;exact⟨True,by rw[if_pos W],trivial⟩
 |_=>cases h
end Go.Sy
namespace Go.Sy
variable [br]
variable {P : Program} {C : Ctx} {x : Sit} {a : Act} {w : World} {o : Oper} {so : SOp} {N : Nat} {c c' : CSt} {s : St} {d : Option Nat}
def M(C:Ctx)(N:Nat)(c:CSt):LBb:=IQ C (Sim N c)
theorem Sim.purge(h:Sim N c s)(lo hi:Nat):Sim N (c.purge lo hi) (s.purge lo hi):=by
 refine⟨⟨fun p y=> ?_,yg h.inv.so,fun p y=> ?_⟩, ?_,fun o=> ?_,fun t=> ?_⟩
 ·obtain⟨q,F,e⟩:=kx y
  rw[e];exact h.inv.dom q F
 ·obtain⟨_,ob,E,I⟩:=cG y
  rw[I];exact rB (h.inv.wf _ E)
 ·show SV.purgeL lo hi s.tm=_
  rw[h.tm,dZ,List.map_map];apply List.map_congr_left;intro i _;exact(gW lo hi i c.tm).symm
 ·show(bP lo hi s.ob).lookup o=jy (bP lo hi c.ob) o
  have:=h.look o;unfold St.look CSt.look at this;rw[jo]at this ⊢;rw[kF,kF,this]
 ·show t∈cJ lo hi s.tk↔t∈cJ lo hi c.tk
  rw[bU,bU,h.tk]
theorem Sim.addO(h:Sim N c s)(k:Nat){ob:aH}(E:ob.wf=true):Sim N ⟨c.tm,jE c.ob k ob,c.tk⟩ (s.addO k ob):=by
 refine⟨⟨h.inv.dom,w6 h.inv.so,fun p F=> ?_⟩,h.tm,fun o=> ?_,h.tk⟩
 ·rcases lC F with e|e
  ·rw[e];exact E
  ·exact h.inv.wf p e
 ·show((k,ob)::s.ob).lookup o=jy (jE c.ob k ob) o
  have:=h.look o;unfold St.look CSt.look at this;rw[rW];simp only[List.lookup]
  by_cases y:o=k
  ·subst y;simp
  ·have:(o==k)=false:=by simpa using y
   rw[this,if_neg y];exact h.look o
theorem lm(k:Nat)(ob:aH)(o:Nat):∀l:List (Nat×aH),(Sy.setO k ob l).lookup o=if o=k/\(l.lookup k).isSome=true then some ob else l.lookup o
 |[]=>by simp[Sy.setO]
 |p::r=>by
  simp only[Sy.setO]
  by_cases y:p.1=k
  ·rw[if_pos y]
   subst y;simp only[List.lookup]
   by_cases h:o=p.1
   ·subst h;simp
   ·have:(o==p.1)=false:=by simpa using h
    simp[this,h]
  ·rw[if_neg y]
   have E:(k==p.1)=false:=by simpa using Ne.symm y
   simp only[List.lookup,E,lm k ob o r]
   by_cases h:o=p.1
   ·subst h;simp[y]
   ·have:(o==p.1)=false:=by simpa using h
    simp[this]
theorem Sim.setO(h:Sim N c s){k:Nat}{ob:aH}(E:(c.look k).isSome=true)(F:ob.wf=true):Sim N ⟨c.tm,jE c.ob k ob,c.tk⟩ (s.setO k ob):=by
 refine⟨⟨h.inv.dom,w6 h.inv.so,fun p J=> ?_⟩,h.tm,fun o=> ?_,h.tk⟩
 ·rcases lC J with e|e
  ·rw[e];exact F
  ·exact h.inv.wf p e
 ·show(Sy.setO k ob s.ob).lookup o=jy (jE c.ob k ob) o
  rw[rW,lm]
  have I:(s.ob.lookup k).isSome=true:=by have:=h.look k;unfold St.look at this;rw[this];exact E
  by_cases y:o=k
  ·rw[if_pos ⟨y,I⟩,if_pos y]
  ·rw[if_neg (fun e=>y e.1),if_neg y];exact h.look o
theorem Sim.tks(h:Sim N c s){l k:LAa}(y:∀t,t∈l↔t∈k):Sim N ⟨c.tm,c.ob,k⟩ ⟨s.tm,s.ob,l⟩:=⟨⟨h.inv.dom,h.inv.so,h.inv.wf⟩,h.tm,h.look,y⟩
theorem Kq{t:Tok}{l k:LAa}(h:∀t,t∈l↔t∈k)(n:Nat):n∈t.eat l↔n∈t.eat k:=by
 cases t with
 |id t=>simp only[Tok.eat,bU,h]
 |_=>exact h n
structure I8(e:pJ)(f:Eff):Prop where
 val:f.val=e.val
 wr:f.wr=e.wr
 new:f.new=e.new
 eat:f.eat=e.eat
 tok:f.tok=e.tok
structure Jg(c:CSt)(e:pJ):Prop where
 new:∀ob,e.new=some ob->ob.wf=true
 wr:e.wr=[]\/∃k ob,e.wr=[(k,ob)]/\(c.look k).isSome=true/\ob.wf=true
theorem Sim.app(h:Sim N c s)(hd:∀k,d=some k->k<N){e:pJ}{f:Eff}(y:I8 e f)(F:Jg c e):Sim N (c.app d e) (s.app d f):=by
 unfold CSt.app St.app;rw[y.new,y.tok,y.val,y.wr,y.eat];cases hn:e.new with
 |some ob=>exact((h.purge _ _).addO _ (rB (F.new ob hn))).put hd _
 |none=>
  cases ht:e.tok with
  |true=>refine Sim.put (c:=⟨_,_,_⟩) ?_ hd _;refine((h.purge (d.getD 0+100) (d.getD 0+100+1)).tks (fun t=> ?_));rw[lD,av,bU,bU,Kq h.tk]
  |false=>
   rcases F.wr with E|⟨k,ob,E,h1,h2⟩
   ·rw[E];exact h.put hd _
   ·rw[E];exact(h.setO h1 h2).put hd _
theorem I8.v(v:SV)(p:Prop):I8 {val:=v} {pre:=p,val:=v}:=⟨rfl,rfl,rfl,rfl,rfl⟩
theorem Jg.v(v:SV):Jg c {val:=v}:=⟨fun ob h=>(by cases h),.inl rfl⟩
theorem xkg(n:Nat)(z:t8):(aH.arr z.length (aL n z)).wf=true:=by simp only[aH.wf,bf,decide_eq_true_eq];intro y h;rw[(List.mem_replicate.1 h).2]
theorem gn{E:Nat}{h:d8}:(aH.arr E h).wf=true↔∀y∈h,y.length=E:=by simp only[aH.wf,bf,decide_eq_true_eq]
theorem zP(E:Nat):∀(m:Nat)(v:t8),v.length=m*E->∀y∈kG E m v,y.length=E
 |0,_,_,y,hy=>by cases hy
 |m+1,v,h,y,hy=>by
  rw[ee]at h;simp only[kG]at hy;rcases av.1 hy with rfl|hy
  ·rw[aq];omega
  ·exact zP E m (v.drop E) (by rw[aG];omega) y hy
theorem Hd{F:Nat}{J:d8}{i j n:Nat}{v:t8}(h:∀y∈J,y.length=F)(hi:i<J.length)(Q:j+n<=F)(L:v.length=n):∀y∈jX F J i j n v,y.length=F:=by
 intro y I;unfold jX at I;split at I
 ·rename_i O
  rcases List.mem_or_eq_of_mem_set I with E|E
  ·exact h y E
  ·rw[E,L];exact O.2
 ·rcases List.mem_or_eq_of_mem_set I with E|E
  ·exact h y E
  ·have:(J.getD i []).length=F:=by
    rw[aa,ac hi];exact h _ (bv _)
   rw[E];simp only[ae,aq,aG,this,L];omega
theorem tZ(h:Sim N c s){t:Tok}(y:t.readyC c=true):t.ready s=true:=by
 cases t with
 |no=>cases y
 |clip=>rfl
 |id t=>simp only[Tok.readyC,fE,decide_eq_true_eq]at y;simp only[Tok.ready,fE,decide_eq_true_eq];exact(h.tk t).2 y
theorem YF(hM:aR C x s a w){y:Arg}(h:y.isT=true):Rep x (s.ev y) (match y with| .t n=>a.tmps.getD n undef|_=>undef):=by
 cases y with
 |t n=>exact hM.slot n
 |_=>cases h
theorem KR(h:Sim N c s){e:pJ}(E:eJ c d so=some e)(hp:∀q y z,so≠ .pick q y z)(hn:∀ne q,so≠ .isnil ne q)(a7:∀sz q y,so≠ .cpy sz q y):∃f,eff s d so=some f/\f.pre/\I8 e f/\Jg c e:=by
 have a1:∀{so:SOp},eJ c d so=DM (cW c so)->(eff s d so=match val s so with|some (p,v)=>some {pre:=p,val:=v}|none=>none)->eJ c d so=some e->∃f,eff s d so=some f/\f.pre/\I8 e f/\Jg c e:=by
  intro so F O L;rw[F]at L;cases hv:cW c so with
  |none=>rw[hv]at L;cases L
  |some v=>rw[hv]at L;cases L;obtain⟨p,Q,h5⟩:=Yi h hv;exact⟨{pre:=p,val:=v},by rw[O,Q],h5,I8.v v p,Jg.v v⟩
 cases so with
 |pick q y z=>exact absurd rfl (hp q y z)
 |isnil ne q=>exact absurd rfl (hn ne q)
 |call _ _=>cases E
 |newB _=>cases E
 |slid _=>cases E
 |new ob=>
  simp only[eJ]at E;split at E<;>try (cases E;done)
  obtain⟨F,rfl⟩:=bY E;exact⟨_,rfl,trivial,⟨rfl,rfl,rfl,rfl,rfl⟩,⟨fun ob' e=>(by cases e;exact F),.inl rfl⟩⟩
 |box q=>simp only[eJ]at E;split at E<;>cases E;exact⟨_,rfl,trivial,⟨rfl,rfl,by simp only[h.ev],rfl,rfl⟩,⟨fun ob' e=>(by cases e;rfl),.inl rfl⟩⟩
 |mk z bytes n m=>
  simp only[eJ]at E;simp only[eff,h.ev];split at E<;>try (cases E;done)
  rename_i F O;rw[F,O];obtain⟨F,rfl⟩:=bY E;exact⟨_,rfl,F,⟨rfl,rfl,rfl,rfl,rfl⟩,⟨fun ob' e=>(by cases e;exact xkg _ z),.inl rfl⟩⟩
 |mkB n m=>
  simp only[eJ]at E;simp only[eff,h.ev];split at E<;>try (cases E;done)
  rename_i F O;rw[F,O];obtain⟨F,rfl⟩:=bY E;exact⟨_,rfl,F,⟨rfl,rfl,rfl,rfl,rfl⟩,⟨fun ob' e=>(by cases e;rfl),.inl rfl⟩⟩
 |store n q y=>
  simp only[eJ]at E;simp only[eff,h.ev];split at E<;>try (cases E;done)
  rename_i a6;rw[a6];simp only;unfold mf at E;unfold sD;split at E
  ·rename_i o' off Z
   rw[Z];simp only[h.look];split at E<;>try (cases E;done)
   ·rename_i cs I
    rw[I];obtain⟨F,rfl⟩:=bY E;exact⟨_,rfl,F,⟨rfl,rfl,rfl,rfl,rfl⟩,⟨fun ob' e=>(by cases e),.inr ⟨_,_,rfl,by rw[I];rfl,rfl⟩⟩⟩
   ·rename_i sz xs I
    rw[I];obtain⟨⟨F,O,L,Q⟩,rfl⟩:=bY E
    exact⟨_,rfl,⟨F,O,L,Q⟩,⟨rfl,rfl,rfl,rfl,rfl⟩,
     ⟨fun ob' e=>(by cases e),.inr ⟨_,_,rfl,by rw[I];rfl,gn.2 (zP sz _ _ (by rw[aY];omega))⟩⟩⟩
   ·rename_i l I
    rw[I];simp only at E ⊢;split at E<;>try (cases E;done)
    rename_i l' hv;rw[hv];obtain⟨F,rfl⟩:=bY E;exact⟨_,rfl,F,⟨rfl,rfl,rfl,rfl,rfl⟩,⟨fun ob' e=>(by cases e),.inr ⟨_,_,rfl,by rw[I];rfl,rfl⟩⟩⟩
  ·rename_i o' sz i j Z
   rw[Z];simp only[h.look];split at E<;>try (cases E;done)
   ·rename_i a2 xs I
    rw[I];obtain⟨⟨F,O,L,Q,h5⟩,rfl⟩:=bY E
    exact⟨_,rfl,⟨F,O,L,Q,by rw[F];exact h.rows I,h5⟩,⟨rfl,rfl,rfl,rfl,rfl⟩,
     ⟨fun ob' e=>(by cases e),.inr ⟨_,_,rfl,by rw[I];rfl,gn.2 (by subst F;exact Hd (h.rows I) O L (by simpa using Q))⟩⟩⟩
   ·rename_i l I
    rw[I];simp only at E ⊢;split at E<;>try (cases E;done)
    rename_i b hv;rw[hv];obtain⟨F,rfl⟩:=bY E;exact⟨_,rfl,F,⟨rfl,rfl,rfl,rfl,rfl⟩,⟨fun ob' e=>(by cases e),.inr ⟨_,_,rfl,by rw[I];rfl,rfl⟩⟩⟩
  ·cases E
 |app z bytes q y=>
  simp only[eJ]at E;simp only[eff,h.ev];split at E<;>try (cases E;done)
  split at E<;>try (cases E;done)
  ·rename_i l t Z
   rw[Z];obtain⟨l',F,O⟩:=Option.bind_eq_some_iff.1 E;obtain⟨p,L,Q⟩:=oL h F;obtain⟨⟨g1,g2,g3,g4⟩,rfl⟩:=bY O;simp only[L];exact⟨_,rfl,⟨Q,g1,g2,tZ h g3,g4⟩,⟨rfl,rfl,rfl,rfl,rfl⟩,⟨fun ob' e=>(by cases e),.inl rfl⟩⟩
  ·rename_i a2 l t Z
   rw[Z];obtain⟨l',F,O⟩:=Option.bind_eq_some_iff.1 E;obtain⟨p,L,Q⟩:=lx h F;obtain⟨⟨g1,g3,g4⟩,rfl⟩:=bY O;simp only[L];exact⟨_,rfl,⟨Q,g1,tZ h g3,g4⟩,⟨rfl,rfl,rfl,rfl,rfl⟩,⟨fun ob' e=>(by cases e),.inl rfl⟩⟩
 |cpy sz q y=>exact absurd rfl (a7 sz q y)
 |appO z bytes q y=>cases E
 |clr z q=>
  simp only[eJ]at E;simp only[eff,h.ev];split at E<;>try (cases E;done)
  rename_i o' a2 off n cap Z;rw[Z];simp only[h.look];split at E<;>try (cases E;done)
  rename_i a8 xs I;rw[I];obtain⟨⟨g0,g1,g2,g3⟩,rfl⟩:=bY E;have J:=h.rows I;refine⟨_,rfl,⟨g0,g1,g2,g3,by rw[g2];exact J⟩,⟨rfl,rfl,rfl,rfl,rfl⟩,⟨fun ob' e=>(by cases e),.inr ⟨_,_,rfl,by rw[I];rfl,gn.2 ?_⟩⟩⟩;intro r W;rcases am.1 W with W|W
  ·rcases am.1 W with W|W
   ·rw[g2];exact J r (bC W)
   ·rw[(List.mem_replicate.1 W).2]
  ·rw[g2];exact J r (cB W)
 |appM z bytes q y=>cases E
 |ovl q y=>cases E
 |_=>exact a1 (uE rfl) rfl E
theorem xaq(P:Program)(h:Sim N c s)(hM:aR C x s a w){e:pJ}(I:eJ c d so=some e)(hp:∀q y z,so≠ .pick q y z)(hn:∀ne q,so≠ .isnil ne q):∃f,eff s d so=some f/\f.pre/\I8 e f/\Jg c e:=by
 by_cases O:∃Z q y,so= .cpy Z q y
 ·obtain⟨Z,q,y,rfl⟩:=O
  simp only[eJ]at I;simp only[eff,h.ev];split at I<;>try (cases I;done)
  rename_i o' a6 off n cap hq;rw[hq];simp only[h.look];split at I<;>try (cases I;done)
  ·rename_i l L
   rw[L];obtain⟨l',h1,h2⟩:=Option.bind_eq_some_iff.1 I;obtain⟨p,Q,W⟩:=oL h h1;obtain⟨⟨g1,J,g3⟩,rfl⟩:=bY h2;simp only[Q];exact⟨_,rfl,⟨W,g1,J,g3⟩,⟨rfl,rfl,rfl,rfl,rfl⟩,⟨fun ob' e=>(by cases e),.inr ⟨_,_,rfl,by rw[L];rfl,rfl⟩⟩⟩
  ·rename_i a2 xs L
   rw[L];obtain⟨l',h1,h2⟩:=Option.bind_eq_some_iff.1 I;obtain⟨p,Q,W⟩:=lx h h1;obtain⟨⟨g0,g1,J,g3⟩,rfl⟩:=bY h2;simp only[Q];have E:=h.rows L;obtain⟨_,a1,_⟩:=rE (P:=P) hM (YF hM g0) (by rw[h.ev];exact Q) W;refine⟨_,rfl,⟨W,g1,J,g3,by rw[J];exact E⟩,⟨rfl,rfl,rfl,rfl,rfl⟩,⟨fun ob' e=>(by cases e),.inr ⟨_,_,rfl,by rw[L];rfl,gn.2 ?_⟩⟩⟩;intro r F;rcases am.1 F with F|F
   ·rcases am.1 F with F|F
    ·rw[J];exact E r (bC F)
    ·exact a1 r (bC F)
   ·rw[J];exact E r (cB F)
 ·exact KR h I hp hn (fun Z q y e=>O ⟨Z,q,y,e⟩)
theorem xpz(h:M C N c a w)(hr:bG P o=some so)(hd:∀k,o.dst=some k->k<N)(O:oW c o.dst (eJ c o.dst so)=some c'){K:LBb}{Q:LBa}(hK:∀a w,M C N c' a w->K a w):o.wp P a w K Q:=by
 obtain⟨x,s,hM,E⟩:=h;cases he:eJ c o.dst so with
 |none=>rw[he]at O;cases O
 |some e=>
  rw[he]at O;simp only[oW,ax.injEq]at O;subst O
  by_cases hp:∃q y z,so= .pick q y z
  ·obtain⟨q,y,z,rfl⟩:=hp
   simp only[eJ]at he;split at he<;>cases he;rename_i t ht;have I:=HW hM hr (t:=t) (by rw[E.ev];exact ht);refine dL I (k:=Sim N (c.app o.dst {val:=jl t (c.ev y) (c.ev z)})) ?_ hK;have:(if t=true then s.ev y else s.ev z)=jl t (c.ev y) (c.ev z):=by rw[E.ev,E.ev];rfl
   rw[this];exact E.put hd _
  ·by_cases hn:∃F q,so= .isnil F q
   ·obtain⟨F,q,rfl⟩:=hn
    have key:∃b,b=F/\cA P C o a w (s.put o.dst (.bool b)):=by
     refine Bg hM hr (K:=fun b=>b=F) ?_;rw[E.ev];simp only[eJ]at he;split at he<;>try (cases he;done)
     ·rename_i l t W
      obtain⟨J,_⟩:=bY he
      try rw[W]
      intro b Z;cases b
      ·cases F<;>rfl
      ·exact absurd (Z rfl) J
     ·rename_i sz l t W
      obtain⟨J,_⟩:=bY he
      try rw[W]
      intro b Z;cases b
      ·cases F<;>rfl
      ·exact absurd (Z rfl) J
     ·rename_i W
      first
       |rw[W]
       |rfl
    obtain⟨b,rfl,I⟩:=key;refine dL I (k:=Sim N (c.app o.dst e)) ?_ hK
    have:e= {val:= .bool b}:=by
     simp only[eJ]at he;split at he
     ·obtain⟨_,L⟩:=bY he;exact L.symm
     ·obtain⟨_,L⟩:=bY he;exact L.symm
     ·exact(ax.inj he).symm
     ·cases he
    rw[this];exact E.put hd _
   ·obtain⟨f,J,L,h3,h4⟩:=xaq P E hM he (fun q y z e=>hp ⟨q,y,z,e⟩) (fun F q e=>hn ⟨F,q,e⟩)
    exact dL (xao hM hr J L) (k:=Sim N (c.app o.dst e)) (E.app hd h3 h4) hK
end Go.Sy
namespace Go.Sy
variable [br]
variable {P : Program} {C : Ctx} {x : Sit} {a : Act} {w : World} {N : Nat} {c c' : CSt} {s : St}
theorem Sim.exact(h:Sim N c s)(hM:aR C x s a w):aR C x (c.st N) a w:=
 ⟨by show cE x ((bM N).map c.get) _;rw[<-h.tm];exact hM.tm,hM.defers,hM.heap.only (fun p y=>by have I:=jZ (jW h.inv.so) y;have E:s.look p.1=some p.2:=(h.look p.1).trans I;exact dr E) (jW h.inv.so) (fun t F=>(h.tk t).2 F)⟩
theorem M.slots(h:M C N c a w)(hi:Inv N c')(L:c'.ob=c.ob)(I:c'.tk=c.tk)(O:∀i,c'.get i=c.get i\/c'.get i= .undef):M C N c' a w:=by
 obtain⟨x,s,hM,J⟩:=h;have hE:=J.exact hM;refine⟨x,c'.st N,⟨⟨?_,fun i y=> ?_⟩,hM.defers, ?_⟩,Sim.of hi⟩
 ·have:=hE.tm.1;simpa[CSt.st]using this
 ·have F:=hE.tm.2 i (by simpa[CSt.st]using y)
  have E:i<N:=by simpa[CSt.st]using y
  simp only[CSt.st,aa,aT,cz E,bB,aM]at F ⊢;rcases O i with e|e
  ·rw[e];exact F
  ·rw[e];exact .undef _
 ·show dj C x c'.ob c'.tk w
  rw[L,I];exact hE.heap
theorem Inv.kill(h:Inv N c)(l:LAa):Inv N (c.kill l):=by
 cases l with
 |nil=>exact h
 |cons n r=>exact⟨fun p y=>h.dom p (rN y),h.so,h.wf⟩
theorem M.kill(h:M C N c a w)(l:LAa):M C N (c.kill l) a w:=by
 have hi:Inv N c:=by obtain⟨x,s,_,E⟩:=h;exact E.inv
 cases l with
 |nil=>exact h
 |cons n r=>
  refine h.slots (hi.kill _) rfl rfl fun i=> ?_
  have e:=rV (n::r) i c.tm
  by_cases y:(n::r).contains i=true
  ·exact .inr (e.trans (if_pos y))
  ·exact .inl (e.trans (if_neg y))
theorem M.purge(h:M C N c a w)(lo hi:Nat):M C N (c.purge lo hi) a w:=by obtain⟨x,s,hM,y⟩:=h;exact⟨x,_,hM.purge lo hi,y.purge lo hi⟩
theorem M.gc:∀{l:LAa}{c:CSt},M C N c a w->M C N (gcC c l) a w
 |[],_,h=>h
 |o::r,c,h=>by show M C N (gcC (c.purge o (o+1)) r) a w;exact M.gc (h.purge o (o+1))
theorem np{o:Nat}{obj:aH}(cs:t8):SV.pubL o obj cs=cs.map (SV.pub o obj):=by
 induction cs with
 |nil=>rfl
 |cons c r h=>simp only[SV.pubL,aI,h]
theorem Rep.pub{x x':Sit}{o:Nat}{obj:aH}(hβ:x'.bk=x.bk)(hτ:x'.τ=x.τ)(hG:∀b i u,x.G b i=some u->x'.G b i=some u)
 (F:∀k,k<obj.size->∃u,x'.G ((x.bk o).1) k=some u/\cL x'.G (obj.cell k) u) (a7:obj.wf=true) {sv:SV} {v:Value} (h:Rep x sv v):Rep x' (sv.pub o obj) v:=by
 induction h with
 |undef v=>exact .undef v
 |dat s v h ht=>
  have:s.pub o obj=s:=by cases h<;>rfl
  rw[this];exact(Rep.dat s v h ht).grow hG hβ hτ
 |ptr L off=>
  simp only[SV.pub];split
  ·exact .undef _
  ·rw[<-hβ];exact .ptr L off
 |ap L sz i j=>
  simp only[SV.pub];split
  ·exact .undef _
  ·rw[<-hβ];exact .ap L sz i j
 |psl L sz off n cap y I O hn J W=>
  simp only[SV.pub];split
  ·rename_i ho
   subst ho;cases obj with
   |rc cs=>exact .undef _
   |arr Q xs=>
    simp only[AO];split
    ·rename_i hc
     obtain⟨rfl,hb⟩:=hc;have a1:=gn.1 a7;have h1:=leP.psl (o:=L) (cap:=cap) hb a1 x x' _ hβ hτ hG (fun k hk=>F k hk) (.psl L Q off n cap y I O hn J W);split
     ·rename_i E
      have a2:=J _ E;obtain⟨b,cq,he,_,hD,_⟩:=h1.lst_inv;exact .dat _ _ (hD.tok (.lst Q ((xs.drop off).take n) .clip) (.inr ⟨Q,_,_,_,rfl,rfl⟩)) ⟨_,n,by rw[<-a2]⟩
     ·exact h1
    ·exact .undef _
   |bar l=>
    simp only[AO];split
    ·rename_i hc
     obtain⟨rfl,hb⟩:=hc;have a6:((l.drop off).take n).length=n:=by simp;omega
     have hD:∀t,cL x'.G (.byt ((l.drop off).take n) t) (.slice (some ⟨(x.bk L).1,y,none⟩) n I):=by
      intro t;refine .byt _ t _ _ _ _ a6.symm hn fun i hi=> ?_
      have Z:y=off:=by omega
      obtain⟨u,hu,hr⟩:=F (off+i) (by simp only[aH.size];omega);rw[Z,hu];simp only[aH.cell]at hr
      have e:((l.drop off).take n).getD i 0=l.getD (off+i) 0:=by simp only[aa,bL,if_pos hi,bz]
      rw[e];cases hr with
      |u8 b=>rfl
     split
     ·rename_i E
      have a2:=J _ E;exact .dat _ _ (hD .clip) ⟨_,n,by rw[<-a2]⟩
     ·exact .dat _ _ (hD .no) trivial
    ·exact .undef _
  ·rw[<-hβ]at W ⊢;exact .psl L sz off n cap y I O hn J W
 |agg cs vs hl _ ih=>simp only[SV.pub,np];exact .agg _ _ (by simpa using hl) fun i hi=>by rw[bg _ (by rfl)];exact ih i (by simpa using hi)
 |tup cs vs hl _ ih=>simp only[SV.pub,np];exact .tup _ _ (by simpa using hl) fun i hi=>by rw[bg _ (by rfl)];exact ih i (by simpa using hi)
 |fn f c1 c2 v1 v2 b0 _ b3 _ b1 a8=>simp only[SV.pub,np];exact .fn _ _ _ _ _ (by simpa using b0) (fun i hi=>by rw[bg _ (by rfl)];exact b1 i (by simpa using hi)) (by simpa using b3) (fun i hi=>by rw[bg _ (by rfl)];exact a8 i (by simpa using hi))
theorem lE{o:Nat}{obj:aH}{p:Nat×aH}:∀{l:List (Nat×aH)},p∈mm o obj l->p.1≠o/\∃q,(p.1,q)∈l/\p.2=pr o obj q
 |q::r,h=>by
  simp only[mm]at h;split at h
  ·obtain⟨E,u,F,y⟩:=lE h
   exact⟨E,u,aw _ F,y⟩
  ·rename_i I
   rcases av.1 h with e|e
   ·rw[e];exact⟨I,q.2,aB ..,rfl⟩
   ·obtain⟨E,u,F,y⟩:=lE e
    exact⟨E,u,aw _ F,y⟩
theorem rY{o:Nat}{obj:aH}:∀l:List (Nat×aH),(mm o obj l).map cS=(l.map cS).filter fun k=>decide (k≠o)
 |[]=>rfl
 |p::r=>by
  simp only[mm,aI,fe]
  by_cases h:p.1=o
  ·rw[if_pos h,rY r];simp[h]
  ·rw[if_neg h,aI,rY r];simp[h]
theorem rK{o:Nat}{obj:aH}{p:Nat×SV}:∀{l:List (Nat×SV)},p∈mU o obj l->∃q∈l,p.1=q.1
 |q::r,h=>by
  simp only[mU]at h;rcases av.1 h with e|e
  ·exact⟨q,aB ..,by rw[e]⟩
  ·obtain⟨u,y,E⟩:=rK e
   exact⟨u,aw _ y,E⟩
theorem lH{o:Nat}{obj:aH}(n:Nat):∀l:List (Nat×SV),ff (mU o obj l) n=(ff l n).pub o obj
 |[]=>rfl
 |p::r=>by
  simp only[mU,ff];split
  ·rfl
  ·exact lH n r
theorem xkh{o:Nat}{obj q:aH}(h:q.wf=true):(pr o obj q).wf=true:=by cases q<;>simpa[pr,aH.wf]using h
theorem qd{o:Nat}{y obj:aH}(hl:c.look o=some y)(e0:∀cs,obj≠ .rc cs)(b4:∀cs,y≠ .rc cs)(d7:obj.size<=y.size)(d5:∀k,k<obj.size->obj.cell k=y.cell k)(d1:obj.wf=true)(hM:aR C x s a w)(J:Sim N c s):
 ∃x',(x'.bk=x.bk/\x'.τ=x.τ/\(∀b i u,x.G b i=some u->x'.G b i=some u)/\(∀i,obj.size<=i->x'.G ((x.bk o).1) i=none)/\(∀k,k<obj.size->∃u,x'.G ((x.bk o).1) k=some u/\cL x'.G (obj.cell k) u))/\(∀sv v,Rep x sv v->Rep x' (sv.pub o obj) v)/\∃s',aR C x' s' a w/\Sim N ⟨mU o obj c.tm,mm o obj c.ob,c.tk⟩ s'/\(∀p∈s'.ob,(x.bk o).1≠(x'.bk p.1).1):=by
 have a1:s.look o=some y:=(J.look o).trans hl;obtain⟨cc,e,fl,fh,hO,d6,hr⟩:=fD hM a1;have b0:=hM.heap.obs _ (dr a1)
 let x':Sit:= {x with G:=fun b i=>if b=(x.bk o).1/\i<obj.size then some (cc.getD i undef)else x.G b i}
 have hG:∀b i u,x.G b i=some u->x'.G b i=some u:=by intro b i u hu;show(if _ then _ else _)=_;rw[if_neg];exact hu;rintro⟨rfl,_⟩;have h0:=b0.2.2 i;simp only at h0;rw[h0]at hu;cases hu
 have W:∀k,k<obj.size->∃u,x'.G ((x.bk o).1) k=some u/\cL x'.G (obj.cell k) u:=by
  intro k hk;refine⟨cc.getD k undef,if_pos ⟨rfl,hk⟩,cL.mono hG ?_⟩;have:=hr k (by omega);rw[d5 k hk];cases y with
  |rc cs=>exact absurd rfl (b4 cs)
  |arr sz xs=>exact this
  |bar l=>exact this
 have Q:∀sv v,Rep x sv v->Rep x' (sv.pub o obj) v:=fun sv v h=>Rep.pub (x:=x) (x':=x') rfl rfl hG W d1 h
 have E:=hM.heap
 have a2:Inv N ⟨mU o obj c.tm,mm o obj c.ob,c.tk⟩:=by
  refine⟨fun p I=> ?_, ?_,fun p I=> ?_⟩
  ·obtain⟨q,hq,e⟩:=rK I;rw[e];exact J.inv.dom q hq
  ·show((mm o obj c.ob).map cS).Pairwise _
   rw[rY];exact J.inv.so.filter _
  ·obtain⟨_,q,O,h3⟩:=lE I;rw[h3];exact xkh (J.inv.wf _ O)
 have F:∀p∈mm o obj c.ob,p.1≠o/\∃q,(p.1,q)∈s.ob/\p.2=pr o obj q:=by intro p I;obtain⟨Z,q,O,h3⟩:=lE I;have h4:=jZ (jW J.inv.so) O;exact⟨Z,q,dr ((J.look p.1).trans h4),h3⟩
 have b3:∀p∈mm o obj c.ob,(x.bk p.1).1≠(x.bk o).1:=fun p I e=>by obtain⟨Z,q,O,_⟩:=F p I;exact Z (E.inj (p.1,q) O _ (dr a1) e)
 refine⟨x',⟨rfl,rfl,hG,fun i hi=> ?_,W⟩,Q,_,⟨⟨?_,fun i hi=> ?_⟩,hM.defers, ?_⟩,Sim.of a2,fun p I=>(b3 p I).symm⟩
 ·show(if _ then _ else _)=_
  rw[if_neg (by rintro⟨_,h⟩;omega)];exact b0.2.2 i
 ·have:=hM.tm.1;rw[J.tm]at this;simpa[CSt.st]using this
 ·have b1:i<N:=by simpa[CSt.st]using hi
  have Z:=hM.tm.2 i (by rw[J.tm];simpa using b1);rw[J.tm]at Z;simp only[CSt.st,aa,aT,cz b1,bB,aM]at Z ⊢;have:(CSt.mk (mU o obj c.tm) (mm o obj c.ob) c.tk).get i=(c.get i).pub o obj:=lH i c.tm;rw[this];exact Q _ _ Z
 ·refine⟨
   ?_,fun b i v L=>hG _ _ _ (E.g0 b i v L), ?_,E.new, ?_,jW a2.so, ?_, ?_,fun n hn p I=> ?_,fun n hn m hm=>E.tkd n ((J.tk n).2 hn) m ((J.tk m).2 hm),E.os,E.tape,E.output,E.size,E.ext,E.pin,E.lay⟩
  ·intro b i v L
   replace L:(if b=(x.bk o).1/\i<obj.size then some (cc.getD i undef)else x.G b i)=some v:=L;split at L
   ·rename_i a6
    obtain⟨rfl,hi⟩:=a6;cases L;rw[hO.cell,aS,cy (by omega)];rfl
   ·exact E.per b i v L
  ·intro b i v L
   replace L:(if b=(x.bk o).1/\i<obj.size then some (cc.getD i undef)else x.G b i)=some v:=L;split at L
   ·rename_i a6
    exact .inr (a6.1 ▸ b0.2.1)
   ·exact E.gm b i v L
  ·intro p I
   obtain⟨Z,q,O,h3⟩:=F p I;obtain⟨g1,g2,g3⟩:=E.obs _ O;refine⟨?_,g2,fun off=> ?_⟩
   ·obtain⟨c',e',b7,d4,c3,a7,a8⟩:=g1
    rw[h3];refine⟨c',e',b7,d4,c3, ?_,fun k hk=> ?_⟩
    ·cases q<;>first|exact a7|exact⟨by simpa[pr,aH.size,np]using a7.1,a7.2.1,fun h=>by cases h⟩
    ·cases q with
     |rc cs=>
      have d3:k<cs.length:=by simpa[pr,aH.size,np]using hk
      have:=a8 k d3;simp only[pr,cx,np]at this ⊢;rw[bg _ (by rfl)];exact Q _ _ this
     |arr sz xs=>exact cL.mono hG (a8 k hk)
     |bar l=>exact cL.mono hG (a8 k hk)
   ·show(if _ then _ else _)=_
    rw[if_neg (fun h=>b3 p I h.1)];exact g3 off
  ·intro p I q hq b6
   obtain⟨_,p',c7,_⟩:=F p I;obtain⟨_,q',d2,_⟩:=F q hq;exact E.inj (p.1,p') c7 (q.1,q') d2 b6
  ·intro n c5
   have hn:=(J.tk n).2 c5;rcases E.tks n hn with h|⟨Z,O,h3⟩
   ·exact .inl h
   ·by_cases b5:(x.τ n).2.1=(x.τ n).2.2
    ·exact .inl b5
    ·refine .inr ⟨Z,O,fun off h4 h5=> ?_⟩
     show(if _ then _ else _)=_;rw[if_neg (fun h=>(E.tko n hn _ (dr a1)).elim (fun hb=>hb h.1) b5)];exact h3 off h4 h5
  ·obtain⟨_,q,O,_⟩:=F p I
   exact E.tko n ((J.tk n).2 hn) (p.1,q) O
theorem qf{o:Nat}{obj:aH}(E:c.look o=some obj)(h:∀cs,obj≠ .rc cs)(hM:aR C x s a w)(F:Sim N c s):
 ∃x',(x'.bk=x.bk/\x'.τ=x.τ)/\(∀sv v,Rep x sv v->Rep x' (sv.pub o obj) v)/\∃y,aR C x' y a w/\Sim N ⟨mU o obj c.tm,mm o obj c.ob,c.tk⟩ y:=by
 obtain⟨x',I,L,y,J,O,_⟩:=qd E h h (aJ _) (fun _ _=>rfl) (F.lookmem E) hM F;exact⟨x',⟨I.1,I.2.1⟩,L,y,J,O⟩
theorem Hm{o:Nat}{obj:aH}(F:c.look o=some obj)(y:∀cs,obj≠ .rc cs)(hM:aR C x s a w)(I:Sim N c s):
 ∃x',(∀sv v,Rep x sv v->Rep x' (sv.pub o obj) v)/\∃E,aR C x' E a w/\Sim N ⟨mU o obj c.tm,mm o obj c.ob,c.tk⟩ E:=by
 obtain⟨x',_,h⟩:=qf F y hM I;exact⟨x',h⟩
theorem mj{vs:t8}{us:LAc}{o:Nat}(hM:aR C x s a w)(J:Sim N c s)(E:cE x vs us):
 ∃x' h,aR C x' h a w/\Sim N (c.publish o vs).1 h/\cE x' (c.publish o vs).2 us:=by
 unfold CSt.publish
 have I:∀{obj:aH},c.look o=some obj->(∀cs,obj≠ .rc cs)->∃x' h,aR C x' h a w/\Sim N ⟨mU o obj c.tm,mm o obj c.ob,c.tk⟩ h/\cE x' (SV.pubL o obj vs) us:=by intro obj y F;obtain⟨x',Q,h,O,L⟩:=Hm y F hM J;refine⟨x',h,O,L, ?_⟩;rw[np];refine⟨by simpa using E.1,fun i hi=> ?_⟩;rw[bg _ (by rfl)];exact Q _ _ (E.2 i (by simpa using hi))
 split
 ·rename_i W Z y;exact I y (fun cs e=>by cases e)
 ·rename_i l y;exact I y (fun cs e=>by cases e)
 ·exact⟨x,s,hM,J,E⟩
theorem ki{us:LAc}:∀{l:LAa}{c:CSt}{s:St}{x:Sit}{vs:t8},aR C x s a w->Sim N c s->cE x vs us->
 ∃x' h,aR C x' h a w/\Sim N (fB c vs l).1 h/\cE x' (fB c vs l).2 us
 |[],_,_,_,_,hM,hS,hv=>⟨_,_,hM,hS,hv⟩
 |o::r,c,s,x,vs,hM,hS,hv=>by obtain⟨x1,I,E,F,y⟩:=mj (o:=o) hM hS hv;simp only[fB];exact ki E F y
theorem M.pub(h:M C N c a w)(o:Nat):M C N (c.publish o []).1 a w:=by obtain⟨x,s,hM,y⟩:=h;obtain⟨x',F,E,I,_⟩:=mj (o:=o) (vs:=[]) (us:=[]) hM y ⟨rfl,fun i hi=>by simp at hi⟩;exact⟨x',F,E,I⟩
theorem Yp(hM:aR C x s a w)(Q:Sim N c s)(id b lo hi:Nat)(W:lo=hi\/((∃c e fl fh,eS w b c e fl fh/\hi<=c.size)/\C.mine b/\∀o,lo<=o->o<hi->x.G b o=none))
 (O:∀p∈s.ob,b≠(x.bk p.1).1) (L:∀u∈s.tk,mB (b,lo,hi) (x.τ u)\/(x.τ u).2.1=(x.τ u).2.2) {n:Nat} (hn:n<N) {v:SV}
 (I:Rep (x.newT id b lo hi) v (a.tmps.toList.getD n undef)):
 M C N ⟨kq (dN id (id+1) c.tm) n v,bP id (id+1) c.ob,nX (cJ id (id+1) c.tk) id⟩ a w:=by
 have E:dj C (x.newT id b lo hi) (bP id (id+1) s.ob) (id::cJ id (id+1) s.tk) w:=
  hM.heap.addT id b lo hi W (.inr fun p Z _=>O p Z) (.inr fun u hu _=>L u hu)
 have y:aR C (x.newT id b lo hi) ⟨SV.purgeL id (id+1) s.tm,bP id (id+1) s.ob,id::cJ id (id+1) s.tk⟩ a w:=
  ⟨cE.mono (x:=x) (x':=x.newT id b lo hi) (lo:=id) (hi:=id+1) (fun _ _ _ h=>h) (fun _ _=>rfl) (Sit.newT_ne x id _ _ _) hM.tm,hM.defers,E⟩
 have J:Sim N ⟨dN id (id+1) c.tm,bP id (id+1) c.ob,nX (cJ id (id+1) c.tk) id⟩ ⟨SV.purgeL id (id+1) s.tm,bP id (id+1) s.ob,id::cJ id (id+1) s.tk⟩:=
  (Q.purge id (id+1)).tks (fun u=>by rw[lD,av,bU,bU,Q.tk])
 refine⟨x.newT id b lo hi,_, ?_,J.put (d:=some n) (fun k e=>by cases e;exact hn) v⟩;refine⟨⟨?_,fun i hi=> ?_⟩,y.defers,y.heap⟩
 ·have:=y.tm.1;simpa[St.put]using this
 ·simp only[St.put,ny]at hi
  simp only[St.put,aa,ij]
  by_cases F:n=i
  ·subst F
   rw[if_pos rfl,if_pos hi];rw[<-aa];exact I
  ·rw[if_neg F]
   have:=y.tm.2 i hi;simp only[aa]at this;exact this
theorem Ad(h:M C N c a w){n id o sz off k Z:Nat}(hg:c.get n= .psl o sz off k (some Z))(hc:Yr c n id o sz off k Z (c.look o)=some c')(hn:n<N):M C N c' a w:=by
 cases hl:c.look o with
 |none=>rw[hl]at hc;cases hc;exact h
 |some J=>
  rw[hl]at hc
  have a7:∀(obj:aH)(v:SV),(∀cs,obj≠ .rc cs)->(∀cs,J≠ .rc cs)->obj.size=(off+k)*sz->(off+Z)*sz<=J.size->k<=Z->(∀k,k<obj.size->obj.cell k=J.cell k)->obj.wf=true->
   (∀(x':Sit)(E:Nat),(Z=0\/E=off*sz)->(∀k,k<obj.size->∃u,x'.G ((x'.bk o).1) k=some u/\cL x'.G (obj.cell k) u)->cL x'.G v (.slice (some ⟨(x'.bk o).1,E,none⟩) k Z))->
   (∀x v',UJ x v v'=dR x sz (.id id) v')->
   M C N (Ir c n id o obj v) a w:=by
   intro obj v e5 b7 d3 e0 hk a6 d5 hD b4;obtain⟨x,s,hM,hS⟩:=h;have c5:obj.size<=J.size:=by rw[d3];exact mC (bh _ (by omega)) e0
   obtain⟨x',⟨hβ,hτ,hG,a8,I⟩,e9,s',d7,c3,d4⟩:=qd hl e5 b7 c5 a6 d5 hM hS;have b1:s.look o=some J:=(hS.look o).trans hl;obtain⟨cc,e,fl,fh,hO,e8,_⟩:=fD hM b1;have e6:=hM.heap.obs _ (dr b1);have a2:=hM.slot n;rw[hS.get,hg]at a2;obtain⟨f0,f1,d2,E,he,L⟩:=a2.psl_inv;obtain rfl:=d2 _ rfl
   have b0:a.tmps.toList.getD n undef= .slice (some ⟨(x.bk o).1,E,none⟩) k Z:=by rw[<-he];simp[aS,aa]
   refine Yp d7 c3 id ((x.bk o).1) ((off+k)*sz) ((off+Z)*sz) (.inr ⟨⟨cc,e,fl,fh,hO,by omega⟩,e6.2.1,fun i h1 h2=>a8 i (by omega)⟩) (fun p hp=>d4 p hp) (fun u hu=> ?_) hn ?_
   ·have c7:=(c3.tk u).1 hu
    have e3:=(hS.tk u).2 c7;rw[hτ];exact(hM.heap.tko u e3 _ (dr b1)).imp (fun h e=>h e.symm) (fun h=>h)
   ·rw[b0]
    have h1:=hD (x'.newT id ((x.bk o).1) ((off+k)*sz) ((off+Z)*sz)) E L (by show ∀k,k<obj.size->∃u,x'.G ((x'.bk o).1) k=some u/\cL x'.G (obj.cell k) u;rw[hβ];exact I)
    have e1:(x'.newT id ((x.bk o).1) ((off+k)*sz) ((off+Z)*sz)).bk o=x.bk o:=by show x'.bk o=_;rw[hβ]
    rw[e1]at h1;refine .dat _ _ h1 ?_;rw[b4];refine⟨_,k,Z,rfl, ?_⟩
    by_cases e4:Z=0
    ·exact .inl (by omega)
    ·refine .inr ⟨_,E,rfl, ?_⟩
     rw[Sit.newT_eq,L.resolve_left e4,bE,bE]
  cases J with
  |rc cs=>cases hc;exact h
  |bar l=>
   simp only[Yr]at hc;split at hc<;>cases hc
   ·rename_i Q
    obtain⟨rfl,h2,h3⟩:=Q;refine a7 (.bar (l.take (off+k))) (.byt ((l.drop off).take k) (.id id)) (fun cs e=>by cases e) (fun cs e=>by cases e) (by simp only[aH.size,aq];omega) (by simp only[aH.size];omega) h3 (fun i hi=> ?_) rfl (fun x' E L I=> ?_) (fun _ _=>rfl)
    ·simp only[aH.size,aq]at hi
     simp only[aH.cell,aa,bL,if_pos (show i<off+k by omega)]
    ·have a1:((l.drop off).take k).length=k:=by simp;omega
     refine .byt _ _ _ _ _ _ a1.symm h3 fun i hi=> ?_
     have O:E=off:=by omega
     obtain⟨u,hu,hr⟩:=I (off+i) (by simp only[aH.size,aq];omega);rw[O,hu];simp only[aH.cell]at hr
     have e1:((l.drop off).take k).getD i 0=(l.take (off+k)).getD (off+i) 0:=by simp only[aa,bL,if_pos hi,bz,if_pos (show off+i<off+k by omega)]
     rw[e1];cases hr with
     |u8 b=>rfl
   ·exact h
  |arr F W=>
   simp only[Yr]at hc;split at hc<;>cases hc
   ·rename_i Q
    obtain⟨rfl,h2,h3⟩:=Q;have b3:∀y∈W,y.length=F:=by obtain⟨x,s,hM,hS⟩:=h;exact gn.1 (hS.lookmem hl)
    have b6:∀y∈W.take (off+k),y.length=F:=fun y hy=>b3 y (bC hy)
    have e7:(W.drop off).take k=(W.take (off+k)).drop off:=by rw[fY,Nat.add_sub_cancel_left]
    refine a7 (.arr F (W.take (off+k))) (.lst F ((W.drop off).take k) (.id id)) (fun cs e=>by cases e) (fun cs e=>by cases e) (by simp only[aH.size,aq];congr 1;omega) (by simp only[aH.size];exact bh _ h2) h3 (fun i hi=> ?_) (gn.2 b6) (fun x' E L I=> ?_) (fun _ _=>rfl)
    ·simp only[aH.size,aq]at hi
     simp only[aH.cell,aa,bL];have hd:i/F<off+k:=Nat.div_lt_of_lt_mul (by rw[cM];exact Nat.lt_of_lt_of_le hi (bh _ (Nat.min_le_left _ _)));rw[if_pos hd]
    ·have a1:((W.drop off).take k).length=k:=by simp;omega
     have b5:∀i,i<k->((W.drop off).take k).getD i []=(W.take (off+k)).getD (off+i) []:=fun i hi=>by simp only[aa,bL,if_pos hi,bz,if_pos (show off+i<off+k by omega)]
     have d1:∀i,i<k->((W.drop off).take k).getD i []∈W.take (off+k):=fun i hi=>by rw[b5 i hi,aa,ac (show off+i<(W.take (off+k)).length by rw[aq];omega)];exact bv _
     have a6:∀i j,i<k->j<F->∃u,x'.G ((x'.bk o).1) (E+i*F+j)=some u/\cL x'.G ((((W.drop off).take k).getD i []).getD j .undef) u:=by
      intro i j hi hj;have O:E=off*F:=L.resolve_left (by omega)
      have d6:(off+i)*F+j<(off+k)*F:=by have:=bh F (show off+i+1<=off+k by omega);rw[bE,pz]at this;omega
      obtain⟨u,hu,hr⟩:=I ((off+i)*F+j) (by simp only[aH.size,aq];rw[fR (by omega)];exact d6);refine⟨u,by rw[O,<-bE];exact hu, ?_⟩;simp only[aH.cell]at hr;have e1:((off+i)*F+j)/F=off+i:=by rw[cM,Nat.mul_add_div (by omega),Bz hj,ft]
      have e2:((off+i)*F+j) % F=j:=by rw[cM,Nat.mul_add_mod,cH hj]
      rw[e1,e2]at hr;rw[b5 i hi];exact hr
     refine .lst _ _ _ _ _ _ _ (fun i j=>(x'.G ((x'.bk o).1) (E+i*F+j)).getD undef) a1.symm h3 (fun i hi=>b6 _ (d1 i hi)) (fun i j hi hj=> ?_) (fun i j hi hj=> ?_)
     ·obtain⟨u,hu,_⟩:=a6 i j hi hj
      rw[hu];rfl
     ·obtain⟨u,hu,hr⟩:=a6 i j hi hj
      rw[hu];exact hr
   ·exact h
theorem lN(hM:aR C x s a w)(E:Sim N c s)(id:Nat)(t:LAb)(Z:∀k,t=some k->k∈c.tk){n:Nat}(hn:n<N){v:SV}
 (hv:∀u,Rep x (c.get n) u->Rep (x.newT id ((t.elim (0,0,0) x.τ)).1 ((t.elim (0,0,0) x.τ)).2.1 ((t.elim (0,0,0) x.τ)).2.2) v u):
 M C N ⟨kq (dN id (id+1) c.tm) n v,bP id (id+1) c.ob,nX (cJ id (id+1) (t.elim c.tk fun k=>cJ k (k+1) c.tk)) id⟩ a w:=by
 generalize hT:t.elim (0,0,0) x.τ=T at hv;generalize hL:(t.elim c.tk fun k=>cJ k (k+1) c.tk)=L;have Q:=hM.heap
 have O:∀u∈L,u∈s.tk/\∀k,t=some k->u≠k:=by
  intro u hu;rw[<-hL]at hu;cases t with
  |none=>exact⟨(E.tk u).2 hu,fun k e=>by cases e⟩
  |some k=>obtain⟨h1,h2⟩:=bU.1 hu;exact⟨(E.tk u).2 h1,fun k' e=>by cases e;omega⟩
 have F:dj C (x.newT id T.1 T.2.1 T.2.2) (bP id (id+1) s.ob) (id::cJ id (id+1) L) w:=by
  refine(Q.sub (tk':=L) (o7.refl _) (fun u hu=>(O u hu).1)).addT id T.1 T.2.1 T.2.2 ?_ ?_ ?_
  ·cases t with
   |none=>subst hT;exact .inl rfl
   |some k=>have:=Q.tks k ((E.tk k).2 (Z k rfl));unfold iR at this;subst hT;exact this
  ·cases t with
   |none=>subst hT;exact .inl rfl
   |some k=>
    by_cases I:(x.τ k).2.1=(x.τ k).2.2
    ·subst hT;exact .inl I
    ·subst hT
     exact .inr fun p hp _=>(Q.tko k ((E.tk k).2 (Z k rfl)) p hp).resolve_right I
  ·cases t with
   |none=>subst hT;exact .inl rfl
   |some k=>
    by_cases I:(x.τ k).2.1=(x.τ k).2.2
    ·subst hT;exact .inl I
    ·subst hT
     refine .inr fun u hu _=> ?_
     obtain⟨h1,h2⟩:=O u hu;rcases Q.tkd k ((E.tk k).2 (Z k rfl)) u h1 (fun e=>h2 k rfl e.symm)with h|h|h
     ·exact .inl h
     ·exact absurd h I
     ·exact .inr h
 have y:aR C (x.newT id T.1 T.2.1 T.2.2) ⟨SV.purgeL id (id+1) s.tm,bP id (id+1) s.ob,id::cJ id (id+1) L⟩ a w:=
  ⟨cE.mono (x:=x) (x':=x.newT id T.1 T.2.1 T.2.2) (lo:=id) (hi:=id+1) (fun _ _ _ h=>h) (fun _ _=>rfl) (Sit.newT_ne x id _ _ _) hM.tm,hM.defers,F⟩
 have W:Sim N ⟨dN id (id+1) c.tm,bP id (id+1) c.ob,nX (cJ id (id+1) L) id⟩ ⟨SV.purgeL id (id+1) s.tm,bP id (id+1) s.ob,id::cJ id (id+1) L⟩:=
  (E.purge id (id+1)).tks (fun u=>by rw[lD,av])
 refine⟨x.newT id T.1 T.2.1 T.2.2,_, ?_,W.put (d:=some n) (fun k e=>by cases e;exact hn) v⟩;have a1:n<s.tm.length:=by rw[E.tm];simpa using hn
 refine⟨⟨?_,fun i hi=> ?_⟩,y.defers,y.heap⟩
 ·have:=y.tm.1;simpa[St.put]using this
 ·simp only[St.put,ny]at hi
  simp only[St.put,aa,ij]
  by_cases J:n=i
  ·subst J
   rw[if_pos rfl,if_pos hi];refine hv _ ?_;have:=hM.tm.2 n a1;have e:s.tm.getD n .undef=c.get n:=E.get n;rw[e]at this;rw[<-aa];exact this
  ·rw[if_neg J,<-aa,<-aa]
   exact y.tm.2 i hi
theorem Ae(h:M C N c a w){n id:Nat}(y:Ys c n id (c.get n)=some c'):M C N c' a w:=by
 have L:c.get n≠ .undef->n<N:=by
  obtain⟨x,s,hM,F⟩:=h;intro a1;rcases bK n N with O|O
  ·exact O
  ·exact absurd (F.inv.get O) a1
 cases hg:c.get n with
 |byt l t=>
  rw[hg]at y;have hN:=L (by rw[hg];exact fun e=>by cases e);cases t with
  |no=>cases y;exact h
  |clip=>
   cases y;obtain⟨x,s,hM,F⟩:=h;refine lN hM F id none (fun k e=>by cases e) hN fun u hu=> ?_
   rw[hg]at hu;exact leT.byt id l x u hu
  |id t=>
   simp only[Ys]at y;split at y
   ·cases y;exact h
   ·split at y<;>cases y
    rename_i O h2;obtain⟨x,s,hM,F⟩:=h;refine lN hM F id (some t) (fun k e=>by cases e;simpa using h2) hN fun u hu=> ?_
    rw[hg]at hu;obtain⟨b,cap,he,_,hD,J⟩:=hu.byt_inv;refine .dat _ _ (hD.tok (.byt l (.id id)) (.inl ⟨l,_,_,rfl,rfl⟩)) ?_;obtain⟨a',Z,E,I,hh⟩:=J;refine⟨a',Z,E,I,hh.imp (fun h=>h) ?_⟩;rintro⟨b,off,W,h4⟩;exact⟨b,off,W,by rw[Sit.newT_eq];exact h4⟩
 |lst Q xs t=>
  rw[hg]at y;have hN:=L (by rw[hg];exact fun e=>by cases e);cases t with
  |no=>cases y;exact h
  |clip=>
   cases y;obtain⟨x,s,hM,F⟩:=h;refine lN hM F id none (fun k e=>by cases e) hN fun u hu=> ?_
   rw[hg]at hu;exact leT.lst id Q xs x u hu
  |id t=>
   simp only[Ys]at y;split at y
   ·cases y;exact h
   ·split at y<;>cases y
    rename_i O h2;obtain⟨x,s,hM,F⟩:=h;refine lN hM F id (some t) (fun k e=>by cases e;simpa using h2) hN fun u hu=> ?_
    rw[hg]at hu;obtain⟨b,cap,he,_,hD,J⟩:=hu.lst_inv;refine .dat _ _ (hD.tok (.lst Q xs (.id id)) (.inr ⟨Q,xs,_,_,rfl,rfl⟩)) ?_;obtain⟨a',Z,E,I,hh⟩:=J;refine⟨a',Z,E,I,hh.imp (fun h=>h) ?_⟩;rintro⟨b,off,W,h4⟩;exact⟨b,off,W,by rw[Sit.newT_eq];exact h4⟩
 |psl o Q off k cp=>
  rw[hg]at y;have hN:=L (by rw[hg];exact fun e=>by cases e);cases cp with
  |none=>cases y;exact h
  |some cp=>exact Ad h hg y hN
 |_=>rw[hg]at y;cases y;exact h
theorem aR.retag(hM:aR C x s a w)(n:Nat){v:SV}(h:Rep x v (a.tmps.toList.getD n undef)):aR C x (s.put (some n) v) a w:=by
 refine⟨⟨?_,fun i hi=> ?_⟩,hM.defers,hM.heap⟩
 ·have:=hM.tm.1;simpa[St.put]using this
 ·simp only[St.put,ny]at hi
  simp only[St.put,aa,ij]
  by_cases y:n=i
  ·subst y
   rw[if_pos rfl,if_pos hi];rw[<-aa];exact h
  ·rw[if_neg y]
   have:=hM.tm.2 i hi;simp only[aa]at this;exact this
theorem dj.move{ob:List (Nat×aH)}{tk:LAa}(h:dj C x ob tk w){o d:Nat}(a6:100<=d){obj:aH}(ho:(o,obj)∈ob)(a7:∀cs,obj≠ .rc cs):
 dj C (x.newO d (x.bk o).1 (x.bk o).2) ((d,obj)::bP d (d+1) (bP o (o+1) ob)) (cJ d (d+1) (cJ o (o+1) tk)) w:=by
 have hβ:=Sit.newO_ne x d (x.bk o).1 (k:=(x.bk o).2);obtain⟨⟨c,e,fl,fh,hO,hs,hr⟩,hm,hg⟩:=h.obs _ ho;have y:(x.newO d (x.bk o).1 (x.bk o).2).bk d=x.bk o:=if_pos rfl
 have I:∀p∈bP d (d+1) (bP o (o+1) ob),(x.newO d (x.bk o).1 (x.bk o).2).bk p.1=x.bk p.1/\∃q,(p.1,q)∈ob/\p.1≠o/\¬(d<=p.1/\p.1<d+1)/\p.2=(q.purge o (o+1)).purge d (d+1):=by intro p E;obtain⟨J,q,Q,h3⟩:=cG E;obtain⟨h4,Z,h5,h6⟩:=cG Q;simp only at h4 h5 h6;exact⟨hβ _ J,Z,h5,by omega,J,by rw[h3,h6]⟩
 have L:∀t∈cJ d (d+1) (cJ o (o+1) tk),t∈tk:=fun t W=>(bU.1 (bU.1 W).1).1
 refine⟨h.per,h.g0,h.gm,h.new, ?_, ?_, ?_,fun t W=>h.tks t (L t W), ?_,fun t W u hu=>h.tkd t (L t W) u (L u hu),h.os,h.tape,h.output,h.size,h.ext,fun i hi=>by rw[hβ i (by omega)];exact h.pin i hi,h.lay⟩
 ·intro p E
  rcases av.1 E with rfl|E
  ·refine⟨⟨c,e,fl,fh,by rw[y];exact hO,by rw[y];exact hs,fun k hk=> ?_⟩,by rw[y];exact hm,fun off=>by rw[y];exact hg off⟩
   have:=hr k hk;cases obj with
   |rc cs=>exact absurd rfl (a7 cs)
   |arr sz xs=>exact this
   |bar l=>exact this
  ·obtain⟨O,q,J,Q,h3,h4⟩:=I p E
   obtain⟨h5,h6,h7⟩:=h.obs _ J;refine⟨?_,by rw[O];exact h6,fun off=>by rw[O];exact h7 off⟩;have e1:=h5.of_heap (x':=x) (w':=w) (lo:=o) (hi:=o+1) rfl (fun _ _ _ h=>h) (fun _ _=>rfl) (fun _ _=>rfl) (by omega);have e2:=e1.of_heap (x':=x.newO d (x.bk o).1 (x.bk o).2) (w':=w) (lo:=d) (hi:=d+1) rfl (fun _ _ _ h=>h) hβ (fun _ _=>rfl) h3;rw[h4];exact e2
 ·rw[aI,eB,fy,fy]
  refine⟨fun a1=> ?_,(h.nd.filter _).filter _⟩;have:=(List.mem_filter.1 a1).2;simp at this
 ·intro p E q hq F
  rcases av.1 E with rfl|E<;>rcases av.1 hq with rfl|hq
  ·rfl
  ·obtain⟨O,Z,J,Q,_⟩:=I q hq
   rw[y,O]at F;exact absurd (h.inj (o,obj) ho (q.1,Z) J F).symm Q
  ·obtain⟨O,Z,J,Q,_⟩:=I p E
   rw[y,O]at F;exact absurd (h.inj (p.1,Z) J (o,obj) ho F) Q
  ·obtain⟨O,q1,J,_⟩:=I p E
   obtain⟨a2,q2,Q,_⟩:=I q hq;rw[O,a2]at F;exact h.inj (p.1,q1) J (q.1,q2) Q F
 ·intro t W p E
  rcases av.1 E with rfl|E
  ·show(x.τ t).1≠((x.newO d (x.bk o).1 (x.bk o).2).bk d).1\/_
   rw[y];exact h.tko t (L t W) (o,obj) ho
  ·obtain⟨O,q,J,_⟩:=I p E
   show(x.τ t).1≠((x.newO d (x.bk o).1 (x.bk o).2).bk p.1).1\/_;rw[O];exact h.tko t (L t W) (p.1,q) J
theorem aR.move(hM:aR C x s a w){o d:Nat}(y:100<=d){obj:aH}(F:s.look o=some obj)(E:∀cs,obj≠ .rc cs):
 aR C (x.newO d (x.bk o).1 (x.bk o).2) (((s.purge o (o+1)).purge d (d+1)).addO d obj) a w:=
 ⟨cE.mono (x:=x) (x':=x.newO d (x.bk o).1 (x.bk o).2) (lo:=d) (hi:=d+1) (fun _ _ _ h=>h) (Sit.newO_ne x d _) (fun _ _=>rfl) (hM.purge o (o+1)).tm,hM.defers,hM.heap.move y (dr F) E⟩
theorem yM{n id o y off k:Nat}{cap:LAb}{obj:aH}(hM:aR C x s a w)(h:Sim N c s)(hn:n<N)(L:100<=id)(hg:c.get n= .psl o y off k cap)(W:c.look o=some obj)(Q:∀cs,obj≠ .rc cs):
 M C N (mvC c n id o y off k cap obj) a w:=by
 have J:=hM.move L (by rw[h.look];exact W) Q;have O:=(((h.purge o (o+1)).purge id (id+1)).addO id (h.lookmem W)).put (d:=some n) (fun k e=>by cases e;exact hn) (.psl id y off k cap);refine⟨x.newO id (x.bk o).1 (x.bk o).2,_, ?_,O⟩
 have hv:Rep x (.psl o y off k cap) (a.tmps.toList.getD n undef):=by have:=hM.tm.2 n (by rw[h.tm];simpa using hn);rw[show s.tm.getD n .undef=c.get n from h.get n,hg]at this;exact this
 obtain⟨F,h1,h2,E,he,Z,h4⟩:=hv.psl_invA;refine J.retag n ?_;rw[he];have I:(x.newO id (x.bk o).1 (x.bk o).2).bk id=x.bk o:=if_pos rfl;have:=Rep.psl (x:=x.newO id (x.bk o).1 (x.bk o).2) id y off k cap E F Z h1 h2 (by rw[I];exact h4);rw[I]at this;exact this
theorem AU(h:M C N c a w){n id:Nat}(F:100<=id)(y:xhN c n id (c.get n)=some c'):M C N c' a w:=by
 obtain⟨x,s,hM,E⟩:=h;cases hg:c.get n with
 |psl o J off k cap=>
  rw[hg]at y
  have hn:n<N:=by
   rcases bK n N with h|h
   ·exact h
   ·rw[E.inv.get h]at hg;cases hg
  simp only[xhN]at y;split at y
  ·cases y;exact⟨x,s,hM,E⟩
  ·cases hl:c.look o with
   |none=>rw[hl]at y;cases y;exact⟨x,s,hM,E⟩
   |some obj=>
    rw[hl]at y;cases obj with
    |rc cs=>cases y;exact⟨x,s,hM,E⟩
    |arr I L=>cases y;exact yM hM E hn F hg hl (fun cs e=>by cases e)
    |bar l=>cases y;exact yM hM E hn F hg hl (fun cs e=>by cases e)
 |_=>rw[hg]at y;cases y;exact⟨x,s,hM,E⟩
theorem qU(h:M C N c a w){q:Dir}(y:s9 c q=some c'):M C N c' a w:=by
 cases q with
 |kill l=>cases y;exact h.kill l
 |gc l=>cases y;exact h.gc
 |gcr lo hi=>cases y;exact h.purge lo hi
 |pubo o=>cases y;exact h.pub _
 |pub n=>
  simp only[s9]at y;split at y<;>cases y
  ·exact h.pub _
  ·exact h
 |tok n id=>
  simp only[s9]at y;split at y
  ·cases y
  ·exact Ae h y
 |obj n id=>
  simp only[s9]at y;split at y
  ·cases y
  ·exact AU h (by omega) y
theorem lq:∀{l:List Dir}{c:CSt},M C N c a w->jq c l=some c'->M C N c' a w
 |[],_,h,hc=>by cases hc;exact h
 |q::r,c,h,hc=>by
  simp only[jq]at hc;split at hc
  ·rename_i c1 y;exact lq (qU h y) hc
  ·cases hc
end Go.Sy
namespace Go.Sy
variable [br]
variable {P : Program} {C : Ctx} {x : Sit} {a : Act} {w : World} {N : Nat} {c c' : CSt} {s : St}
def gg(P:Program)(f:Nat)(args:t8)(os:List aH)(k:Nat)(R:dV->Prop):Prop:=
 ez P f=true/\∀(C:Ctx)(x:Sit)(w:World)(vs:LAc),C.w0=w->C.G0=x.G->
  (∀b,C.mine b->w.heap.size<=b\/(∃i,i<os.length/\(x.bk i).1=b)\/(∃t,50<=t/\t<50+k/\(x.τ t).2.1≠(x.τ t).2.2/\(x.τ t).1=b))->os.length<=40->
  (∀o∈os,o.wf=true)->dj C x (idx os) (tks 50 k) w->cE x args vs->
  Calls P f ⟨vs⟩ w fun e w'=>∃v x' q,e= .returned v/\R q/\Rep x' q.r v/\dj C x' q.os q.tk w'/\(∀p∈q.os,p.2.wf=true)/\∀i,i<os.length->x'.bk i=x.bk i
theorem lL(cs:t8):SV.bareL cs=cs.map SV.bare:=by
 induction cs with
 |nil=>rfl
 |cons c r h=>simp only[SV.bareL,aI,h]
theorem Rep.bare{x x':Sit}(hG:x'.G=x.G)(O:x'.bk=x.bk){sv:SV}{v:Value}(h:Rep x sv v):Rep x' sv.bare v:=by
 induction h with
 |undef v=>exact .undef v
 |dat s v h ht=>
  have y:=h.toData;rw[<-hG]at y;cases s with
  |byt l t=>exact .dat _ _ y trivial
  |lst E xs t=>exact .dat _ _ y trivial
  |undef=>exact .undef v
  |bool b=>exact .dat _ _ y trivial
  |int k n=>exact .dat _ _ y trivial
  |u8 b=>exact .dat _ _ y trivial
  |str l=>exact .dat _ _ y trivial
  |nilp=>exact .dat _ _ y trivial
  |nili=>exact .dat _ _ y trivial
  |pp cs=>exact .dat _ _ y trivial
  |ptr o off=>cases h
  |ap o E i j=>cases h
  |psl o E off n cap=>cases h
  |agg cs=>cases h
  |tup cs=>cases h
  |fn f a b=>cases h
 |ptr o off=>simp only[SV.bare];rw[<-O];exact .ptr o off
 |ap o E i j=>simp only[SV.bare];rw[<-O];exact .ap o E i j
 |psl o E off n cap F I h hn hc hk=>simp only[SV.bare];rw[<-O]at hk ⊢;exact .psl o E off n cap F I h hn hc hk
 |agg cs vs hl _ Q=>simp only[SV.bare,lL];exact .agg _ _ (by simpa using hl) fun i hi=>by rw[bg _ (by rfl)];exact Q i (by simpa using hi)
 |tup cs vs hl _ Q=>simp only[SV.bare,lL];exact .tup _ _ (by simpa using hl) fun i hi=>by rw[bg _ (by rfl)];exact Q i (by simpa using hi)
 |fn f c1 c2 v1 v2 L _ Z _ W J=>simp only[SV.bare,lL];exact .fn _ _ _ _ _ (by simpa using L) (fun i hi=>by rw[bg _ (by rfl)];exact W i (by simpa using hi)) (by simpa using Z) (fun i hi=>by rw[bg _ (by rfl)];exact J i (by simpa using hi))
def UK(x:Sit):LAb->Nat×Nat×Nat
 |none=>(0,0,0)
 |some t=>x.τ t
def pI(x x1:Sit)(j:Nat)(l:List LAb):Prop:=∀k,k<l.length->x1.τ (j+k)=UK x (l.getD k none)
theorem pI.left{x x1:Sit}{j:Nat}{l r:List LAb}(h:pI x x1 j (l++r)):pI x x1 j l:=fun k y=>by have:=h k (by simp;omega);rwa[aa,bo y,<-aa]at this
theorem pI.right{x x1:Sit}{j:Nat}{l r:List LAb}(h:pI x x1 j (l++r)):pI x x1 (j+l.length) r:=fun k y=>by have:=h (l.length+k) (by simp;omega);rw[aa,bA (by omega),<-aa]at this;rw[fu,this];congr 2;omega
theorem lV{t:Nat}:∀{l:List LAb},t∈cI l↔some t∈l
 |[]=>by simp[cI]
 |none::r=>by simp[cI,lV]
 |some u::r=>by simp[cI,lV]
theorem gi(l r:List LAb):cI (l++r)=cI l++cI r:=by
 induction l with
 |nil=>rfl
 |cons o l h=>cases o<;>simp[cI,h]
theorem HC{x x1:Sit}(O:x1.G=x.G)(Z:x1.bk=x.bk){v:SV}{u:Value}(h:Rep x v u):Rep x1 v.kclip u:=by
 have E:=h.bare O Z;cases v with
 |lst sz xs t=>
  cases t with
  |no=>exact E
  |id u=>exact E
  |clip=>
   cases xs with
   |cons y r=>exact E
   |nil=>obtain⟨b,cap,W,_,J,I⟩:=h.lst_inv;obtain⟨Q,L,F⟩:=I;rw[<-O]at J;exact .dat _ _ (J.tok (.lst _ [] .clip) (.inr ⟨_,[],_,_,rfl,rfl⟩)) ⟨Q,L,F⟩
 |byt l t=>
  cases t with
  |no=>exact E
  |id u=>exact E
  |clip=>
   cases l with
   |cons y r=>exact E
   |nil=>obtain⟨b,cap,W,_,J,I⟩:=h.byt_inv;obtain⟨Q,L,F⟩:=I;rw[<-O]at J;exact .dat _ _ (J.tok (.byt [] .clip) (.inl ⟨[],_,_,rfl,rfl⟩)) ⟨Q,L,F⟩
 |_=>exact E
theorem AZ{x x1:Sit}(E:x1.G=x.G)(I:x1.bk=x.bk){cs:t8}{u:Value}(h:Rep x (.agg cs) u):Rep x1 (.agg (cs.map SV.kclip)) u:=by
 cases h with
 |dat _ _ h _=>cases h
 |agg _ vs F h=>
  refine .agg _ vs (by rw[aY];exact F) fun i hi=> ?_
  rw[aY]at hi;have y:=HC E I (h i hi);rw[aa,ac hi,aM]at y;rw[aa,aT,ac hi,bB,aM];exact y
theorem lw{x x1:Sit}(Q:x1.G=x.G)(hβ:x1.bk=x.bk){tk:LAa}{j:Nat}{v:SV}{u:Value}(h:Rep x v u)(ht:pI x x1 j (lc tk j v).2):Rep x1 (lc tk j v).1 u:=by
 have W:=h.bare Q hβ;cases v with
 |byt l t=>
  cases t with
  |no=>exact W
  |clip=>have e:=ht 0 (by simp[lc]);obtain⟨b,cap,he,_,F,E⟩:=h.byt_inv;obtain⟨O,J,y⟩:=E;rw[<-Q]at F;exact .dat _ _ (F.tok (.byt l (.id j)) (.inl ⟨l,_,_,rfl,rfl⟩)) ⟨O,J,J,y,.inl rfl⟩
  |id t=>
   by_cases L:tk.contains t=true
   ·have e:=ht 0 (by simp only[lc,L,if_true,al];omega)
    simp only[lc,L,if_true]at e ⊢;obtain⟨b,cap,he,_,F,E⟩:=h.byt_inv;obtain⟨O,J,I,y,hh⟩:=E;rw[<-Q]at F;refine .dat _ _ (F.tok (.byt l (.id j)) (.inl ⟨l,_,_,rfl,rfl⟩)) ⟨O,J,I,y,hh.imp id ?_⟩;rintro⟨b,off,h1,h2⟩;exact⟨b,off,h1,by rw[ft]at e;rw[e];exact h2⟩
   ·simp only[lc,L,if_false];exact W
 |lst Z xs t=>
  cases t with
  |no=>exact W
  |clip=>obtain⟨b,cap,he,_,F,E⟩:=h.lst_inv;obtain⟨O,J,y⟩:=E;rw[<-Q]at F;exact .dat _ _ (F.tok (.lst Z xs (.id j)) (.inr ⟨Z,xs,_,_,rfl,rfl⟩)) ⟨O,J,J,y,.inl rfl⟩
  |id t=>
   by_cases L:tk.contains t=true
   ·have e:=ht 0 (by simp only[lc,L,if_true,al];omega)
    simp only[lc,L,if_true]at e ⊢;obtain⟨b,cap,he,_,F,E⟩:=h.lst_inv;obtain⟨O,J,I,y,hh⟩:=E;rw[<-Q]at F;refine .dat _ _ (F.tok (.lst Z xs (.id j)) (.inr ⟨Z,xs,_,_,rfl,rfl⟩)) ⟨O,J,I,y,hh.imp id ?_⟩;rintro⟨b,off,h1,h2⟩;exact⟨b,off,h1,by rw[ft]at e;rw[e];exact h2⟩
   ·simp only[lc,L,if_false];exact W
 |agg cs=>exact AZ Q hβ h
 |_=>exact W
theorem pN{tk:LAa}{j:Nat}{v:SV}:∀t∈cI (lc tk j v).2,t∈tk:=by
 intro t h;cases v with
 |byt l q=>
  cases q with
  |id u=>
   by_cases y:tk.contains u=true
   ·simp only[lc,y,if_true,cI,bj]at h;subst h;simpa using y
   ·simp only[lc,y,if_false,cI]at h;cases h
  |_=>cases h
 |lst F E q=>
  cases q with
  |id u=>
   by_cases y:tk.contains u=true
   ·simp only[lc,y,if_true,cI,bj]at h;subst h;simpa using y
   ·simp only[lc,y,if_false,cI]at h;cases h
  |_=>cases h
 |_=>cases h
theorem ey{x:Sit}{v:SV}{u:Value}{cs:t8}{us:LAc}:cE x (v::cs) (u::us)↔Rep x v u/\cE x cs us:=by
 constructor
 ·intro h
  exact⟨h.2 0 (by simp),by simpa using h.1,fun i hi=>by simpa using h.2 (i+1) (by simpa using hi)⟩
 ·rintro⟨E,y⟩
  exact⟨by simp[y.1],fun i hi=>by
   cases i with
   |zero=>exact E
   |succ i=>simpa using y.2 i (by simpa using hi)⟩
theorem Jw{x x1:Sit}(y:x1.G=x.G)(F:x1.bk=x.bk){tk:LAa}{j:Nat}{v:SV}{u:Value}(h:Rep x v u)(E:pI x x1 j (tN tk j v).2):Rep x1 (tN tk j v).1 u:=by
 cases v with
 |lst O L t=>
  cases t with
  |clip=>
   cases hx:L.isEmpty with
   |true=>simp only[tN,wW,hx,wX];obtain⟨b,cap,Q,_,J,I⟩:=h.lst_inv;rw[<-y]at J;exact .dat _ _ J I
   |false=>simp only[tN,wW,hx,wX]at E ⊢;exact lw (tk:=tk) y F h E
  |no=>exact lw y F h E
  |id t=>exact lw y F h E
 |_=>exact lw y F h E
theorem Yq{tk:LAa}{j:Nat}{v:SV}:∀t∈cI (tN tk j v).2,t∈tk:=by
 cases v with
 |lst E y t=>
  cases t with
  |clip=>
   cases hx:y.isEmpty with
   |true=>intro t h;simp[tN,wW,hx,wX,cI]at h
   |false=>intro t h;simp[tN,wW,hx,wX,cI]at h
  |no=>exact pN
  |id t=>exact pN
 |_=>exact pN
theorem nz{x x1:Sit}(y:x1.G=x.G)(E:x1.bk=x.bk){tk own:LAa}:∀{cs:t8}{us:LAc}{j i:Nat},cE x cs us->pI x x1 j (ld tk own j i cs).2->cE x1 (ld tk own j i cs).1 us
 |[],[],_,_,_,_=>⟨rfl,fun i hi=>by simp[ld]at hi⟩
 |[],_::_,_,_,h,_=>absurd h.1 (by simp)
 |_::_,[],_,_,h,_=>absurd h.1 (by simp)
 |v::r,u::us,j,i,h,ht=>by
  obtain⟨I,J⟩:=ey.1 h;simp only[ld]at ht ⊢;split
  ·rename_i F
   rw[if_pos F]at ht;exact ey.2 ⟨Jw y E I ht.left,nz y E J ht.right⟩
  ·rename_i F
   rw[if_neg F]at ht;exact ey.2 ⟨I.bare y E,nz y E J ht⟩
theorem pO{tk own:LAa}:∀{cs:t8}{j i:Nat},∀t∈cI (ld tk own j i cs).2,t∈tk
 |[],_,_,t,ht=>by cases ht
 |v::r,j,i,t,ht=>by
  simp only[ld]at ht;split at ht
  ·rw[gi,am]at ht
   exact ht.elim (Yq t) (pO t)
  ·exact pO t ht
theorem ya{x x1:Sit}(E:x1.G=x.G)(F:x1.bk=x.bk){tk:LAa}:∀{cs:t8}{j:Nat}{f:Nat->Value},(∀k,k<cs.length->Rep x (cs.getD k .undef) (f k))->pI x x1 j (vh tk j cs).2->
 (vh tk j cs).1.length=cs.length/\∀k,k<cs.length->Rep x1 ((vh tk j cs).1.getD k .undef) (f k)
 |[],_,_,_,_=>⟨rfl,fun i hi=>by simp at hi⟩
 |v::r,j,f,h,ht=>by
  simp only[vh]at ht ⊢;obtain⟨I,J⟩:=ya (f:=fun k=>f (k+1)) E F (fun k y=>by simpa using h (k+1) (by simpa using y)) ht.right;refine⟨by simp[I],fun k y=> ?_⟩;cases k with
  |zero=>exact lw E F (h 0 (by simp)) ht.left
  |succ k=>simpa using J k (by simpa using y)
theorem DP{tk:LAa}:∀{cs:t8}{j:Nat},∀t∈cI (vh tk j cs).2,t∈tk
 |[],_,t,ht=>by cases ht
 |v::r,j,t,ht=>by simp only[vh]at ht;rw[gi,am]at ht;exact ht.elim (pN t) (DP t)
theorem GQ{x x1:Sit}(L:x1.G=x.G)(y:x1.bk=x.bk){tk:LAa}{j o:Nat}{ob:aH}(h:eA x w o ob)(Z:pI x x1 j (kP tk j ob).2):eA x1 w o (kP tk j ob).1:=by
 obtain⟨I,e,fl,fh,J,F,O⟩:=h;cases ob with
 |rc cs=>obtain⟨Q,W⟩:=ya (f:=fun k=>I.getD k undef) L y O Z;exact⟨I,e,fl,fh,by rw[y];exact J,by rw[y];simp only[kP,aH.size,Q]at F ⊢;exact F,fun k E=>W k (by simpa only[kP,aH.size,Q]using E)⟩
 |arr sz xs=>exact⟨I,e,fl,fh,by rw[y];exact J,by rw[y];exact F,fun k E=>by have:=O k E;simp only[kP,cx]at this ⊢;rw[L];exact this⟩
 |bar l=>exact⟨I,e,fl,fh,by rw[y];exact J,by rw[y];exact F,fun k E=>by have:=O k E;simp only[kP,cx]at this ⊢;rw[L];exact this⟩
theorem Jx{tk:LAa}{j:Nat}{ob:aH}(h:ob.wf=true):(kP tk j ob).1.wf=true:=by cases ob<;>first|rfl|exact h
theorem Jy{tk:LAa}{j:Nat}{ob:aH}:∀t∈cI (kP tk j ob).2,t∈tk:=by
 intro t h;cases ob with
 |rc cs=>exact DP t h
 |_=>cases h
theorem mD{x x1:Sit}(E:x1.G=x.G)(F:x1.bk=x.bk){tk:LAa}:∀{obs:List aH}{j:Nat}{f:Nat->Nat},(∀k,k<obs.length->eA x w (f k) (obs.getD k (.rc [])))->pI x x1 j (eW tk j obs).2->
 (eW tk j obs).1.length=obs.length/\∀k,k<obs.length->eA x1 w (f k) ((eW tk j obs).1.getD k (.rc []))
 |[],_,_,_,_=>⟨rfl,fun i hi=>by simp at hi⟩
 |v::r,j,f,h,ht=>by
  simp only[eW]at ht ⊢;obtain⟨I,J⟩:=mD (f:=fun k=>f (k+1)) E F (fun k y=>by simpa using h (k+1) (by simpa using y)) ht.right;refine⟨by simp[I],fun k y=> ?_⟩;cases k with
  |zero=>exact GQ E F (h 0 (by simp)) ht.left
  |succ k=>simpa using J k (by simpa using y)
theorem oB{tk:LAa}:∀{obs:List aH}{j:Nat},∀t∈cI (eW tk j obs).2,t∈tk
 |[],_,t,ht=>by cases ht
 |v::r,j,t,ht=>by simp only[eW]at ht;rw[gi,am]at ht;exact ht.elim (Jy t) (oB t)
theorem oA{tk:LAa}:∀{obs:List aH}{j:Nat},(∀o∈obs,o.wf=true)->∀o∈(eW tk j obs).1,o.wf=true
 |[],_,_,o,ho=>by cases ho
 |v::r,j,h,o,ho=>by
  simp only[eW]at ho;rcases av.1 ho with e|e
  ·rw[e];exact Jx (h v (aB ..))
  ·exact oA (fun o y=>h o (aw _ y)) o e
theorem oe{m:LAa}{o:Nat}(h:o∈m):iv m o<m.length/\m.getD (iv m o) 0=o:=by
 induction m with
 |nil=>cases h
 |cons p r I=>
  simp only[iv];split
  ·rename_i y;subst y;simp
  ·rename_i y
   obtain⟨E,F⟩:=I ((av.1 h).resolve_left (Ne.symm y));exact⟨by simpa using E,by simpa using F⟩
theorem kt{l:LAa}(h:eh l=true):l.Nodup:=by
 induction l with
 |nil=>exact List.nodup_nil
 |cons p r y=>simp only[eh,aC,cT,fE,decide_eq_false_iff_not]at h;exact eB.2 ⟨h.1,y h.2⟩
theorem yb{l r:LAa}(h:pP l r=true):∀o∈l,o∈r:=by intro o y;simp only[pP,bf,fE,decide_eq_true_eq]at h;exact h o y
theorem rP:∀{m:LAa}{os:List aH},ik c m=some os->os.length=m.length/\∀i,i<m.length->c.look (m.getD i 0)=some (os.getD i (.rc []))
 |[],os,h=>by cases h;exact⟨rfl,fun i hi=>by simp at hi⟩
 |o::r,os,h=>by
  simp only[ik]at h;split at h<;>cases h;rename_i ob l E F;obtain⟨y,I⟩:=rP F;refine⟨by simp[y],fun i hi=> ?_⟩;cases i with
  |zero=>exact E
  |succ i=>simpa using I i (by simpa using hi)
theorem gZ(mo mt:Nat->Nat)(l:List aH):fb mo mt l=l.map fun o=>o.ren mo mt:=by
 induction l with
 |nil=>rfl
 |cons p r h=>simp only[fb,aI,h]
theorem qr{l:List aH}{o:aH}(h:o∈l):∀k∈o.ids,k∈gp l:=by
 induction l with
 |nil=>cases h
 |cons p r E=>
  intro k y;simp only[gp,am];rcases av.1 h with e|e
  ·subst e;exact .inl y
  ·exact .inr (E e k y)
theorem oS{l:List LAb}(h:(cI l).Nodup):∀{i j:Nat}{t u:Nat},i≠j->l.getD i none=some t->l.getD j none=some u->t≠u:=by
 have key:∀{l:List LAb},(cI l).Nodup->∀{i j:Nat}{t u:Nat},i<j->l.getD i none=some t->l.getD j none=some u->t≠u:=by
  intro l;induction l with
  |nil=>intro _ i j t u _ E;simp at E
  |cons o r J=>
   intro hn i j t u I E y
   have L:(cI r).Nodup:=by cases o with
    |none=>exact hn
    |some q=>exact(eB.1 hn).2
   cases j with
   |zero=>omega
   |succ j=>
    rw[jg]at y;cases i with
    |zero=>
     rw[List.getD_cons_zero]at E;subst E
     have F:some u∈r:=by
      rw[aa]at y;cases hj:r[j]? with
      |none=>rw[hj]at y;cases y
      |some q=>rw[hj]at y;cases y;exact List.mem_of_getElem? hj
     intro e;subst e;exact(eB.1 hn).1 (lV.2 F)
    |succ i=>rw[jg]at E;exact J L (by omega) E y
 intro i j t u I E y;rcases Nat.lt_or_gt_of_ne I with F|F
 ·exact key h F E y
 ·exact(key h F y E).symm
theorem kL{b n t:Nat}:t∈tks b n↔b<=t/\t<b+n:=by
 unfold tks
 have:∀n k,k∈lu n↔k<n:=by
  intro n;induction n with
  |zero=>intro k;simp[lu]
  |succ n y=>intro k;simp only[lu,am,y,bj];omega
 simp only[aZ,this];constructor
 ·rintro⟨k,h,rfl⟩;omega
 ·rintro⟨E,F⟩;exact⟨t-b,by omega,by omega⟩
structure I6(x x2:Sit)(c:CSt)(m:List Nat)(mt:List (Option Nat)):Prop where
 G:x2.G=x.G
 bk:∀i,i<m.length->x2.bk i=x.bk (m.getD i 0)
 τ:pI x x2 50 mt
 nd:m.Nodup
 ob:∀i,i<m.length->∃ob,(m.getD i 0,ob)∈c.ob
 tnd:(cI mt).Nodup
 tk:∀t∈cI mt,t∈c.tk
def Ctx.took(x2:Sit)(w:World)(n k:Nat):Ctx:=
 ⟨w,x2.G,fun b=>w.heap.size<=b\/(∃i,i<n/\(x2.bk i).1=b)\/(∃t,50<=t/\t<50+k/\(x2.τ t).2.1≠(x2.τ t).2.2/\(x2.τ t).1=b),x2.bk⟩
theorem gG{m:LAa}{i:Nat}(h:i<m.length):m.getD i 0∈m:=by rw[aa,ac h];exact bv _
theorem mJ{m:LAa}(h:m.Nodup){i j:Nat}(hi:i<m.length)(y:j<m.length)(e:m.getD i 0=m.getD j 0):i=j:=by rw[aa,aa,ac hi,ac y]at e;exact ud h hi y e
theorem jz{l:List LAb}{i t:Nat}(h:l.getD i none=some t):t∈cI l:=by
 rw[aa]at h;cases hj:l[i]? with
 |none=>rw[hj]at h;cases h
 |some q=>rw[hj]at h;cases h;exact lV.2 (List.mem_of_getElem? hj)
theorem I6.tok{x2:Sit}{m:LAa}{mt:List LAb}(h:I6 x x2 c m mt){t:Nat}(y:50<=t)(E:t<50+mt.length):
 (x2.τ t).2.1=(x2.τ t).2.2\/∃u,mt.getD (t-50) none=some u/\x2.τ t=x.τ u/\u∈c.tk/\u∈cI mt:=by
 have e:=h.τ (t-50) (by omega);rw[show 50+(t-50)=t by omega]at e;cases hu:mt.getD (t-50) none with
 |none=>rw[hu]at e;rw[e];exact .inl rfl
 |some u=>rw[hu]at e;exact .inr ⟨u,rfl,e,h.tk u (jz hu),jz hu⟩
theorem tM{x2:Sit}{m:LAa}{mt:List LAb}(J:dj C x c.ob c.tk w)(h:I6 x x2 c m mt){E:List aH}(hl:E.length=m.length)
 (ho:∀i,i<m.length->eA x2 w i (E.getD i (.rc []))):dj (Ctx.took x2 w m.length mt.length) x2 (idx E) (tks 50 mt.length) w:=by
 refine⟨fun b o v O=>J.per b o v (by rw[<-h.G];exact O),fun _ _ _ O=>O,fun _ _ _ O=> .inl O,fun b hb=> .inl hb, ?_,oE E, ?_, ?_, ?_, ?_,rfl,rfl,rfl,aJ _,fun _ _=>rfl,fun _ _=>rfl,J.lay.mono (fun b o v O=>by show x2.G b o=some v;rw[h.G];exact J.g0 b o v O)⟩
 ·intro p hp
  obtain⟨y,F⟩:=jH.1 hp;rw[hl]at y;obtain⟨ob,L⟩:=h.ob p.1 y;refine⟨by rw[F];exact ho p.1 y,.inr (.inl ⟨p.1,y,rfl⟩),fun off=> ?_⟩;rw[h.G,h.bk _ y];exact(J.obs _ L).2.2 off
 ·intro p hp q hq Z
  obtain⟨y,_⟩:=jH.1 hp;obtain⟨F,_⟩:=jH.1 hq;rw[hl]at y F;rw[h.bk _ y,h.bk _ F]at Z;obtain⟨o1,Q⟩:=h.ob _ y;obtain⟨o2,g2⟩:=h.ob _ F;exact mJ h.nd y F (J.inj _ Q _ g2 Z)
 ·intro t ht
  obtain⟨y,F⟩:=kL.1 ht;rcases h.tok y F with L|⟨u,_,W,h5,_⟩
  ·exact .inl L
  ·by_cases I:(x2.τ t).2.1=(x2.τ t).2.2
   ·exact .inl I
   ·have:=J.tks u h5
    unfold iR at this ⊢;rw[W]at I ⊢;rcases this with g|⟨Q,g2,g3⟩
    ·exact absurd g I
    ·exact .inr ⟨Q,.inr (.inr ⟨t,y,F,by rw[W];exact I,by rw[W]⟩),by rw[h.G];exact g3⟩
 ·intro t ht p hp
  obtain⟨y,F⟩:=kL.1 ht;obtain⟨h6,_⟩:=jH.1 hp;rw[hl]at h6;rcases h.tok y F with L|⟨u,_,W,h5,_⟩
  ·exact .inr L
  ·obtain⟨o1,Q⟩:=h.ob _ h6
   rw[W,h.bk _ h6];exact J.tko u h5 _ Q
 ·intro t ht u hu a1
  obtain⟨y,F⟩:=kL.1 ht;obtain⟨L,W⟩:=kL.1 hu;rcases h.tok y F with g|⟨t',Q,g2,g3,_⟩
  ·exact .inr (.inl g)
  ·rcases h.tok L W with k|⟨u',k1,k2,k3,_⟩
   ·exact .inr (.inr k)
   ·rw[g2,k2]
    exact J.tkd t' g3 u' k3 (oS h.tnd (by omega) Q k1)
end Go.Sy
namespace Go.Sy
variable [br]
variable {P : Program} {C : Ctx} {x : Sit} {a : Act} {w : World} {N : Nat} {c c' : CSt} {s : St}
theorem J2(d:Nat)(l:LAa):tu d l=l.map (kK d):=by
 induction l with
 |nil=>rfl
 |cons p r h=>simp only[tu,aI,h]
theorem oG{k:LAa}{t:Nat}:∀{l:LAa},t∈nO k l↔t∈l/\t∉k
 |[]=>by simp[nO]
 |p::r=>by
  simp only[nO];split
  ·rename_i F
   have E:p∈k:=by simpa using F
   rw[oG,av];constructor
   ·rintro⟨h,y⟩;exact⟨.inr h,y⟩
   ·rintro⟨h|h,y⟩
    ·exact absurd (h ▸ E) y
    ·exact⟨h,y⟩
  ·rename_i F
   have E:p∉k:=by simpa using F
   rw[av,oG,av];constructor
   ·rintro(h|⟨h,y⟩)
    ·exact⟨.inl h,h ▸ E⟩
    ·exact⟨.inr h,y⟩
   ·rintro⟨h|h,y⟩
    ·exact .inl h
    ·exact .inr ⟨h,y⟩
theorem ug{t:Nat}:∀{r l:LAa},t∈tD l r↔t∈r\/t∈l
 |[],l=>by simp[tD]
 |p::r,l=>by
  simp only[tD];rw[ug,lD,av];constructor
  ·rintro(h|h|h)
   ·exact .inl (.inr h)
   ·exact .inl (.inl h)
   ·exact .inr h
  ·rintro((h|h)|h)
   ·exact .inr (.inl h)
   ·exact .inl h
   ·exact .inr (.inr h)
theorem oF{p:Nat×aH}:∀{r l:List (Nat×aH)},p∈tC l r->p∈r\/p∈l
 |[],l,h=> .inr h
 |q::r,l,h=>by
  simp only[tC]at h;rcases oF h with e|e
  ·exact .inl (aw _ e)
  ·rcases lC e with e|e
   ·exact .inl (e ▸ aB ..)
   ·exact .inr e
theorem DX:∀{r l:List (Nat×aH)},(l.map cS).Pairwise (· < ·)->((tC l r).map cS).Pairwise (· < ·)
 |[],_,h=>h
 |_::r,_,h=>DX (r:=r) (w6 h)
theorem BI{mo mt:Nat->Nat}{o:aH}(h:o.wf=true):(o.ren mo mt).wf=true:=by cases o<;>first|rfl|exact h
theorem Ab{x2:Sit}{m:LAa}{mt:List LAb}(E:dj C x c.ob c.tk w)(h:I6 x x2 c m mt){x':Sit}{w':World}{q:dV}(hH:dj (Ctx.took x2 w m.length mt.length) x' q.os q.tk w'){D:Nat}
 (hm:∀o∈m,inR D o=false) (a8:∀p∈q.os,p.1<1000/\(∀k∈p.2.ids,k<1000)/\∀k∈p.2.toks,k<1000) (b6:∀t∈q.tk,t<1000) (hg:∀i,i<m.length->x'.bk i=x2.bk i):
 ∃x3:Sit,x3.G=x'.G/\(∀b o v,x.G b o=some v->x3.G b o=some v)/\(∀k,k<1000->x3.bk (jk D m k)=x'.bk k)/\(∀k,k<1000->x3.τ (kK D k)=x'.τ k)/\
  (∀k,¬((D+1)*1000<=k/\k<(D+2)*1000)->x3.bk k=x.bk k)/\(∀k,¬((D+1)*1000<=k/\k<(D+2)*1000)->x3.τ k=x.τ k)/\
  dj C x3 (pZ D m q.os++fM m (bP ((D+1)*1000) ((D+2)*1000) c.ob)) (tu D q.tk++nO (cI mt) (cJ ((D+1)*1000) ((D+2)*1000) c.tk)) w':=by
 let lo:=(D+1)*1000
 let hi:=(D+2)*1000
 have f1:lo=(D+1)*1000:=rfl;have f2:hi=(D+2)*1000:=rfl
 let β2:Nat->Nat×Nat:=fun k=>if inR D k then x'.bk (k-lo)else x.bk k
 let τ2:Nat->Nat×Nat×Nat:=fun k=>if inR D k then x'.τ (k-lo)else x.τ k
 have e5:∀k,k<1000->inR D (lo+k)=true:=by intro k hk;simp only[inR,aC,decide_eq_true_eq];omega
 have d2:∀k,¬(lo<=k/\k<hi)->inR D k=false:=by intro k hk;rw[Bool.eq_false_iff];intro h;simp only[inR,aC,decide_eq_true_eq]at h;exact hk h
 have b1:∀k,¬(lo<=k/\k<hi)->β2 k=x.bk k:=fun k hk=>by simp only[β2];rw[d2 k hk];rfl
 have b5:∀k,¬(lo<=k/\k<hi)->τ2 k=x.τ k:=fun k hk=>by simp only[τ2];rw[d2 k hk];rfl
 have F:∀k,k<1000->β2 (jk D m k)=x'.bk k:=by
  intro k hk
  by_cases c5:k<m.length
  ·have y:jk D m k=m.getD k 0:=if_pos c5
   simp only[β2];rw[y,hm _ (gG c5),hg k c5,h.bk k c5];rfl
  ·have y:jk D m k=lo+k:=if_neg c5
   simp only[β2];rw[y,e5 k hk,if_pos rfl];congr 1;omega
 have I:∀k,k<1000->τ2 (kK D k)=x'.τ k:=by intro k hk;have y:kK D k=lo+k:=rfl;simp only[τ2];rw[y,e5 k hk,if_pos rfl];congr 1;omega
 have hG:∀b o v,x.G b o=some v->x'.G b o=some v:=fun b o v hv=>hH.g0 b o v (by show x2.G b o=_;rw[h.G];exact hv)
 refine⟨⟨x'.G,β2,τ2⟩,rfl,hG,F,I,b1,b5, ?_⟩;rw[yC,J2]
 have b3:∀b,(Ctx.took x2 w m.length mt.length).mine b->C.mine b:=by
  rintro b (y|⟨i,hi,rfl⟩|⟨t,y,L,J,rfl⟩)
  ·exact E.new b (mC E.size y)
  ·obtain⟨ob,e1⟩:=h.ob i hi
   rw[h.bk i hi];exact(E.obs _ e1).2.1
  ·rcases h.tok y L with g|⟨u,_,g1,g2,_⟩
   ·exact absurd g J
   ·rw[g1]at J ⊢
    rcases E.tks u g2 with k|⟨_,k,_⟩
    ·exact absurd k J
    ·exact k
 have c3:∀b,b<w.heap.size->(∀i,i<m.length->(x.bk (m.getD i 0)).1≠b)->(∀u∈cI mt,(x.τ u).2.1=(x.τ u).2.2\/(x.τ u).1≠b)->w'.heap[b]? =w.heap[b]? /\((∀off,x.G b off=none)->∀off,x'.G b off=none)/\
  (∀off,x.G b off=none->x'.G b off=none):=by
  intro b hb d6 d4
  have d1:¬(Ctx.took x2 w m.length mt.length).mine b:=by
   rintro(y|⟨i,hi,y⟩|⟨t,y,L,J,h4⟩)
   ·omega
   ·rw[h.bk i hi]at y;exact d6 i hi y
   ·rcases h.tok y L with g|⟨u,_,g1,_,g3⟩
    ·exact J g
    ·rw[g1]at J h4
     rcases d4 u g3 with k|k
     ·exact J k
     ·exact k h4
  have one:∀off,x.G b off=none->x'.G b off=none:=by
   intro off ho;cases hg:x'.G b off with
   |none=>rfl
   |some v=>
    rcases hH.gm b off v hg with y|y
    ·change x2.G b off=some v at y;rw[h.G,ho]at y;cases y
    ·exact absurd y d1
  exact⟨hH.ext b d1,fun h off=>one off (h off),one⟩
 have a6:∀p∈fM m (bP lo hi c.ob),∃ob,(p.1,ob)∈c.ob/\p.2=ob.purge lo hi/\¬(lo<=p.1/\p.1<hi)/\p.1∉m/\(∀i,i<m.length->(x.bk (m.getD i 0)).1≠(x.bk p.1).1)/\(∀u∈cI mt,(x.τ u).2.1=(x.τ u).2.2\/(x.τ u).1≠(x.bk p.1).1)/\(x.bk p.1).1<w.heap.size:=by
  intro p W;obtain⟨y,L⟩:=ky.1 W;obtain⟨J,ob,h4,h5⟩:=cG y;refine⟨ob,h4,h5,J,L,fun i hi e=> ?_,fun u hu=> ?_, ?_⟩
  ·obtain⟨ob',e4⟩:=h.ob i hi
   have:=E.inj _ e4 _ h4 e;simp only at this;apply L;rw[<-this];exact gG hi
  ·exact(E.tko u (h.tk u hu) _ h4).symm
  ·obtain⟨⟨c,e,fl,fh,hO,_⟩,_⟩:=E.obs _ h4
   exact hO.lt
 have b0:∀p∈q.os.map (fun p=>(jk D m p.1,p.2.ren (jk D m) (kK D))),∃r∈q.os,p=(jk D m r.1,r.2.ren (jk D m) (kK D))/\β2 p.1=x'.bk r.1:=by intro p W;obtain⟨r,Z,rfl⟩:=aZ.1 W;exact⟨r,Z,rfl,F _ (a8 r Z).1⟩
 have a2:∀r∈q.os,w.heap.size<=(x'.bk r.1).1\/(∃i,i<m.length/\(x.bk (m.getD i 0)).1=(x'.bk r.1).1)\/(∃u∈cI mt,(x.τ u).2.1≠(x.τ u).2.2/\(x.τ u).1=(x'.bk r.1).1):=by
  intro r Z;rcases (hH.obs r Z).2.1 with y|⟨i,hi,y⟩|⟨t,y,L,J,h4⟩
  ·exact .inl y
  ·exact .inr (.inl ⟨i,hi,by rw[<-h.bk i hi];exact y⟩)
  ·rcases h.tok y L with g|⟨u,_,g1,_,g3⟩
   ·exact absurd g J
   ·rw[g1]at J h4;exact .inr (.inr ⟨u,g3,J,h4⟩)
 have b4:∀t∈q.tk,(x'.τ t).2.1=(x'.τ t).2.2\/w.heap.size<=(x'.τ t).1\/(∃i,i<m.length/\(x.bk (m.getD i 0)).1=(x'.τ t).1)\/(∃u∈cI mt,(x.τ u).2.1≠(x.τ u).2.2/\(x.τ u).1=(x'.τ t).1):=by
  intro t Q;rcases hH.tks t Q with k|⟨_,k,_⟩
  ·exact .inl k
  ·right
   rcases k with y|⟨i,hi,y⟩|⟨t',y,L,J,h4⟩
   ·exact .inl y
   ·exact .inr (.inl ⟨i,hi,by rw[<-h.bk i hi];exact y⟩)
   ·rcases h.tok y L with g|⟨u,_,g1,_,g3⟩
    ·exact absurd g J
    ·rw[g1]at J h4;exact .inr (.inr ⟨u,g3,J,h4⟩)
 have O:∀t∈nO (cI mt) (cJ lo hi c.tk),t∈c.tk/\¬(lo<=t/\t<hi)/\t∉cI mt:=fun t Q=>by obtain⟨y,L⟩:=oG.1 Q;obtain⟨J,h4⟩:=bU.1 y;exact⟨J,h4,L⟩
 have a1:∀t∈c.tk,t∉cI mt->(x.τ t).2.1=(x.τ t).2.2\/((x.τ t).1<w.heap.size/\(∀i,i<m.length->(x.bk (m.getD i 0)).1≠(x.τ t).1)/\(∀u∈cI mt,(x.τ u).2.1=(x.τ u).2.2\/(x.τ u).1≠(x.τ t).1)):=by
  intro t Q d4;rcases E.tks t Q with y|⟨⟨c,e,fl,fh,hO,_⟩,_⟩
  ·exact .inl y
  ·by_cases he:(x.τ t).2.1=(x.τ t).2.2
   ·exact .inl he
   ·refine .inr ⟨hO.lt,fun i hi e'=> ?_,fun u hu=> ?_⟩
    ·obtain⟨ob,e1⟩:=h.ob i hi
     rcases E.tko t Q _ e1 with y|y
     ·exact y e'.symm
     ·exact he y
    ·rcases E.tkd u (h.tk u hu) t Q (fun e=>d4 (e ▸ hu))with k|k|k
     ·exact .inr k
     ·exact .inl k
     ·exact absurd k he
 refine⟨hH.per,fun b o v hv=>hG _ _ _ (E.g0 b o v hv), ?_,E.new, ?_, ?_, ?_, ?_, ?_, ?_,hH.os.trans E.os,hH.tape.trans E.tape,hH.output.trans E.output,mC E.size hH.size, ?_,fun i hi=>(b1 i (by omega)).trans (E.pin i hi),E.lay⟩
 ·intro b o v hv
  rcases hH.gm b o v hv with y|y
  ·exact E.gm b o v (by rw[<-h.G];exact y)
  ·exact .inr (b3 b y)
 ·intro p W
  rcases am.1 W with W|W
  ·obtain⟨r,Z,rfl,hb⟩:=b0 p W
   obtain⟨y,L,J⟩:=hH.obs r Z;refine⟨y.renF (x2:=⟨x'.G,β2,τ2⟩) (fun _ _ _ h=>h) (F _ (a8 r Z).1) (fun k hk=>F k ((a8 r Z).2.1 k hk)) (fun t Q=>I t ((a8 r Z).2.2 t Q)), ?_,fun off=> ?_⟩
   ·show C.mine (β2 (jk D m r.1)).1;rw[F _ (a8 r Z).1];exact b3 _ L
   ·show x'.G (β2 (jk D m r.1)).1 off=none;rw[F _ (a8 r Z).1];exact J off
  ·obtain⟨ob,y,L,J,h4,h5,h6,h7⟩:=a6 p W
   obtain⟨g1,g2,g3⟩:=E.obs _ y;obtain⟨k1,k2,_⟩:=c3 _ h7 h5 h6;have hb:β2 p.1=x.bk p.1:=b1 _ J;refine⟨?_,by show C.mine (β2 p.1).1;rw[hb];exact g2,fun off=>by show x'.G (β2 p.1).1 off=none;rw[hb];exact k2 g3 off⟩;rw[L];exact eA.of_heap (x':=⟨x'.G,β2,τ2⟩) g1 k1 hG b1 b5 J
 ·rw[cf,List.nodup_append]
  refine⟨?_, ?_, ?_⟩
  ·rw[List.map_map]
   have e3:=ii.1 hH.nd;refine ii.2 (fP.imp_of_mem (fun{p r} W Z d6=> ?_) e3);intro e;simp only[Function.comp]at e;have:(x'.bk p.1).1=(x'.bk r.1).1:=by rw[<-F _ (a8 p W).1,<-F _ (a8 r Z).1,e]
   exact d6 (hH.inj p W r Z this)
  ·have y:(fM m (bP lo hi c.ob)).Sublist (bP lo hi c.ob):=iO _ _
   refine zZ.sublist (y.map cS) ?_;rw[fy];exact E.nd.filter _
  ·intro o1 y o2 L e
   subst e;obtain⟨p,W,rfl⟩:=aZ.1 y;obtain⟨r,Z,d3⟩:=aZ.1 L;obtain⟨u,hu,rfl⟩:=aZ.1 W;obtain⟨ob,k1,k2,k3,k4,_⟩:=a6 r Z;simp only at d3
   by_cases d7:u.1<m.length
   ·apply k4;rw[d3];show jk D m u.1∈m;unfold jk;rw[if_pos d7];exact gG d7
   ·apply k3;rw[d3];show lo<=jk D m u.1/\jk D m u.1<hi
    unfold jk;rw[if_neg d7];have:=(a8 u hu).1;omega
 ·intro p W r Z a7
  change (β2 p.1).1=(β2 r.1).1 at a7;rcases am.1 W with W|W<;>rcases am.1 Z with Z|Z
  ·obtain⟨p',d5,rfl,hb⟩:=b0 p W
   obtain⟨r',e0,rfl,e7⟩:=b0 r Z;rw[hb,e7]at a7;have:=hH.inj p' d5 r' e0 a7;simp only;rw[this]
  ·obtain⟨p',d5,rfl,hb⟩:=b0 p W
   obtain⟨ob,k1,k2,k3,k4,k5,k6,k7⟩:=a6 r Z;rw[hb,b1 _ k3]at a7;rcases a2 p' d5 with y|⟨i,hi,y⟩|⟨u,hu,y,L⟩
   ·omega
   ·exact absurd (y.trans a7) (k5 i hi)
   ·rcases k6 u hu with g|g
    ·exact absurd g y
    ·exact absurd (L.trans a7) g
  ·obtain⟨r',e0,rfl,hb⟩:=b0 r Z
   obtain⟨ob,k1,k2,k3,k4,k5,k6,k7⟩:=a6 p W;rw[hb,b1 _ k3]at a7;rcases a2 r' e0 with y|⟨i,hi,y⟩|⟨u,hu,y,L⟩
   ·omega
   ·exact absurd (y.trans a7.symm) (k5 i hi)
   ·rcases k6 u hu with g|g
    ·exact absurd g y
    ·exact absurd (L.trans a7.symm) g
  ·obtain⟨ob,k1,k2,k3,_⟩:=a6 p W
   obtain⟨ob',f0,f4,e6,_⟩:=a6 r Z;rw[b1 _ k3,b1 _ e6]at a7;exact E.inj (p.1,ob) k1 (r.1,ob') f0 a7
 ·intro t Q
  rcases am.1 Q with Q|Q
  ·obtain⟨u,hu,rfl⟩:=aZ.1 Q
   have:=hH.tks u hu;unfold iR at this ⊢;simp only[I u (b6 u hu)];exact this.imp id fun⟨y,L,J⟩=>⟨y,b3 _ L,J⟩
  ·obtain⟨y,L,J⟩:=O t Q
   have:=E.tks t y;unfold iR at this ⊢;simp only[b5 t L];rcases this with g|⟨⟨c,e,fl,fh,hO,hc⟩,h4,h5⟩
   ·exact .inl g
   ·rcases a1 t y J with g|⟨k1,k2,k3⟩
    ·exact .inl g
    ·obtain⟨g1,_,g2⟩:=c3 _ k1 k2 k3
     exact .inr ⟨⟨c,e,fl,fh,hO.of_heap g1,hc⟩,h4,fun o e8 e9=>g2 o (h5 o e8 e9)⟩
 ·intro t Q p W
  rcases am.1 Q with Q|Q<;>rcases am.1 W with W|W
  ·obtain⟨u,hu,rfl⟩:=aZ.1 Q
   obtain⟨r,Z,rfl,hb⟩:=b0 p W;show(τ2 (kK D u)).1≠(β2 (jk D m r.1)).1\/(τ2 (kK D u)).2.1=(τ2 (kK D u)).2.2;rw[I u (b6 u hu),F _ (a8 r Z).1];exact hH.tko u hu r Z
  ·obtain⟨u,hu,rfl⟩:=aZ.1 Q
   obtain⟨ob,k1,k2,k3,k4,k5,k6,k7⟩:=a6 p W;show(τ2 (kK D u)).1≠(β2 p.1).1\/(τ2 (kK D u)).2.1=(τ2 (kK D u)).2.2;rw[I u (b6 u hu),b1 _ k3];rcases b4 u hu with g|g|⟨i,hi,g⟩|⟨v,hv,g1,g2⟩
   ·exact .inr g
   ·left;intro e;omega
   ·left;intro e;exact k5 i hi (g.trans e)
   ·left;intro e
    rcases k6 v hv with k|k
    ·exact g1 k
    ·exact k (g2.trans e)
  ·obtain⟨y,L,J⟩:=O t Q
   obtain⟨r,Z,rfl,hb⟩:=b0 p W;show(τ2 t).1≠(β2 (jk D m r.1)).1\/(τ2 t).2.1=(τ2 t).2.2;rw[b5 t L,F _ (a8 r Z).1];rcases a1 t y J with g|⟨k1,k2,k3⟩
   ·exact .inr g
   ·left;intro e
    rcases a2 r Z with g|⟨i,hi,g⟩|⟨v,hv,g1,g2⟩
    ·omega
    ·exact k2 i hi (g.trans e.symm)
    ·rcases k3 v hv with k|k
     ·exact g1 k
     ·exact k (g2.trans e.symm)
  ·obtain⟨y,L,J⟩:=O t Q
   obtain⟨ob,k1,k2,k3,_⟩:=a6 p W;show(τ2 t).1≠(β2 p.1).1\/(τ2 t).2.1=(τ2 t).2.2;rw[b5 t L,b1 _ k3];exact E.tko t y (p.1,ob) k1
 ·intro t Q u hu e2
  show mB (τ2 t) (τ2 u)\/(τ2 t).2.1=(τ2 t).2.2\/(τ2 u).2.1=(τ2 u).2.2;rcases am.1 Q with Q|Q<;>rcases am.1 hu with hu|hu
  ·obtain⟨t',c7,rfl⟩:=aZ.1 Q
   obtain⟨u',b7,rfl⟩:=aZ.1 hu;rw[I t' (b6 t' c7),I u' (b6 u' b7)];exact hH.tkd t' c7 u' b7 (fun e=>e2 (by rw[e]))
  ·obtain⟨t',c7,rfl⟩:=aZ.1 Q
   obtain⟨y,L,J⟩:=O u hu;rw[I t' (b6 t' c7),b5 u L];rcases a1 u y J with k|⟨k1,k2,k3⟩
   ·exact .inr (.inr k)
   ·rcases b4 t' c7 with g|g|⟨i,hi,g⟩|⟨v,hv,g1,g2⟩
    ·exact .inr (.inl g)
    ·exact .inl fun e=>by omega
    ·exact .inl fun e=>k2 i hi (g.trans e)
    ·refine .inl fun e=> ?_
     rcases k3 v hv with k|k
     ·exact g1 k
     ·exact k (g2.trans e)
  ·obtain⟨u',b7,rfl⟩:=aZ.1 hu
   obtain⟨y,L,J⟩:=O t Q;rw[I u' (b6 u' b7),b5 t L];rcases a1 t y J with k|⟨k1,k2,k3⟩
   ·exact .inr (.inl k)
   ·rcases b4 u' b7 with g|g|⟨i,hi,g⟩|⟨v,hv,g1,g2⟩
    ·exact .inr (.inr g)
    ·exact .inl fun e=>by omega
    ·exact .inl fun e=>k2 i hi (g.trans e.symm)
    ·refine .inl fun e=> ?_
     rcases k3 v hv with k|k
     ·exact g1 k
     ·exact k (g2.trans e.symm)
  ·obtain⟨y,L,_⟩:=O t Q
   obtain⟨J,h4,_⟩:=O u hu;rw[b5 t L,b5 u h4];exact E.tkd t y u J e2
 ·intro b hb
  have d1:¬(Ctx.took x2 w m.length mt.length).mine b:=fun h=>hb (b3 b h)
  exact(hH.ext b d1).trans (E.ext b hb)
end Go.Sy
namespace Go.Sy
variable [br]
variable {P : Program} {C : Ctx} {x : Sit} {a : Act} {w : World} {N : Nat} {c c' : CSt} {s : St}
theorem Ac(t:Tok):t.ren (fun k=>k)=t:=by cases t<;>rfl
theorem xkW(sv:SV):sv.ren (fun k=>k) (fun k=>k)=sv:=by
 refine SV.rec (motive_1:=fun sv=>sv.ren (fun k=>k) (fun k=>k)=sv) (motive_2:=fun _=>True) (motive_3:=fun l=>SV.renL (fun k=>k) (fun k=>k) l=l)
  ?_ ?_ ?_ ?_ ?_ ?_ ?_ ?_ ?_ ?_ ?_ ?_ ?_ ?_ ?_ ?_ ?_ ?_ ?_ ?_ sv
 all_goals intros
 all_goals first
  |trivial
  |rfl
  |(simp only[SV.ren,SV.renL,Ac];done)
  |(simp only[SV.ren,SV.renL, *])
theorem xkS{q:dV}(h:q.small=true):(∀p∈q.os,p.1<1000/\(∀k∈p.2.ids,k<1000)/\∀k∈p.2.toks,k<1000)/\(∀k∈q.r.ids,k<1000)/\(∀k∈q.r.toks,k<1000)/\∀k∈q.tk,k<1000:=by simp only[dV.small,aC,bf,decide_eq_true_eq]at h;obtain⟨⟨⟨y,I⟩,F⟩,J⟩:=h;exact⟨fun p E=>⟨(y p E).1.1,(y p E).1.2,(y p E).2⟩,I,F,J⟩
theorem o6{d:LAb}{m:LAa}{mt:List LAb}{q:dV}{x2 x':Sit}{w':World}{v:Value}(hM:aR C x s a w)(I:Sim N c s)(hd:∀k,d=some k->k<N)(h:I6 x x2 c m mt)
 (hH:dj (Ctx.took x2 w m.length mt.length) x' q.os q.tk w') (E:Rep x' q.r v) (O:∀p∈q.os,p.2.wf=true) (hg:∀i,i<m.length->x'.bk i=x2.bk i) (hm:∀o∈m,inR (d.getD 0) o=false) (hs:q.small=true):
 M C N (kZ c d m (cI mt) q) (a.put d v) w':=by
 obtain⟨s1,s2,s3,s4⟩:=xkS hs;have hE:=I.exact hM;obtain⟨L,g1,g2,g3,g4,g5,g6,g7⟩:=Ab hE.heap h hH hm s1 s4 hg
 let Q:CSt:=⟨dN ((d.getD 0+1)*1000) ((d.getD 0+2)*1000) c.tm,tC (fM m (bP ((d.getD 0+1)*1000) ((d.getD 0+2)*1000) c.ob)) (pZ (d.getD 0) m q.os),
  tD (nO (cI mt) (cJ ((d.getD 0+1)*1000) ((d.getD 0+2)*1000) c.tk)) (tu (d.getD 0) q.tk)⟩
 have hI:Inv N Q:=by
  refine⟨fun p y=> ?_,DX ?_,fun p y=> ?_⟩
  ·obtain⟨r,E,e⟩:=kx y
   rw[e];exact I.inv.dom r E
  ·exact fP.sublist ((iO _ _).map cS) (yg I.inv.so)
  ·rcases oF y with e|e
   ·rw[yC]at e
    obtain⟨r,E,rfl⟩:=aZ.1 e;exact BI (O r E)
   ·obtain⟨_,ob,J,h2⟩:=cG (ky.1 e).1
    rw[h2];exact rB (I.inv.wf _ J)
 have Z:aR C L (Q.st N) a w':=by
  refine⟨⟨?_,fun i hi=> ?_⟩,hM.defers,g7.only (fun p y=> ?_) (jW hI.so) (fun t W=> ?_)⟩
  ·have:=hE.tm.1;simpa[CSt.st]using this
  ·have F:i<N:=by simpa[CSt.st]using hi
   have J:=hE.tm.2 i (by simpa[CSt.st]using F);simp only[CSt.st,aa,aT,cz F,bB,aM]at J ⊢;have e:Q.get i=(c.get i).purge ((d.getD 0+1)*1000) ((d.getD 0+2)*1000):=gW _ _ i c.tm;rw[e];exact J.mono (x':=L) g2 g5 g6
  ·rcases oF y with e|e
   ·exact am.2 (.inl e)
   ·exact am.2 (.inr e)
  ·rcases ug.1 W with e|e
   ·exact am.2 (.inl e)
   ·exact am.2 (.inr e)
 refine⟨L,_,Z.put d (c:=q.r.ren (jk (d.getD 0) m) (kK (d.getD 0))) ?_,(Sim.of hI).put hd _⟩;exact Rep.renF (x:=x') (x2:=L) (fun b o v hv=>by rw[g1];exact hv) E (fun k hk=>g3 k (s2 k hk)) (fun t W=>g4 t (s3 t W))
theorem A9{call:dy}{g:Nat}{d:LAb}{a_:t8}{vs:LAc}(hM:aR C x s a w)(hS:Sim N c s)(hd:∀k,d=some k->k<N)(a2:∀a_ os k q,call g a_ os k=some q->gg P g a_ os k (· =q))
 (F:nM c d (call g (SV.bareL a_) [] 0)=some c') (Q:cE x a_ vs):Calls P g ⟨vs⟩ w fun en w'=>∃v,en= .returned v/\M C N c' (a.put d v) w':=by
 cases hq:call g (SV.bareL a_) [] 0 with
 |none=>rw[hq]at F;cases F
 |some q=>
  rw[hq]at F
  have hb:cE x (SV.bareL a_) vs:=by rw[lL];refine⟨by simpa using Q.1,fun i hi=> ?_⟩;rw[bg _ (by rfl)];exact(Q.2 i (by simpa using hi)).bare rfl rfl
  obtain⟨_,W⟩:=a2 _ _ _ _ hq
  by_cases y:q.bare=true
  ·simp only[nM,y,pw,ax.injEq]at F
   subst F;have O:=x5 (m:=[]) (os:=[]) (mo:=fun k=>k) (mt:=fun k=>k) hM (fun i hi=>by simp at hi) rfl (by simp) (fun i hi=>by simp at hi);refine(W (Ctx.callee x w [] (x.back (fun k=>k) (fun k=>k)).bk) x w vs rfl rfl ?_ (by simp) (by simp) O hb).mono ?_
   ·rintro b (h|⟨i,hi,_⟩)
    ·exact .inl h
    ·simp at hi
   ·rintro en w' ⟨v,x',q',rfl,J,hr,hH,L,_⟩
    subst J;simp only[dV.bare,aC,List.isEmpty_iff]at y;obtain⟨⟨⟨b1,b2⟩,b3⟩,b4⟩:=y
    obtain⟨hG,hA⟩:=A5 (m:=[]) (os:=[]) (mo:=fun k=>k) (mt:=fun k=>k) (lo:=0) (hi:=0) (β2:=x.bk) (τ2:=x.τ) hM rfl (fun i hi=>by simp at hi) hH (fun i hi=>by simp at hi) (fun i hi=>by omega) (fun _ _=>rfl) (fun _ _=>rfl)
     (fun p E=>by rw[b1]at E;cases E) (fun p E=>by rw[b1]at E;cases E) (fun p E=>by rw[b1]at E;cases E) (fun p E=>by rw[b1]at E;cases E) (fun t I=>by rw[b2]at I;cases I)
    have a6:dj C ⟨x'.G,x.bk,x.τ⟩ s.ob s.tk w':=by
     refine hA.only (fun p E=> ?_) hM.heap.nd (fun t I=> ?_)
     ·exact am.2 (.inr (ky.2 ⟨by rw[J5];exact E,by simp⟩))
     ·exact am.2 (.inr (bU.2 ⟨I,by omega⟩))
    refine⟨v,rfl,⟨x'.G,x.bk,x.τ⟩,_, ?_,hS.put hd q'.r⟩;refine aR.put ⟨cE.grow (x:=x) (x':=⟨x'.G,x.bk,x.τ⟩) hG rfl rfl hM.tm,hM.defers,a6⟩ d ?_;have:=Rep.renF (x:=x') (x2:=⟨x'.G,x.bk,x.τ⟩) (mo:=fun k=>k) (mt:=fun k=>k) (fun _ _ _ h=>h) hr (fun k Z=>by rw[b3]at Z;cases Z) (fun t I=>by rw[b4]at I;cases I);rwa[xkW]at this
  ·have a1:q.bare=false:=by simpa using y
   simp only[nM,a1,pw]at F;cases hsm:q.small with
   |false=>rw[hsm]at F;cases F
   |true=>
    rw[hsm]at F;simp only[Bd,ax.injEq]at F;subst F;have hE:=hS.exact hM;have hT:I6 x x c [] []:=⟨rfl,fun i hi=>by simp at hi,fun k Z=>by simp at Z,by simp,fun i hi=>by simp at hi,by simp[cI],fun t I=>by simp[cI]at I⟩;refine(W (Ctx.took x w 0 0) x w vs rfl rfl ?_ (by simp) (by simp) (tM hE.heap hT rfl (fun i hi=>by simp at hi)) hb).mono ?_
    ·rintro b h;exact h
    ·rintro en w' ⟨v,x',q',rfl,J,hr,hH,L,_⟩
     subst J;exact⟨v,rfl,o6 hM hS hd hT hH hr L (fun i hi=>by simp at hi) (fun o ho=>by simp at ho) hsm⟩
theorem Ao{call:dy}{sg:Sig}{g:Nat}{d:LAb}{a_:t8}{vs:LAc}(hM:aR C x s a w)(hS:Sim N c s)(hd:∀k,d=some k->k<N)(d4:∀a_ os k q,call g a_ os k=some q->gg P g a_ os k (· =q))
 (F:kQ call sg d g (c,a_)=some c') (d5:cE x a_ vs):Calls P g ⟨vs⟩ w fun en w'=>∃v,en= .returned v/\M C N c' (a.put d v) w':=by
 simp only[kQ]at F;generalize hz:ld c.tk sg.own 50 0 a_=z at F;obtain⟨J,E⟩:=z;simp only[pf]at F;generalize eE c 60 [] (SV.idsL J)=m at F;cases ho:ik c m with
 |none=>rw[ho]at F;cases F
 |some L=>
  rw[ho]at F;simp only[mF]at F;generalize Z:eW c.tk (50+E.length) L=z2 at F;obtain⟨os,I⟩:=z2;simp only[pe]at F;cases hb:(pP (SV.idsL J++gp os) m&&eh m&&eh (cI (E++I))&&decide (m.length<=40)&&m.all fun o=> !inR (d.getD 0) o)with
  |false=>rw[hb]at F;cases F
  |true=>
   rw[hb]at F;simp only[pd]at F;simp only[aC,decide_eq_true_eq,bf,cT]at hb;obtain⟨⟨⟨⟨b7,d6⟩,c5⟩,e1⟩,d3⟩:=hb;cases hq:call g (SV.renL (iv m) id J) (fb (iv m) id os) (E.length+I.length)with
   |none=>rw[hq]at F;cases F
   |some q=>
    rw[hq]at F;simp only[pU]at F;cases hsm:q.small with
    |false=>rw[hsm]at F;cases F
    |true=>
     rw[hsm]at F;simp only[Aq,ax.injEq]at F;subst F;have hE:=hS.exact hM;obtain⟨e3,d7⟩:=rP ho
     let τ2:Nat->Nat×Nat×Nat:=fun t=>if 50<=t/\t<50+(E++I).length then UK x ((E++I).getD (t-50) none)else(0,0,0)
     let x1:Sit:=⟨x.G,x.bk,τ2⟩
     let x2:Sit:=⟨x.G,fun i=>x.bk (m.getD i 0),τ2⟩
     have hτ:∀y:Sit,y.τ=τ2->pI x y 50 (E++I):=by
      intro y hy k hk;rw[hy];show(if _ then _ else _)=_;rw[if_pos ⟨by omega,by omega⟩]
      congr 2;omega
     have W:∀i,i<m.length->(m.getD i 0,L.getD i (.rc []))∈c.ob:=fun i hi=>ke (d7 i hi)
     have O:=yb b7;have a2:=kt d6
     have hT:I6 x x2 c m (E++I):=by
      refine⟨rfl,fun _ _=>rfl,hτ x2 rfl,a2,fun i hi=>⟨_,W i hi⟩,kt c5,fun t ht=> ?_⟩;rw[gi,am]at ht;rcases ht with ht|ht
      ·have:=pO (tk:=c.tk) (own:=sg.own) (cs:=a_) (j:=50) (i:=0) t (by rw[hz];exact ht)
       exact this
      ·have:=oB (tk:=c.tk) (obs:=L) (j:=50+E.length) t (by rw[Z];exact ht)
       exact this
     have a7:=hτ x1 rfl
     have b5:cE x1 J vs:=by have:=nz (x:=x) (x1:=x1) rfl rfl (tk:=c.tk) (own:=sg.own) (j:=50) (i:=0) d5 (by rw[hz];exact a7.left);rwa[hz]at this
     have hβ:∀o∈m,x2.bk (iv m o)=x.bk o:=fun o ho=>by show x.bk (m.getD (iv m o) 0)=_;rw[(oe ho).2]
     have e0:cE x2 (SV.renL (iv m) id J) vs:=by
      rw[fL];refine⟨by simpa using b5.1,fun i hi=> ?_⟩;have b0:i<J.length:=by simpa using hi
      rw[bg _ (by rfl)];exact Rep.renF (x:=x1) (x2:=x2) (fun _ _ _ h=>h) (b5.2 i b0) (fun k hk=>hβ k (O k (am.2 (.inl (my b0 k hk))))) (fun t _=>rfl)
     obtain⟨a6,Q⟩:=mD (x:=x) (x1:=x1) (w:=w) rfl rfl (tk:=c.tk) (obs:=L) (j:=50+E.length) (f:=fun i=>m.getD i 0)
      (fun i hi=>(hE.heap.obs _ (W i (by omega))).1) (by rw[Z];exact a7.right)
     rw[Z]at a6 Q;simp only at a6 Q
     have b1:∀i,i<m.length->eA x2 w i ((fb (iv m) id os).getD i (.rc [])):=by
      intro i hi;have h1:=Q i (by omega);have b4:i<os.length:=by omega
      have e:(fb (iv m) id os).getD i (.rc [])=(os.getD i (.rc [])).ren (iv m) id:=by rw[gZ,aa,aa,aT,ac b4];rfl
      rw[e];have a8:=gG (m:=m) hi;have c7:os.getD i (.rc [])∈os:=by rw[aa,ac b4];exact bv _
      have h2:=h1.renF (x2:=x2) (mo:=iv m) (mt:=id) (fun _ _ _ h=>h) (hβ _ a8) (fun k hk=>hβ k (O k (am.2 (.inr (qr c7 k hk))))) (fun t _=>rfl);have e2:iv m (m.getD i 0)=i:=mJ a2 (oe a8).1 hi (oe a8).2;rwa[e2]at h2
     have b3:(fb (iv m) id os).length=m.length:=by rw[gZ,aY];omega
     obtain⟨_,c3⟩:=d4 _ _ _ _ hq;have b6:E.length+I.length=(E++I).length:=by simp
     rw[b6]at c3;refine(c3 (Ctx.took x2 w m.length (E++I).length) x2 w vs rfl rfl ?_ (by omega) ?_ (tM hE.heap hT b3 b1) e0).mono ?_
     ·rintro b h;rw[b3];exact h
     ·intro o a1
      rw[gZ]at a1;obtain⟨r,hr,rfl⟩:=aZ.1 a1;refine BI ?_
      have:=oA (tk:=c.tk) (obs:=L) (j:=50+E.length) (fun o h'=>by obtain⟨i,hi,rfl⟩:=bp h';have:=hS.inv.wf _ (W i (by omega));simpa[aa,ac hi]using this) r (by rw[Z];exact hr)
      exact this
     ·rintro en w' ⟨v,x',q',rfl,d2,hr,hH,d1,hg⟩
      subst d2;exact⟨v,rfl,o6 hM hS hd hT hH hr d1 (fun i hi=>hg i (by omega)) (fun o a1=>d3 o a1) hsm⟩
theorem x7{call:dy}{sg:Sig}{g:Nat}{d:LAb}{a_:t8}{vs:LAc}(hM:aR C x s a w)(F:Sim N c s)(hd:∀k,d=some k->k<N)(E:∀a_ os k q,call g a_ os k=some q->gg P g a_ os k (· =q))
 (y:i9 call sg c d g a_=some c') (h:cE x a_ vs):Calls P g ⟨vs⟩ w fun en w'=>∃v,en= .returned v/\M C N c' (a.put d v) w':=by
 unfold i9 at y;generalize ((SV.idsL a_).isEmpty&&sg.own.isEmpty)=b at y;cases b with
 |true=>exact A9 hM F hd E y h
 |false=>simp only[kY]at y;obtain⟨x1,O,L,J,I⟩:=ki (l:=jN sg.raw 0 a_) hM F h;exact Ao L J hd E y I
end Go.Sy
namespace Go.Sy
variable [br]
variable {P : Program} {C : Ctx} {x : Sit} {a : Act} {w : World} {N : Nat} {c c' : CSt} {s : St} {call : dy} {sg : Nat -> Sig}
def gY(P:Program)(call:dy):Prop:=∀g a_ os k q,call g a_ os k=some q->gg P g a_ os k (· =q)
theorem Bi{sg:Sig}{d:LAb}{g:Nat}{a_:t8}(h:i9 call sg c d g a_=some c'):∃L os k q,call g L os k=some q:=by
 unfold i9 at h;generalize ((SV.idsL a_).isEmpty&&sg.own.isEmpty)=b at h;cases b with
 |true=>
  simp only[kY]at h;cases hq:call g (SV.bareL a_) [] 0 with
  |none=>rw[hq]at h;cases h
  |some q=>exact⟨_,_,_,q,hq⟩
 |false=>
  simp only[kY]at h;generalize fB c a_ (jN sg.raw 0 a_)=z at h;obtain⟨c1,I⟩:=z;simp only[kQ]at h;generalize ld c1.tk sg.own 50 0 I=z at h;obtain⟨y,E⟩:=z;simp only[pf]at h;cases ho:ik c1 (eE c1 60 [] (SV.idsL y))with
  |none=>rw[ho]at h;cases h
  |some J=>
   rw[ho]at h;simp only[mF]at h;generalize eW c1.tk (50+E.length) J=z at h;obtain⟨os,F⟩:=z;simp only[pe]at h;generalize (pP (SV.idsL y++gp os) (eE c1 60 [] (SV.idsL y))&&eh (eE c1 60 [] (SV.idsL y))&&eh (cI (E++F))&&decide ((eE c1 60 [] (SV.idsL y)).length<=40)&&(eE c1 60 [] (SV.idsL y)).all fun o=> !inR (d.getD 0) o)=b at h;cases b with
   |false=>cases h
   |true=>
    simp only[pd]at h;cases hq:call g (SV.renL (iv (eE c1 60 [] (SV.idsL y))) id y) (fb (iv (eE c1 60 [] (SV.idsL y))) id os) (E.length+F.length)with
    |none=>rw[hq]at h;cases h
    |some q=>exact⟨_,_,_,q,hq⟩
theorem dj.freeze{ob:List (Nat×aH)}{tk:LAa}(h:dj C x ob tk w){b:Nat}(hb:C.mine b)(ho:∀p∈ob,(x.bk p.1).1≠b)(ht:∀t∈tk,(x.τ t).1≠b\/(x.τ t).2.1=(x.τ t).2.2)(off n:Nat):
 dj C x ob tk (w.freeze ⟨b,off,none⟩ n):=by
 have E:∀y,y≠b->(w.freeze ⟨b,off,none⟩ n).heap[y]? =w.heap[y]? :=by
  intro y O;unfold World.freeze;split
  ·rfl
  ·simp only[Array.getElem?_modify,if_neg (Ne.symm O)]
 have I:∀y i,(w.freeze ⟨b,off,none⟩ n).cell? ⟨y,i,none⟩=w.cell? ⟨y,i,none⟩:=by
  intro y i
  by_cases O:y=b
  ·subst O
   unfold World.freeze;split
   ·rfl
   ·simp only[World.cell?,Array.getElem?_modify,if_true]
    cases hw:w.heap[y]? with
    |none=>rfl
    |some q=>cases q<;>rfl
  ·exact dQ (E y O)
 have Z:(w.freeze ⟨b,off,none⟩ n).heap.size=w.heap.size:=by unfold World.freeze;split<;>simp
 have F:(w.freeze ⟨b,off,none⟩ n).os=w.os/\(w.freeze ⟨b,off,none⟩ n).tape=w.tape/\(w.freeze ⟨b,off,none⟩ n).output=w.output:=by unfold World.freeze;split<;>exact⟨rfl,rfl,rfl⟩
 refine⟨fun y i v hv=>by rw[I];exact h.per y i v hv,h.g0,h.gm,h.new,fun p hp=> ?_,h.nd,h.inj,fun t L=> ?_,h.tko,h.tkd,F.1.trans h.os,F.2.1.trans h.tape,F.2.2.trans h.output,by rw[Z];exact h.size,fun y J=> ?_,h.pin,h.lay⟩
 ·obtain⟨⟨cc,e,fl,fh,Q,r⟩,q⟩:=h.obs p hp
  exact⟨⟨cc,e,fl,fh,Q.of_heap (E _ (ho p hp)),r⟩,q⟩
 ·rcases h.tks t L with h1|⟨⟨cc,e,fl,fh,Q,h2⟩,h3⟩
  ·exact .inl h1
  ·rcases ht t L with W|W
   ·exact .inr ⟨⟨cc,e,fl,fh,Q.of_heap (E _ W),h2⟩,h3⟩
   ·exact .inl W
 ·rw[E y (fun e=>J (e ▸ hb))];exact h.ext y J
theorem YG{o:Oper}{q:Arg}(y:bG P o=some (.slid q)):∃E X e,o.op= .convert E E X/\P.underlying E=some (.slice e)/\m5 P e=true/\bF P E X=some q:=by
 cases ho:o.op with
 |convert E dst X=>
  simp only[bG,ho]at y;split at y<;>try (cases y;done)
  ·split at y<;>cases y
  ·split at y<;>cases y
  ·rename_i e J L hd hX
   split at y<;>try (cases y;done)
   rename_i F;simp only[aC,decide_eq_true_eq]at F;obtain⟨rfl,I⟩:=F;cases y;exact⟨E,X,e,rfl,hd,I,hX⟩
 |_=>exfalso;exact absurd y (by
  intro y;simp only[bG,ho]at y
  first
   |(cases y;done)
   |(obtain⟨_,_,h⟩:=ah.1 y;cases h;done)
   |(repeat' split at y)<;>first|(cases y;done)|contradiction|(obtain⟨_,_,h⟩:=ah.1 y;first|(cases h;done)|(split at h<;>cases h;done)))
theorem J1{o:Oper}{F:List Arg}(y:bG P o=some (.newB F)):False:=by
 cases ho:o.op with
 |buildSlice t len E=>
  simp only[bG,ho]at y;split at y<;>try (cases y;done)
  split at y<;>try (cases y;done)
  split at y<;>try (cases y;done)
  obtain⟨_,_,h⟩:=ah.1 y;split at h<;>cases h
 |_=>
  simp only[bG,ho]at y
  first
   |(cases y;done)
   |(obtain⟨_,_,h⟩:=ah.1 y;cases h;done)
   |(repeat' split at y)<;>first|(cases y;done)|contradiction|(obtain⟨_,_,h⟩:=ah.1 y;first|(cases h;done)|(split at h<;>cases h;done))
theorem Hi{o:Oper}{z:t8}{b:Nat}{q y:Arg}(E:bG P o=some (.appO z b q y)):False:=by
 cases ho:o.op with
 |buildSlice t len F=>
  simp only[bG,ho]at E;split at E<;>try (cases E;done)
  split at E<;>try (cases E;done)
  split at E<;>try (cases E;done)
  obtain⟨_,_,h⟩:=ah.1 E;split at h<;>cases h
 |_=>
  simp only[bG,ho]at E
  first
   |(cases E;done)
   |(obtain⟨_,_,h⟩:=ah.1 E;cases h;done)
   |(repeat' split at E)<;>first|(cases E;done)|contradiction|(obtain⟨_,_,h⟩:=ah.1 E;first|(cases h;done)|(split at h<;>cases h;done))
theorem xrO{ops:Array Oper}{o:Oper}{i:SI}(h:gT P ops o=some i):i.er=i:=by
 obtain⟨E,_,_⟩:=lS h;obtain⟨d,g,op⟩:=i
 have:op.er=op:=by
  cases op with
  |appO z b q y=>
   rcases E with E|⟨xs,e,_⟩
   ·exact(Hi E).elim
   ·cases e
  |_=>rfl
 show SI.mk d g op.er=_;rw[this]
theorem At{o:Oper}{q:Arg}(h:M C N c a w)(hr:bG P o=some (.slid q))(hd:∀k,o.dst=some k->k<N)(F:tq c o.dst (c.ev q)=some c'){K:LBb}{Q:LBa}(hK:∀a w,M C N c' a w->K a w):o.wp P a w K Q:=by
 obtain⟨x,s,hM,W⟩:=h;unfold tq at F;split at F<;>try (cases F;done)
 rename_i y off n cap hq;unfold pV at F;split at F<;>try (cases F;done)
 rename_i l hl;split at F<;>try (cases F;done)
 rename_i L;obtain⟨hb,rfl⟩:=L;cases F;obtain⟨b3,X,e,ho,hu,h8,hX⟩:=YG hr;have hv:=aP hM hX;rw[W.ev,hq]at hv;obtain⟨cp,b4,b1,a1,a2,b0⟩:=hv.psl_inv;have I:s.look y=some (.bar l):=(W.look y).trans hl;obtain⟨cc,e',fl,fh,hO,b5,_⟩:=fD hM I;have a8:=hM.heap.obs _ (dr I);obtain⟨x',⟨hβ,hτ⟩,hp,s',E,O⟩:=qf hl (fun cs e=>by cases e) hM W
 have J:Rep x' (.byt ((l.drop off).take n) .clip) (a.eval X):=by have:=hp _ _ hv;simpa only[SV.pub,if_true,AO,true_and,if_pos hb]using this
 have h1:∀p∈s'.ob,(x'.bk p.1).1≠(x.bk y).1:=by intro p a7 e;rw[hβ]at e;have h2:s'.look p.1=some p.2:=AW E.heap.nd a7;rw[O.look]at h2;obtain⟨h3,q',h4,_⟩:=lE (ke h2);have h5:=jZ (jW W.inv.so) h4;exact h3 (hM.heap.inj (p.1,q') (dr ((W.look p.1).trans h5)) _ (dr I) e)
 have h2:∀t∈s'.tk,(x'.τ t).1≠(x.bk y).1\/(x'.τ t).2.1=(x'.τ t).2.2:=by intro t ht;rw[hτ];exact hM.heap.tko t ((W.tk t).2 ((O.tk t).1 ht)) _ (dr I)
 have a6:aR C x' s' a (w.freeze ⟨(x.bk y).1,cc.size,none⟩ 1):=⟨E.tm,E.defers,E.heap.freeze a8.2.1 h1 h2 _ _⟩
 have Z:(execOp a.eval o).run P w= .ok (.value (a.eval X)) (w.freeze ⟨(x.bk y).1,cc.size,none⟩ 1):=by have hm:(markStringish ⟨(x.bk y).1,a1,none⟩).run P w= .ok () (w.freeze ⟨(x.bk y).1,cc.size,none⟩ 1):=fd (e:=e') (by simp only[World.shape?,hO.1]);simp only[execOp,ho,a2,convert,aD,run_underlying hu,an,beq_self_eq_true,run_underlying (kb h8),hm,aN]
 refine dL ⟨a.eval X,_,x',_,Z,.inl rfl,a6.put o.dst J⟩ (k:=Sim N _) ?_ hK;have e1:(c.publish y []).1=⟨mU y (.bar l) c.tm,mm y (.bar l) c.ob,c.tk⟩:=by unfold CSt.publish;rw[hl]
 rw[e1];exact O.put hd _
theorem qu{o:Oper}{Z:List Arg}(h:M C N c a w)(W:bG P o=some (.litB Z))(hd:∀k,o.dst=some k->k<N)(F:pt c o.dst (toB (evL c Z))=some c'){K:LBb}{Q:LBa}(hK:∀a w,M C N c' a w->K a w):o.wp P a w K Q:=by
 obtain⟨x,s,hM,O⟩:=h;rw[O.evL]at F;unfold pt at F;split at F<;>try (cases F;done)
 rename_i k l hk hl;cases F;obtain⟨t,len,J,ho⟩:=ZI W;obtain⟨r,e,E,L,y⟩:=AC hM ho W hl
 have I:=hM.newObj (d:=k+100) o.dst (by omega) (.bar l) (val:= .psl (k+100) 1 0 l.length (some l.length)) (u:= .slice (some ⟨w.heap.size,0,none⟩) l.length l.length) (t:=e) L (fun i hi=>by
  show cL x.G (.u8 (l.getD i 0)) _;rw[y i hi];exact .u8 _) (by
  have:=Rep.psl (x:=x.newO (k+100) w.heap.size) (k+100) 1 0 l.length (some l.length) 0 l.length (.inr rfl) (aJ _) (fun _ e=>by cases e;rfl) (fun e=>by cases e);rwa[kV]at this)
 refine dL ⟨_,_,_,_,E,.inl rfl,I⟩ (k:=Sim N _) ?_ hK;have:=O.app hd (e:= {val:= .psl (k+100) 1 0 l.length (some l.length),new:=some (.bar l)}) (f:= {pre:=True,val:= .psl (k+100) 1 0 l.length (some l.length),new:=some (.bar l)}) ⟨rfl,rfl,rfl,rfl,rfl⟩ ⟨fun ob he=>by cases he;rfl,.inl rfl⟩;rw[hk]at this ⊢;exact this
theorem KJ(hM:aR C x s a w)(y:Sim N c s){g:Nat}{t:Bool}(h:c.get g= .bool t):a.tmps[g]? =some (.bool t):=(KL hM (by rw[y.get];exact h)).2.1
theorem xS{ops:Array Oper}{o:Oper}{j g:Nat}{b:Bool}(h:o.guard=some (j,b))(F:(ops[j]?).bind (·.dst)=some g)(y:∀t,a.tmps[g]? ≠some (.bool t)):Region.wanted o (yielded ops a.tmps)=false:=by
 have E:yielded ops a.tmps j=none:=by
  unfold yielded;rw[F,dl];cases hv:a.tmps[g]? with
  |none=>rfl
  |some v=>
   cases v with
   |bool t=>exact absurd hv (y t)
   |_=>rfl
 simp only[Region.wanted,h,E];rfl
theorem yA{x:Sit}:Rep x (.tup []) undef:= .tup [] [] rfl fun i hi=>by simp at hi
theorem KK(hM:aR C x s a w)(F:Sim N c s){g:Nat}(h:c.get g= .tup []):∀t,a.tmps[g]? ≠some (.bool t):=by
 intro t E;have y:=hM.slot g;rw[F.get,h]at y
 have I:a.tmps.getD g undef= .bool t:=by rw[aS,E];rfl
 replace y:Rep x (.tup []) (a.tmps.getD g undef):=y;rw[I]at y;cases y with
 |dat _ _ h _=>cases h
theorem Lz{o:Oper}{q:Arg}(y:bG P o=some (.s2b q)):∃E dst X e,o.op= .convert E dst X/\P.underlying E=some .string/\P.underlying dst=some (.slice e)/\m5 P e=true/\bF P E X=some q:=by
 cases ho:o.op with
 |convert E dst X=>
  simp only[bG,ho]at y;split at y<;>try (cases y;done)
  ·split at y<;>cases y
  ·rename_i e J I hd hX
   split at y<;>try (cases y;done)
   rename_i F;cases y;exact⟨E,dst,X,e,rfl,I,hd,F,hX⟩
  ·split at y<;>cases y
 |_=>exfalso;exact absurd y (by
  intro y;simp only[bG,ho]at y
  first
   |(cases y;done)
   |(obtain⟨_,_,h⟩:=ah.1 y;cases h;done)
   |(repeat' split at y)<;>first|(cases y;done)|contradiction|(obtain⟨_,_,h⟩:=ah.1 y;first|(cases h;done)|(split at h<;>cases h;done)))
theorem xnX{o:Oper}{z:t8}{b:Nat}{q r:Arg}(y:bG P o=some (.app z b q r)):∃E,o.op= .call E/\E.callee= .builtin .append:=by
 cases ho:o.op with
 |call E=>
  refine⟨E,rfl, ?_⟩;cases hb:E.callee with
  |builtin F=>
   cases F with
   |append=>rfl
   |_=>
    exfalso;simp only[bG,ho,hb]at y
    first
     |(cases y;done)
     |(repeat' split at y)<;>first|(cases y;done)|contradiction
  |_=>
   exfalso;simp only[bG,ho,hb]at y
   first
    |(cases y;done)
    |(repeat' split at y)<;>first|(cases y;done)|contradiction
 |_=>exfalso;exact absurd y (by
  intro y;simp only[bG,ho]at y
  first
   |(cases y;done)
   |(obtain⟨_,_,h⟩:=ah.1 y;cases h;done)
   |(repeat' split at y)<;>first|(cases y;done)|contradiction|(obtain⟨_,_,h⟩:=ah.1 y;first|(cases h;done)|(split at h<;>cases h;done)))
theorem aR.newObjF(hM:aR C x s a w){d:Nat}(E:LAb)(y:100<=d){cv:LAd}{t:TypeId}{fl fh:Nat}(obj:aH){val:SV}{u:Value}(Q:∀i,i<cv.size->¬(fl<=i/\i<fh))(hs:obj.size<=cv.size)(Z:∀k,k<obj.size->cx x obj k (cv.getD k undef))
 (F:obj.arrB=true->¬(fl<=cv.size/\cv.size<fh)) (J:Rep (x.newO d w.heap.size cv.size) val u) {w':World} (O:w'.heap=(w.alloc (.cells cv t (fl,fh))).heap) (W:w'.os=w.os) (L:w'.tape=w.tape) (I:w'.output=w.output):
 aR C (x.newO d w.heap.size cv.size) (((s.purge d (d+1)).addO d (obj.purge d (d+1))).put E val) (a.put E u) w':=by
 refine aR.put ⟨?_,hM.defers, ?_⟩ E J
 ·exact cE.mono (x:=x) (x':=x.newO d w.heap.size cv.size) (lo:=d) (hi:=d+1) (fun _ _ _ h=>h) (Sit.newO_ne x d _) (fun _ _=>rfl) hM.tm
 ·exact dj.congr (w:=w.alloc (.cells cv t (fl,fh))) (hM.heap.allocO d y obj Q hs Z (aJ _) F) O W L I
theorem aR.drew(hM:aR C x s a w):aR C x s a w.drew:=⟨hM.tm,hM.defers,hM.heap.drew⟩
theorem AS{o:Oper}{q:Arg}(h:M C N c a w)(hr:bG P o=some (.s2b q))(hd:∀k,o.dst=some k->k<N)(J:Zn c o.dst (c.ev q)=some c'){K:LBb}{Q:LBa}(hK:∀a w,M C N c' a w->K a w):o.wp P a w K Q:=by
 obtain⟨x,s,hM,hS⟩:=h;unfold Zn at J;split at J<;>try (cases J;done)
 rename_i k l hk hl;cases J;obtain⟨a6,dst,X,e,ho,hs,O,h8,hX⟩:=Lz hr;have L:=kb h8;have h1:=aP hM hX;rw[hS.ev,hl]at h1;have hf:(Question.appendCap (ByteArray.mk ⟨l⟩).size 0 e).forced=false:=rfl
 obtain⟨y,Z,W⟩:∃y,(Question.appendCap (ByteArray.mk ⟨l⟩).size 0 e).cut (w.tape w.drawn (Question.appendCap (ByteArray.mk ⟨l⟩).size 0 e))=y/\l.length<=y:=by
  refine⟨_,rfl, ?_⟩;simp only[Question.cut];have:(ByteArray.mk ⟨l⟩).size=l.length:=by simp[ByteArray.size]
  omega
 let cs:LAd:=(ByteArray.mk ⟨l⟩).data.map (fun b=> .int .u8 b.toNat)++eU (y-(ByteArray.mk ⟨l⟩).size) (.int .u8 0)
 have I:(ByteArray.mk ⟨l⟩).size=l.length:=by simp[ByteArray.size]
 have a2:cs.size=y:=by simp[cs,I];omega
 have E:∀i,i<l.length->cs[i]? =some (.int .u8 (l.getD i 0).toNat):=by intro i hi;simp only[cs];rw[co (by simpa using hi)];simp[hi,aa]
 have F:(execOp a.eval o).run P w= .ok (.value (.slice (some ⟨w.heap.size,0,none⟩) l.length y)) ((w.drew.alloc (.cells cs e (0,0))).freeze ⟨w.heap.size,cs.size,none⟩ 1):=by simp only[execOp,ho,h1.str_inv,convert,aD,run_underlying hs,run_underlying O,an,run_underlying L,Conv.stringToBytes,run_choose_drew,hf,aO,if_false,Z,newRow,run_newObj_alloc,aN];rw[fd (e:=e) (n:=cs.size) (by simp only[World.shape?];rw[heap_alloc_new])];simp only[an,I];rfl
 have a1:=hM.drew.newObjF (d:=k+100) o.dst (by omega) (.bar l) (cv:=cs) (t:=e) (fl:=cs.size) (fh:=cs.size+1) (val:= .psl (k+100) 1 0 l.length none) (u:= .slice (some ⟨w.heap.size,0,none⟩) l.length y) (fun i hi h=>by omega) (by simp only[aH.size];omega) (fun i hi=>by
  simp only[aH.size]at hi;show cL x.G (.u8 (l.getD i 0)) _;have:cs.getD i undef= .int .u8 (l.getD i 0).toNat:=by rw[aS,E i hi];rfl
  rw[this];exact .u8 _) (fun h=>by cases h) (by
  have:=Rep.psl (x:=x.newO (k+100) w.drew.heap.size cs.size) (k+100) 1 0 l.length none 0 y (.inr rfl) W (fun _ e=>by cases e) (fun _=> .inr (by rw[iZ,a2];omega));rw[kV]at this;exact this) (il w.drew cs e) rfl rfl rfl
 refine dL ⟨_,_,_,_,F,.inl rfl,a1⟩ (k:=Sim N _) ?_ hK;have:=hS.app hd (e:= {val:= .psl (k+100) 1 0 l.length none,new:=some (.bar l)}) (f:= {pre:=True,val:= .psl (k+100) 1 0 l.length none,new:=some (.bar l)}) ⟨rfl,rfl,rfl,rfl,rfl⟩ ⟨fun ob L=>by cases L;rfl,.inl rfl⟩;rw[hk]at this ⊢;exact this
theorem Ag{o:Oper}{q:Arg}(h:M C N c a w)(hr:bG P o=some (.s2b q))(hd:∀k,o.dst=some k->k<N)(O:Yu c o.dst (c.ev q)=some c'){K:LBb}{Q:LBa}(hK:∀a w,M C N c' a w->K a w):o.wp P a w K Q:=by
 obtain⟨x,s,hM,hS⟩:=h;unfold Yu at O;split at O<;>try (cases O;done)
 rename_i k l hk hl;cases O;obtain⟨b4,dst,X,e,ho,hs,a2,h8,hX⟩:=Lz hr;have Z:=kb h8;have h1:=aP hM hX;rw[hS.ev,hl]at h1;have hf:(Question.appendCap (ByteArray.mk ⟨l⟩).size 0 e).forced=false:=rfl
 obtain⟨y,a7,a6⟩:∃y,(Question.appendCap (ByteArray.mk ⟨l⟩).size 0 e).cut (w.tape w.drawn (Question.appendCap (ByteArray.mk ⟨l⟩).size 0 e))=y/\l.length<=y:=by
  refine⟨_,rfl, ?_⟩;simp only[Question.cut];have:(ByteArray.mk ⟨l⟩).size=l.length:=by simp[ByteArray.size]
  omega
 let cs:LAd:=(ByteArray.mk ⟨l⟩).data.map (fun b=> .int .u8 b.toNat)++eU (y-(ByteArray.mk ⟨l⟩).size) (.int .u8 0)
 have L:(ByteArray.mk ⟨l⟩).size=l.length:=by simp[ByteArray.size]
 have b3:cs.size=y:=by simp[cs,L];omega
 have F:∀i,i<l.length->cs[i]? =some (.int .u8 (l.getD i 0).toNat):=by intro i hi;simp only[cs];rw[co (by simpa using hi)];simp[hi,aa]
 have I:(execOp a.eval o).run P w= .ok (.value (.slice (some ⟨w.heap.size,0,none⟩) l.length y)) ((w.drew.alloc (.cells cs e (0,0))).freeze ⟨w.heap.size,cs.size,none⟩ 1):=by simp only[execOp,ho,h1.str_inv,convert,aD,run_underlying hs,run_underlying a2,an,run_underlying Z,Conv.stringToBytes,run_choose_drew,hf,aO,if_false,a7,newRow,run_newObj_alloc,aN];rw[fd (e:=e) (n:=cs.size) (by simp only[World.shape?];rw[heap_alloc_new])];simp only[an,L];rfl
 have hG:∀o,x.G w.heap.size o=none:=by
  intro o;cases hg:x.G w.heap.size o with
  |none=>rfl
  |some v=>exact absurd (hM.heap.ltG hg) (by omega)
 have b1:=hM.heap.newD_le cs l.length;have hH:dj C (x.newD w.heap.size cs l.length) s.ob s.tk (w.drew.alloc (.cells cs e (cs.size,cs.size+1))):=hM.heap.drew.allocD l.length;have J:eS (w.drew.alloc (.cells cs e (cs.size,cs.size+1))) w.heap.size cs e cs.size (cs.size+1):=⟨heap_alloc_new (w:=w.drew),fun i _ h=>by omega⟩
 have b0:dj C ((x.newD w.heap.size cs l.length).newT (k+100) w.heap.size l.length y) (bP (k+100) (k+100+1) s.ob) ((k+100)::cJ (k+100) (k+100+1) s.tk) (w.drew.alloc (.cells cs e (cs.size,cs.size+1))):=by
  refine hH.addT (k+100) w.heap.size _ _ (.inr ⟨⟨cs,e,_,_,J,by omega⟩,hM.heap.new _ hM.heap.size,fun o h1 h2=> ?_⟩) (.inr fun p hp _=> ?_) (.inr fun u hu _=> ?_)
  ·simp only[Sit.newD];rw[if_neg (by omega)];exact hG o
  ·obtain⟨⟨c2,e2,a1,W,E,_⟩,_⟩:=hM.heap.obs p hp
   have:=E.lt;show w.heap.size≠(x.bk p.1).1;omega
  ·rcases hM.heap.tks u hu with h|⟨⟨c2,e2,a1,W,E,_⟩,_⟩
   ·exact .inr h
   ·have:=E.lt
    exact .inl (by show w.heap.size≠(x.τ u).1;omega)
 have a8:aR C ((x.newD w.heap.size cs l.length).newT (k+100) w.heap.size l.length y) ((s.grew .no (k+100)).put o.dst (.byt l (.id (k+100)))) (a.put o.dst (.slice (some ⟨w.heap.size,0,none⟩) l.length y)) ((w.drew.alloc (.cells cs e (0,0))).freeze ⟨w.heap.size,cs.size,none⟩ 1):=by
  refine aR.put ⟨?_,hM.defers, ?_⟩ o.dst ?_
  ·exact cE.mono (x:=x) (x':=(x.newD w.heap.size cs l.length).newT (k+100) w.heap.size l.length y) (lo:=k+100) (hi:=k+100+1) b1 (fun _ _=>rfl) (Sit.newT_ne (x.newD w.heap.size cs l.length) (k+100) _ _ _) hM.tm
  ·exact dj.congr (w:=w.drew.alloc (.cells cs e (cs.size,cs.size+1))) b0 (il w.drew cs e) rfl rfl rfl
  ·refine .dat _ _ (.byt l _ w.heap.size 0 y l.length rfl a6 fun i hi=> ?_) ⟨_,l.length,y,rfl,.inr ⟨w.heap.size,0,rfl, ?_⟩⟩
   ·show(x.newD w.heap.size cs l.length).G w.heap.size (0+i)=_
    simp only[Sit.newD];rw[if_pos ⟨trivial,by omega⟩,bT];exact F i hi
   ·rw[Sit.newT_eq,dp,dp,bT,bT]
 refine dL ⟨_,_,_,_,I,.inl rfl,a8⟩ (k:=Sim N _) ?_ hK;have:=hS.app hd (e:= {val:= .byt l (.id (k+100)),tok:=true}) (f:= {pre:=True,val:= .byt l (.id (k+100)),tok:=true}) ⟨rfl,rfl,rfl,rfl,rfl⟩ ⟨fun ob Z=>(by cases Z),.inl rfl⟩;rw[hk]at this ⊢;exact this
theorem uN(hM:aR C x s a w){t u Q:TypeId}{d2:TypeDesc}{n by_:Nat}{zs:LAc}(hd:P.underlying t=some (.slice Q))(hu:P.underlying u=some d2)(b7:(∃e',d2= .slice e')\/d2= .string)(hn:fK P Q=some n)(hb:wg P Q=some by_)
 (hz:gR P Q=some zs) (hb0:by_≠0) (hzl:zs.length=n) {ty:TypeId} {X Y:Value} {fl h:t8} {ns:LAc} {len m cap:Nat} (hX:Gz x.G n fl X len cap)
 (a7:∀w',w'.heap=w.heap->(Builtin.lenOf Y).run P w'= .ok m w') (F:∀w',w'.heap=w.heap->(Builtin.firstCells n m Y).run P w'= .ok ns.toArray w') (b4:ns.length=m*n) (y:New x ns h) (J:(len+m)*by_<=140737488355328) (hc:¬len+m<=cap):
 ∃L cv,len+m<=L/\(Builtin.append_ #[t,u] ty #[X,Y]).run P w= .ok (.slice (some ⟨w.heap.size,0,none⟩) (len+m) L) (w.drew.alloc (.cells cv Q (0,0)))/\((fl++h).length<=cv.size/\L*n<=cv.size)/\∀k,k<(fl++h).length->cL x.G ((fl++h).getD k .undef) (cv.getD k undef):=by
 obtain⟨a1,d4,a6⟩:=hX;obtain⟨z,b1,b3⟩:=db hz
 obtain⟨i,hi,a8⟩:∃i,P.info? Q=some i/\i.bytes=by_:=by
  unfold wg at hb;cases hi:P.info? Q with
  |none=>simp[hi]at hb
  |some i=>simp[hi]at hb;exact⟨i,rfl,hb⟩
 obtain⟨bs,b5⟩:∃bs,X= .slice bs len cap:=by
  rcases a6 with⟨b,off,rfl,_⟩|⟨⟨a,rfl⟩,rfl,rfl⟩
  ·exact⟨_,rfl⟩
  ·exact⟨_,rfl⟩
 subst b5;have d3:h.length=m*n:=by rw[y.len,b4]
 obtain⟨os,c3,E,a2⟩:∃os:LAc,(∀w',w'.heap=w.heap->(Builtin.firstCells n len (.slice bs len cap)).run P w'= .ok os.toArray w')/\os.length=fl.length/\∀k,k<fl.length->cL x.G (fl.getD k .undef) (os.getD k undef):=by
  rcases a6 with⟨b,off,I,hr⟩|⟨I,h1,h2⟩
  ·simp only[Value.slice.injEq]at I
   obtain⟨rfl,_⟩:=I;refine⟨(bM (len*n)).map fun k=>(w.cell? ⟨b,off+k,none⟩).getD undef,fun w' c5=> ?_,by simp[a1],fun k W=> ?_⟩
   ·simp only[Builtin.firstCells]
    refine run_loadCells w' _ _ _ fun j hj=> ?_
    rw[dD,dQ (w:=w) (by rw[c5])];obtain⟨v,hv,_⟩:=hr j (by omega);rw[hM.heap.per _ _ _ hv];rfl
   ·obtain⟨v,hv,b0⟩:=hr k W
    have:((bM (len*n)).map fun k=>(w.cell? ⟨b,off+k,none⟩).getD undef).getD k undef=v:=by rw[aa];simp[show k<len*n from by omega,hM.heap.per _ _ _ hv]
    rw[this];exact b0
  ·obtain⟨a,I⟩:=I
   simp only[Value.slice.injEq]at I;obtain⟨rfl,rfl,_⟩:=I;have:fl=[]:=cu.1 (by rw[<-a1,h1,ip]);subst this;exact⟨[],fun w' _=>by cases bs<;>simp only[Builtin.firstCells,ip]<;>rfl,rfl,fun k W=>by simp at W⟩
 obtain⟨L,d1,Z⟩:=fv (t:=t) (u:=u) (ty:=ty) (Y:=Y) hd hu b7 hn hi a8 hb0 b3 a7 F c3 hc J;refine⟨L,_,d1,Z, ?_,fun k W=> ?_⟩
 ·have b6:z.cells.size=n:=by rw[<-aU,b1];exact hzl
  have e3:len*n+m*n+(L-(len+m))*n=L*n:=by rw[<-bE,<-bE];congr 1;omega
  simp only[ae,cQ,bZ,E,<-y.len,ce,b6];omega
 ·have c7:k<os.length+ns.length:=by rw[E,<-y.len,<-ae];exact W
  rw[aS,ls os ns _ k c7]
  by_cases O:k<fl.length
  ·have e1:(fl++h).getD k .undef=fl.getD k .undef:=by simp only[aa,bo O]
   have e2:((os++ns)[k]?).getD undef=os.getD k undef:=by simp only[aa,bo (show k<os.length by omega)]
   rw[e1,e2];exact a2 k O
  ·have e1:(fl++h).getD k .undef=h.getD (k-fl.length) .undef:=by simp only[aa,bA (Nat.le_of_not_lt O)]
   have e2:((os++ns)[k]?).getD undef=ns.getD (k-fl.length) undef:=by simp only[aa,bA (show os.length<=k by omega),E]
   rw[e1,e2];exact y.rep _ (by rw[ae]at W;omega)
theorem lZ{n:Nat}{fl:t8}{X:Value}{len cap:Nat}(hX:Gz x.G n fl X len cap)(y:dR x n .clip X):cap=len:=by
 obtain⟨a,k,F⟩:=y;obtain⟨_,_,E⟩:=hX;rcases E with⟨b,off,h,_⟩|⟨h,h1,h2⟩
 ·rw[h]at F;simp only[Value.slice.injEq]at F;omega
 ·omega
theorem oP(o:Nat)(obj:aH):∀l:List (Nat×aH),bP o (o+1) (setO o obj l)=bP o (o+1) l
 |[]=>rfl
 |p::r=>by
  simp only[setO]
  by_cases h:p.1=o
  ·rw[if_pos h]
   simp only[bP];rw[if_pos (by omega),if_pos (by omega)]
  ·rw[if_neg h]
   simp only[bP];rw[if_neg (by omega),if_neg (by omega),oP o obj r]
theorem AQ{o:Oper}{z:t8}{by_ F sz n:Nat}{r q:Arg}(h:M C N c a w)(hr:bG P o=some (.app z by_ r q))(hd:∀k,o.dst=some k->k<N)(hx:c.ev r= .psl F sz 0 n none)
 (hc:TW c z by_ F sz n o.dst (gC c z.length (.psl F sz 0 n none)) (gC c z.length (c.ev q))=some c') {K:LBb} {Q:LBa} (hK:∀a w,M C N c' a w->K a w):o.wp P a w K Q:=by
 obtain⟨x,s,hM,hS⟩:=h;obtain⟨X,Y,t,u,el,d2,zs,I,b0,_⟩:=xaR hr (.inl rfl) a;have b0:=b0 rfl;have h1:=aP hM I.hX;have h2:=aP hM I.hY;rw[hS.ev,hx]at h1;unfold TW at hc;split at hc<;>try (cases hc;done)
 rename_i k R0 E hk a6 f2;rw[aK]at hc;obtain⟨⟨rfl,J,b7⟩,hc⟩:=hc;obtain⟨p0,d5,g4⟩:=lx hS a6;obtain⟨p1,b1,g3⟩:=lx hS f2;rw[<-hS.ev]at b1;obtain⟨os,g0,n0,s0⟩:=rE (P:=P) hM h1 d5 g4;obtain⟨ns,g1,n1,s1⟩:=rE (P:=P) hM h2 b1 g3
 obtain⟨O,hl,g6,b4⟩:∃O,c.look F=some (.arr z.length O)/\n<=O.length/\R0=O.take n:=by
  simp only[gC]at a6;split at a6
  ·rename_i i2 O hl
   obtain⟨⟨_,e1,e2⟩,e3⟩:=bY a6;exact⟨O,by rw[hl,<-e1],by omega,by rw[<-e3];rfl⟩
  ·cases a6
 obtain⟨cp,i1,a2,d7,b5,f1⟩:=h1.psl_invK;have a7:ns.length=E.length*z.length:=by rw[<-n1.len,bW g1]
 have e8:os.length=n*z.length:=by rw[<-n0.len,bW g0,J]
 have c7:s.look F=some (.arr z.length O):=(hS.look F).trans hl;obtain⟨cc,e,fl,fh,hO,⟨i3,e4,d4⟩,c5⟩:=fD hM c7;have W:∀y∈R0++E,y.length=z.length:=fun y hy=>(am.1 hy).elim (g0 y) (g1 y)
 have h6:∀y∈O,y.length=z.length:=hS.rows hl;have hN:=n0.append n1;rw[<-b9]at hN;have L:(aH.arr z.length (R0++E)).size=(n+E.length)*z.length:=by simp only[aH.size,ae,J]
 have Z:=(hS.purge F (F+1)).app (d:=o.dst) hd (e:= {val:= .psl (k+100) z.length 0 (n+E.length) none,new:=some (.arr z.length (R0++E))}) (f:= {pre:=True,val:= .psl (k+100) z.length 0 (n+E.length) none,new:=some (.arr z.length (R0++E))}) ⟨rfl,rfl,rfl,rfl,rfl⟩ ⟨fun ob he=>by cases he;exact gn.2 W,.inl rfl⟩;have f4:=ax.inj hc;subst f4;have d1:=I.ex;rw[d7]at d1;have e5:(n+E.length)*z.length=n*z.length+E.length*z.length:=bE _ _ _
 by_cases a1:n+E.length<=cp
 ·have b6:n*z.length+ns.length<=cc.size:=by
   rcases f1 with h0|h0
   ·have h3:n=0:=by omega
    have h4:E.length=0:=by omega
    rw[a7,h3,h4];omega
   ·have h3:(n+E.length)*z.length<=cp*z.length:=bh _ a1
    rw[a7];omega
  obtain⟨q1,q2,q3,q4,q5⟩:=dM ((x.bk F).1) ns w (n*z.length);obtain⟨c2,h9,c3,i0⟩:=dv ns w (n*z.length) cc hO b6
  have f7:aR C x (s.setO F (.arr z.length (R0++E))) a (cd w ((x.bk F).1) (n*z.length) ns):=
   ⟨hM.tm,hM.defers,hM.heap.block (dr c7) q1 q2 q3 q4 q5 ⟨c2,e,fl,fh,h9,⟨by rw[L,c3];omega,by rw[c3];exact e4,fun h=>by rw[c3];exact d4 rfl⟩,fun i hi=>by
    rw[L]at hi;rw[i0 i];have h7:i<(R0++E).length*z.length:=by rw[ae,J];exact hi
    show cL x.G ((((R0++E)).getD (i/z.length) []).getD (i % z.length) .undef) _;rw[<-cV _ W i h7,b9];have d3:R0.flatten.length=n*z.length:=by rw[bW g0,J]
    by_cases d6:n*z.length<=i
    ·rw[if_pos ⟨d6,by omega⟩]
     have:=n1.rep (i-n*z.length) (by rw[bW g1];omega);rw[aa,bA (by omega),d3,<-aa];exact this
    ·rw[if_neg (fun h=>d6 h.1)]
     have i4:n*z.length<=O.length*z.length:=bh _ g6;have h3:=c5 i (by simp only[aH.size];omega);change cL x.G ((O.getD (i/z.length) []).getD (i % z.length) .undef) _ at h3;rw[<-cV O h6 i (by omega)]at h3;rw[aa,bo (by omega),b4]
     have e6:O.flatten[i]? =(O.take n).flatten[i]? :=by
      have:O.flatten=(O.take n).flatten++(O.drop n).flatten:=by rw[<-b9,dH]
      rw[this,bo (by rw[<-b4];omega)]
     rw[<-e6,<-aa];exact h3⟩⟩
  have e0:=f7.move (d:=k+100) (by omega) (obj:= .arr z.length (R0++E)) (by show(setO F _ s.ob).lookup F=_;have h3:s.ob.lookup F=some (.arr z.length O):=c7;rw[lm,if_pos ⟨rfl,by rw[h3];rfl⟩]) (fun cs e=>by cases e)
  have h8:(s.setO F (.arr z.length (R0++E))).purge F (F+1)=s.purge F (F+1):=by simp only[St.purge,St.setO,oP]
  rw[h8]at e0;have f0:(x.newO (k+100) (x.bk F).1 (x.bk F).2).bk (k+100)=x.bk F:=if_pos rfl
  have hv:Rep (x.newO (k+100) (x.bk F).1 (x.bk F).2) (.psl (k+100) z.length 0 (n+E.length) none) (.slice (some ⟨(x.bk F).1,a2,none⟩) (n+E.length) cp):=by have:=Rep.psl (x:=x.newO (k+100) (x.bk F).1 (x.bk F).2) (k+100) z.length 0 (n+E.length) none a2 cp b5 a1 (fun _ e=>by cases e) (fun _=>by rw[f0];exact f1);rw[f0]at this;exact this
  have g5:=e0.put o.dst hv
  have a8:=fc (P:=P) (t:=t) (u:=u) (ty:=o.type) (Y:=a.eval Y) (bs:=some ⟨(x.bk F).1,a2,none⟩) (len:=n) (m:=E.length) (cap:=cp) (w1:=cd w ((x.bk F).1) (n*z.length) ns) I.hd I.hu b0 I.hn (s1.len w rfl) (s1.cells w rfl) a1 (by
   simp only[dD]
   by_cases f5:cp=0
   ·have:ns=[]:=cu.1 (by
     rw[a7];have:E.length=0:=by omega
     rw[this,ip])
    rw[this];simp[storeCells,cd]
   ·rw[b5.resolve_left f5,ip,bT]
    exact fZ (n*z.length) ns w cc 0 hO (by omega) n1.one)
  refine dL ⟨_,_,_,.value _, ?_,.inl rfl,g5⟩ (k:=Sim N _) ?_ hK
  ·rw[d1];simp only[aD,a8,an,aN]
  ·rw[hk]at Z ⊢
   exact Z
 ·obtain⟨i,hi,g7⟩:=H6 I.hby
  obtain⟨zv,g8,g9⟩:=db I.hz
  obtain⟨nc,e9,a8⟩:=fv (P:=P) (t:=t) (u:=u) (ty:=o.type) (Y:=a.eval Y) (bs:=some ⟨(x.bk F).1,a2,none⟩) (len:=n) (m:=E.length) (cap:=cp) (os:=os) (ns:=ns) I.hd I.hu b0 I.hn hi g7 I.hb0 g9 s1.len s1.cells (by have:=s0.cells;rw[d7,J]at this;exact this) a1 b7
  have g2:zv.cells.size=z.length:=by rw[<-aU,g8];exact I.hzl.symm
  have b3:(os.toArray++ns.toArray++Builtin.zeroCells zv.cells (nc-(n+E.length))).size=nc*z.length:=by simp only[cQ,bZ,ce,g2,e8,a7];rw[<-bE,<-bE];congr 1;omega
  have h5:=(hM.purge F (F+1)).drew.newObjF (d:=k+100) o.dst (by omega) (.arr z.length (R0++E)) (cv:=os.toArray++ns.toArray++Builtin.zeroCells zv.cells (nc-(n+E.length))) (t:=el) (fl:=0) (fh:=0) (val:= .psl (k+100) z.length 0 (n+E.length) none) (u:= .slice (some ⟨w.heap.size,0,none⟩) (n+E.length) nc) (fun i hi h=>by omega) (by
   rw[L,b3];exact bh _ e9) (fun i hi=>by
   rw[L]at hi;have h3:=H8 W hN i (by rw[ae,J];exact hi)
   have e7:(os.toArray++ns.toArray++Builtin.zeroCells zv.cells (nc-(n+E.length))).getD i undef=(⟨os++ns⟩:LAd).getD i undef:=by rw[aS,ls os ns _ i (by rw[e8,a7];omega),aS];simp
   rw[e7];exact h3) (fun _ h=>by omega) (by
   have:=Rep.psl (x:=x.newO (k+100) w.drew.heap.size (os.toArray++ns.toArray++Builtin.zeroCells zv.cells (nc-(n+E.length))).size) (k+100) z.length 0 (n+E.length) none 0 nc (.inr (by omega)) e9 (fun _ e=>by cases e) (fun _=> .inr (by rw[iZ,b3];omega));rw[kV]at this;exact this) (w':=w.drew.alloc (.cells (os.toArray++ns.toArray++Builtin.zeroCells zv.cells (nc-(n+E.length))) el (0,0))) rfl rfl rfl rfl
  refine dL ⟨_,_,_,.value _, ?_,.inl rfl,h5⟩ (k:=Sim N _) ?_ hK
  ·rw[d1];simp only[aD,a8,an,aN]
  ·rw[hk]at Z ⊢
   exact Z
theorem ql{o:Oper}{z:t8}{by_:Nat}{r q:Arg}(h:M C N c a w)(O:bG P o=some (.app z by_ r q))(hd:∀k,o.dst=some k->k<N)(F:ua c o.dst z by_ q (c.ev r)=some c'){K:LBb}{Q:LBa}(hK:∀a w,M C N c' a w->K a w):o.wp P a w K Q:=by
 by_cases b6:∃o' sz n,c.ev r= .psl o' sz 0 n none
 ·obtain⟨o',sz,n,hx⟩:=b6
  rw[hx]at F;exact AQ h O hd hx F hK
 obtain⟨x,s,hM,hS⟩:=h;obtain⟨cl,ho,hb⟩:=xnX O;simp only[bG,ho,hb]at O;split at O<;>try (cases O;done)
 rename_i X Y t u hX ht;split at O<;>try (cases O;done)
 rename_i el d2 r' q' b3 hu e5 e6;split at O<;>try (cases O;done)
 rename_i n e7 z' hn hby hz
 rw[aK]at O;obtain⟨a8,O⟩:=O;simp only[aC,decide_eq_true_eq]at a8;obtain⟨⟨hb0,hn0⟩,d5⟩:=a8;obtain⟨zs,e1,e9,_⟩:=kj hz;have hzl:zs.length=n:=by omega
 obtain⟨b4,rfl,rfl,rfl,rfl⟩:((∃e',d2= .slice e')\/d2= .string)/\z'=z/\e7=by_/\r'=r/\q'=q:=by
  split at O<;>try (cases O;done)
  ·cases O;exact⟨.inl ⟨_,rfl⟩,rfl,rfl,rfl,rfl⟩
  ·rw[aK]at O
   obtain⟨_,O⟩:=O;cases O;exact⟨.inr rfl,rfl,rfl,rfl,rfl⟩
 have h1:=aP hM e5;have h2:=aP hM e6;have ea:cl.args= #[X,Y]:=by apply eI;simpa using hX
 have et:cl.argTypes= #[t,u]:=by apply eI;simpa using ht
 have d3:=gq (a:=a) ho hb _ rfl;rw[ea,et]at d3;have em: #[X,Y].map a.eval= #[a.eval X,a.eval Y]:=by simp
 rw[em]at d3
 have Z:∀{v w'},(Builtin.append_ #[t,u] o.type #[a.eval X,a.eval Y]).run P w= .ok v w'->(execOp a.eval o).run P w= .ok (.value v) w':=by intro v w' E;rw[d3];simp[E]
 rw[hS.ev]at h1
 have d4:∀{k nc cv}(obj:aH)(sz m:Nat),o.dst=some k->m<=nc->(Builtin.append_ #[t,u] o.type #[a.eval X,a.eval Y]).run P w= .ok (.slice (some ⟨w.heap.size,0,none⟩) m nc) (w.drew.alloc (.cells cv el (0,0)))->
  obj.size<=cv.size->nc*sz<=cv.size->(∀i,i<obj.size->cx x obj i (cv.getD i undef))->obj.wf=true->c'=c.app (some k) {val:= .psl (k+100) sz 0 m none,new:=some obj}->o.wp P a w K Q:=by
  intro k nc cv obj sz m hk b0 E a2 f0 I e3 e2;subst e2
  have e8:=hM.drew.newObjF (d:=k+100) o.dst (by omega) obj (cv:=cv) (t:=el) (fl:=0) (fh:=0) (val:= .psl (k+100) sz 0 m none) (u:= .slice (some ⟨w.heap.size,0,none⟩) m nc) (fun i hi h=>by omega) a2 I (fun _ h=>by omega) (by have:=Rep.psl (x:=x.newO (k+100) w.drew.heap.size cv.size) (k+100) sz 0 m none 0 nc (.inr (by omega)) b0 (fun _ e=>by cases e) (fun _=> .inr (by rw[iZ];omega));rw[kV]at this;exact this) (w':=w.drew.alloc (.cells cv el (0,0))) rfl rfl rfl rfl
  refine dL ⟨_,_,_,_,Z E,.inl rfl,e8⟩ (k:=Sim N _) ?_ hK;have:=hS.app hd (e:= {val:= .psl (k+100) sz 0 m none,new:=some obj}) (f:= {pre:=True,val:= .psl (k+100) sz 0 m none,new:=some obj}) ⟨rfl,rfl,rfl,rfl,rfl⟩ ⟨fun ob he=>by cases he;exact e3,.inl rfl⟩;rw[hk]at this ⊢;exact this
 unfold ua at F;split at F<;>try (cases F;done)
 ·rename_i l tk hl
  rw[aK]at F;obtain⟨rfl,F⟩:=F;unfold Zm at F;split at F<;>try (cases F;done)
  rename_i k l' hk b7;split at F<;>try (cases F;done)
  rename_i d7;have d7:z'.length=1:=Classical.not_not.1 d7;obtain rfl:n=1:=by omega
  obtain⟨p,W,c3⟩:=oL hS b7;rw[<-hS.ev]at W;rw[hl]at h1;obtain⟨g1,g2⟩:=jB (P:=P) hM h2 W c3;obtain⟨_,_,_,_,_,a7⟩:=h1.byt_inv;obtain⟨cap,hF,_⟩:=zo (h1.data rfl)
  by_cases J:l'=[]
  ·rw[if_pos J]at F
   cases F;subst J
   obtain⟨bs,d1⟩:∃bs,a.eval X= .slice bs l.length cap:=by
    rcases hF.2.2 with⟨b,off,h,_⟩|⟨h,h1,h2⟩
    ·exact⟨_,h⟩
    ·exact⟨_,by rw[h.choose_spec,h1,h2]⟩
   have b1:=lZ hF a7;rw[d1]at h1 Z
   have E:=fc (P:=P) (t:=t) (u:=u) (ty:=o.type) (Y:=a.eval Y) (ns:=[]) (w:=w) (w1:=w) (m:=0) (bs:=bs) (len:=l.length) (cap:=cap) b3 hu b4 hn (g1 w rfl) (by have:=g2 0 (aJ _) w rfl;simpa using this) (by omega) (by cases bs<;>rfl)
   refine dL ⟨_,_,_,_,Z E,.inl rfl,hM.put o.dst h1⟩ (k:=Sim N _) ?_ hK;have:=hS.put hd (.byt l .clip);rw[hk]at this ⊢;exact this
  ·rw[if_neg J]at F
   rw[aK]at F;obtain⟨⟨rfl,a6⟩,F⟩:=F;have b1:=lZ hF a7;have e0:0<l'.length:=List.length_pos_iff.2 J
   obtain⟨nc,cv,b0,E,a2,I⟩:=uN (ty:=o.type) hM b3 hu b4 hn hby e1 hb0 hzl hF g1 (fun w' c7=>by have:=g2 l'.length (aJ _) w' c7;rwa[dA]at this) (by simp) (ue l') (by omega) (by omega)
   refine d4 (.bar (l++l')) 1 _ hk b0 E (by simp only[aH.size];simpa using a2.1) a2.2 (fun i hi=> ?_) rfl (ax.inj F).symm;simp only[aH.size]at hi;have:=I i (by simpa using hi);rw[<-cf,jp _ _ hi]at this;exact this
 ·rename_i sz l tk hl
  rw[aK]at F;obtain⟨rfl,F⟩:=F;unfold Zl at F;split at F<;>try (cases F;done)
  rename_i k l' hk b7;obtain⟨p,W,c3⟩:=lx hS b7;rw[<-hS.ev]at W;rw[hl]at h1;obtain⟨a1,g1,ns,b5,g2⟩:=iH (P:=P) hM h2 W c3;obtain⟨_,_,_,_,_,a7⟩:=h1.lst_inv;obtain⟨cap,hF,_,c5⟩:=r5 (h1.data rfl)
  by_cases J:l'=[]
  ·rw[if_pos J]at F
   cases F;subst J
   obtain⟨bs,d1⟩:∃bs,a.eval X= .slice bs l.length cap:=by
    rcases hF.2.2 with⟨b,off,h,_⟩|⟨h,h1,h2⟩
    ·exact⟨_,h⟩
    ·exact⟨_,by rw[h.choose_spec,h1,h2]⟩
   have b1:=lZ hF a7;rw[d1]at h1 Z
   have E:=fc (P:=P) (t:=t) (u:=u) (ty:=o.type) (Y:=a.eval Y) (ns:=[]) (w:=w) (w1:=w) (m:=0) (bs:=bs) (len:=l.length) (cap:=cap) b3 hu b4 hn (g1 w rfl) (by have:=g2 0 (aJ _) w rfl;rw[d5]at this;simpa using this) (by omega) (by cases bs<;>rfl)
   refine dL ⟨_,_,_,_,Z E,.inl rfl,hM.put o.dst h1⟩ (k:=Sim N _) ?_ hK;have:=hS.put hd (.lst sz l .clip);rw[hk]at this ⊢;exact this
  ·rw[if_neg J]at F
   rw[aK]at F;obtain⟨⟨rfl,a6⟩,F⟩:=F;obtain rfl:n=z'.length:=by omega
   have b1:=lZ hF a7;have e0:0<l'.length:=List.length_pos_iff.2 J;have d6:ns.length=l'.length*z'.length:=by rw[<-b5.len,bW a1]
   obtain⟨nc,cv,b0,E,a2,I⟩:=uN (ty:=o.type) hM b3 hu b4 hn hby e1 hb0 hzl hF g1 (fun w' c7=>by have:=g2 l'.length (aJ _) w' c7;rwa[<-d6,dA]at this) d6 b5 a6 (by omega)
   have L:∀y∈l++l',y.length=z'.length:=fun y hy=>(am.1 hy).elim (c5 y) (a1 y)
   have e4:(l++l').length*z'.length=(l.flatten++l'.flatten).length:=by rw[<-b9,bW L]
   refine d4 (.arr z'.length (l++l')) z'.length _ hk b0 E (by simp only[aH.size];omega) a2.2 (fun i hi=> ?_) (gn.2 L) (ax.inj F).symm;simp only[aH.size]at hi;have:=I i (by omega);rw[<-b9,cV _ L i hi]at this;exact this
 ·rename_i o' sz n hl
  exact absurd ⟨o',sz,n,hl⟩ b6
theorem uc(J:gY P call){o:Oper}{so:SOp}(h:M C N c a w)(E:tG P o so.er)(hd:∀k,o.dst=some k->k<N)(I:opC call sg c o.dst so=some c'){K:LBb}{Q:LBa}(hK:∀a w,M C N c' a w->K a w):o.wp P a w K Q:=by
 by_cases L:∃z b q y,so= .appO z b q y
 ·obtain⟨z,b,q,y,rfl⟩:=L
  exact ql h (E.old (by intro Z e;cases e)) hd I hK
 have a8:so.er=so:=by cases so<;>first|rfl|exact absurd ⟨_,_,_,_,rfl⟩ L
 rw[a8]at E
 by_cases O:∃Z,so= .newB Z
 ·obtain⟨Z,rfl⟩:=O
  rcases E with W|⟨ys,e,W⟩
  ·exact(J1 W).elim
  ·cases e
   exact qu h W hd I hK
 have W:=E.old fun Z e=>O ⟨Z,e⟩
 by_cases a7:∃q,so= .slid q
 ·obtain⟨q,rfl⟩:=a7
  exact At h W hd I hK
 by_cases a2:∃f a_,so= .call f a_
 ·obtain⟨f,a_,rfl⟩:=a2
  simp only[opC]at I;split at I<;>try (cases I;done)
  rename_i g c1 c2 hg;obtain⟨x,s,hM,hS⟩:=h;obtain⟨cl,F,ho,hb,h1,h2,h3⟩:=K4 W;obtain⟨b4,b3,k',q',b0⟩:=Bi I;have b1:ez P g=true:=(J _ _ _ _ _ b0).1;obtain⟨vs,a1,a6⟩:=HR hM ho hb h1 h2 h3 (by rw[hS.ev];exact hg) b1;rw[<-hS.evL]at a6;exact xQ a1 (x7 hM hS hd (J g) I a6) hK
 ·refine xpz h W hd ?_ hK
  cases so with
  |call f a_=>exact absurd ⟨f,a_,rfl⟩ a2
  |newB Z=>exact absurd ⟨Z,rfl⟩ O
  |slid q=>exact absurd ⟨q,rfl⟩ a7
  |appO z b q y=>exact absurd ⟨_,_,_,_,rfl⟩ L
  |_=>exact I
theorem AR{o:Oper}{E:Nat}{xs:List Arg}(h:M C N c a w)(F:bG P o=some (.lit E xs))(hd:∀k,o.dst=some k->k<N)(O:Zk c E o.dst (rows E (evL c xs))=some c'){K:LBb}{Q:LBa}(hK:∀a w,M C N c' a w->K a w):o.wp P a w K Q:=by
 obtain⟨x,s,hM,hS⟩:=h;rw[hS.evL]at O;unfold Zk at O;split at O<;>try (cases O;done)
 rename_i k l hk hl;cases O
 obtain⟨t,len,y,W⟩:∃t len y,o.op= .buildSlice t len y:=by
  cases W:o.op with
  |buildSlice t len y=>exact⟨t,len,y,rfl⟩
  |_=>exfalso;exact absurd F (by
   intro F;simp only[bG,W]at F
   first
    |(cases F;done)
    |(obtain⟨_,_,h⟩:=ah.1 F;cases h;done)
    |(repeat' split at F)<;>first|(cases F;done)|contradiction|(obtain⟨_,_,h⟩:=ah.1 F;first|(cases h;done)|(split at h<;>cases h;done)))
 obtain⟨r,e,L,a1,J,I⟩:=AB hM W F hl
 have Z:=hM.newObj (d:=k+100) o.dst (by omega) (.arr E l) (val:= .psl (k+100) E 0 l.length (some l.length)) (u:= .slice (some ⟨w.heap.size,0,none⟩) l.length l.length) (t:=e) (by simp only[aH.size];omega) (fun i hi=>I i hi) (by have:=Rep.psl (x:=x.newO (k+100) w.heap.size) (k+100) E 0 l.length (some l.length) 0 l.length (.inr (by omega)) (aJ _) (fun _ e=>by cases e;rfl) (fun e=>by cases e);rwa[kV]at this)
 refine dL ⟨_,_,_,_,L,.inl rfl,Z⟩ (k:=Sim N _) ?_ hK;have:=hS.app hd (e:= {val:= .psl (k+100) E 0 l.length (some l.length),new:=some (.arr E l)}) (f:= {pre:=True,val:= .psl (k+100) E 0 l.length (some l.length),new:=some (.arr E l)}) ⟨rfl,rfl,rfl,rfl,rfl⟩ ⟨fun ob he=>by cases he;exact gn.2 J,.inl rfl⟩;rw[hk]at this ⊢;exact this
theorem AP{ops:Array Oper}{n:Nat}{o:Oper}{i:SI}(h:M C N c a w)(hi:i.ok N=true)(ho:ops[n]? =some o)(hr:gT P ops o=some i)(F:vJ c i=some c'){K:LBb}{Q:LBa}
 (hK:∀a w,M C N c' a w->K a w):wpOp P ops Q n K a w:=by
 obtain⟨J,W,O⟩:=lS hr
 have hd:∀k,i.dst=some k->k<N:=by intro k Z;unfold SI.ok at hi;rw[Z]at hi;simpa using hi
 unfold wpOp;rw[ho];simp only;unfold vJ at F;split at F<;>try (cases F;done)
 rename_i hg;rcases O with⟨_,L⟩|⟨j,b,g,hg',_⟩
 ·rw[lk L,if_pos rfl]
  rw[W]at F hd;left;unfold xu4 at F;split at F<;>try (cases F;done)
  ·rename_i sz I E
   exact AR h (J.old (fun I e=>by rw[e]at E;cases E)|>fun e=>by rw[E]at e;exact e) hd F hK
  ·rename_i I E
   exact qu h (J.old (fun I e=>by rw[e]at E;cases E)|>fun e=>by rw[E]at e;exact e) hd F hK
  ·rename_i q E
   exact AS h (J.old (fun I e=>by rw[e]at E;cases E)|>fun e=>by rw[E]at e;exact e) hd F hK
  ·rename_i z by_ q y E
   exact ql h (J.old (fun I e=>by rw[e]at E;cases E)|>fun e=>by rw[E]at e;exact e) hd F hK
 ·rw[hg]at hg';cases hg'
theorem Af{ops:Array Oper}{n:Nat}{o:Oper}{i:SI}(h:M C N c a w)(hi:i.ok N=true)(Z:ops[n]? =some o)(W:gT P ops o=some i)(y:DQ c i=some c'){K:LBb}{Q:LBa}
 (hK:∀a w,M C N c' a w->K a w):wpOp P ops Q n K a w:=by
 obtain⟨L,J,I⟩:=lS W
 have hd:∀k,i.dst=some k->k<N:=by intro k O;unfold SI.ok at hi;rw[O]at hi;simpa using hi
 unfold wpOp;rw[Z];simp only;unfold DQ at y;split at y<;>try (cases y;done)
 rename_i hg;rcases I with⟨_,F⟩|⟨j,b,g,hg',_⟩
 ·rw[lk F,if_pos rfl]
  rw[J]at y hd;left;unfold xto at y;split at y<;>try (cases y;done)
  ·rename_i q E
   exact Ag h (L.old (fun xs e=>by rw[e]at E;cases E)|>fun e=>by rw[E]at e;exact e) hd y hK
 ·rw[hg]at hg';cases hg'
theorem ie(F:gY P call){ops:Array Oper}{n:Nat}{o:Oper}{i:SI}(h:M C N c a w)(hi:i.ok N=true)(ho:ops[n]? =some o)(hr:gT P ops o=some i.er)(y:eD call sg c i=some c'){K:LBb}{Q:LBa}
 (hK:∀a w,M C N c' a w->K a w):wpOp P ops Q n K a w:=by
 obtain⟨O,I,h3⟩:=lS hr;change tG P o i.op.er at O;change i.dst=o.dst at I;change (i.g=none/\o.guard=none\/∃j b g,i.g=some (g,b)/\o.guard=some (j,b)/\(ops[j]?).bind (·.dst)=some g)at h3
 have hd:∀k,i.dst=some k->k<N:=by intro k hk;unfold SI.ok at hi;rw[hk]at hi;simpa using hi
 unfold wpOp;rw[ho];simp only;unfold eD at y;rcases h3 with⟨Z,E⟩|⟨j,b,g,Z,E,hdg⟩
 ·rw[Z]at y
  rw[lk E,if_pos rfl];rw[I]at y hd;exact .inl (uc F h O hd y hK)
 ·rw[Z]at y
  simp only at y;split at y<;>try (cases y;done)
  rotate_left
  ·rename_i W
   cases y;obtain⟨x,s,hM,L⟩:=h;rw[xS E hdg (KK hM L W),if_neg (by simp)];rw[I]at hd;rw[I]at hK;exact hK _ _ ⟨x,_,hM.put o.dst yA,L.put hd _⟩
  rename_i t W;have hv:a.tmps[g]? =some (.bool t):=by obtain⟨x,s,hM,L⟩:=h;exact KJ hM L W
  rw[xR E hdg hv];split at y
  ·rename_i J
   subst J;rw[if_pos (by simp)];rw[I]at y hd;exact .inl (uc F h O hd y hK)
  ·rename_i J
   cases y;rw[if_neg (by simpa using J)];obtain⟨x,s,hM,L⟩:=h;rw[I]at hd;rw[I]at hK;exact hK _ _ ⟨x,_,hM.put o.dst yA,L.put hd _⟩
theorem kh(y:gY P call){ops:Array Oper}{n:Nat}{o:Oper}{i:SI}(h:M C N c a w)(hi:i.ok N=true)(I:ops[n]? =some o)(E:gT P ops o=some i)(F:eD call sg c i=some c'){K:LBb}{Q:LBa}
 (hK:∀a w,M C N c' a w->K a w):wpOp P ops Q n K a w:=ie y h hi I (by rw[xrO E];exact E) F hK
theorem iu{d:LAb}{g:Nat}{t:Bool}{v:SV}(hd:d≠some g)(h:c.get g= .bool t):(c.put d v).get g= .bool t:=by
 cases d with
 |none=>exact h
 |some k=>rw[iy,if_neg (fun e=>hd (by rw[e]))];exact h
theorem Hy{d:LAb}{g:Nat}{u v:SV}(hd:d≠some g)(h:c.get g=u):(c.put d v).get g=u:=by
 cases d with
 |none=>exact h
 |some k=>rw[iy,if_neg (fun e=>hd (by rw[e]))];exact h
theorem kD{g lo hi:Nat}{t:Bool}{l:List (Nat×SV)}(h:ff l g= .bool t):ff (dN lo hi l) g= .bool t:=by rw[gW,h];rfl
theorem lG{d:LAb}{g:Nat}{t:Bool}{e:pJ}(hd:d≠some g)(h:c.get g= .bool t):(c.app d e).get g= .bool t:=by
 have wr:∀(l:List (Nat×aH))(c:CSt),(c.wr l).tm=c.tm:=by
  intro l;induction l with
  |nil=>intro c;rfl
  |cons p r y=>intro c;simp only[CSt.wr];rw[y]
 unfold CSt.app;split
 ·exact iu (c:=⟨_,_,_⟩) hd (kD h)
 ·exact iu (c:=⟨_,_,_⟩) hd (kD h)
 ·refine iu hd ?_
  show ff (c.wr e.wr).tm g=_;rw[wr];exact h
theorem qC{d:LAb}{g:Nat}{t:Bool}{m mt:LAa}{q:dV}(hd:d≠some g)(h:c.get g= .bool t):(kZ c d m mt q).get g= .bool t:=iu (c:=⟨_,_,_⟩) hd (kD h)
theorem mY{g o:Nat}{t:Bool}{vs:t8}(h:c.get g= .bool t):(c.publish o vs).1.get g= .bool t:=by
 have k:∀obj,ff (mU o obj c.tm) g= .bool t:=fun obj=>by rw[lH];have:ff c.tm g= .bool t:=h;rw[this];rfl
 unfold CSt.publish;split
 ·exact k _
 ·exact k _
 ·exact h
theorem oU{g:Nat}{t:Bool}:∀{l:LAa}{c:CSt}{vs:t8},c.get g= .bool t->(fB c vs l).1.get g= .bool t
 |[],_,_,h=>h
 |o::r,c,vs,h=>by show(fB (c.publish o vs).1 (c.publish o vs).2 r).1.get g=_;exact oU (mY h)
theorem HB{sg:Sig}{d:LAb}{g n:Nat}{a_:t8}{t:Bool}(y:i9 call sg c d n a_=some c')(hd:d≠some g)(h:c.get g= .bool t):c'.get g= .bool t:=by
 unfold i9 at y;generalize ((SV.idsL a_).isEmpty&&sg.own.isEmpty)=b at y;cases b with
 |true=>
  simp only[kY]at y;cases hq:call n (SV.bareL a_) [] 0 with
  |none=>rw[hq]at y;cases y
  |some q=>
   rw[hq]at y;simp only[nM]at y;cases hb:q.bare with
   |true=>rw[hb]at y;cases y;exact iu hd h
   |false=>
    rw[hb]at y;simp only[pw]at y;cases hs:q.small with
    |true=>rw[hs]at y;cases y;exact qC hd h
    |false=>rw[hs]at y;cases y
 |false=>
  simp only[kY]at y;have O:=oU (l:=jN sg.raw 0 a_) (vs:=a_) h;generalize fB c a_ (jN sg.raw 0 a_)=z at y O;obtain⟨c1,J⟩:=z;simp only[kQ]at y;generalize ld c1.tk sg.own 50 0 J=z at y;obtain⟨F,E⟩:=z;simp only[pf]at y;generalize eE c1 60 [] (SV.idsL F)=m at y;cases ho:ik c1 m with
  |none=>rw[ho]at y;cases y
  |some L=>
   rw[ho]at y;simp only[mF]at y;generalize eW c1.tk (50+E.length) L=z at y;obtain⟨os,I⟩:=z;simp only[pe]at y;generalize (pP (SV.idsL F++gp os) m&&eh m&&eh (cI (E++I))&&decide (m.length<=40)&&m.all fun o=> !inR (d.getD 0) o)=b at y;cases b with
   |false=>cases y
   |true=>
    simp only[pd]at y;cases hq:call n (SV.renL (iv m) id F) (fb (iv m) id os) (E.length+I.length)with
    |none=>rw[hq]at y;cases y
    |some q=>
     rw[hq]at y;simp only[pU]at y;cases hs:q.small with
     |true=>rw[hs]at y;cases y;exact qC hd O
     |false=>rw[hs]at y;cases y
theorem Hz{d:LAb}{g:Nat}{z:t8}{b:Nat}{y:Arg}{v:SV}{t:Bool}(E:ua c d z b y v=some c')(hd:d≠some g)(h:c.get g= .bool t):c'.get g= .bool t:=by
 unfold ua at E;split at E<;>try (cases E;done)
 ·split at E<;>try (cases E;done)
  unfold Zm at E;split at E<;>try (cases E;done)
  split at E<;>try (cases E;done)
  split at E
  ·cases E;exact iu hd h
  ·split at E<;>try (cases E;done)
   cases E;exact lG hd h
 ·split at E<;>try (cases E;done)
  unfold Zl at E;split at E<;>try (cases E;done)
  split at E
  ·cases E;exact iu hd h
  ·split at E<;>try (cases E;done)
   cases E;exact lG hd h
 ·unfold TW at E
  split at E<;>try (cases E;done)
  split at E<;>try (cases E;done)
  cases E;exact lG hd (kD h)
theorem ZM{d:LAb}{g:Nat}{o:SOp}{t:Bool}(E:opC call sg c d o=some c')(hd:d≠some g)(h:c.get g= .bool t):c'.get g= .bool t:=by
 have e:oW c d (eJ c d o)=some c'->c'.get g= .bool t:=by
  intro E;cases he:eJ c d o with
  |none=>rw[he]at E;cases E
  |some e=>rw[he]at E;cases E;exact lG hd h
 cases o with
 |call f a_=>
  simp only[opC]at E;split at E<;>try (cases E;done)
  exact HB E hd h
 |appO z b q y=>exact Hz E hd h
 |newB F=>
  simp only[opC]at E;unfold pt at E;split at E<;>try (cases E;done)
  cases E;exact lG hd h
 |slid q=>
  simp only[opC]at E;unfold tq at E;split at E<;>try (cases E;done)
  unfold pV at E;split at E<;>try (cases E;done)
  split at E<;>try (cases E;done)
  cases E;exact iu hd (mY h)
 |_=>exact e E
theorem yJ{g:Nat}{b:Bool}{i:SI}(h:i.okG N g b=true):(∀k,i.dst=some k->k<N)/\i.g=some (g,b)/\i.dst≠some g:=by
 simp only[SI.okG,aC,decide_eq_true_eq]at h;obtain⟨⟨E,y⟩,F⟩:=h;refine⟨fun k I=> ?_, ?_,F⟩
 ·unfold SI.ok at E;rw[I]at E;simpa using E
 ·split at y
  ·rename_i O L J
   simp only[aC,decide_eq_true_eq,beq_iff_eq]at y;rw[J,y.1,y.2]
  ·cases y
theorem Hn(Z:gY P call){ops:Array Oper}{y E:LAe}(hl:kz (gT P ops) ops.toList=some y){Q:LBa}{g:Nat}{b:Bool}{c1:CSt}
 (a6:∀(m n:Nat),n+m=ops.size->E=y.drop n->∀a w,M C N c1 a w->wpOps P ops Q (tp n m) a w):
 ∀(l:LAe)(m n:Nat)(c:CSt)(a:Act)(w:World),n+m=ops.size->l++E=y.drop n->(∀i∈l,i.okG N g b=true)->M C N c a w->c.get g= .bool b->plC call sg l c=some c1->wpOps P ops Q (tp n m) a w:=by
 obtain⟨W,L⟩:=fC hl;intro l;induction l with
 |nil=>intro m n c a w hn I _ hM _ F;rw[TU]at F;cases F;exact a6 m n hn I a w hM
 |cons i l a2=>
  intro m n c a w hn I O hM ht F;obtain⟨g1,g2,g3⟩:=yJ (O i (aB ..));simp only[bi]at I
  have J:n<y.length:=by
   rcases bK n y.length with h|h
   ·exact h
   ·rw[bN h]at I;cases I
  rw[bt J]at I;obtain⟨b1,b3⟩:=mP.inj I;have a1:n<ops.toList.length:=by omega
  obtain⟨m',rfl⟩:∃m',m=m'+1:=⟨m-1,by rw[W,aU]at J;omega⟩;simp only[List.range'_succ];rw[wpOps_cons];rw[plC]at F;cases h1:opC call sg c i.dst i.op with
  |none=>rw[h1,FH]at F;cases F
  |some c2=>
   rw[h1,FG]at F;have a7:eD call sg c i=some c2:=by unfold eD;rw[g2];simp only[ht,if_true];exact h1
   have b0:i.ok N=true:=by
    unfold SI.ok;cases hdd:i.dst with
    |none=>rfl
    |some k=>simpa using g1 k hdd
   refine kh Z hM b0 (o:=ops.toList[n]) (by rw[<-cY,ac a1]) (by rw[b1];exact L n a1 J) a7 ?_;intro a' w' a8;exact a2 m' (n+1) c2 a' w' (by omega) b3 (fun j hj=>O j (aw _ hj)) a8 (ZM h1 g3 ht) F
theorem tL(W:gY P call){ops:Array Oper}{y E:LAe}(hl:kz (gT P ops) ops.toList=some y){Q:LBa}{g:Nat}{b:Bool}{v:SV}(b0:v= .tup []\/∃t,v= .bool t/\t≠b){c1:CSt}
 (a2:∀(m n:Nat),n+m=ops.size->E=y.drop n->∀a w,M C N c1 a w->wpOps P ops Q (tp n m) a w):
 ∀(l:LAe)(m n:Nat)(c:CSt)(a:Act)(w:World),n+m=ops.size->l++E=y.drop n->(∀i∈l,i.okG N g b=true)->M C N c a w->c.get g=v->unL c l=c1->wpOps P ops Q (tp n m) a w:=by
 obtain⟨O,J⟩:=fC hl;intro l;induction l with
 |nil=>intro m n c a w hn F _ hM _ hs;cases hs;exact a2 m n hn F a w hM
 |cons i l a1=>
  intro m n c a w hn F L hM ht hs;obtain⟨g1,g2,g3⟩:=yJ (L i (aB ..));simp only[bi]at F
  have I:n<y.length:=by
   rcases bK n y.length with h|h
   ·exact h
   ·rw[bN h]at F;cases F
  rw[bt I]at F;obtain⟨b1,b3⟩:=mP.inj F;have Z:n<ops.toList.length:=by omega
  obtain⟨m',rfl⟩:∃m',m=m'+1:=⟨m-1,by rw[O,aU]at I;omega⟩;simp only[List.range'_succ];rw[wpOps_cons]
  have a6:eD call (fun _=> {}) c i=some (c.put i.dst (.tup [])):=by
   unfold eD;rw[g2];simp only[ht];rcases b0 with rfl|⟨t,rfl,htb⟩
   ·rfl
   ·simp only[htb,if_false]
  have a8:i.ok N=true:=by
   unfold SI.ok;cases hdd:i.dst with
   |none=>rfl
   |some k=>simpa using g1 k hdd
  refine kh W hM a8 (o:=ops.toList[n]) (by rw[<-cY,ac Z]) (by rw[b1];exact J n Z I) a6 ?_;intro a' w' a7;exact a1 m' (n+1) _ a' w' (by omega) b3 (fun j hj=>L j (aw _ hj)) a7 (Hy g3 ht) hs
theorem AT(a6:gY P call){ops:Array Oper}{y:LAe}(hl:kz (gT P ops) ops.toList=some y){Q:LBa}:
 ∀(l:List RI)(m n:Nat),n+m=ops.size->erL l=y.drop n->l.all (RI.ok N)=true->∀{c:CSt}{a:Act}{w:World},M C N c a w->gw call sg l c=some c'->(∀a w,M C N c' a w->Q .normal a w)->wpOps P ops Q (tp n m) a w:=by
 obtain⟨a2,a7⟩:=fC hl;intro l;induction l with
 |nil=>
  intro m n hn F _ c a w hM E hQ;have h1:y.length<=n:=List.drop_eq_nil_iff.1 F.symm;rw[a2,aU]at h1;have:m=0:=by omega
  subst this;simp only[List.range'_zero,wpOps];rw[FC]at E;cases E;exact hQ _ _ hM
 |cons q r ih=>
  intro m n hn F b4 c a w hM E hQ;rw[List.all_cons,aC]at b4;obtain⟨Z,L⟩:=b4;cases q with
  |dir q=>
   rw[FE]at E;cases hd:s9 c q with
   |none=>rw[hd,mp]at E;cases E
   |some c1=>rw[hd,mn,rQ]at E;exact ih m n hn F L (qU hM hd) E hQ
  |own i I=>
   rw[FB]at E;simp only[erL]at F
   have J:n<y.length:=by
    rcases bK n y.length with h|h
    ·exact h
    ·rw[bN h]at F;cases F
   rw[bt J]at F;obtain⟨a8,b0⟩:=mP.inj F;have a1:n<ops.toList.length:=by omega
   obtain⟨m',rfl⟩:∃m',m=m'+1:=⟨m-1,by rw[a2,aU]at J;omega⟩;simp only[List.range'_succ];rw[wpOps_cons];cases hs:vJ c i with
   |none=>rw[hs,mp]at E;cases E
   |some c1=>rw[hs,mn]at E;refine AP hM Z (o:=ops.toList[n]) (by rw[<-cY,ac a1]) (by rw[a8];exact a7 n a1 J) hs ?_;intro a' w' W;exact ih m' (n+1) (by omega) b0 L (W.kill I) E hQ
  |tks i I=>
   rw[FA]at E;simp only[erL]at F
   have J:n<y.length:=by
    rcases bK n y.length with h|h
    ·exact h
    ·rw[bN h]at F;cases F
   rw[bt J]at F;obtain⟨a8,b0⟩:=mP.inj F;have a1:n<ops.toList.length:=by omega
   obtain⟨m',rfl⟩:∃m',m=m'+1:=⟨m-1,by rw[a2,aU]at J;omega⟩;simp only[List.range'_succ];rw[wpOps_cons];cases hs:DQ c i with
   |none=>rw[hs,mp]at E;cases E
   |some c1=>rw[hs,mn]at E;refine Af hM Z (o:=ops.toList[n]) (by rw[<-cY,ac a1]) (by rw[a8];exact a7 n a1 J) hs ?_;intro a' w' W;exact ih m' (n+1) (by omega) b0 L (W.kill I) E hQ
  |op i I=>
   rw[TX]at E;simp only[erL]at F
   have J:n<y.length:=by
    rcases bK n y.length with h|h
    ·exact h
    ·rw[bN h]at F;cases F
   rw[bt J]at F;obtain⟨a8,b0⟩:=mP.inj F;have a1:n<ops.toList.length:=by omega
   obtain⟨m',rfl⟩:∃m',m=m'+1:=⟨m-1,by rw[a2,aU]at J;omega⟩;simp only[List.range'_succ];rw[wpOps_cons];cases hs:eD call sg c i with
   |none=>rw[hs,mp]at E;cases E
   |some c1=>rw[hs,mn]at E;refine kh a6 hM Z (o:=ops.toList[n]) (by rw[<-cY,ac a1]) (by rw[a8];exact a7 n a1 J) hs ?_;intro a' w' W;exact ih m' (n+1) (by omega) b0 L (W.kill I) E hQ
  |grp g b l I=>
   rw[FD]at E;cases hs:qJ call sg b l c (c.get g)with
   |none=>rw[hs,mp]at E;cases E
   |some c1=>
    rw[hs,mn]at E;unfold qJ at hs;have b5:=hs;split at hs<;>try (cases hs;done)
    rotate_left
    ·rename_i ht
     have O:∀i∈l,i.okG N g b=true:=by simpa[RI.ok]using Z
     have b1:∀(m n:Nat),n+m=ops.size->erL r=y.drop n->∀a w,M C N c1 a w->wpOps P ops Q (tp n m) a w:=fun m n hn F a w W=>ih m n hn F L (W.kill I) E hQ
     simp only[erL]at F;cases hs;exact tL a6 hl (.inl rfl) b1 l m n c a w hn F O hM ht rfl
    rename_i t ht;have O:∀i∈l,i.okG N g b=true:=by simpa[RI.ok]using Z
    have b1:∀(m n:Nat),n+m=ops.size->erL r=y.drop n->∀a w,M C N c1 a w->wpOps P ops Q (tp n m) a w:=fun m n hn F a w W=>ih m n hn F L (W.kill I) E hQ
    simp only[erL]at F;split at hs
    ·rename_i b3
     exact Hn a6 hl b1 l m n c a w hn F O hM (by rw[ht,b3]) hs
    ·rename_i b3
     cases hs;exact tL a6 hl (.inr ⟨t,rfl,b3⟩) b1 l m n c a w hn F O hM ht rfl
end Go.Sy
