/- A sound engine for Go code. No condition. -/
import Derived.Test.YtbfnljmmepcbfaaGreatDoorEaPC
import Derived.LoopN
open Array renaming ext' -> eI, getD_eq_getD_getElem? -> aS, getElem?_append_left -> cy, getElem?_eq_getElem -> cB, getElem?_toList -> db, length_toList -> aW, replicate -> eT, size_append -> cV
open Bool renaming and_eq_true -> aD, false_eq_true -> aO, not_eq_true' -> dj
open List renaming Nodup -> Ae, Pairwise -> fO, Sublist -> pe, all_eq_true -> bf, cons -> mU, cons_append -> bp, contains_eq_mem -> fC, drop_eq_getElem_cons -> bz, drop_eq_nil_of_le -> bT, drop_take -> fW, filter_cons -> fT, flatten_append -> cg, getD_cons_succ -> jk, getD_eq_getElem?_getD -> aa, getElem?_append_left -> bt, getElem?_append_right -> bD, getElem?_drop -> bB, getElem?_eq_getElem -> ac, getElem?_eq_none -> ib, getElem?_map -> aU, getElem?_range -> cC, getElem?_set -> ik, getElem?_take -> bS, getElem_mem -> bv, getElem_of_mem -> bg, length_append -> ae, length_cons -> al, length_drop -> aE, length_eq_zero_iff -> b8, length_map -> aV, length_range -> ij, length_set -> nE, length_take -> an, map_append -> co, map_cons -> aI, mem_append -> am, mem_cons -> av, mem_cons_of_mem -> aw, mem_cons_self -> aA, mem_map -> aZ, mem_map_of_mem -> ji, mem_of_mem_drop -> cH, mem_of_mem_take -> bF, mem_singleton -> bq, nodup_cons -> dR, pairwise_cons -> bJ, pairwise_map -> ii, range -> bC, range' -> tC, replicate -> aL, size_toArray -> ce, take_append_drop -> cT, take_length -> dy
open Nat renaming add_assoc -> fo, add_mul -> bH, add_zero -> fm, div_eq_of_lt -> BL, le_max_right -> BK, le_refl -> aK, le_trans -> mE, lt_or_ge -> bQ, min_eq_left -> fP, mod_eq_of_lt -> ct, mul_comm -> cS, mul_le_mul_right -> bo, mul_one -> dq, one_mul -> pB, succ_mul -> ed, zero_add -> bY, zero_mul -> iq
open Go.Op renaming bytesLess -> bN
open Option renaming bind_some -> dp, getD_some -> aM, ite_none_right_eq_some -> aJ, map_eq_some_iff -> ah, map_some -> bE, some -> ax
open Prod renaming fst -> cW, mk -> bG
open Go.Result renaming andThen_ok -> aq
open Go.Sem renaming run_bind -> aC, run_pure -> aN
open UInt8 renaming ofNat -> ip
set_option linter.unusedVariables false
set_option linter.unusedSimpArgs false
set_option linter.unnecessarySimpa false
set_option linter.unusedSectionVars false
namespace Go.Sy
variable [bx]
variable {P : Program} {C : Ctx} {x : Sit} {s : St} {a : Act} {w : World}
theorem xhU(p:Nat->Prop)(h:∃n,p n):∃n,p n/\∀m,p m->n<=m:=by
 obtain⟨n,hn⟩:=h;induction n using Nat.strongRecOn with
 |_ n J=>
  by_cases E:∃m,m<n/\p m
  ·obtain⟨m,I,y⟩:=E;exact J m I y
  ·exact⟨n,hn,fun m y=>Nat.le_of_not_lt fun F=>E ⟨m,F,y⟩⟩
def AP(P:Program)(s:St):List ResultVar->Option (Prop×f8)
 |[]=>some (True,[])
 | .tmp t::r=>match AP P s r with
  |some (p,vs)=>some (p,s.get t::vs)
  |none=>none
 | .cell t ty::r=>match fI P ty,tg P ty,AP P s r with
  |some n,some ag,some (p,vs)=>match (if ag||n==1 then jA s n ag (s.get t)else none)with
   |some (q,v)=>some (q/\p,v::vs)
   |none=>none
  |_,_,_=>none
def kt:f8->SV
 |[v]=>v
 |vs=> .tup vs
theorem tc(hM:aR C x s a w){t:TypeId}{n:Nat}{E:Bool}{u c:SV}{v:Value}{p:Prop}(hn:fI P t=some n)(F:tg P t=some E)(hu:Rep x u v)(h:(if E||n==1 then jA s n E u else none)=some (p,c))(J:p):
 ∃I r,v= .pointer (some I)/\(loadVar t I).run P w= .ok r w/\Rep x c r:=by
 split at h<;>try (cases h;done)
 rename_i Q;obtain⟨b,off,cs,rfl,rfl,L⟩:=m5 hM hu h J;obtain⟨r,O,y⟩:=qC (P:=P) L hn F Q;exact⟨_,r,rfl,O,y⟩
def xbs(tmps:LAc):ResultVar->Sem Value
 | .tmp t=>pure (tmps.getD t undef)
 | .cell a t=>do loadVar t (<-asAddr (tmps.getD a undef))
theorem AO(fn:Func)(tmps:LAc):results fn tmps=(do let vs<-fn.results.mapM (xbs tmps);pure (if h:vs.size=1 then vs[0]else .tuple vs)):=by
 unfold results
 congr 1
theorem sO(hM:aR C x s a w):∀{rs:List ResultVar}{p:Prop}{vs:f8},AP P s rs=some (p,vs)->p->
 ∃us,(rs.mapM (xbs a.tmps)).run P w= .ok us w/\cL x vs us:=by
 intro rs;induction rs with
 |nil=>intro p vs h _;simp only[AP,ax.injEq,bG.injEq]at h;obtain⟨_,rfl⟩:=h;exact⟨[],rfl,rfl,fun i hi=>by simp at hi⟩
 |cons r rs Z=>
  intro p vs h L
  have cons:∀{c:SV}{u:Value}{cs:f8}{us:LAb},Rep x c u->cL x cs us->cL x (c::cs) (u::us):=by
   intro c u cs us h1 h2
   exact⟨by simp[h2.1],fun i hi=>by
    cases i with
    |zero=>exact h1
    |succ i=>simpa using h2.2 i (by simpa using hi)⟩
  cases r with
  |tmp t=>
   simp only[AP]at h;split at h<;>try (cases h;done)
   rename_i q I Q;simp only[ax.injEq,bG.injEq]at h;obtain⟨rfl,rfl⟩:=h;obtain⟨us,y,O⟩:=Z Q L;refine⟨_, ?_,cons (hM.slot t) O⟩;simp only[List.mapM_cons,xbs,aC,aN,aq,y]
  |cell t ty=>
   simp only[AP]at h;split at h<;>try (cases h;done)
   rename_i n ag q I hn W Q;split at h<;>try (cases h;done)
   rename_i q' v' hv;simp only[ax.injEq,bG.injEq]at h;obtain⟨rfl,rfl⟩:=h;obtain⟨us,y,O⟩:=Z Q L.2;obtain⟨ad,r,F,J,E⟩:=tc hM hn W (hM.slot t) hv L.1;refine⟨_, ?_,cons E O⟩;have hA:(asAddr (a.tmps.getD t undef)).run P w= .ok ad w:=by rw[F];rfl
   simp only[List.mapM_cons,xbs,aC,hA,aN,aq,J,y]
end Go.Sy
namespace Go.Sy
variable [bx]
variable {P : Program}
end Go.Sy
namespace Go.Sy
variable [bx]
variable {P : Program} {C : Ctx} {x : Sit} {s : St} {a : Act} {w : World}
def leT(t:Nat)(a b:SV):Prop:=∀(x:Sit)(v:Value),Rep x a v->Rep (x.newT t 0 0 0) b v
theorem leT.lst(t y:Nat)(E:d8):leT t (.lst y E .clip) (.lst y E (.id t)):=fun x v L=>by obtain⟨b,cap,W,_,O,I⟩:=L.lst_inv;obtain⟨Q,J,F⟩:=I;exact .dat _ _ (O.tok (.lst y E (.id t)) (.inr ⟨y,E,_,_,rfl,rfl⟩)) ⟨Q,J,J,F,.inl rfl⟩
theorem leT.byt(t:Nat)(l:d9):leT t (.byt l .clip) (.byt l (.id t)):=fun x v I=>by obtain⟨b,cap,O,_,J,E⟩:=I.byt_inv;obtain⟨L,F,y⟩:=E;exact .dat _ _ (J.tok (.byt l (.id t)) (.inl ⟨l,_,_,rfl,rfl⟩)) ⟨L,F,F,y,.inl rfl⟩
def leP(o y:Nat)(E:d8)(a b:SV):Prop:=∀(x x':Sit)(v:Value),x'.bk=x.bk->x'.τ=x.τ->(∀b i u,x.G b i=some u->x'.G b i=some u)->
 (∀k,k<E.length*y->∃u,x'.G ((x.bk o).1) k=some u/\cR x'.G ((E.getD (k/y) []).getD (k % y) .undef) u)->Rep x a v->Rep x' b v
theorem leP.psl{o E off n:Nat}{cap:LAa}{F:d8}(hb:off+n<=F.length)(O:∀y∈F,y.length=E):leP o E F (.psl o E off n cap) (.lst E ((F.drop off).take n) .no):=by
 intro x x' v hβ hτ hG hc hv;obtain⟨cap,a1,_,W,he,a2⟩:=hv.psl_inv;rw[he];have L:((F.drop off).take n).length=n:=by simp;omega
 refine .dat _ _ ?_ trivial
 by_cases hn:n=0
 ·subst hn
  refine .lst _ _ _ _ _ _ _ (fun _ _=>undef) L.symm a1 (fun i hi=>by omega) (fun i j hi=>by omega) (fun i j hi=>by omega)
 ·have Q:W=off*E:=by omega
  have J:∀i,i<n->(((F.drop off).take n).getD i [])=F.getD (off+i) []:=fun i hi=>by simp only[aa,bS,if_pos hi,bB]
  have hl:∀i,i<n->(F.getD (off+i) []).length=E:=fun i hi=>by rw[aa,ac (by omega)];exact O _ (bv _)
  have hk:∀i j,i<n->j<E->off*E+i*E+j<F.length*E:=fun i j hi I=>by have:=bo E (show off+i+1<=F.length by omega);simp only[bH,pB]at this;omega
  have Z:∀i j,j<E->(off*E+i*E+j)/E=off+i/\(off*E+i*E+j) % E=j:=fun i j I=>by rw[<-bH,cS,Nat.mul_add_div (by omega),BL I,fm];exact⟨rfl,by rw[Nat.mul_add_mod,ct I]⟩
  refine .lst _ _ _ _ _ _ _ (fun i j=>(x'.G ((x.bk o).1) (off*E+i*E+j)).getD undef) L.symm a1 (fun i hi=>by rw[J i hi];exact hl i hi) (fun i j hi I=> ?_) (fun i j hi I=> ?_)
  ·obtain⟨u,hu,_⟩:=hc _ (hk i j hi I)
   rw[Q,hu];rfl
  ·obtain⟨u,hu,hr⟩:=hc _ (hk i j hi I)
   rw[hu,J i hi];rw[(Z i j I).1,(Z i j I).2]at hr;exact hr
end Go.Sy
namespace Go.Sy
variable [bx]
structure CSt where
 tm:List (Nat×SV)
 ob:List (Nat×aH)
 tk:List Nat
abbrev LAe:=Option CSt
def fb:List (Nat×SV)->Nat->SV
 |[],_=> .undef
 |p::r,n=>if p.1=n then p.2 else fb r n
def kr:List (Nat×SV)->Nat->SV->List (Nat×SV)
 |[],n,v=> [(n,v)]
 |p::r,n,v=>if n<p.1 then(n,v)::p::r else if n=p.1 then(n,v)::r else p::kr r n v
def zS:List (Nat×SV)->t8->List (Nat×SV)
 |[],_=> []
 |p::r,l=>if l.contains p.1 then zS r l else p::zS r l
def jD:List (Nat×aH)->Nat->Option aH
 |[],_=>none
 |p::r,n=>if p.1=n then some p.2 else jD r n
def jI:List (Nat×aH)->Nat->aH->List (Nat×aH)
 |[],n,v=> [(n,v)]
 |p::r,n,v=>if n<p.1 then(n,v)::p::r else if n=p.1 then(n,v)::r else p::jI r n v
def xos:List (Nat×aH)->Nat->List (Nat×aH)
 |[],_=> []
 |p::r,n=>if p.1=n then xos r n else p::xos r n
def og:t8->Nat->t8
 |[],n=> [n]
 |p::r,n=>if n<p then n::p::r else if n=p then p::r else p::og r n
def dJ(lo hi:Nat):List (Nat×SV)->List (Nat×SV)
 |[]=> []
 |p::r=>(p.1,p.2.purge lo hi)::dJ lo hi r
def CSt.get(c:CSt)(n:Nat):SV:=fb c.tm n
def CSt.ev(c:CSt):Arg->SV
 | .t n=>c.get n
 | .c v=>v
 | .f g=> .fn g [] []
def evL(c:CSt):List Arg->f8
 |[]=> []
 |a::r=>c.ev a::evL c r
def CSt.put(c:CSt)(d:LAa)(v:SV):CSt:=
 match d with
 |some d=>⟨kr c.tm d v,c.ob,c.tk⟩
 |none=>c
def CSt.look(c:CSt)(o:Nat):Option aH:=jD c.ob o
def CSt.purge(c:CSt)(lo hi:Nat):CSt:=⟨dJ lo hi c.tm,bW lo hi c.ob,cP lo hi c.tk⟩
def CSt.kill(c:CSt)(l:t8):CSt:=
 match l with
 |[]=>c
 |l=>⟨zS c.tm l,c.ob,c.tk⟩
def gd{α:Type}(p:Prop)[Decidable p](v:α):Option α:=if p then some v else none
def Bh(op:BinOp)(k:IntKind)(a b:Int):Option SV:=
 match op with
 | .add=>some (.int k (k.wrap (a+b)))
 | .sub=>some (.int k (k.wrap (a-b)))
 | .mul=>some (.int k (k.wrap (a*b)))
 | .quo=>gd (b≠0) (.int k (k.wrap (a.tdiv b)))
 | .rem=>gd (b≠0) (.int k (a.tmod b))
 | .and=>some (.int k (cx .and k a b))
 | .or=>some (.int k (cx .or k a b))
 | .xor=>some (.int k (cx .xor k a b))
 | .andNot=>some (.int k (cx .andNot k a b))
 | .shl=>gd (0<=b) (.int k (k.wrap (a*2^(min b.toNat k.bits))))
 | .shr=>gd (0<=b) (.int k (a.fdiv (2^(min b.toNat k.bits))))
 | .eql=>some (.bool (decide (a=b)))
 | .neq=>some (.bool (decide (a≠b)))
 | .lss=>some (.bool (decide (a<b)))
 | .leq=>some (.bool (decide (a<=b)))
 | .gtr=>some (.bool (decide (b<a)))
 | .geq=>some (.bool (decide (b<=a)))
def BP(op:BinOp)(a b:UInt8):Option SV:=
 match op with
 | .add=>some (.u8 (a+b))
 | .sub=>some (.u8 (a-b))
 | .mul=>some (.u8 (a*b))
 | .quo=>gd (b≠0) (.u8 (a/b))
 | .rem=>gd (b≠0) (.u8 (a % b))
 | .and=>some (.u8 (a&&&b))
 | .or=>some (.u8 (a|||b))
 | .xor=>some (.u8 (a^^^b))
 | .andNot=>some (.u8 (a&&& ~~~b))
 | .eql=>some (.bool (decide (a=b)))
 | .neq=>some (.bool (decide (a≠b)))
 | .lss=>some (.bool (decide (a<b)))
 | .leq=>some (.bool (decide (a<=b)))
 | .gtr=>some (.bool (decide (b<a)))
 | .geq=>some (.bool (decide (b<=a)))
 |_=>none
def U2(op:BinOp)(a:UInt8)(b:Int):Option SV:=
 match op with
 | .shl=>gd (0<=b) (.u8 (ip (a.toNat*2^(min b.toNat 8))))
 | .shr=>gd (0<=b) (.u8 (ip (a.toNat/2^(min b.toNat 8))))
 |_=>none
def U7(op:BinOp)(a b:d9):Option SV:=
 match op with
 | .add=>gd (a.length+b.length<=9223372036854775807) (.str (a++b))
 | .eql=>some (.bool (decide (a=b)))
 | .neq=>some (.bool (decide (a≠b)))
 | .lss=>some (.bool (bN a b))
 | .leq=>some (.bool (bN a b||decide (a=b)))
 | .gtr=>some (.bool (!(bN a b||decide (a=b))))
 | .geq=>some (.bool (!bN a b))
 |_=>none
def ov:BinOp->Bool
 | .shl| .shr=>true
 |_=>false
def Jh(op:BinOp):SV->SV->Option SV
 | .int k a,.int k' b=>if ov op=true\/k=k' then Bh op k a b else none
 | .u8 a,.int _ b=>U2 op a b
 | .u8 a,.u8 b=>BP op a b
 | .str a,.str b=>U7 op a b
 |_,_=>none
def nP(c:CSt)(n:Nat)(y:Bool):SV->Option SV
 | .pp cs=>gd (n<=cs.length) (eh y n (cs.map SV.data))
 | .ptr o off=>match c.look o with
  |some (.rc cs)=>gd (off+n<=cs.length) (eh y n (cs.drop off))
  |some (.arr _ xs)=>gd (off=0/\n<=xs.flatten.length) (eh y n (xs.flatten.map SV.data))
  |some (.bar l)=>gd (off=0/\n<=l.length) (eh y n (l.map .u8))
  |none=>none
 | .ap o E i j=>match c.look o with
  |some (.arr sz' xs)=>gd (E=sz'/\i<xs.length/\j+n<=E) (eh y n (((xs.getD i []).drop j).map SV.data))
  |some (.bar l)=>gd (E=1/\j=0/\n=1/\i<l.length) (eh y n [.u8 (l.getD i 0)])
  |_=>none
 |_=>none
def lD(c:CSt)(x:Option Arg)(y:Int):Option Int:=
 match x with
 |none=>some y
 |some a=>(c.ev a).num
def pG(c:CSt)(F:Nat)(x:SV)(lo hi E:Option Arg):Option SV:=
 match x with
 | .byt l t=>
  match lD c lo 0,lD c hi l.length,lD c E l.length with
  |some a,some b,some m=>gd (0<=a/\a<=b/\b<=m/\m<=l.length/\F=1/\(E.isSome=true->b=m)) (.byt ((l.take b.toNat).drop a.toNat) (ni t hi.isNone E.isSome))
  |_,_,_=>none
 | .lst y l t=>
  match lD c lo 0,lD c hi l.length,lD c E l.length with
  |some a,some b,some m=>gd (0<=a/\a<=b/\b<=m/\m<=l.length/\F=y/\(E.isSome=true->b=m)) (.lst F ((l.take b.toNat).drop a.toNat) (ni t hi.isNone E.isSome))
  |_,_,_=>none
 | .psl o y off n none=>
  match lD c lo 0,lD c hi n,E with
  |some a,some b,none=>gd (0<=a/\a<=b/\b<=n/\F=y) (.psl o F (off+a.toNat) (b.toNat-a.toNat) none)
  |_,_,_=>none
 | .psl o y off n (some cap)=>
  match lD c lo 0,lD c hi n,lD c E cap with
  |some a,some b,some m=>gd (0<=a/\a<=b/\b<=m/\m<=cap/\F=y) (.psl o F (off+a.toNat) (b.toNat-a.toNat) (some (m.toNat-a.toNat)))
  |_,_,_=>none
 |_=>none
def fg(c:CSt):SV->Option d9
 | .byt l _=>some l
 | .str l=>some l
 | .psl o y off n _=>match c.look o with
  |some (.bar l)=>gd (y=1/\off+n<=l.length) ((l.drop off).take n)
  |_=>none
 |_=>none
def gB(c:CSt)(F:Nat):SV->Option d8
 | .lst y E _=>gd (F=y) E
 | .psl o y off n _=>match c.look o with
  |some (.arr sz'' E)=>gd (F=y/\F=sz''/\off+n<=E.length) ((E.drop off).take n)
  |_=>none
 |_=>none
def psC(c:CSt):List (Nat×Nat×Arg)->List (Nat×Nat×SV)
 |[]=> []
 |(o,n,x)::r=>(o,n,c.ev x)::psC c r
def jo(t:Bool)(a b:SV):SV:=if t=true then a else b
def cY(c:CSt):SOp->Option SV
 | .mov x=>some (c.ev x)
 | .build z Q=>(jF z (psC c Q)).map .agg
 | .lit E F=>(rows E (evL c F)).map fun r=> .lst E r .clip
 | .litB F=>(toB (evL c F)).map fun r=> .byt r .clip
 | .load n J a=>nP c n J (c.ev a)
 | .nchk x=>match c.ev x with
  | .ptr o off=>some (.ptr o off)
  | .ap o E i j=>some (.ap o E i j)
  | .pp cs=>some (.pp cs)
  | .fn f a b=>some (.fn f a b)
  |_=>none
 | .bin op x y=>Jh op (c.ev x) (c.ev y)
 | .beq I x y=>match c.ev x,c.ev y with
  | .bool a,.bool b=>some (.bool (if I then decide (a≠b)else decide (a=b)))
  |_,_=>none
 | .eqS I O x y=>match c.ev x,c.ev y with
  | .agg cs,.agg ds=>(iA O cs ds).map fun b=> .bool (if I then !b else b)
  |_,_=>none
 | .un op x=>Ah op (c.ev x)
 | .toInt k x=>iV k (c.ev x)
 | .toStr x=>match c.ev x with| .str l=>some (.str l)|_=>none
 | .slid _=>none
 | .newB _=>none
 | .isni I x=>match c.ev x with| .nili=>some (.bool (!I))|_=>none
 | .s2b x=>match c.ev x with| .str l=>some (.byt l .no)|_=>none
 | .b2s x=>match c.ev x with
  | .str _=>none
  |v=>(fg c v).map .str
 | .mkfn f a b=>some (.fn f (evL c a) (evL c b))
 | .slcS x lo hi=>match c.ev x with
  | .str l=>match lD c lo 0,lD c hi l.length with
   |some a,some b=>gd (0<=a/\a<=b/\b<=l.length) (.str ((l.take b.toNat).drop a.toNat))
   |_,_=>none
  |_=>none
 | .slcL E x lo hi L=>pG c E (c.ev x) lo hi L
 | .slcA len E x lo hi L=>match c.ev x with
  | .ptr o off=>if off=0 then pG c E (.psl o E 0 len (some len)) lo hi L else none
  |_=>none
 | .faddr off x=>match c.ev x with
  | .ptr o k=>some (.ptr o (k+off))
  | .ap o E i j=>some (.ap o E i (j+off))
  | .pp cs=>some (.pp (cs.drop off))
  |_=>none
 | .fld off n J x=>match c.ev x with
  | .agg cs=>gd (off+n<=cs.length) (eh J n (cs.drop off))
  |_=>none
 | .iaddrL E x i=>match c.ev x,(c.ev i).num with
  | .byt l _,some n=>gd (0<=n/\n<l.length/\E=1) (.pp [.u8 (l.getD n.toNat 0)])
  | .lst sz' F _,some n=>gd (0<=n/\n<F.length/\E=sz') (.pp (F.getD n.toNat []))
  | .psl o sz' off k _,some n=>gd (0<=n/\n<k/\E=sz') (.ap o E (off+n.toNat) 0)
  |_,_=>none
 | .iaddrA len E x i=>match c.ev x,(c.ev i).num with
  | .ptr o off,some n=>match c.look o with
   |some (.rc _)=>gd (0<=n/\n<len) (.ptr o (off+n.toNat*E))
   |some _=>gd (off=0/\0<=n/\n<len) (.ap o E n.toNat 0)
   |none=>none
  | .pp cs,some n=>gd (0<=n/\n<len/\cs.length=len*E) (.pp (cs.drop (n.toNat*E)))
  |_,_=>none
 | .idxA len E J x i=>match c.ev x,(c.ev i).num with
  | .agg cs,some n=>gd (0<=n/\n<len/\cs.length=len*E) (eh J E (cs.drop (n.toNat*E)))
  |_,_=>none
 | .idxS x i=>match c.ev x,(c.ev i).num with
  | .str l,some n=>gd (0<=n/\n<l.length) (.u8 (l.getD n.toNat 0))
  |_,_=>none
 | .ext x i=>match c.ev x with
  | .tup vs=>gd (i<vs.length) (vs.getD i .undef)
  |_=>none
 | .len b x=>(lc b (c.ev x)).map fun n=> .int .i64 (n:Nat)
 | .lenC n=>some (.int .i64 n)
 | .cap x=>match c.ev x with
  | .psl _ _ _ _ (some m)=>some (.int .i64 m)
  | .byt l t=>if t= .clip then some (.int .i64 l.length)else none
  | .lst _ F t=>if t= .clip then some (.int .i64 F.length)else none
  |_=>none
 | .mini x y=>match c.ev x,c.ev y with
  | .int k a,.int k' b=>if k=k' then some (.int k (if b<a then b else a))else none
  |_,_=>none
 | .maxi x y=>match c.ev x,c.ev y with
  | .int k a,.int k' b=>if k=k' then some (.int k (if a<b then b else a))else none
  |_,_=>none
 |_=>none
structure pL where
 val:SV
 wr:List (Nat×aH):=[]
 new:Option aH:=none
 eat:Tok:= .no
 tok:Bool:=false
def Arg.isT:Arg->Bool
 | .t _=>true
 |_=>false
def aH.wf:aH->Bool
 | .arr y E=>E.all fun x=>decide (x.length=y)
 |_=>true
def mf(c:CSt)(n:Nat)(v:f8):SV->Option pL
 | .ptr o off=>match c.look o with
  |some (.rc cs)=>gd (off+n<=cs.length/\v.length=n/\v.all SV.one=true) {val:= .undef,wr:=[(o,.rc (setCells cs off v))]}
  |some (.arr y xs)=>gd (off=0/\n=xs.length*y/\v.length=n/\v.all SV.isData=true) {val:= .undef,wr:=[(o,.arr y (kH y xs.length (v.map SV.data)))]}
  |some (.bar l)=>match toB v with
   |some E=>gd (off=0/\n=l.length/\E.length=n) {val:= .undef,wr:=[(o,.bar E)]}
   |none=>none
  |_=>none
 | .ap o y i j=>match c.look o with
  |some (.arr sz' xs)=>gd (y=sz'/\i<xs.length/\j+n<=y/\v.length=n/\v.all SV.isData=true) {val:= .undef,wr:=[(o,.arr sz' (jX y xs i j n (v.map SV.data)))]}
  |some (.bar l)=>match v with
   |[.u8 b]=>gd (y=1/\j=0/\n=1/\i<l.length) {val:= .undef,wr:=[(o,.bar (l.set i b))]}
   |_=>none
  |_=>none
 |_=>none
def Tok.readyC(c:CSt):Tok->Bool
 | .no=>false
 | .clip=>true
 | .id t=>c.tk.contains t
def eJ(c:CSt)(d:LAa):SOp->Option pL
 | .new o=>match d with
  |some d=>gd (o.wf=true) {val:= .ptr (d+100) 0,new:=some o}
  |none=>none
 | .box x=>match d with
  |some d=>some {val:= .ptr (d+100) 0,new:=some (.rc (c.ev x).cells)}
  |none=>none
 | .mk z bytes n m=>match d,c.ev n,c.ev m with
  |some d,.int _ n,.int _ m=>gd (0<=n/\n<=m/\bytes*m<=140737488355328/\m<=9223372036854775807) {val:= .psl (d+100) z.length 0 n.toNat (some m.toNat),new:=some (.arr z.length (aL m.toNat z))}
  |_,_,_=>none
 | .mkB n m=>match d,c.ev n,c.ev m with
  |some d,.int _ n,.int _ m=>gd (0<=n/\n<=m/\m<=140737488355328) {val:= .psl (d+100) 1 0 n.toNat (some m.toNat),new:=some (.bar (aL m.toNat 0))}
  |_,_,_=>none
 | .store n a x=>if(c.ev x).isDef=true then mf c n (c.ev x).cells (c.ev a)else none
 | .app z bytes x y=>match d with
  |some d=>match c.ev x with
   | .byt l t=>(fg c (c.ev y)).bind fun F=>gd (z.length=1/\bytes=1/\t.readyC c=true/\l.length+F.length<=140737488355328) {val:= .byt (l++F) (.id (d+100)),eat:=t,tok:=true}
   | .lst E l t=>(gB c z.length (c.ev y)).bind fun F=>gd (z.length=E/\t.readyC c=true/\(l.length+F.length)*bytes<=140737488355328) {val:= .lst z.length (l++F) (.id (d+100)),eat:=t,tok:=true}
   |_=>none
  |none=>none
 | .clr z x=>match c.ev x with
  | .psl o E off n _=>match c.look o with
   |some (.arr sz'' I)=>gd (0<n/\z.length=E/\z.length=sz''/\off+n<=I.length) {val:= .tup [],wr:=[(o,.arr z.length (I.take off++aL n z++I.drop (off+n)))]}
   |_=>none
  |_=>none
 | .cpy J x y=>match c.ev x with
  | .psl o E off n _=>match c.look o with
   |some (.bar l)=>(fg c (c.ev y)).bind fun F=>gd (J=1/\E=1/\off+n<=l.length) {val:= .int .i64 (min F.length n:Nat),wr:=[(o,.bar (l.take off++F.take n++l.drop (off+(F.take n).length)))]}
   |some (.arr sz'' I)=>(gB c J (c.ev y)).bind fun F=>gd (y.isT=true/\J=E/\J=sz''/\off+n<=I.length) {val:= .int .i64 (min F.length n:Nat),wr:=[(o,.arr J (I.take off++F.take n++I.drop (off+(F.take n).length)))]}
   |_=>none
  |_=>none
 | .pick k a b=>match c.ev k with
  | .bool t=>some {val:=jo t (c.ev a) (c.ev b)}
  |_=>none
 | .call _ _=>none
 | .isnil L x=>match c.ev x with
  | .byt l _=>gd (l≠ []) {val:= .bool L}
  | .lst _ I _=>gd (I≠ []) {val:= .bool L}
  | .psl _ _ _ _ _=>some {val:= .bool L}
  |_=>none
 |so=>match cY c so with
  |some v=>some {val:=v}
  |none=>none
def CSt.wr(c:CSt):List (Nat×aH)->CSt
 |[]=>c
 |p::r=>CSt.wr ⟨c.tm,jI c.ob p.1 p.2,c.tk⟩ r
def CSt.app(c:CSt)(d:LAa)(e:pL):CSt:=
 match e.new,e.tok with
 |some o,_=>CSt.put ⟨dJ (d.getD 0+100) (d.getD 0+101) c.tm,jI (bW (d.getD 0+100) (d.getD 0+101) c.ob) (d.getD 0+100) (o.purge (d.getD 0+100) (d.getD 0+101)),cP (d.getD 0+100) (d.getD 0+101) c.tk⟩ d e.val
 |none,true=>CSt.put ⟨dJ (d.getD 0+100) (d.getD 0+101) c.tm,bW (d.getD 0+100) (d.getD 0+101) c.ob,og (cP (d.getD 0+100) (d.getD 0+101) (e.eat.eat c.tk)) (d.getD 0+100)⟩ d e.val
 |none,false=>(c.wr e.wr).put d e.val
end Go.Sy
namespace Go.Sy
variable [bx]
mutual
def SV.bare:SV->SV
 | .byt l _=> .byt l .no
 | .lst y E _=> .lst y E .no
 | .agg cs=> .agg (SV.bareL cs)
 | .tup cs=> .tup (SV.bareL cs)
 | .fn f a b=> .fn f (SV.bareL a) (SV.bareL b)
 |v=>v
def SV.bareL:f8->f8
 |[]=> []
 |v::r=>v.bare::SV.bareL r
end
def AY(obj:aH)(E off n:Nat)(cap:LAa):SV:=
 match obj with
 | .arr y F=>if y=E/\off+n<=F.length then .lst E ((F.drop off).take n) (if cap=some n then .clip else .no)else .undef
 | .bar l=>if E=1/\off+n<=l.length then .byt ((l.drop off).take n) (if cap=some n then .clip else .no)else .undef
 | .rc _=> .undef
mutual
def SV.pub(o:Nat)(obj:aH):SV->SV
 | .psl y E off n cap=>if y=o then AY obj E off n cap else .psl y E off n cap
 | .ptr y off=>if y=o then .undef else .ptr y off
 | .ap y E i j=>if y=o then .undef else .ap y E i j
 | .agg cs=> .agg (SV.pubL o obj cs)
 | .tup cs=> .tup (SV.pubL o obj cs)
 | .fn f a b=> .fn f (SV.pubL o obj a) (SV.pubL o obj b)
 |v=>v
def SV.pubL(o:Nat)(obj:aH):f8->f8
 |[]=> []
 |v::r=>v.pub o obj::SV.pubL o obj r
end
def mX(o:Nat)(obj:aH):List (Nat×SV)->List (Nat×SV)
 |[]=> []
 |p::r=>(p.1,p.2.pub o obj)::mX o obj r
def pu(o:Nat)(obj:aH):aH->aH
 | .rc cs=> .rc (SV.pubL o obj cs)
 |ob=>ob
def mn(o:Nat)(obj:aH):List (Nat×aH)->List (Nat×aH)
 |[]=> []
 |p::r=>if p.1=o then mn o obj r else(p.1,pu o obj p.2)::mn o obj r
def CSt.publish(c:CSt)(o:Nat)(vs:f8):CSt×f8:=
 match c.look o with
 |some (.arr sz xs)=>(⟨mX o (.arr sz xs) c.tm,mn o (.arr sz xs) c.ob,c.tk⟩,SV.pubL o (.arr sz xs) vs)
 |some (.bar l)=>(⟨mX o (.bar l) c.tm,mn o (.bar l) c.ob,c.tk⟩,SV.pubL o (.bar l) vs)
 |_=>(c,vs)
def iK:SV->t8
 | .psl o _ _ _ _=> [o]
 |_=> []
def xg:f8->t8
 |[]=> []
 |v::r=>iK v++xg r
def oe(raw:t8)(i:Nat):SV->t8
 | .psl o _ _ _ _=>if raw.contains i=true then []else [o]
 | .agg cs=>if raw.contains i=true then []else xg cs
 |_=> []
def jP(raw:t8):Nat->f8->t8
 |_,[]=> []
 |i,v::r=>oe raw i v++jP raw (i+1) r
def fx(c:CSt)(vs:f8):t8->CSt×f8
 |[]=>(c,vs)
 |o::r=>fx (c.publish o vs).1 (c.publish o vs).2 r
def Tok.kc:Tok->Bool->Tok
 | .clip,b=>if b=true then .clip else .no
 | .no,_=> .no
 | .id _,_=> .no
def SV.kclip:SV->SV
 | .lst E y t=> .lst E y (t.kc y.isEmpty)
 | .byt l t=> .byt l (t.kc l.isEmpty)
 |v=>v.bare
def lg(tk:t8)(j:Nat):SV->SV×List LAa
 | .agg cs=>(.agg (cs.map SV.kclip),[])
 | .byt l .no=>(.byt l .no,[])
 | .byt l .clip=>(.byt l (.id j),[none])
 | .byt l (.id t)=>if tk.contains t=true then(.byt l (.id j),[some t])else(.byt l .no,[])
 | .lst sz xs .no=>(.lst sz xs .no,[])
 | .lst sz xs .clip=>(.lst sz xs (.id j),[none])
 | .lst sz xs (.id t)=>if tk.contains t=true then(.lst sz xs (.id j),[some t])else(.lst sz xs .no,[])
 |v=>(v.bare,[])
def xb(j y:Nat)(E:d8):Bool->SV×List LAa
 |true=>(.lst y E .clip,[])
 |false=>(.lst y E (.id j),[none])
def xa(tk:t8)(j E:Nat)(y:d8):Tok->SV×List LAa
 | .clip=>xb j E y y.isEmpty
 | .no=>lg tk j (.lst E y .no)
 | .id t=>lg tk j (.lst E y (.id t))
def tZ(tk:t8)(j:Nat):SV->SV×List LAa
 | .lst y E t=>xa tk j y E t
 |v=>lg tk j v
def lh(tk:t8)(own:t8):Nat->Nat->f8->f8×List LAa
 |_,_,[]=>([],[])
 |j,i,v::r=>
  if own.contains i=true then
   ((tZ tk j v).1::(lh tk own (j+(tZ tk j v).2.length) (i+1) r).1,(tZ tk j v).2++(lh tk own (j+(tZ tk j v).2.length) (i+1) r).2)
  else(v.bare::(lh tk own j (i+1) r).1,(lh tk own j (i+1) r).2)
def vr(tk:t8):Nat->f8->f8×List LAa
 |_,[]=>([],[])
 |j,v::r=>((lg tk j v).1::(vr tk (j+(lg tk j v).2.length) r).1,(lg tk j v).2++(vr tk (j+(lg tk j v).2.length) r).2)
def kS(tk:t8)(j:Nat):aH->aH×List LAa
 | .rc cs=>(.rc (vr tk j cs).1,(vr tk j cs).2)
 |o=>(o,[])
def eU(tk:t8):Nat->List aH->List aH×List LAa
 |_,[]=>([],[])
 |j,v::r=>((kS tk j v).1::(eU tk (j+(kS tk j v).2.length) r).1,(kS tk j v).2++(eU tk (j+(kS tk j v).2.length) r).2)
def cO:List LAa->t8
 |[]=> []
 |none::r=>cO r
 |some t::r=>t::cO r
def eC(c:CSt):Nat->t8->t8->t8
 |0,acc,_=>acc
 |_+1,acc,[]=>acc
 |
  f+1,acc,o::t=>if acc.contains o=true then eC c f acc t else
  match c.look o with
  |some ob=>eC c f (acc++ [o]) (t++ob.ids)
  |none=>eC c f acc t
def im(c:CSt):t8->Option (List aH)
 |[]=>some []
 |o::r=>match c.look o,im c r with
  |some ob,some l=>some (ob::l)
  |_,_=>none
def iy:t8->Nat->Nat
 |[],_=>0
 |p::r,o=>if p=o then 0 else iy r o+1
def gp:List aH->t8
 |[]=> []
 |o::r=>o.ids++gp r
def eg:t8->Bool
 |[]=>true
 |a::r=> !r.contains a&&eg r
def pR(a b:t8):Bool:=a.all b.contains
def eY(mo mt:Nat->Nat):List aH->List aH
 |[]=> []
 |o::r=>o.ren mo mt::eY mo mt r
structure dV where
 r:SV
 os:List (Nat×aH)
 tk:List Nat
structure Sig where
 own:List Nat:=[]
 raw:List Nat:=[]
def tM(ob:List (Nat×aH)):List (Nat×aH)->List (Nat×aH)
 |[]=>ob
 |p::r=>tM (jI ob p.1 p.2) r
def tN(tk:t8):t8->t8
 |[]=>tk
 |t::r=>tN (og tk t) r
def nT(l:t8):t8->t8
 |[]=> []
 |t::r=>if l.contains t=true then nT l r else t::nT l r
def tE(d:Nat):t8->t8
 |[]=> []
 |t::r=>kM d t::tE d r
def dV.small(q:dV):Bool:=q.os.all (fun p=>decide (p.1<1000)&&p.2.ids.all (fun k=>decide (k<1000))&&p.2.toks.all (fun k=>decide (k<1000)))&&q.r.ids.all (fun k=>decide (k<1000))&&q.r.toks.all (fun k=>decide (k<1000))&&q.tk.all (fun k=>decide (k<1000))
def lf(c:CSt)(d:LAa)(m mt:t8)(q:dV):CSt:=
 CSt.put ⟨dJ ((d.getD 0+1)*1000) ((d.getD 0+2)*1000) c.tm,
  tM (fK m (bW ((d.getD 0+1)*1000) ((d.getD 0+2)*1000) c.ob)) (p7 (d.getD 0) m q.os),
  tN (nT mt (cP ((d.getD 0+1)*1000) ((d.getD 0+2)*1000) c.tk)) (tE (d.getD 0) q.tk)⟩ d (q.r.ren (jn (d.getD 0) m) (kM (d.getD 0)))
abbrev dw:=Nat->f8->List aH->Nat->Option dV
def dV.bare(q:dV):Bool:=q.os.isEmpty&&q.tk.isEmpty&&q.r.ids.isEmpty&&q.r.toks.isEmpty
def Bp(c:CSt)(d:LAa)(q:dV):Bool->LAe
 |true=>some (lf c d [] [] q)
 |false=>none
def py(c:CSt)(d:LAa)(q:dV):Bool->LAe
 |true=>some (c.put d q.r)
 |false=>Bp c d q q.small
def nR(c:CSt)(d:LAa):Option dV->LAe
 |some q=>py c d q q.bare
 |none=>none
def Az(c:CSt)(d:LAa)(m mt:t8)(q:dV):Bool->LAe
 |true=>some (lf c d m mt q)
 |false=>none
def pW(c:CSt)(d:LAa)(m mt:t8):Option dV->LAe
 |some q=>Az c d m mt q q.small
 |none=>none
def pj(call:dw)(c:CSt)(d:LAa)(g:Nat)(a_:f8)(E:List LAa)(m:t8)(os:List aH)(y:List LAa):Bool->LAe
 |true=>pW c d m (cO (E++y)) (call g (SV.renL (iy m) id a_) (eY (iy m) id os) (E.length+y.length))
 |false=>none
def pk(call:dw)(c:CSt)(d:LAa)(g:Nat)(a_:f8)(y:List LAa)(m:t8):List aH×List LAa->LAe
 |(os,mt2)=>pj call c d g a_ y m os mt2 (pR (SV.idsL a_++gp os) m&&eg m&&eg (cO (y++mt2))&&decide (m.length<=40)&&m.all fun o=> !inR (d.getD 0) o)
def mI(call:dw)(c:CSt)(d:LAa)(g:Nat)(a_:f8)(y:List LAa)(m:t8):Option (List aH)->LAe
 |some os=>pk call c d g a_ y m (eU c.tk (50+y.length) os)
 |none=>none
def pl(call:dw)(c:CSt)(d:LAa)(g:Nat):f8×List LAa->LAe
 |(a_,mt1)=>mI call c d g a_ mt1 (eC c 60 [] (SV.idsL a_)) (im c (eC c 60 [] (SV.idsL a_)))
def kT(call:dw)(sg:Sig)(d:LAa)(g:Nat):CSt×f8->LAe
 |(c,a_)=>pl call c d g (lh c.tk sg.own 50 0 a_)
def ld(call:dw)(sg:Sig)(c:CSt)(d:LAa)(g:Nat)(a_:f8):Bool->LAe
 |true=>nR c d (call g (SV.bareL a_) [] 0)
 |false=>kT call sg d g (fx c a_ (jP sg.raw 0 a_))
def jb(call:dw)(sg:Sig)(c:CSt)(d:LAa)(g:Nat)(a_:f8):LAe:=
 ld call sg c d g a_ ((SV.idsL a_).isEmpty&&sg.own.isEmpty)
inductive Dir where
 |kill (l:List Nat)
 |gc (l:List Nat)
 |gcr (lo hi:Nat)
 |pub (n:Nat)
 |pubo (o:Nat)
 |tok (n id:Nat)
 |obj (n id:Nat)
inductive RI where
 |op (i:SI) (dead:List Nat)
 |grp (g:Nat) (b:Bool) (l:List SI) (dead:List Nat)
 |own (i:SI) (dead:List Nat)
 |tks (i:SI) (dead:List Nat)
 |dir (d:Dir)
structure FI where
 n:Nat
 q:Bool
 i:SI
inductive RC where
 |skip
 |ops (l:List RI)
 |flt (b ds:List Nat) (l:List FI) (dead:List Nat)
 |fla (b ds:List Nat) (l:List FI) (ps:List (List Nat)) (dead:List Nat)
 |seq (a b:RC)
 |cond (c:Arg) (a b:RC)
 |block (id:Nat) (b:RC)
 |loop (b:RC)
 |exit (id:Nat)
 |ret
 |pre (ds:List Dir) (a:RC)
 |post (a:RC) (ds:List Dir)
 |bad
def erL:List RI->LAd
 |[]=> []
 | .op i _::r=>i::erL r
 | .grp _ _ l _::r=>l++erL r
 | .own i _::r=>i::erL r
 | .tks i _::r=>i::erL r
 | .dir _::r=>erL r
def SOp.er:SOp->SOp
 | .appO z b x y=> .app z b x y
 |o=>o
def SI.er(i:SI):SI:=⟨i.dst,i.g,i.op.er⟩
def IT:List FI->Nat->SI
 |[],_=>⟨none,none,.lenC 0⟩
 |f::r,k=>if f.n=k then f.i.er else IT r k
def unF(l:List FI):LAd:=(bC l.length).map (IT l)
def RC.er:RC->gI
 | .skip=> .skip
 | .ops l=> .ops (erL l)
 | .flt b y l _=> .drw b y (unF l)
 | .fla b y l _ _=> .drw b y (unF l)
 | .seq a b=> .seq a.er b.er
 | .cond c a b=> .cond c a.er b.er
 | .block id b=> .block id b.er
 | .loop b=> .loop b.er
 | .exit id=> .exit id
 | .ret=> .ret
 | .pre _ a=>a.er
 | .post a _=>a.er
 | .bad=> .bad
def gcC(c:CSt):t8->CSt
 |[]=>c
 |o::r=>gcC (c.purge o (o+1)) r
def IF(c:CSt)(n id o:Nat)(obj:aH)(v:SV):CSt:=
 ⟨kr (dJ id (id+1) (mX o obj c.tm)) n v,bW id (id+1) (mn o obj c.ob),og (cP id (id+1) c.tk) id⟩
def YC(c:CSt)(n id o E off k y:Nat):Option aH->LAe
 |some (.bar l)=>if E=1/\off+y<=l.length/\k<=y then some (IF c n id o (.bar (l.take (off+k))) (.byt ((l.drop off).take k) (.id id)))else some c
 |some (.arr sz' xs)=>if sz'=E/\off+y<=xs.length/\k<=y then some (IF c n id o (.arr sz' (xs.take (off+k))) (.lst E ((xs.drop off).take k) (.id id)))else some c
 |_=>some c
def YD(c:CSt)(n id:Nat):SV->LAe
 | .byt l t=>match t with
  | .no=>some c
  | .clip=>some ⟨kr (dJ id (id+1) c.tm) n (.byt l (.id id)),bW id (id+1) c.ob,og (cP id (id+1) c.tk) id⟩
  | .id t=>if t=id then some c else if c.tk.contains t=true then some ⟨kr (dJ id (id+1) c.tm) n (.byt l (.id id)),bW id (id+1) c.ob,og (cP id (id+1) (cP t (t+1) c.tk)) id⟩else none
 | .lst y E t=>match t with
  | .no=>some c
  | .clip=>some ⟨kr (dJ id (id+1) c.tm) n (.lst y E (.id id)),bW id (id+1) c.ob,og (cP id (id+1) c.tk) id⟩
  | .id t=>if t=id then some c else if c.tk.contains t=true then some ⟨kr (dJ id (id+1) c.tm) n (.lst y E (.id id)),bW id (id+1) c.ob,og (cP id (id+1) (cP t (t+1) c.tk)) id⟩else none
 | .psl o y off k (some cp)=>YC c n id o y off k cp (c.look o)
 |_=>some c
def mvC(c:CSt)(n id o y off k:Nat)(cap:LAa)(obj:aH):CSt:=
 ⟨kr (dJ id (id+1) (dJ o (o+1) c.tm)) n (.psl id y off k cap),jI (bW id (id+1) (bW o (o+1) c.ob)) id obj,cP id (id+1) (cP o (o+1) c.tk)⟩
def xu0(c:CSt)(n id o y off k:Nat)(cap:LAa):Option aH->LAe
 |some (.bar l)=>some (mvC c n id o y off k cap (.bar l))
 |some (.arr sz' xs)=>some (mvC c n id o y off k cap (.arr sz' xs))
 |_=>some c
def xhP(c:CSt)(n id:Nat):SV->LAe
 | .psl o y off k cap=>if o=id then some c else xu0 c n id o y off k cap (c.look o)
 |_=>some c
def tw(c:CSt):Dir->LAe
 | .kill l=>some (c.kill l)
 | .gc l=>some (gcC c l)
 | .gcr lo hi=>some (c.purge lo hi)
 | .pubo o=>some (c.publish o []).1
 | .pub n=>match c.get n with
  | .psl o _ _ _ _=>some (c.publish o []).1
  |_=>some c
 | .tok n id=>if id=99 then none else YD c n id (c.get n)
 | .obj n id=>if id<100 then none else xhP c n id (c.get n)
def jt(c:CSt):List Dir->LAe
 |[]=>some c
 |d::r=>match tw c d with
  |some c'=>jt c' r
  |none=>none
inductive Ex where
 |n
 |x (id:Nat)
 |r
abbrev iF:=Option (Ex×CSt)
def o5(c:CSt)(d:LAa):Option pL->LAe
 |some e=>some (c.app d e)
 |none=>none
def pw(c:CSt):LAa->Option d9->LAe
 |some k,some l=>some (c.app (some k) {val:= .psl (k+100) 1 0 l.length (some l.length),new:=some (.bar l)})
 |_,_=>none
def pX(c:CSt)(d:LAa)(o off n:Nat)(cap:LAa):Option aH->LAe
 |some (.bar l)=>if off+n<=l.length/\cap=some n then some (((c.publish o []).1).put d (.byt ((l.drop off).take n) .clip))else none
 |_=>none
def tD(c:CSt)(d:LAa):SV->LAe
 | .psl o 1 off n cap=>pX c d o off n cap (c.look o)
 |_=>none
def Zy(c:CSt):LAa->SV->LAe
 |some k,.str l=>some (c.app (some k) {val:= .psl (k+100) 1 0 l.length none,new:=some (.bar l)})
 |_,_=>none
def Zx(c:CSt)(z:f8)(bytes:Nat)(l:d9):LAa->Option d9->LAe
 |some k,some l'=>if z.length≠1 then none else if l'=[]then some (c.put (some k) (.byt l .clip))else if bytes=1/\l.length+l'.length<=140737488355328 then some (c.app (some k) {val:= .psl (k+100) 1 0 (l.length+l'.length) none,new:=some (.bar (l++l'))})else none
 |_,_=>none
def Zw(c:CSt)(z:f8)(bytes y:Nat)(l:d8):LAa->Option d8->LAe
 |some k,some l'=>if l'=[]then some (c.put (some k) (.lst y l .clip))else if z.length=y/\(l.length+l'.length)*bytes<=140737488355328 then some (c.app (some k) {val:= .psl (k+100) y 0 (l.length+l'.length) none,new:=some (.arr y (l++l'))})else none
 |_,_=>none
def Uj(c:CSt)(z:f8)(bytes o y n:Nat):LAa->Option d8->Option d8->LAe
 |some k,some R,some l'=>if z.length=y/\R.length=n/\(n+l'.length)*bytes<=140737488355328 then some ((c.purge o (o+1)).app (some k) {val:= .psl (k+100) y 0 (n+l'.length) none,new:=some (.arr y (R++l'))})else none
 |_,_,_=>none
def um(c:CSt)(d:LAa)(z:f8)(bytes:Nat)(y:Arg):SV->LAe
 | .byt l t=>if t= .clip then Zx c z bytes l d (fg c (c.ev y))else none
 | .lst E l t=>if t= .clip then Zw c z bytes E l d (gB c z.length (c.ev y))else none
 | .psl o E 0 n none=>Uj c z bytes o E n d (gB c z.length (.psl o E 0 n none)) (gB c z.length (c.ev y))
 |_=>none
def opC(call:dw)(sg:Nat->Sig)(c:CSt)(d:LAa)(o:SOp):LAe:=
 match o with
 | .newB E=>pw c d (toB (evL c E))
 | .slid x=>tD c d (c.ev x)
 | .appO z bytes x y=>um c d z bytes y (c.ev x)
 | .call f a_=>match c.ev f with
  | .fn g a b=>jb call (sg g) c d g (a++evL c a_++b)
  |_=>none
 |o=>o5 c d (eJ c d o)
def eB(call:dw)(sg:Nat->Sig)(c:CSt)(i:SI):LAe:=
 match i.g with
 |none=>opC call sg c i.dst i.op
 |some (g,b)=>match c.get g with
  | .bool t=>if t=b then opC call sg c i.dst i.op else some (c.put i.dst (.tup []))
  | .tup []=>some (c.put i.dst (.tup []))
  |_=>none
mutual
def plC(call:dw)(sg:Nat->Sig):LAd->CSt->LAe
 |[],c=>some c
 |i::r,c=>nxP call sg r (opC call sg c i.dst i.op)
def nxP(call:dw)(sg:Nat->Sig):LAd->LAe->LAe
 |r,some c=>plC call sg r c
 |_,none=>none
end
def unL(c:CSt):LAd->CSt
 |[]=>c
 |i::r=>unL (c.put i.dst (.tup [])) r
def qS(call:dw)(sg:Nat->Sig)(b:Bool)(l:LAd)(c:CSt):SV->LAe
 | .bool t=>if t=b then plC call sg l c else some (unL c l)
 | .tup []=>some (unL c l)
 |_=>none
def Zv(c:CSt)(y:Nat):LAa->Option d8->LAe
 |some k,some xs=>some (c.app (some k) {val:= .psl (k+100) y 0 xs.length (some xs.length),new:=some (.arr y xs)})
 |_,_=>none
def xuY(c:CSt)(d:LAa):SOp->LAe
 | .lit F E=>Zv c F d (rows F (evL c E))
 | .litB E=>pw c d (toB (evL c E))
 | .s2b x=>Zy c d (c.ev x)
 | .app z bytes x y=>um c d z bytes y (c.ev x)
 |_=>none
def YF(c:CSt):LAa->SV->LAe
 |some k,.str l=>some (c.app (some k) {val:= .byt l (.id (k+100)),tok:=true})
 |_,_=>none
def xtt(c:CSt)(d:LAa):SOp->LAe
 | .s2b x=>YF c d (c.ev x)
 |_=>none
def D3(c:CSt)(i:SI):LAe:=match i.g with
 |none=>xtt c i.dst i.op
 |some _=>none
def vQ(c:CSt)(i:SI):LAe:=match i.g with
 |none=>xuY c i.dst i.op
 |some _=>none
mutual
def gw(call:dw)(sg:Nat->Sig):List RI->CSt->LAe
 |[],c=>some c
 | .op i dead::r,c=>nxC call sg dead r (eB call sg c i)
 | .grp g b l dead::r,c=>nxC call sg dead r (qS call sg b l c (c.get g))
 | .own i dead::r,c=>nxC call sg dead r (vQ c i)
 | .tks i dead::r,c=>nxC call sg dead r (D3 c i)
 | .dir d::r,c=>nxC call sg [] r (tw c d)
def nxC(call:dw)(sg:Nat->Sig)(y:t8):List RI->LAe->LAe
 |r,some c=>gw call sg r (c.kill y)
 |_,none=>none
end
def dx(c:CSt):SOp->Option SV
 | .pick k a b=>match c.ev k with
  | .bool t=>some (jo t (c.ev a) (c.ev b))
  |_=>none
 |so=>cY c so
def qg(c:CSt)(o:SOp)(b:Bool):SV->Option SV
 | .bool t=>if t=b then dx c o else some (.tup [])
 | .tup []=>some (.tup [])
 |_=>none
def qv(c:CSt)(i:SI):Option SV:=match i.g with
 |none=>dx c i.op
 |some (g,b)=>qg c i.op b (c.get g)
def wi(m:Nat)(c:CSt):List FI->Prop
 |[]=>True
 |p::r=>(m/2^p.n % 2=1\/qv c p.i=some (c.get (p.i.dst.getD 0)))/\wi m c r
open Classical in
noncomputable def gdP{α:Type}(p:Prop)(v:α):Option α:=if p then some v else none
mutual
noncomputable def fH(call:dw)(sg:Nat->Sig)(b:t8):List FI->List FI->CSt->LAe
 |[],_,c=>some c
 |⟨n,true,i⟩::r,ps,c=>zx call sg b r (⟨n,true,i⟩::ps) c i.dst (qv c i)
 |⟨n,false,i⟩::r,ps,c=>tq call sg b r ps (b.getD n 0) (eB call sg c i)
noncomputable def zx(call:dw)(sg:Nat->Sig)(b:t8):List FI->List FI->CSt->LAa->Option SV->LAe
 |r,ps,c,d,some v=>fH call sg b r ps (c.put d v)
 |_,_,_,_,none=>none
noncomputable def tq(call:dw)(sg:Nat->Sig)(b:t8):List FI->List FI->Nat->LAe->LAe
 |r,ps,m,some c=>tu call sg b r ps (gdP (wi m c ps) c)
 |_,_,_,none=>none
noncomputable def tu(call:dw)(sg:Nat->Sig)(b:t8):List FI->List FI->LAe->LAe
 |r,ps,some c=>fH call sg b r ps c
 |_,_,none=>none
end
def xI:List FI->Nat->FI
 |[],k=>⟨k,false,⟨none,none,.lenC 0⟩⟩
 |f::r,k=>if f.n=k then f else xI r k
def jw(l:List FI):t8->List FI
 |[]=> []
 |k::r=>xI l k::jw l r
noncomputable def pz:LAe->LAe->LAe
 |some a,some b=>gdP (a=b) a
 |_,_=>none
noncomputable def jV(call:dw)(sg:Nat->Sig)(b:t8)(l:List FI):List t8->CSt->LAe
 |[],_=>none
 |[p],c=>fH call sg b (jw l p) [] c
 |p::q::r,c=>pz (fH call sg b (jw l p) [] c) (jV call sg b l (q::r) c)
def nrm(y:t8):LAe->iF
 |some c=>some (.n,c.kill y)
 |none=>none
def sq(rn:RC->CSt->iF)(b:RC):iF->iF
 |some (.n,c)=>rn b c
 |r=>r
def cnd(rn:RC->CSt->iF)(a b:RC)(c:CSt):SV->iF
 | .bool t=>if t=true then rn a c else rn b c
 |_=>none
def blk(id:Nat):iF->iF
 |some (.x id',c)=>if id'=id then some (.n,c)else some (.x id',c)
 |r=>r
def lp(rn:RC->CSt->iF)(b:RC):iF->iF
 |some (.n,c)=>rn (.loop b) c
 |r=>r
def prD(rn:RC->CSt->iF)(a:RC):LAe->iF
 |some c=>rn a c
 |none=>none
def psD(y:List Dir):iF->iF
 |some (.n,c)=>match jt c y with
  |some c'=>some (.n,c')
  |none=>none
 |r=>r
noncomputable def eA(rn:RC->CSt->iF)(call:dw)(sg:Nat->Sig):RC->CSt->iF
 | .skip,c=>some (.n,c)
 | .ops l,c=>nrm [] (gw call sg l c)
 | .flt b _ l dead,c=>nrm dead (fH call sg b l [] c)
 | .fla b _ l ps dead,c=>nrm dead (jV call sg b l ps c)
 | .seq a b,c=>sq rn b (rn a c)
 | .cond k a b,c=>cnd rn a b c (c.ev k)
 | .block id b,c=>blk id (rn b c)
 | .loop b,c=>lp rn b (rn b c)
 | .exit id,c=>some (.x id,c)
 | .ret,c=>some (.r,c)
 | .pre ds a,c=>prD rn a (jt c ds)
 | .post a ds,c=>psD ds (rn a c)
 | .bad,_=>none
def SI.ok(N:Nat)(i:SI):Bool:=match i.dst with
 |some d=>decide (d<N)
 |none=>true
def SI.okG(N g:Nat)(b:Bool)(i:SI):Bool:=i.ok N&&(match i.g with|some (g',b')=>decide (g'=g)&&(b'==b)|none=>false)&&decide (i.dst≠some g)
def RI.ok(N:Nat):RI->Bool
 | .op i _=>i.ok N
 | .grp g b l _=>l.all (SI.okG N g b)
 | .own i _=>i.ok N
 | .tks i _=>i.ok N
 | .dir _=>true
def o4(b:t8)(i j:Nat):Bool:=(b.getD j 0).testBit i
def pn(b:t8):LAa->List FI->Bool
 |_,[]=>true
 |
  s,f::r=>if f.q then(match s with|some s=>o4 b s f.n|none=>true)&&pn b s r
  else(match s with|some s=>o4 b s f.n|none=>true)&&pn b (some f.n) r
def Ui(b:t8)(p q:FI):Bool:= !o4 b q.n p.n&&(p.q||q.q||o4 b p.n q.n)
def qr(b:t8):List FI->Bool
 |[]=>true
 |p::r=>r.all (Ui b p)&&qr b r
def SI.rds(i:SI):t8:=i.op.args.filterMap (fun| .t n=>some n|_=>none)++(match i.g with|some (g,_)=> [g]|none=> [])
def xaf(b:t8)(l:List FI):Bool:=l.all fun q=> !q.q||(match q.i.dst with|some d=>l.all fun p=> !p.i.rds.contains d||(o4 b q.n p.n&&decide (p.n≠q.n))|none=>false)
def VT(b:t8)(l:List FI):Bool:=pn b none l&&qr b l&&xaf b l&&decide ((l.map FI.n).Nodup)&&l.all (fun f=>decide (f.n<l.length))&&(bC l.length).all (l.map FI.n).contains
def AJ(b:t8):LAa->List FI->Bool
 |_,[]=>true
 |s,f::r=>if f.q then(match s with|some s=>o4 b s f.n|none=>true)&&AJ b s r else AJ b (some f.n) r
def xJ(b:t8):List FI->Bool
 |[]=>true
 |p::r=>r.all (fun q=> !o4 b q.n p.n)&&xJ b r
def fV(l:List FI):t8:=l.filterMap fun f=>if f.q then none else some f.n
def l8(b:t8):Nat->List t8->Bool
 |_,[]=>false
 |_,[]::_=>true
 |0,_=>false
 |k+1,A@((h::t)::_)=>(h::t).all fun g=>(h::t).any (fun x=>decide (x≠g)&&o4 b x g)||l8 b k (A.filterMap fun p=>match p with|x::r=>if x=g then some r else none|[]=>none)
def X5(b:t8)(l:List FI)(y:List t8):Bool:=
 xaf b l&&decide ((l.map FI.n).Nodup)&&l.all (fun f=>decide (f.n<l.length))&&(bC l.length).all (l.map FI.n).contains&&
 y.all (fun p=>decide p.Nodup&&p.all (l.map FI.n).contains&&(l.map FI.n).all p.contains&&AJ b none (jw l p)&&xJ b (jw l p))&&l8 b l.length (y.map fun p=>fV (jw l p))
def RC.ok(N:Nat):RC->Bool
 | .ops l=>l.all (RI.ok N)
 | .flt b _ l _=>l.all (fun f=>f.i.ok N)&&VT b l
 | .fla b _ l y _=>l.all (fun f=>f.i.ok N)&&X5 b l y
 | .seq a b=>a.ok N&&b.ok N
 | .cond _ a b=>a.ok N&&b.ok N
 | .block _ b=>b.ok N
 | .loop b=>b.ok N
 | .pre _ a=>a.ok N
 | .post a _=>a.ok N
 |_=>true
inductive RV where
 |tmp (t:Nat)
 |cell (t n:Nat) (ag:Bool)
structure FnC where
 code:RC
 n:Nat
 rs:List RV
 keep:List Nat:=[]
 raw:List Nat:=[]
inductive FnB where
 |code (F:FnC)
 |prim (f:List SV->List aH->Nat->Option dV)
structure iO where
 fn:Nat->Option FnB
 sg:Nat->Sig
def uj(c:CSt):List RV->Option f8
 |[]=>some []
 | .tmp t::r=>match uj c r with
  |some vs=>some (c.get t::vs)
  |none=>none
 | .cell t n ag::r=>match (if ag=true\/n=1 then nP c n ag (c.get t)else none),uj c r with
  |some v,some vs=>some (v::vs)
  |_,_=>none
def lw:Nat->t8
 |0=> []
 |n+1=>lw n++ [n]
def gP(k:Nat):List aH->List (Nat×aH)
 |[]=> []
 |o::r=>(k,o)::gP (k+1) r
def iM(k:Nat)(m:t8)(o:Nat):Nat:=if o<k then o else 100+iy m o
def tks(b n:Nat):t8:=(lw n).map (b+ ·)
def xh5(k:Nat)(vs:f8)(E:List LAa)(m:t8)(os:List aH)(y:List LAa):Bool->Option dV
 |true=>some ⟨(kt vs).ren (iM k m) id,(gP 0 (eY (iM k m) id (os.take k)))++(gP (100+k) (eY (iM k m) id (os.drop k))),tks 60 (E.length+y.length)⟩
 |false=>none
def xh6(k:Nat)(vs:f8)(y:List LAa)(m:t8):List aH×List LAa->Option dV
 |(os,mt2)=>xh5 k vs y m os mt2 (pR (SV.idsL vs++gp os) m&&eg m&&eg (cO (y++mt2))&&decide (m.take k=lw k)&&(m.drop k).all fun o=>decide (k<=o))
def xh7(k:Nat)(c:CSt)(vs:f8)(y:List LAa)(m:t8):Option (List aH)->Option dV
 |some os=>xh6 k vs y m (eU c.tk (60+y.length) os)
 |none=>none
def xh8(k:Nat)(c:CSt):f8×List LAa->Option dV
 |(vs,mt1)=>xh7 k c vs mt1 (eC c 60 [] (lw k++SV.idsL vs)) (im c (eC c 60 [] (lw k++SV.idsL vs)))
def UD(keep:t8)(k:Nat)(c:CSt)(vs:f8):Bool->Option dV
 |true=>some ⟨kt (SV.bareL vs),[],[]⟩
 |false=>xh8 k c (lh c.tk keep 60 0 vs)
def xaj(keep:t8)(k:Nat):CSt×f8->Option dV
 |(c,vs)=>UD keep k c vs (decide (k=0)&&(SV.idsL vs).isEmpty&&keep.isEmpty)
def UE(keep raw:t8)(k:Nat)(c:CSt):Option f8->Option dV
 |some vs=>xaj keep k (fx c vs (jP raw 0 vs))
 |none=>none
def Jf(F:FnC)(k:Nat):iF->Option dV
 |some (.n,c)=>UE F.keep F.raw k c (uj c F.rs)
 |some (.r,c)=>UE F.keep F.raw k c (uj c F.rs)
 |_=>none
def px:Nat->f8->List (Nat×SV)
 |_,[]=> []
 |i,v::r=>(i,v)::px (i+1) r
def tP(args:f8)(os:List aH)(k:Nat):CSt:=⟨px 0 args,gP 0 os,tks 50 k⟩
def Jd(rn:RC->CSt->iF)(F:FnC)(args:f8)(os:List aH)(k:Nat):iF:=if args.length<=F.n then rn F.code (tP args os k)else none
def nY(rn:RC->CSt->iF):Option FnB->f8->List aH->Nat->Option dV
 |some (.code F),args,os,k=>Jf F os.length (Jd rn F args os k)
 |some (.prim f),args,os,k=>f args os k
 |none,_,_,_=>none
noncomputable def gu(T:iO):Nat->RC->CSt->iF
 |0,_,_=>none
 |n+1,r,c=>eA (gu T n) (fun g args os k=>nY (gu T n) (T.fn g) args os k) T.sg r c
noncomputable def fu(T:iO)(n:Nat):dw:=fun g args os k=>nY (gu T n) (T.fn g) args os k
noncomputable def lim{α:Type}(g:Nat->Option α):Option α:=open Classical in if h:∃n x,g n=some x then g (Classical.choose h)else none
noncomputable def run(T:iO)(r:RC)(c:CSt):iF:=lim fun n=>gu T n r c
noncomputable def call(T:iO):dw:=fun g args os k=>lim fun n=>fu T n g args os k
end Go.Sy
namespace Go.Sy
variable [bx]
def leR(f g:RC->CSt->iF):Prop:=∀r c x,f r c=some x->g r c=some x
def leC(f g:dw):Prop:=∀a b o k x,f a b o k=some x->g a b o k=some x
theorem Bo{c:CSt}{d:LAa}{x:CSt}{a b:Option dV}(h:∀q,a=some q->b=some q)(k:nR c d a=some x):nR c d b=some x:=by
 cases a with
 |none=>cases k
 |some q=>rw[h q rfl];exact k
theorem AA{c:CSt}{d:LAa}{m mt:t8}{x:CSt}{a b:Option dV}(h:∀q,a=some q->b=some q)(k:pW c d m mt a=some x):pW c d m mt b=some x:=by
 cases a with
 |none=>cases k
 |some q=>rw[h q rfl];exact k
theorem AB{f g:dw}(h:leC f g){c:CSt}{d:LAa}{n:Nat}{a_:f8}{y:List LAa}{m:t8}{o:Option (List aH)}{x:CSt}
 (k:mI f c d n a_ y m o=some x):mI g c d n a_ y m o=some x:=by
 cases o with
 |none=>cases k
 |some os=>
  simp only[mI]at k ⊢;generalize eU c.tk (50+y.length) os=z at k ⊢;obtain⟨F,E⟩:=z;simp only[pk]at k ⊢;generalize (pR (SV.idsL a_++gp F) m&&eg m&&eg (cO (y++E))&&decide (m.length<=40)&&m.all fun o=> !inR (d.getD 0) o)=b at k ⊢;cases b with
  |false=>cases k
  |true=>simp only[pj]at k ⊢;exact AA (fun q I=>h _ _ _ _ _ I) k
theorem Ay{f g:dw}(h:leC f g){sg:Sig}{d:LAa}{n:Nat}{p:CSt×f8}{x:CSt}(k:kT f sg d n p=some x):kT g sg d n p=some x:=by obtain⟨c,a_⟩:=p;simp only[kT]at k ⊢;generalize lh c.tk sg.own 50 0 a_=z at k ⊢;obtain⟨E,y⟩:=z;simp only[pl]at k ⊢;exact AB h k
theorem Bv{f g:dw}(h:leC f g){sg:Sig}{c:CSt}{d:LAa}{n:Nat}{a_:f8}{x:CSt}(k:jb f sg c d n a_=some x):jb g sg c d n a_=some x:=by
 unfold jb at k ⊢;generalize ((SV.idsL a_).isEmpty&&sg.own.isEmpty)=b at k ⊢;cases b with
 |true=>exact Bo (fun q y=>h _ _ _ _ _ y) k
 |false=>exact Ay h k
theorem nL{f g:dw}(h:leC f g){sg:Nat->Sig}{c:CSt}{d:LAa}{o:SOp}{x:CSt}(k:opC f sg c d o=some x):opC g sg c d o=some x:=by
 cases o with
 |call a a_=>simp only[opC]at k ⊢;split at k<;>first|exact Bv h k|cases k
 |_=>exact k
theorem km{f g:dw}(h:leC f g){sg:Nat->Sig}{c:CSt}{i:SI}{x:CSt}(k:eB f sg c i=some x):eB g sg c i=some x:=by
 unfold eB at k ⊢;split at k
 ·exact nL h k
 ·split at k
  ·split at k
   ·rename_i y;rw[if_pos y];exact nL h k
   ·rename_i y;rw[if_neg y];exact k
  ·exact k
  ·cases k
theorem yP{f g:dw}(h:leC f g){sg:Nat->Sig}:∀{l:LAd}{c x:CSt},plC f sg l c=some x->plC g sg l c=some x:=by
 intro l;induction l with
 |nil=>intro c x k;simpa[plC]using k
 |cons i r y=>
  intro c x k;simp only[plC]at k ⊢;cases hs:opC f sg c i.dst i.op with
  |none=>rw[hs]at k;simp[nxP]at k
  |some c1=>rw[hs]at k;rw[nL h hs];simp only[nxP]at k ⊢;exact y k
theorem uC{f g:dw}(h:leC f g){sg:Nat->Sig}{b:Bool}{l:LAd}{c x:CSt}{v:SV}(k:qS f sg b l c v=some x):qS g sg b l c v=some x:=by
 unfold qS at k ⊢;split at k
 ·split at k
  ·rename_i y;rw[if_pos y];exact yP h k
  ·rename_i y;rw[if_neg y];exact k
 ·exact k
 ·cases k
theorem oI{f g:dw}(h:leC f g){sg:Nat->Sig}:∀{l:List RI}{c x:CSt},gw f sg l c=some x->gw g sg l c=some x:=by
 intro l;induction l with
 |nil=>intro c x k;simpa[gw]using k
 |cons i r E=>
  intro c x k;cases i with
  |op i y=>
   simp only[gw]at k ⊢;cases hs:eB f sg c i with
   |none=>rw[hs]at k;simp[nxC]at k
   |some c1=>rw[hs]at k;rw[km h hs];simp only[nxC]at k ⊢;exact E k
  |grp q b l y=>
   simp only[gw]at k ⊢;cases hs:qS f sg b l c (c.get q)with
   |none=>rw[hs]at k;simp[nxC]at k
   |some c1=>rw[hs]at k;rw[uC h hs];simp only[nxC]at k ⊢;exact E k
  |own i y=>
   simp only[gw]at k ⊢;cases hs:vQ c i with
   |none=>rw[hs]at k;simp[nxC]at k
   |some c1=>rw[hs]at k;simp only[nxC]at k ⊢;exact E k
  |tks i y=>
   simp only[gw]at k ⊢;cases hs:D3 c i with
   |none=>rw[hs]at k;simp[nxC]at k
   |some c1=>rw[hs]at k;simp only[nxC]at k ⊢;exact E k
  |dir d=>
   simp only[gw]at k ⊢;cases hs:tw c d with
   |none=>rw[hs]at k;simp[nxC]at k
   |some c1=>rw[hs]at k;simp only[nxC]at k ⊢;exact E k
theorem jT{f g:dw}(h:leC f g){sg:Nat->Sig}{b:t8}:∀{l y:List FI}{c x:CSt},fH f sg b l y c=some x->fH g sg b l y c=some x:=by
 intro l;induction l with
 |nil=>intro y c x k;simpa[fH]using k
 |cons i r E=>
  intro y c x k;obtain⟨n,q,i⟩:=i;cases q with
  |true=>
   simp only[fH]at k ⊢;cases hq:qv c i with
   |none=>rw[hq]at k;simp[zx]at k
   |some v=>rw[hq]at k;simp only[zx]at k ⊢;exact E k
  |false=>
   simp only[fH]at k ⊢;cases hs:eB f sg c i with
   |none=>rw[hs]at k;simp[tq]at k
   |some c1=>
    rw[hs]at k;rw[km h hs];simp only[tq]at k ⊢;cases hg:gdP (wi (b.getD n 0) c1 y) c1 with
    |none=>rw[hg]at k;simp[tu]at k
    |some c2=>rw[hg]at k;simp only[tu]at k ⊢;exact E k
theorem oR{f g:dw}(h:leC f g){sg:Nat->Sig}{b:t8}{l:List FI}:∀{E:List t8}{c x:CSt},jV f sg b l E c=some x->jV g sg b l E c=some x
 |[],c,x,k=>by simp[jV]at k
 |[p],c,x,k=>jT h k
 |p::q::r,c,x,k=>by
  simp only[jV]at k ⊢;cases h1:fH f sg b (jw l p) [] c with
  |none=>rw[h1]at k;simp[pz]at k
  |some y=>
   cases h2:jV f sg b l (q::r) c with
   |none=>rw[h1,h2]at k;simp[pz]at k
   |some z=>rw[h1,h2]at k;rw[jT h h1,oR h h2];exact k
theorem mH{rn I:RC->CSt->iF}{f g:dw}(E:leR rn I)(h:leC f g){sg:Nat->Sig}{r:RC}{c:CSt}{x:Ex×CSt}(k:eA rn f sg r c=some x):eA I g sg r c=some x:=by
 cases r with
 |skip=>exact k
 |ret=>exact k
 |exit id=>exact k
 |ops l=>
  simp only[eA]at k ⊢;cases hs:gw f sg l c with
  |none=>rw[hs]at k;cases k
  |some c1=>rw[hs]at k;rw[oI h hs];exact k
 |flt b J l F=>
  simp only[eA]at k ⊢;cases hs:fH f sg b l [] c with
  |none=>rw[hs]at k;simp[nrm]at k
  |some c1=>rw[hs]at k;rw[jT h hs];exact k
 |fla b J l O F=>
  simp only[eA]at k ⊢;cases hs:jV f sg b l O c with
  |none=>rw[hs]at k;simp[nrm]at k
  |some c1=>rw[hs]at k;rw[oR h hs];exact k
 |seq a b=>
  simp only[eA]at k ⊢;cases hs:rn a c with
  |none=>rw[hs]at k;cases k
  |some p=>
   rw[hs]at k;rw[E _ _ _ hs];obtain⟨e,c1⟩:=p;cases e with
   |n=>exact E _ _ _ k
   |x id=>exact k
   |r=>exact k
 |cond a y z=>
  simp only[eA]at k ⊢;unfold cnd at k ⊢;split at k
  ·split at k
   ·rename_i L;rw[if_pos L];exact E _ _ _ k
   ·rename_i L;rw[if_neg L];exact E _ _ _ k
  ·cases k
 |block id b=>
  simp only[eA]at k ⊢;cases hs:rn b c with
  |none=>rw[hs]at k;cases k
  |some p=>rw[hs]at k;rw[E _ _ _ hs];exact k
 |loop b=>
  simp only[eA]at k ⊢;cases hs:rn b c with
  |none=>rw[hs]at k;cases k
  |some p=>
   rw[hs]at k;rw[E _ _ _ hs];obtain⟨e,c1⟩:=p;cases e with
   |n=>exact E _ _ _ k
   |x id=>exact k
   |r=>exact k
 |pre J a=>
  simp only[eA]at k ⊢;cases hs:jt c J with
  |none=>rw[hs]at k;cases k
  |some c1=>rw[hs]at k;exact E _ _ _ k
 |bad=>cases k
 |post a J=>
  simp only[eA]at k ⊢;cases hs:rn a c with
  |none=>rw[hs]at k;cases k
  |some p=>rw[hs]at k;rw[E _ _ _ hs];exact k
theorem jc{rn y:RC->CSt->iF}(I:leR rn y){o:Option FnB}{a:f8}{os:List aH}{k:Nat}{x:dV}(h:nY rn o a os k=some x):nY y o a os k=some x:=by
 cases o with
 |none=>cases h
 |some b=>
  cases b with
  |prim f=>exact h
  |code F=>
   simp only[nY,Jd]at h ⊢;split at h
   ·rename_i E
    rw[if_pos E];cases hs:rn F.code (tP a os k)with
    |none=>rw[hs]at h;cases h
    |some p=>rw[hs]at h;rw[I _ _ _ hs];exact h
   ·cases h
variable {T : iO}
theorem uf:∀n,leR (gu T n) (gu T (n+1))
 |0=>fun r c x h=>by simp[gu]at h
 |n+1=>fun r c x h=>by have y:=uf n;rw[gu]at h ⊢;exact mH y (fun g a os k x h=>jc y h) h
theorem lR{n m:Nat}(h:n<=m):leR (gu T n) (gu T m):=by
 induction m with
 |zero=>
  have:n=0:=by omega
  subst this;exact fun _ _ _ h=>h
 |succ m y=>
  rcases bQ n (m+1)with E|E
  ·exact fun r c x F=>uf m r c x (y (by omega) r c x F)
  ·have:n=m+1:=by omega
   subst this;exact fun _ _ _ h=>h
theorem eD{n m:Nat}(h:n<=m):leC (fu T n) (fu T m):=fun _ _ _ _ _ y=>jc (lR h) y
theorem zf{α:Type}{g:Nat->Option α}(F:∀n m x,n<=m->g n=some x->g m=some x){n:Nat}{x:α}(h:g n=some x):lim g=some x:=by have E:∃n x,g n=some x:=⟨n,x,h⟩;unfold lim;rw[dif_pos E];obtain⟨y,I⟩:=Classical.choose_spec E;have L:=F _ (max n (Classical.choose E)) _ (BK _ _) I;have J:=F _ (max n (Classical.choose E)) _ (Nat.le_max_left _ _) h;rw[I,<-L,J]
theorem Un{α:Type}{g:Nat->Option α}{x:α}(h:lim g=some x):∃n,g n=some x:=by
 unfold lim at h;split at h
 ·exact⟨_,h⟩
 ·cases h
theorem LP{n:Nat}{r:RC}{c:CSt}{x:Ex×CSt}(h:gu T n r c=some x):run T r c=some x:=zf (fun _ _ _ y h=>lR y _ _ _ h) h
theorem iI{r:RC}{c:CSt}{x:Ex×CSt}(h:run T r c=some x):∃n,gu T n r c=some x:=Un h
theorem ri{n:Nat}{g:Nat}{a:f8}{os:List aH}{k:Nat}{x:dV}(h:fu T n g a os k=some x):call T g a os k=some x:=zf (fun _ _ _ y h=>eD y _ _ _ _ _ h) h
theorem qx{g:Nat}{a:f8}{os:List aH}{k:Nat}{x:dV}(h:call T g a os k=some x):∃n,fu T n g a os k=some x:=Un h
theorem LQ(n:Nat):leR (gu T n) (run T):=fun _ _ _ h=>LP h
theorem xaP(n:Nat):leC (fu T n) (call T):=fun _ _ _ _ _ h=>ri h
theorem Bw{sg:Sig}{c:CSt}{d:LAa}{g:Nat}{a_:f8}{x:CSt}(k:jb (call T) sg c d g a_=some x):∃n,jb (fu T n) sg c d g a_=some x:=by
 unfold jb at k ⊢;generalize ((SV.idsL a_).isEmpty&&sg.own.isEmpty)=b at k ⊢;cases b with
 |true=>
  simp only[ld]at k ⊢;cases hq:call T g (SV.bareL a_) [] 0 with
  |none=>rw[hq]at k;cases k
  |some q=>obtain⟨n,hn⟩:=qx hq;exact⟨n,by rw[hn];rw[hq]at k;exact k⟩
 |false=>
  simp only[ld]at k ⊢;generalize fx c a_ (jP sg.raw 0 a_)=z at k ⊢;obtain⟨c1,J⟩:=z;simp only[kT]at k ⊢;generalize lh c1.tk sg.own 50 0 J=z at k ⊢;obtain⟨y,E⟩:=z;simp only[pl]at k ⊢;cases ho:im c1 (eC c1 60 [] (SV.idsL y))with
  |none=>rw[ho]at k;cases k
  |some os=>
   rw[ho]at k;simp only[mI]at k ⊢;generalize eU c1.tk (50+E.length) os=z at k ⊢;obtain⟨F,I⟩:=z;simp only[pk]at k ⊢;generalize (pR (SV.idsL y++gp F) (eC c1 60 [] (SV.idsL y))&&eg (eC c1 60 [] (SV.idsL y))&&eg (cO (E++I))&&decide ((eC c1 60 [] (SV.idsL y)).length<=40)&&(eC c1 60 [] (SV.idsL y)).all fun o=> !inR (d.getD 0) o)=b at k ⊢;cases b with
   |false=>cases k
   |true=>
    simp only[pj]at k ⊢;cases hq:call T g (SV.renL (iy (eC c1 60 [] (SV.idsL y))) id y) (eY (iy (eC c1 60 [] (SV.idsL y))) id F) (E.length+I.length)with
    |none=>rw[hq]at k;cases k
    |some q=>obtain⟨n,hn⟩:=qx hq;exact⟨n,by rw[hn];rw[hq]at k;exact k⟩
theorem rM{sg:Nat->Sig}{c:CSt}{d:LAa}{o:SOp}{x:CSt}(k:opC (call T) sg c d o=some x):∃n,opC (fu T n) sg c d o=some x:=by
 cases o with
 |call a a_=>simp only[opC]at k ⊢;split at k<;>first|exact Bw k|cases k
 |_=>exact⟨0,k⟩
theorem pT{sg:Nat->Sig}{c:CSt}{i:SI}{x:CSt}(k:eB (call T) sg c i=some x):∃n,eB (fu T n) sg c i=some x:=by
 unfold eB at k ⊢;split at k
 ·exact rM k
 ·split at k
  ·split at k
   ·rename_i y;simp only[if_pos y];exact rM k
   ·rename_i y;simp only[if_neg y];exact⟨0,k⟩
  ·exact⟨0,k⟩
  ·cases k
theorem Kt{sg:Nat->Sig}:∀{l:LAd}{c x:CSt},plC (call T) sg l c=some x->∃n,plC (fu T n) sg l c=some x:=by
 intro l;induction l with
 |nil=>intro c x k;exact⟨0,by simpa[plC]using k⟩
 |cons i r E=>
  intro c x k;simp only[plC]at k ⊢;cases hs:opC (call T) sg c i.dst i.op with
  |none=>rw[hs]at k;simp[nxP]at k
  |some c1=>rw[hs]at k;simp only[nxP]at k;obtain⟨n,hn⟩:=rM hs;obtain⟨m,y⟩:=E k;refine⟨max n m, ?_⟩;rw[nL (eD (Nat.le_max_left n m)) hn];simp only[nxP];exact yP (eD (BK n m)) y
theorem H4{sg:Nat->Sig}{b:Bool}{l:LAd}{c x:CSt}{v:SV}(k:qS (call T) sg b l c v=some x):∃n,qS (fu T n) sg b l c v=some x:=by
 unfold qS at k ⊢;split at k
 ·split at k
  ·rename_i y;simp only[if_pos y];exact Kt k
  ·rename_i y;simp only[if_neg y];exact⟨0,k⟩
 ·exact⟨0,k⟩
 ·cases k
theorem HH{sg:Nat->Sig}:∀{l:List RI}{c x:CSt},gw (call T) sg l c=some x->∃n,gw (fu T n) sg l c=some x:=by
 intro l;induction l with
 |nil=>intro c x k;exact⟨0,by simpa[gw]using k⟩
 |cons i r E=>
  intro c x k;cases i with
  |op i y=>
   simp only[gw]at k ⊢;cases hs:eB (call T) sg c i with
   |none=>rw[hs]at k;simp[nxC]at k
   |some c1=>rw[hs]at k;simp only[nxC]at k;obtain⟨n,hn⟩:=pT hs;obtain⟨m,F⟩:=E k;refine⟨max n m, ?_⟩;rw[km (eD (Nat.le_max_left n m)) hn];simp only[nxC];exact oI (eD (BK n m)) F
  |grp q b l y=>
   simp only[gw]at k ⊢;cases hs:qS (call T) sg b l c (c.get q)with
   |none=>rw[hs]at k;simp[nxC]at k
   |some c1=>rw[hs]at k;simp only[nxC]at k;obtain⟨n,hn⟩:=H4 hs;obtain⟨m,F⟩:=E k;refine⟨max n m, ?_⟩;rw[uC (eD (Nat.le_max_left n m)) hn];simp only[nxC];exact oI (eD (BK n m)) F
  |own i y=>
   simp only[gw]at k ⊢;cases hs:vQ c i with
   |none=>rw[hs]at k;simp[nxC]at k
   |some c1=>rw[hs]at k;simp only[nxC]at k ⊢;exact E k
  |tks i y=>
   simp only[gw]at k ⊢;cases hs:D3 c i with
   |none=>rw[hs]at k;simp[nxC]at k
   |some c1=>rw[hs]at k;simp only[nxC]at k ⊢;exact E k
  |dir d=>
   simp only[gw]at k ⊢;cases hs:tw c d with
   |none=>rw[hs]at k;simp[nxC]at k
   |some c1=>rw[hs]at k;simp only[nxC]at k ⊢;exact E k
theorem oN{sg:Nat->Sig}{b:t8}:∀{l y:List FI}{c x:CSt},fH (call T) sg b l y c=some x->∃n,fH (fu T n) sg b l y c=some x:=by
 intro l;induction l with
 |nil=>intro y c x k;exact⟨0,by simpa[fH]using k⟩
 |cons i r J=>
  intro y c x k;obtain⟨n,q,i⟩:=i;cases q with
  |true=>
   simp only[fH]at k ⊢;cases hq:qv c i with
   |none=>rw[hq]at k;simp[zx]at k
   |some v=>rw[hq]at k;simp only[zx]at k ⊢;exact J k
  |false=>
   simp only[fH]at k ⊢;cases hs:eB (call T) sg c i with
   |none=>rw[hs]at k;simp[tq]at k
   |some c1=>
    rw[hs]at k;simp only[tq]at k;cases hg:gdP (wi (b.getD n 0) c1 y) c1 with
    |none=>rw[hg]at k;simp[tu]at k
    |some c2=>rw[hg]at k;simp only[tu]at k;obtain⟨F,E⟩:=pT hs;obtain⟨m2,I⟩:=J k;refine⟨max F m2, ?_⟩;rw[km (eD (Nat.le_max_left F m2)) E];simp only[tq];rw[hg];simp only[tu];exact jT (eD (BK F m2)) I
theorem uX{sg:Nat->Sig}{b:t8}{l:List FI}:∀{E:List t8}{c x:CSt},jV (call T) sg b l E c=some x->∃n,jV (fu T n) sg b l E c=some x
 |[],c,x,k=>by simp[jV]at k
 |[p],c,x,k=>oN k
 |p::q::r,c,x,k=>by
  simp only[jV]at k ⊢;cases h1:fH (call T) sg b (jw l p) [] c with
  |none=>rw[h1]at k;simp[pz]at k
  |some y=>
   cases h2:jV (call T) sg b l (q::r) c with
   |none=>rw[h1,h2]at k;simp[pz]at k
   |some z=>rw[h1,h2]at k;obtain⟨n,hn⟩:=oN h1;obtain⟨m,F⟩:=uX h2;exact⟨max n m,by rw[jT (eD (Nat.le_max_left n m)) hn,oR (eD (BK n m)) F];exact k⟩
theorem two{r s:RC}{c d:CSt}{x y:Ex×CSt}(h:run T r c=some x)(k:run T s d=some y):∃n,gu T n r c=some x/\gu T n s d=some y:=by obtain⟨n,hn⟩:=iI h;obtain⟨m,E⟩:=iI k;exact⟨max n m,lR (Nat.le_max_left n m) _ _ _ hn,lR (BK n m) _ _ _ E⟩
theorem Ar{r:RC}{c:CSt}{x:Ex×CSt}(k:eA (run T) (call T) T.sg r c=some x):∃n,eA (gu T n) (fu T n) T.sg r c=some x:=by
 cases r with
 |skip=>exact⟨0,k⟩
 |ret=>exact⟨0,k⟩
 |exit id=>exact⟨0,k⟩
 |ops l=>
  simp only[eA]at k ⊢;cases hs:gw (call T) T.sg l c with
  |none=>rw[hs]at k;cases k
  |some c1=>obtain⟨n,hn⟩:=HH hs;exact⟨n,by rw[hn];rw[hs]at k;exact k⟩
 |flt b F l E=>
  simp only[eA]at k ⊢;cases hs:fH (call T) T.sg b l [] c with
  |none=>rw[hs]at k;simp[nrm]at k
  |some c1=>obtain⟨n,hn⟩:=oN hs;exact⟨n,by rw[hn];rw[hs]at k;exact k⟩
 |fla b F l O E=>
  simp only[eA]at k ⊢;cases hs:jV (call T) T.sg b l O c with
  |none=>rw[hs]at k;simp[nrm]at k
  |some c1=>obtain⟨n,hn⟩:=uX hs;exact⟨n,by rw[hn];rw[hs]at k;exact k⟩
 |seq a b=>
  simp only[eA]at k ⊢;cases hs:run T a c with
  |none=>rw[hs]at k;cases k
  |some p=>
   rw[hs]at k;obtain⟨e,c1⟩:=p;cases e with
   |n=>obtain⟨n,L,J⟩:=two hs k;exact⟨n,by rw[L];exact J⟩
   |x id=>obtain⟨n,hn⟩:=iI hs;exact⟨n,by rw[hn];exact k⟩
   |r=>obtain⟨n,hn⟩:=iI hs;exact⟨n,by rw[hn];exact k⟩
 |cond a y z=>
  simp only[eA]at k ⊢;unfold cnd at k ⊢;split at k
  ·split at k
   ·rename_i I;simp only[if_pos I];exact iI k
   ·rename_i I;simp only[if_neg I];exact iI k
  ·cases k
 |block id b=>
  simp only[eA]at k ⊢;cases hs:run T b c with
  |none=>rw[hs]at k;cases k
  |some p=>obtain⟨n,hn⟩:=iI hs;exact⟨n,by rw[hn];rw[hs]at k;exact k⟩
 |loop b=>
  simp only[eA]at k ⊢;cases hs:run T b c with
  |none=>rw[hs]at k;cases k
  |some p=>
   rw[hs]at k;obtain⟨e,c1⟩:=p;cases e with
   |n=>obtain⟨n,L,J⟩:=two hs k;exact⟨n,by rw[L];exact J⟩
   |x id=>obtain⟨n,hn⟩:=iI hs;exact⟨n,by rw[hn];exact k⟩
   |r=>obtain⟨n,hn⟩:=iI hs;exact⟨n,by rw[hn];exact k⟩
 |pre F a=>
  simp only[eA]at k ⊢;cases hs:jt c F with
  |none=>rw[hs]at k;cases k
  |some c1=>rw[hs]at k;exact iI k
 |bad=>cases k
 |post a F=>
  simp only[eA]at k ⊢;cases hs:run T a c with
  |none=>rw[hs]at k;cases k
  |some p=>obtain⟨n,hn⟩:=iI hs;exact⟨n,by rw[hn];rw[hs]at k;exact k⟩
theorem vR{α:Type}{a b:Option α}(h:∀x,a=some x->b=some x)(k:∀x,b=some x->a=some x):a=b:=by
 cases a with
 |none=>cases b with
  |none=>rfl
  |some x=>exact absurd (k x rfl) (by simp)
 |some x=>exact(h x rfl).symm
theorem iS(r:RC)(c:CSt):run T r c=eA (run T) (call T) T.sg r c:=by
 refine vR (fun x h=> ?_) (fun x h=> ?_)
 ·obtain⟨n,hn⟩:=iI h
  cases n with
  |zero=>simp[gu]at hn
  |succ n=>rw[gu]at hn;exact mH (LQ n) (xaP n) hn
 ·obtain⟨n,hn⟩:=Ar h
  exact LP (n:=n+1) (by rw[gu];exact hn)
theorem Gv(g:Nat)(a:f8)(os:List aH)(k:Nat):call T g a os k=nY (run T) (T.fn g) a os k:=by
 refine vR (fun x h=> ?_) (fun x h=> ?_)
 ·obtain⟨n,hn⟩:=qx h
  exact jc (LQ n) hn
 ·cases hF:T.fn g with
  |none=>rw[hF]at h;cases h
  |some b=>
   cases b with
   |prim f=>exact ri (n:=0) (by unfold fu;rw[hF];rw[hF]at h;exact h)
   |code F=>
    rw[hF]at h;simp only[nY,Jd]at h;split at h
    ·rename_i y
     cases hs:run T F.code (tP a os k)with
     |none=>rw[hs]at h;cases h
     |some p=>obtain⟨n,hn⟩:=iI hs;refine ri (n:=n) ?_;unfold fu;rw[hF];simp only[nY,Jd,if_pos y];rw[hn];rw[hs]at h;exact h
    ·cases h
theorem Ka(c:CSt):run T .skip c=some (.n,c):=iS _ _
theorem YY(c:CSt):run T .ret c=some (.r,c):=iS _ _
theorem Kf(id:Nat)(c:CSt):run T (.exit id) c=some (.x id,c):=iS _ _
theorem Y0(l:List RI)(c:CSt):run T (.ops l) c=nrm [] (gw (call T) T.sg l c):=iS _ _
theorem Y2(b F:t8)(l:List FI)(E:List t8)(y:t8)(c:CSt):run T (.fla b F l E y) c=nrm y (jV (call T) T.sg b l E c):=iS _ _
theorem Y1(b E:t8)(l:List FI)(y:t8)(c:CSt):run T (.flt b E l y) c=nrm y (fH (call T) T.sg b l [] c):=iS _ _
theorem YX(a b:RC)(c:CSt):run T (.seq a b) c=sq (run T) b (run T a c):=iS _ _
theorem Kg(k:Arg)(a b:RC)(c:CSt):run T (.cond k a b) c=cnd (run T) a b c (c.ev k):=iS _ _
theorem Hw(id:Nat)(b:RC)(c:CSt):run T (.block id b) c=blk id (run T b c):=iS _ _
theorem ai(b:RC)(c:CSt):run T (.loop b) c=lp (run T) b (run T b c):=iS _ _
theorem YZ(y:List Dir)(a:RC)(c:CSt):run T (.pre y a) c=prD (run T) a (jt c y):=iS _ _
theorem Kd(a:RC)(y:List Dir)(c:CSt):run T (.post a y) c=psD y (run T a c):=iS _ _
theorem aj{g:Nat}{F:FnC}(h:T.fn g=some (.code F))(a:f8)(os:List aH)(k:Nat):call T g a os k=Jf F os.length (Jd (run T) F a os k):=by rw[Gv,h];rfl
theorem ff{g:Nat}{f:f8->List aH->Nat->Option dV}(h:T.fn g=some (.prim f))(a:f8)(os:List aH)(k:Nat):call T g a os k=f a os k:=by rw[Gv,h];rfl
end Go.Sy
namespace Go.Sy
variable [bx]
variable {call : dw} {sg : Nat -> Sig} {c : CSt} {d : Option Nat} {k : Nat}
theorem xnA{α:Type}{p:Prop}[Decidable p]{v:α}(h:p):gd p v=some v:=if_pos h
def gj(c:CSt)(d:LAa):Option SV->LAe
 |some v=>some (c.put d v)
 |none=>none
theorem HB(v:SV):gj c d (some v)=some (c.put d v):=rfl
theorem HC:gj c d none=none:=rfl
theorem Km(l:List (Nat×SV))(o:List (Nat×aH))(t:t8)(v:SV):CSt.put ⟨l,o,t⟩ (some k) v=⟨kr l k v,o,t⟩:=rfl
theorem Kn(v:SV):CSt.put c none v=c:=rfl
theorem xnz(l:List (Nat×SV))(o:List (Nat×aH))(t:t8)(n:Nat):CSt.get ⟨l,o,t⟩ n=fb l n:=rfl
theorem ZS(l:List (Nat×SV))(o:List (Nat×aH))(t:t8)(n:Nat):CSt.look ⟨l,o,t⟩ n=jD o n:=rfl
theorem xx2(n:Nat):c.ev (.t n)=c.get n:=rfl
theorem xx4(v:SV):c.ev (.c v)=v:=rfl
theorem xx3(g:Nat):c.ev (.f g)= .fn g [] []:=rfl
theorem rW:c.kill []=c:=rfl
theorem HU(l:List (Nat×SV))(o:List (Nat×aH))(t:t8)(n:Nat)(r:t8):CSt.kill ⟨l,o,t⟩ (n::r)=⟨zS l (n::r),o,t⟩:=rfl
def DZ:Option SV->Option pL
 |some v=>some {val:=v}
 |none=>none
theorem G5(v:SV):DZ (some v)=some {val:=v}:=rfl
theorem G6:DZ none=none:=rfl
theorem sx{so:SOp}{o:Option SV}(h:eJ c d so=DZ o):o5 c d (eJ c d so)=gj c d o:=by rw[h];cases o<;>rfl
theorem Ys(o:Option SV):(match o with|some v=>some {val:=v}|none=>none:Option pL)=DZ o:=by cases o<;>rfl
def IH:SV->Option SV
 | .ptr o off=>some (.ptr o off)
 | .ap o y i j=>some (.ap o y i j)
 | .pp cs=>some (.pp cs)
 | .fn f a b=>some (.fn f a b)
 |_=>none
def xih(y:Bool):SV->SV->Option SV
 | .bool a,.bool b=>some (.bool (if y then decide (a≠b)else decide (a=b)))
 |_,_=>none
def xid(y:Bool)(E:t8):SV->SV->Option SV
 | .agg cs,.agg ds=>(iA E cs ds).map fun b=> .bool (if y then !b else b)
 |_,_=>none
def xc:SV->Option SV
 | .str l=>some (.str l)
 |_=>none
def IN(y:Bool):SV->Option SV
 | .nili=>some (.bool (!y))
 |_=>none
def xbq:SV->Option SV
 | .str l=>some (.byt l .no)
 |_=>none
def xii(c:CSt):SV->Option SV
 | .str _=>none
 |v=>(fg c v).map .str
def LL(l:d9):Option Int->Option Int->Option SV
 |some a,some b=>gd (0<=a/\a<=b/\b<=l.length) (.str ((l.take b.toNat).drop a.toNat))
 |_,_=>none
def IA(c:CSt)(lo hi:Option Arg):SV->Option SV
 | .str l=>LL l (lD c lo 0) (lD c hi l.length)
 |_=>none
def IB(c:CSt)(len y:Nat)(lo hi E:Option Arg):SV->Option SV
 | .ptr o off=>if off=0 then pG c y (.psl o y 0 len (some len)) lo hi E else none
 |_=>none
def xP(off:Nat):SV->Option SV
 | .ptr o k=>some (.ptr o (k+off))
 | .ap o y i j=>some (.ap o y i (j+off))
 | .pp cs=>some (.pp (cs.drop off))
 |_=>none
def xh4(off n:Nat)(y:Bool):SV->Option SV
 | .agg cs=>gd (off+n<=cs.length) (eh y n (cs.drop off))
 |_=>none
def qQ(y:Nat):SV->Option Int->Option SV
 | .byt l _,some n=>gd (0<=n/\n<l.length/\y=1) (.pp [.u8 (l.getD n.toNat 0)])
 | .lst sz' xs _,some n=>gd (0<=n/\n<xs.length/\y=sz') (.pp (xs.getD n.toNat []))
 | .psl o sz' off k _,some n=>gd (0<=n/\n<k/\y=sz') (.ap o y (off+n.toNat) 0)
 |_,_=>none
def sd(len y o off:Nat)(n:Int):Option aH->Option SV
 |some (.rc _)=>gd (0<=n/\n<len) (.ptr o (off+n.toNat*y))
 |some _=>gd (off=0/\0<=n/\n<len) (.ap o y n.toNat 0)
 |none=>none
def ow(c:CSt)(len y:Nat):SV->Option Int->Option SV
 | .ptr o off,some n=>sd len y o off n (c.look o)
 | .pp cs,some n=>gd (0<=n/\n<len/\cs.length=len*y) (.pp (cs.drop (n.toNat*y)))
 |_,_=>none
def IR(len y:Nat)(E:Bool):SV->Option Int->Option SV
 | .agg cs,some n=>gd (0<=n/\n<len/\cs.length=len*y) (eh E y (cs.drop (n.toNat*y)))
 |_,_=>none
def IQ:SV->Option Int->Option SV
 | .str l,some n=>gd (0<=n/\n<l.length) (.u8 (l.getD n.toNat 0))
 |_,_=>none
def xic(i:Nat):SV->Option SV
 | .tup vs=>gd (i<vs.length) (vs.getD i .undef)
 |_=>none
def lenC:LAa->Option SV
 |some n=>some (.int .i64 (n:Nat))
 |none=>none
def xif:SV->Option SV
 | .psl _ _ _ _ (some m)=>some (.int .i64 m)
 | .byt l t=>if t= .clip then some (.int .i64 l.length)else none
 | .lst _ y t=>if t= .clip then some (.int .i64 y.length)else none
 |_=>none
def IK:SV->SV->Option SV
 | .int k a,.int k' b=>if k=k' then some (.int k (if b<a then b else a))else none
 |_,_=>none
def IL:SV->SV->Option SV
 | .int k a,.int k' b=>if k=k' then some (.int k (if a<b then b else a))else none
 |_,_=>none
def xU:Option f8->Option SV
 |some l=>some (.agg l)
 |none=>none
def xhT(y:Nat):Option d8->Option SV
 |some r=>some (.lst y r .clip)
 |none=>none
def IM:Option d9->Option SV
 |some r=>some (.byt r .clip)
 |none=>none
theorem xoU(x:Arg):cY c (.mov x)=some (c.ev x):=rfl
theorem D1(z:f8)(y:List (Nat×Nat×Arg)):cY c (.build z y)=xU (jF z (psC c y)):=by simp only[cY];cases jF z (psC c y)<;>rfl
theorem xbg(y:Nat)(E:List Arg):cY c (.lit y E)=xhT y (rows y (evL c E)):=by simp only[cY];cases rows y (evL c E)<;>rfl
theorem LG(y:List Arg):cY c (.litB y)=IM (toB (evL c y)):=by simp only[cY];cases toB (evL c y)<;>rfl
theorem xkF(n:Nat)(y:Bool)(a:Arg):cY c (.load n y a)=nP c n y (c.ev a):=rfl
theorem xkB(x:Arg):cY c (.nchk x)=IH (c.ev x):=rfl
theorem xoZ(op:BinOp)(x y:Arg):cY c (.bin op x y)=Jh op (c.ev x) (c.ev y):=rfl
theorem xo0(E:Bool)(x y:Arg):cY c (.beq E x y)=xih E (c.ev x) (c.ev y):=rfl
theorem xoX(E:Bool)(F:t8)(x y:Arg):cY c (.eqS E F x y)=xid E F (c.ev x) (c.ev y):=rfl
theorem xvR(op:UnOp)(x:Arg):cY c (.un op x)=Ah op (c.ev x):=rfl
theorem Yv(q:IntKind)(x:Arg):cY c (.toInt q x)=iV q (c.ev x):=rfl
theorem Yu(x:Arg):cY c (.toStr x)=xc (c.ev x):=rfl
theorem xkH(y:Bool)(x:Arg):cY c (.isni y x)=IN y (c.ev x):=rfl
theorem xoT(x:Arg):cY c (.s2b x)=xbq (c.ev x):=rfl
theorem xo1(x:Arg):cY c (.b2s x)=xii c (c.ev x):=rfl
theorem xkC(f:Nat)(a b:List Arg):cY c (.mkfn f a b)=some (.fn f (evL c a) (evL c b)):=rfl
theorem LF(x:Arg)(lo hi:Option Arg):cY c (.slcS x lo hi)=IA c lo hi (c.ev x):=by simp only[cY];cases c.ev x<;>rfl
theorem xkz(y:Nat)(x:Arg)(lo hi E:Option Arg):cY c (.slcL y x lo hi E)=pG c y (c.ev x) lo hi E:=rfl
theorem xkA(len y:Nat)(x:Arg)(lo hi E:Option Arg):cY c (.slcA len y x lo hi E)=IB c len y lo hi E (c.ev x):=rfl
theorem Yw(off:Nat)(x:Arg):cY c (.faddr off x)=xP off (c.ev x):=rfl
theorem xoV(off n:Nat)(y:Bool)(x:Arg):cY c (.fld off n y x)=xh4 off n y (c.ev x):=rfl
theorem JL(y:Nat)(x i:Arg):cY c (.iaddrL y x i)=qQ y (c.ev x) (c.ev i).num:=rfl
theorem yl(len y:Nat)(x i:Arg):cY c (.iaddrA len y x i)=ow c len y (c.ev x) (c.ev i).num:=by simp only[cY];unfold ow sd;rfl
theorem xkJ(len y:Nat)(E:Bool)(x i:Arg):cY c (.idxA len y E x i)=IR len y E (c.ev x) (c.ev i).num:=rfl
theorem xkI(x i:Arg):cY c (.idxS x i)=IQ (c.ev x) (c.ev i).num:=rfl
theorem xoW(x:Arg)(i:Nat):cY c (.ext x i)=xic i (c.ev x):=rfl
theorem xbh(b:Bool)(x:Arg):cY c (.len b x)=lenC (lc b (c.ev x)):=by simp only[cY];cases lc b (c.ev x)<;>rfl
theorem xkG(n:Nat):cY c (.lenC n)=some (.int .i64 n):=rfl
theorem xoY(x:Arg):cY c (.cap x)=xif (c.ev x):=rfl
theorem xkD(x y:Arg):cY c (.mini x y)=IK (c.ev x) (c.ev y):=rfl
theorem xkE(x y:Arg):cY c (.maxi x y)=IL (c.ev x) (c.ev y):=rfl
def SOp.pure:SOp->Bool
 | .new _| .box _| .mk _ _ _ _| .mkB _ _| .store _ _ _| .app _ _ _ _| .cpy _ _ _| .pick _ _ _| .call _ _| .isnil _ _| .newB _| .slid _| .appO _ _ _ _| .clr _ _=>false
 |_=>true
theorem uN{so:SOp}(h:so.pure=true):eJ c d so=DZ (cY c so):=by
 cases so<;>first|cases h;done|rfl|exact Ys _
theorem cu{so:SOp}(h:so.pure=true):opC call sg c d so=gj c d (cY c so):=by
 have y:opC call sg c d so=o5 c d (eJ c d so):=by cases so<;>first|rfl|cases h
 rw[y];exact sx (uN h)
theorem xq0(x:Arg):opC call sg c d (.mov x)=gj c d (some (c.ev x)):=cu rfl
theorem ZK(z:f8)(y:List (Nat×Nat×Arg)):opC call sg c d (.build z y)=gj c d (xU (jF z (psC c y))):=(cu rfl).trans (by rw[D1])
theorem xq2(y:Nat)(E:List Arg):opC call sg c d (.lit y E)=gj c d (xhT y (rows y (evL c E))):=(cu rfl).trans (by rw[xbg])
theorem xni(y:List Arg):opC call sg c d (.litB y)=gj c d (IM (toB (evL c y))):=(cu rfl).trans (by rw[LG])
theorem xnh(n:Nat)(y:Bool)(a:Arg):opC call sg c d (.load n y a)=gj c d (nP c n y (c.ev a)):=cu rfl
theorem xnd(x:Arg):opC call sg c d (.nchk x)=gj c d (IH (c.ev x)):=cu rfl
theorem xrb(op:BinOp)(x y:Arg):opC call sg c d (.bin op x y)=gj c d (Jh op (c.ev x) (c.ev y)):=cu rfl
theorem xrc(E:Bool)(x y:Arg):opC call sg c d (.beq E x y)=gj c d (xih E (c.ev x) (c.ev y)):=cu rfl
theorem xq6(E:Bool)(F:t8)(x y:Arg):opC call sg c d (.eqS E F x y)=gj c d (xid E F (c.ev x) (c.ev y)):=cu rfl
theorem xwj(op:UnOp)(x:Arg):opC call sg c d (.un op x)=gj c d (Ah op (c.ev x)):=cu rfl
theorem ZG(q:IntKind)(x:Arg):opC call sg c d (.toInt q x)=gj c d (iV q (c.ev x)):=cu rfl
theorem ZF(x:Arg):opC call sg c d (.toStr x)=gj c d (xc (c.ev x)):=cu rfl
theorem xnc(y:List Arg):opC call sg c d (.newB y)=pw c d (toB (evL c y)):=rfl
theorem xm7(x:Arg):opC call sg c d (.slid x)=tD c d (c.ev x):=rfl
theorem A6(k:Nat)(l:d9):pw c (some k) (some l)=some (CSt.app c (some k) {val:= .psl (k+100) 1 0 l.length (some l.length),new:=some (.bar l)}):=rfl
theorem Hd(o off n:Nat)(cap:LAa):tD c d (.psl o 1 off n cap)=pX c d o off n cap (c.look o):=rfl
theorem He(o off n:Nat)(cap:LAa)(l:d9):pX c d o off n cap (some (.bar l))=if off+n<=l.length/\cap=some n then some (((c.publish o []).1).put d (.byt ((l.drop off).take n) .clip))else none:=rfl
theorem xnk(y:Bool)(x:Arg):opC call sg c d (.isni y x)=gj c d (IN y (c.ev x)):=cu rfl
theorem xqY(x:Arg):opC call sg c d (.s2b x)=gj c d (xbq (c.ev x)):=cu rfl
theorem xrd(x:Arg):opC call sg c d (.b2s x)=gj c d (xii c (c.ev x)):=cu rfl
theorem xne(f:Nat)(a b:List Arg):opC call sg c d (.mkfn f a b)=gj c d (some (.fn f (evL c a) (evL c b))):=cu rfl
theorem xm8(x:Arg)(lo hi:Option Arg):opC call sg c d (.slcS x lo hi)=gj c d (IA c lo hi (c.ev x)):=(cu rfl).trans (by rw[LF])
theorem xm9(y:Nat)(x:Arg)(lo hi E:Option Arg):opC call sg c d (.slcL y x lo hi E)=gj c d (pG c y (c.ev x) lo hi E):=cu rfl
theorem xna(len y:Nat)(x:Arg)(lo hi E:Option Arg):opC call sg c d (.slcA len y x lo hi E)=gj c d (IB c len y lo hi E (c.ev x)):=cu rfl
theorem ZJ(off:Nat)(x:Arg):opC call sg c d (.faddr off x)=gj c d (xP off (c.ev x)):=cu rfl
theorem xq4(off n:Nat)(y:Bool)(x:Arg):opC call sg c d (.fld off n y x)=gj c d (xh4 off n y (c.ev x)):=cu rfl
theorem Ky(y:Nat)(x i:Arg):opC call sg c d (.iaddrL y x i)=gj c d (qQ y (c.ev x) (c.ev i).num):=cu rfl
theorem Kz(len y:Nat)(x i:Arg):opC call sg c d (.iaddrA len y x i)=gj c d (ow c len y (c.ev x) (c.ev i).num):=(cu rfl).trans (by rw[yl])
theorem xnm(len y:Nat)(E:Bool)(x i:Arg):opC call sg c d (.idxA len y E x i)=gj c d (IR len y E (c.ev x) (c.ev i).num):=cu rfl
theorem xnl(x i:Arg):opC call sg c d (.idxS x i)=gj c d (IQ (c.ev x) (c.ev i).num):=cu rfl
theorem xq5(x:Arg)(i:Nat):opC call sg c d (.ext x i)=gj c d (xic i (c.ev x)):=cu rfl
theorem xq3(b:Bool)(x:Arg):opC call sg c d (.len b x)=gj c d (lenC (lc b (c.ev x))):=(cu rfl).trans (by rw[xbh])
theorem xnj(n:Nat):opC call sg c d (.lenC n)=gj c d (some (.int .i64 n)):=cu rfl
theorem xq9(x:Arg):opC call sg c d (.cap x)=gj c d (xif (c.ev x)):=cu rfl
theorem xnf(x y:Arg):opC call sg c d (.mini x y)=gj c d (IK (c.ev x) (c.ev y)):=cu rfl
theorem xng(x y:Arg):opC call sg c d (.maxi x y)=gj c d (IL (c.ev x) (c.ev y)):=cu rfl
def IG(a b:SV):SV->Option SV
 | .bool t=>some (jo t a b)
 |_=>none
theorem xnT(q a b:Arg):eJ c d (.pick q a b)=DZ (IG (c.ev a) (c.ev b) (c.ev q)):=by simp only[eJ];cases c.ev q<;>rfl
theorem xnb(q a b:Arg):opC call sg c d (.pick q a b)=gj c d (IG (c.ev a) (c.ev b) (c.ev q)):=sx (xnT q a b)
def xK(y:Bool):SV->Option SV
 | .byt l _=>gd (l≠ []) (.bool y)
 | .lst _ E _=>gd (E≠ []) (.bool y)
 | .psl _ _ _ _ _=>some (.bool y)
 |_=>none
theorem xaE(y:Bool)(x:Arg):eJ c d (.isnil y x)=DZ (xK y (c.ev x)):=by simp only[eJ];cases c.ev x<;>first|rfl|(simp only[xK];unfold gd;split<;>rfl)
theorem ZI(y:Bool)(x:Arg):opC call sg c d (.isnil y x)=gj c d (xK y (c.ev x)):=sx (xaE y x)
def GB(c:CSt)(k:Nat)(o:aH)(v:SV):CSt:=CSt.app c (some k) {val:=v,new:=some o}
theorem xa3(l:List (Nat×SV))(ob:List (Nat×aH))(t:t8)(o:aH)(v:SV):
 GB ⟨l,ob,t⟩ k o v=⟨kr (dJ (k+100) (k+101) l) k v,jI (bW (k+100) (k+101) ob) (k+100) (o.purge (k+100) (k+101)),cP (k+100) (k+101) t⟩:=rfl
def jN(c:CSt)(k:Nat)(v:SV):Option aH->LAe
 |some o=>some (GB c k o v)
 |none=>none
theorem Iu(v:SV)(o:aH):jN c k v (some o)=some (GB c k o v):=rfl
theorem xqZ(o:aH):opC call sg c (some k) (.new o)=jN c k (.ptr (k+100) 0) (gd (o.wf=true) o):=by show o5 c (some k) (gd _ _)=_;unfold gd;split<;>rfl
theorem xra(x:Arg):opC call sg c (some k) (.box x)=some (GB c k (.rc (c.ev x).cells) (.ptr (k+100) 0)):=rfl
def mkE(bytes:Nat):SV->SV->Option (Nat×Nat)
 | .int _ n,.int _ m=>gd (0<=n/\n<=m/\bytes*m<=140737488355328/\m<=9223372036854775807) (n.toNat,m.toNat)
 |_,_=>none
def mkS(c:CSt)(k:Nat)(z:f8):Option (Nat×Nat)->LAe
 |some p=>some (GB c k (.arr z.length (aL p.2 z)) (.psl (k+100) z.length 0 p.1 (some p.2)))
 |none=>none
theorem xwk(z:f8)(bytes:Nat)(n m:Arg):opC call sg c (some k) (.mk z bytes n m)=mkS c k z (mkE bytes (c.ev n) (c.ev m)):=by show o5 c (some k) (eJ c (some k) (.mk z bytes n m))=_;simp only[eJ];cases h1:c.ev n<;>cases h2:c.ev m<;>first|rfl|(simp only[mkE];unfold gd;split<;>rfl)
def xod:SV->SV->Option (Nat×Nat)
 | .int _ n,.int _ m=>gd (0<=n/\n<=m/\m<=140737488355328) (n.toNat,m.toNat)
 |_,_=>none
def xu1(c:CSt)(k:Nat):Option (Nat×Nat)->LAe
 |some p=>some (GB c k (.bar (aL p.2 0)) (.psl (k+100) 1 0 p.1 (some p.2)))
 |none=>none
theorem xq1(n m:Arg):opC call sg c (some k) (.mkB n m)=xu1 c k (xod (c.ev n) (c.ev m)):=by show o5 c (some k) (eJ c (some k) (.mkB n m))=_;simp only[eJ];cases h1:c.ev n<;>cases h2:c.ev m<;>first|rfl|(simp only[xod];unfold gd;split<;>rfl)
def stC(c:CSt)(n:Nat)(v:f8):SV->Option (Nat×aH)
 | .ptr o off=>match c.look o with
  |some (.rc cs)=>gd (off+n<=cs.length/\v.length=n/\v.all SV.one=true) (o,.rc (setCells cs off v))
  |some (.arr y xs)=>gd (off=0/\n=xs.length*y/\v.length=n/\v.all SV.isData=true) (o,.arr y (kH y xs.length (v.map SV.data)))
  |some (.bar l)=>match toB v with
   |some E=>gd (off=0/\n=l.length/\E.length=n) (o,.bar E)
   |none=>none
  |_=>none
 | .ap o y i j=>match c.look o with
  |some (.arr sz' xs)=>gd (y=sz'/\i<xs.length/\j+n<=y/\v.length=n/\v.all SV.isData=true) (o,.arr sz' (jX y xs i j n (v.map SV.data)))
  |some (.bar l)=>match v with
   |[.u8 b]=>gd (y=1/\j=0/\n=1/\i<l.length) (o,.bar (l.set i b))
   |_=>none
  |_=>none
 |_=>none
def stS(c:CSt):Option (Nat×aH)->LAe
 |some p=>some ⟨c.tm,jI c.ob p.1 p.2,c.tk⟩
 |none=>none
theorem JR(l:List (Nat×SV))(ob:List (Nat×aH))(t:t8)(p:Nat×aH):stS ⟨l,ob,t⟩ (some p)=some ⟨l,jI ob p.1 p.2,t⟩:=rfl
theorem Hb(n:Nat)(v:f8)(a:SV):mf c n v a=(stC c n v a).map fun p=> {val:= .undef,wr:=[p]}:=by
 cases a with
 |ptr o off=>
  simp only[mf,stC];cases c.look o with
  |none=>rfl
  |some ob=>
   cases ob with
   |rc cs=>simp only;unfold gd;split<;>rfl
   |arr y E=>simp only;unfold gd;split<;>rfl
   |bar l=>simp only;cases toB v<;>first|rfl|(simp only;unfold gd;split<;>rfl)
 |ap o F i j=>
  simp only[mf,stC];cases c.look o with
  |none=>rfl
  |some ob=>
   cases ob with
   |rc cs=>rfl
   |arr y E=>simp only;unfold gd;split<;>rfl
   |bar l=>
    rcases v with _|⟨u,_|⟨u2,r⟩⟩
    ·rfl
    ·cases u<;>first|rfl|(simp only;unfold gd;split<;>rfl)
    ·cases u<;>rfl
 |_=>rfl
theorem ZH(n:Nat)(a x:Arg):opC call sg c none (.store n a x)=if(c.ev x).isDef=true then stS c (stC c n (c.ev x).cells (c.ev a))else none:=by
 show o5 c none (eJ c none (.store n a x))=_;simp only[eJ];split
 ·rw[Hb];cases stC c n (c.ev x).cells (c.ev a)<;>rfl
 ·rfl
def apB(c:CSt)(k:Nat)(l:d9)(t:Tok)(z:f8)(bytes:Nat):Option d9->LAe
 |some y=>if z.length=1/\bytes=1/\t.readyC c=true/\l.length+y.length<=140737488355328 then some (CSt.app c (some k) {val:= .byt (l++y) (.id (k+100)),eat:=t,tok:=true})else none
 |none=>none
def apL(c:CSt)(k:Nat)(y:Nat)(l:d8)(t:Tok)(z:f8)(bytes:Nat):Option d8->LAe
 |some E=>if z.length=y/\t.readyC c=true/\(l.length+E.length)*bytes<=140737488355328 then some (CSt.app c (some k) {val:= .lst z.length (l++E) (.id (k+100)),eat:=t,tok:=true})else none
 |none=>none
theorem xa1(l:List (Nat×SV))(ob:List (Nat×aH))(t:t8)(v:SV)(e:Tok):
 CSt.app ⟨l,ob,t⟩ (some k) {val:=v,eat:=e,tok:=true}=⟨kr (dJ (k+100) (k+101) l) k v,bW (k+100) (k+101) ob,og (cP (k+100) (k+101) (e.eat t)) (k+100)⟩:=rfl
def apS(c:CSt)(k:Nat)(z:f8)(bytes:Nat)(y:SV):SV->LAe
 | .byt l t=>apB c k l t z bytes (fg c y)
 | .lst E l t=>apL c k E l t z bytes (gB c z.length y)
 |_=>none
theorem xre(z:f8)(bytes:Nat)(x y:Arg):opC call sg c (some k) (.app z bytes x y)=apS c k z bytes (c.ev y) (c.ev x):=by
 show o5 c (some k) (eJ c (some k) (.app z bytes x y))=_;simp only[eJ];cases c.ev x<;>try rfl
 ·simp only[apS]
  cases fg c (c.ev y)with
  |none=>rfl
  |some E=>simp only[dp,apB];unfold gd;split<;>rfl
 ·simp only[apS]
  cases gB c z.length (c.ev y)with
  |none=>rfl
  |some E=>simp only[dp,apL];unfold gd;split<;>rfl
def cpB(o off n:Nat)(F y:Nat)(l:d9):Option d9->Option (SV×Nat×aH)
 |some E=>gd (F=1/\y=1/\off+n<=l.length) (.int .i64 (min E.length n:Nat),o,.bar (l.take off++E.take n++l.drop (off+(E.take n).length)))
 |none=>none
def cpL(b:Bool)(o off n:Nat)(F E y:Nat)(I:d8):Option d8->Option (SV×Nat×aH)
 |some J=>gd (b=true/\F=E/\F=y/\off+n<=I.length) (.int .i64 (min J.length n:Nat),o,.arr F (I.take off++J.take n++I.drop (off+(J.take n).length)))
 |none=>none
def cp2(b:Bool)(c:CSt)(F o E off n:Nat)(y:SV):Option aH->Option (SV×Nat×aH)
 |some (.bar l)=>cpB o off n F E l (fg c y)
 |some (.arr sz'' xs)=>cpL b o off n F E sz'' xs (gB c F y)
 |_=>none
def cpC(b:Bool)(c:CSt)(F:Nat)(y:SV):SV->Option (SV×Nat×aH)
 | .psl o E off n _=>cp2 b c F o E off n y (c.look o)
 |_=>none
def cpS(c:CSt)(d:LAa):Option (SV×Nat×aH)->LAe
 |some p=>some (CSt.put ⟨c.tm,jI c.ob p.2.1 p.2.2,c.tk⟩ d p.1)
 |none=>none
theorem xno(z:f8)(b:Nat)(x y:Arg):opC call sg c d (.appO z b x y)=um c d z b y (c.ev x):=rfl
def clA(o off n:Nat)(z:f8)(E y:Nat)(F:d8):Option (SV×Nat×aH):=gd (0<n/\z.length=E/\z.length=y/\off+n<=F.length) (.tup [],o,.arr z.length (F.take off++aL n z++F.drop (off+n)))
def cl2(z:f8)(o y off n:Nat):Option aH->Option (SV×Nat×aH)
 |some (.arr sz'' xs)=>clA o off n z y sz'' xs
 |_=>none
def clC(c:CSt)(z:f8):SV->Option (SV×Nat×aH)
 | .psl o y off n _=>cl2 z o y off n (c.look o)
 |_=>none
theorem xq8(z:f8)(x:Arg):opC call sg c d (.clr z x)=cpS c d (clC c z (c.ev x)):=by
 show o5 c d (eJ c d (.clr z x))=_;simp only[eJ];cases c.ev x<;>try rfl
 rename_i o E off n cap;simp only[clC];cases c.look o with
 |none=>rfl
 |some ob=>
  cases ob with
  |rc cs=>rfl
  |bar l=>rfl
  |arr y F=>simp only[cl2,clA];unfold gd;split<;>rfl
theorem xq7(E:Nat)(x y:Arg):opC call sg c d (.cpy E x y)=cpS c d (cpC y.isT c E (c.ev y) (c.ev x)):=by
 show o5 c d (eJ c d (.cpy E x y))=_;simp only[eJ];cases c.ev x<;>try rfl
 rename_i o I off n cap;simp only[cpC];cases c.look o with
 |none=>rfl
 |some ob=>
  cases ob with
  |rc cs=>rfl
  |bar l=>
   simp only[cp2];cases fg c (c.ev y)with
   |none=>rfl
   |some J=>simp only[dp,cpB];unfold gd;split<;>rfl
  |arr F L=>
   simp only[cp2];cases gB c E (c.ev y)with
   |none=>rfl
   |some J=>simp only[dp,cpL];unfold gd;split<;>rfl
def VY(call:dw)(sg:Nat->Sig)(c:CSt)(d:LAa)(a_:f8):SV->LAe
 | .fn g a b=>jb call (sg g) c d g (a++a_++b)
 |_=>none
theorem xnn(f:Arg)(a_:List Arg):opC call sg c d (.call f a_)=VY call sg c d (evL c a_) (c.ev f):=by simp only[opC];unfold VY;rfl
theorem xk0(o:SOp):eB call sg c ⟨d,none,o⟩=opC call sg c d o:=rfl
theorem xlT(g:Option (Nat×Bool))(o:SOp)(r:LAd):plC call sg (⟨d,g,o⟩::r) c=nxP call sg r (opC call sg c d o):=by rw[plC]
theorem FR:gw call sg [] c=some c:=by rw[gw]
theorem Uk(i:SI)(y:t8)(r:List RI):gw call sg (.op i y::r) c=nxC call sg y r (eB call sg c i):=by rw[gw]
theorem FS(g:Nat)(b:Bool)(l:LAd)(y:t8)(r:List RI):gw call sg (.grp g b l y::r) c=nxC call sg y r (qS call sg b l c (c.get g)):=by rw[gw]
theorem FP(i:SI)(y:t8)(r:List RI):gw call sg (.tks i y::r) c=nxC call sg y r (D3 c i):=by rw[gw]
theorem YE(d:LAa)(x:Arg):D3 c ⟨d,none,.s2b x⟩=YF c d (c.ev x):=rfl
theorem xkQ(k:Nat)(l:d9):YF c (some k) (.str l)=some (CSt.app c (some k) {val:= .byt l (.id (k+100)),tok:=true}):=rfl
theorem FQ(i:SI)(y:t8)(r:List RI):gw call sg (.own i y::r) c=nxC call sg y r (vQ c i):=by rw[gw]
theorem Zs(d:LAa)(x:Arg):vQ c ⟨d,none,.s2b x⟩=Zy c d (c.ev x):=rfl
theorem Zt(d:LAa)(y:Nat)(E:List Arg):vQ c ⟨d,none,.lit y E⟩=Zv c y d (rows y (evL c E)):=rfl
theorem Kw(d:LAa)(y:List Arg):vQ c ⟨d,none,.litB y⟩=pw c d (toB (evL c y)):=rfl
theorem Zu(d:LAa)(z:f8)(b:Nat)(x y:Arg):vQ c ⟨d,none,.app z b x y⟩=um c d z b y (c.ev x):=rfl
theorem FT(q:Dir)(r:List RI):gw call sg (.dir q::r) c=nxC call sg [] r (tw c q):=by rw[gw]
theorem mp(y:t8)(r:List RI):nxC call sg y r (some c)=gw call sg r (c.kill y):=by rw[nxC]
theorem mq(y:t8)(r:List RI):nxC call sg y r none=none:=by rw[nxC]
theorem Uh:plC call sg [] c=some c:=by rw[plC]
theorem FV(r:LAd):nxP call sg r (some c)=plC call sg r c:=by rw[nxP]
theorem FW(r:LAd):nxP call sg r none=none:=by rw[nxP]
theorem xkO:unL c []=c:=rfl
theorem Yx(g:Option (Nat×Bool))(o:SOp)(r:LAd):unL c (⟨d,g,o⟩::r)=unL (c.put d (.tup [])) r:=rfl
theorem xrv(b:Bool)(l:LAd):qS call sg b l c (.tup [])=some (unL c l):=rfl
theorem xrw(b t:Bool)(l:LAd):qS call sg b l c (.bool t)=if t=b then plC call sg l c else some (unL c l):=rfl
theorem xnp(y:t8)(r:List RI)(p:Prop)[Decidable p](a b:LAe):nxC call sg y r (if p then a else b)=if p then nxC call sg y r a else nxC call sg y r b:=by split<;>rfl
theorem xnw(p:Prop)[Decidable p](l y:List (Nat×SV))(o:List (Nat×aH))(t:t8):(if p then some (CSt.mk l o t)else some (CSt.mk y o t))=some (CSt.mk (if p then l else y) o t):=by split<;>rfl
theorem xnv(p:Prop)[Decidable p](n:Nat)(v w:SV)(l y:List (Nat×SV)):(if p then(n,v)::l else(n,w)::y)=(n,if p then v else w)::(if p then l else y):=by split<;>rfl
theorem Z0(p:Prop)[Decidable p]:(if p then([]:List (Nat×SV))else [])=[]:=by split<;>rfl
theorem KP{α:Type}(p:Prop)[Decidable p](a:α):(if p then a else a)=a:=by split<;>rfl
theorem KO(p:Prop)[Decidable p](q:IntKind)(a b:Int):(if p then SV.int q a else SV.int q b)= .int q (if p then a else b):=by split<;>rfl
theorem HZ(p:Prop)[Decidable p](a b:Bool):(if p then SV.bool a else SV.bool b)= .bool (if p then a else b):=by split<;>rfl
theorem ZZ(p:Prop)[Decidable p](a b:UInt8):(if p then SV.u8 a else SV.u8 b)= .u8 (if p then a else b):=by split<;>rfl
theorem H2(t a b:Bool):jo t (.bool a) (.bool b)= .bool (if t=true then a else b):=by cases t<;>rfl
theorem KQ(t:Bool)(q:IntKind)(a b:Int):jo t (.int q a) (.int q b)= .int q (if t=true then a else b):=by cases t<;>rfl
theorem Z1(t:Bool)(a b:UInt8):jo t (.u8 a) (.u8 b)= .u8 (if t=true then a else b):=by cases t<;>rfl
theorem H1(a b:SV):jo true a b=a:=rfl
theorem Bd(a b:SV):jo false a b=b:=rfl
variable {rn : RC -> CSt -> iF}
theorem KA(y:t8):nrm y (some c)=some (.n,c.kill y):=rfl
theorem KB(y:t8):nrm y none=none:=rfl
theorem ZL(y:t8)(p:Prop)[Decidable p](a b:LAe):nrm y (if p then a else b)=if p then nrm y a else nrm y b:=by split<;>rfl
theorem xvX(b:RC):sq rn b (some (.n,c))=rn b c:=rfl
theorem xvV(b:RC)(id:Nat):sq rn b (some (.x id,c))=some (.x id,c):=rfl
theorem xvW(b:RC):sq rn b (some (.r,c))=some (.r,c):=rfl
theorem YI(b:RC):sq rn b none=none:=rfl
theorem xkS(b:RC)(p:Prop)[Decidable p](x y:iF):sq rn b (if p then x else y)=if p then sq rn b x else sq rn b y:=by split<;>rfl
theorem xrV(a b:RC)(t:Bool):cnd rn a b c (.bool t)=if t=true then rn a c else rn b c:=rfl
theorem xr0(id:Nat):blk id (some (.n,c))=some (.n,c):=rfl
theorem xrZ(id:Nat):blk id (some (.r,c))=some (.r,c):=rfl
theorem xrY(id y:Nat):blk id (some (.x y,c))=if y=id then some (.n,c)else some (.x y,c):=rfl
theorem Ls(id:Nat):blk id none=none:=rfl
theorem xaT(id:Nat)(p:Prop)[Decidable p](x y:iF):blk id (if p then x else y)=if p then blk id x else blk id y:=by split<;>rfl
theorem xws(b:RC):lp rn b (some (.n,c))=rn (.loop b) c:=rfl
theorem xwq(b:RC)(id:Nat):lp rn b (some (.x id,c))=some (.x id,c):=rfl
theorem xwr(b:RC):lp rn b (some (.r,c))=some (.r,c):=rfl
theorem ZR(b:RC):lp rn b none=none:=rfl
theorem xnu(b:RC)(p:Prop)[Decidable p](x y:iF):lp rn b (if p then x else y)=if p then lp rn b x else lp rn b y:=by split<;>rfl
theorem Kr(a:RC):prD rn a (some c)=rn a c:=rfl
theorem xpD(y:List Dir):psD y (some (.n,c))=prD (fun _ c=>some (.n,c)) .skip (jt c y):=by simp only[psD];cases jt c y<;>rfl
theorem xpB(y:List Dir)(id:Nat):psD y (some (.x id,c))=some (.x id,c):=rfl
theorem xpC(y:List Dir):psD y (some (.r,c))=some (.r,c):=rfl
theorem Kq(y:List Dir):psD y none=none:=rfl
theorem Zq(E:List Dir)(p:Prop)[Decidable p](x y:iF):psD E (if p then x else y)=if p then psD E x else psD E y:=by split<;>rfl
theorem Lc:jt c []=some c:=rfl
def xvh(y:List Dir):LAe->LAe
 |some c=>jt c y
 |none=>none
theorem Ik(q:Dir)(y:List Dir):jt c (q::y)=xvh y (tw c q):=by simp only[jt];cases tw c q<;>rfl
theorem Il(y:List Dir):xvh y (some c)=jt c y:=rfl
theorem xrD(F:FnC)(n:Nat):Jf F n (some (.n,c))=UE F.keep F.raw n c (uj c F.rs):=rfl
theorem xrC(F:FnC)(n:Nat):Jf F n (some (.r,c))=UE F.keep F.raw n c (uj c F.rs):=rfl
theorem xai(F:FnC)(n:Nat)(p:Prop)[Decidable p](x y:iF):Jf F n (if p then x else y)=if p then Jf F n x else Jf F n y:=by split<;>rfl
theorem Lo(sg:Sig)(g:Nat)(a_:f8):jb call sg c d g a_=ld call sg c d g a_ ((SV.idsL a_).isEmpty&&sg.own.isEmpty):=rfl
theorem xaQ(sg:Sig)(g:Nat)(a_:f8):ld call sg c d g a_ true=nR c d (call g (SV.bareL a_) [] 0):=rfl
theorem xaR(sg:Sig)(g:Nat)(a_:f8):ld call sg c d g a_ false=kT call sg d g (fx c a_ (jP sg.raw 0 a_)):=rfl
theorem xak(q:dV):nR c d (some q)=py c d q q.bare:=rfl
theorem xam(q:dV):py c d q true=some (c.put d q.r):=rfl
theorem xan(q:dV):py c d q false=Bp c d q q.small:=rfl
theorem xal(q:dV):Bp c d q true=some (lf c d [] [] q):=rfl
theorem xaW(r:SV)(os:List (Nat×aH))(tk:t8):(dV.mk r os tk).bare=(os.isEmpty&&tk.isEmpty&&r.ids.isEmpty&&r.toks.isEmpty):=rfl
theorem JT(r:SV)(os:List (Nat×aH))(tk:t8):(dV.mk r os tk).small=(os.all (fun p=>decide (p.1<1000)&&p.2.ids.all (fun k=>decide (k<1000))&&p.2.toks.all (fun k=>decide (k<1000)))&&r.ids.all (fun k=>decide (k<1000))&&r.toks.all (fun k=>decide (k<1000))&&tk.all (fun k=>decide (k<1000))):=rfl
theorem YJ(sg:Sig)(g:Nat)(a_:f8):kT call sg d g (c,a_)=pl call c d g (lh c.tk sg.own 50 0 a_):=rfl
theorem YP(g:Nat)(a_:f8)(y:List LAa):pl call c d g (a_,y)=mI call c d g a_ y (eC c 60 [] (SV.idsL a_)) (im c (eC c 60 [] (SV.idsL a_))):=rfl
theorem YO(g:Nat)(a_:f8)(y:List LAa)(m:t8)(os:List aH):mI call c d g a_ y m (some os)=pk call c d g a_ y m (eU c.tk (50+y.length) os):=rfl
theorem YN(g:Nat)(a_:f8)(E:List LAa)(m:t8)(os:List aH)(y:List LAa):pk call c d g a_ E m (os,y)=
 pj call c d g a_ E m os y (pR (SV.idsL a_++gp os) m&&eg m&&eg (cO (E++y))&&decide (m.length<=40)&&m.all fun o=> !inR (d.getD 0) o):=rfl
theorem YM(g:Nat)(a_:f8)(E:List LAa)(m:t8)(os:List aH)(y:List LAa):pj call c d g a_ E m os y true=
 pW c d m (cO (E++y)) (call g (SV.renL (iy m) id a_) (eY (iy m) id os) (E.length+y.length)):=rfl
theorem YL(m mt:t8)(q:dV):pW c d m mt (some q)=Az c d m mt q q.small:=rfl
theorem YK(m mt:t8)(q:dV):Az c d m mt q true=some (lf c d m mt q):=rfl
theorem xnL(keep raw:t8)(vs:f8):UE keep raw k c (some vs)=xaj keep k (fx c vs (jP raw 0 vs)):=rfl
theorem xnE(keep:t8)(vs:f8):xaj keep k (c,vs)=UD keep k c vs (decide (k=0)&&(SV.idsL vs).isEmpty&&keep.isEmpty):=rfl
theorem xnJ(keep:t8)(vs:f8):UD keep k c vs true=some ⟨kt (SV.bareL vs),[],[]⟩:=rfl
theorem xnK(keep:t8)(vs:f8):UD keep k c vs false=xh8 k c (lh c.tk keep 60 0 vs):=rfl
theorem xnI(vs:f8)(y:List LAa):xh8 k c (vs,y)=xh7 k c vs y (eC c 60 [] (lw k++SV.idsL vs)) (im c (eC c 60 [] (lw k++SV.idsL vs))):=rfl
theorem xnH(vs:f8)(y:List LAa)(m:t8)(os:List aH):xh7 k c vs y m (some os)=xh6 k vs y m (eU c.tk (60+y.length) os):=rfl
theorem xnG(vs:f8)(E:List LAa)(m:t8)(os:List aH)(y:List LAa):xh6 k vs E m (os,y)=
 xh5 k vs E m os y (pR (SV.idsL vs++gp os) m&&eg m&&eg (cO (E++y))&&decide (m.take k=lw k)&&(m.drop k).all fun o=>decide (k<=o)):=rfl
theorem xnF(vs:f8)(E:List LAa)(m:t8)(os:List aH)(y:List LAa):xh5 k vs E m os y true=
 some ⟨(kt vs).ren (iM k m) id,(gP 0 (eY (iM k m) id (os.take k)))++(gP (100+k) (eY (iM k m) id (os.drop k))),tks 60 (E.length+y.length)⟩:=rfl
theorem ZD(v:SV):kt [v]=v:=rfl
theorem ZC(v w:SV)(r:f8):kt (v::w::r)= .tup (v::w::r):=rfl
theorem ZE:kt []= .tup []:=rfl
theorem J0(raw:t8)(i:Nat)(q:IntKind)(n:Int):oe raw i (.int q n)=[]:=rfl
theorem Hh(raw:t8)(i:Nat)(b:Bool):oe raw i (.bool b)=[]:=rfl
theorem YS(raw:t8)(i:Nat)(b:UInt8):oe raw i (.u8 b)=[]:=rfl
theorem JW(raw:t8)(i:Nat)(l:d9):oe raw i (.str l)=[]:=rfl
theorem J1(raw:t8)(i:Nat)(l:d9)(t:Tok):oe raw i (.byt l t)=[]:=rfl
theorem JZ(raw:t8)(i y:Nat)(l:d8)(t:Tok):oe raw i (.lst y l t)=[]:=rfl
theorem Hf(raw:t8)(i:Nat):oe raw i .nilp=[]:=rfl
theorem Hg(raw:t8)(i:Nat):oe raw i .nili=[]:=rfl
theorem AD(raw:t8)(i:Nat):oe raw i .undef=[]:=rfl
theorem YT(raw:t8)(i:Nat)(l:f8):oe raw i (.pp l)=[]:=rfl
theorem JX(raw:t8)(i o off:Nat):oe raw i (.ptr o off)=[]:=rfl
theorem YV(raw:t8)(i o y a b:Nat):oe raw i (.ap o y a b)=[]:=rfl
theorem J2(raw:t8)(i:Nat)(l:f8):oe raw i (.agg l)=if raw.contains i=true then []else xg l:=rfl
theorem Hq:xg []=[]:=rfl
theorem AH(v:SV)(r:f8):xg (v::r)=iK v++xg r:=rfl
theorem Hn(q:IntKind)(n:Int):iK (.int q n)=[]:=rfl
theorem AG(b:Bool):iK (.bool b)=[]:=rfl
theorem J3(b:UInt8):iK (.u8 b)=[]:=rfl
theorem Hj(l:d9):iK (.str l)=[]:=rfl
theorem Ho(l:d9)(t:Tok):iK (.byt l t)=[]:=rfl
theorem Hm(y:Nat)(l:d8)(t:Tok):iK (.lst y l t)=[]:=rfl
theorem AE:iK .nilp=[]:=rfl
theorem AF:iK .nili=[]:=rfl
theorem ya:iK .undef=[]:=rfl
theorem J4(l:f8):iK (.pp l)=[]:=rfl
theorem Hk(o off:Nat):iK (.ptr o off)=[]:=rfl
theorem J6(o y a b:Nat):iK (.ap o y a b)=[]:=rfl
theorem Hp(l:f8):iK (.agg l)=[]:=rfl
theorem Hi(l:f8):iK (.tup l)=[]:=rfl
theorem J5(f:Nat)(a b:f8):iK (.fn f a b)=[]:=rfl
theorem Hl(o y off n:Nat)(m:LAa):iK (.psl o y off n m)=[o]:=rfl
theorem JV(raw:t8)(i:Nat)(l:f8):oe raw i (.tup l)=[]:=rfl
theorem YU(raw:t8)(i f:Nat)(a b:f8):oe raw i (.fn f a b)=[]:=rfl
theorem JY(raw:t8)(i o y off n:Nat)(m:LAa):oe raw i (.psl o y off n m)=if raw.contains i=true then []else [o]:=rfl
theorem Z7(p:Prop)[Decidable p](a b v:SV):jo (decide p) (if p then a else b) v=jo (decide p) a v:=by by_cases h:p<;>simp[jo,h]
theorem Z6(p:Prop)[Decidable p](a b v:SV):jo (decide p) v (if ¬p then a else b)=jo (decide p) v a:=by by_cases h:p<;>simp[jo,h]
theorem Z3(t:Bool)(a b v:SV):jo t (if t=true then a else b) v=jo t a v:=by cases t<;>simp[jo]
theorem Z2(t:Bool)(a b v:SV):jo t v (if t=false then a else b)=jo t v a:=by cases t<;>simp[jo]
theorem Z5(t:Bool)(a b v:SV):jo (!t) (if t=false then a else b) v=jo (!t) a v:=by cases t<;>simp[jo]
theorem Z4(t:Bool)(a b v:SV):jo (!t) v (if t=true then a else b)=jo (!t) v a:=by cases t<;>simp[jo]
theorem xaV(p q:Prop)[Decidable p][Decidable q]:(if p then decide q else false)=decide (p/\q):=by by_cases h:p<;>simp[h]
theorem xn3(p q:Prop)[Decidable p][Decidable q]:(if p then true else decide q)=decide (p\/q):=by by_cases h:p<;>simp[h]
theorem xaY(v:SV):c.app d {val:=v}=c.put d v:=rfl
theorem xaZ(l:List (Nat×SV))(ob:List (Nat×aH))(t:t8)(o:aH)(v:SV):
 CSt.app ⟨l,ob,t⟩ (some k) {val:=v,new:=some o}=⟨kr (dJ (k+100) (k+101) l) k v,jI (bW (k+100) (k+101) ob) (k+100) (o.purge (k+100) (k+101)),cP (k+100) (k+101) t⟩:=rfl
theorem xn5(l:List (Nat×SV))(ob:List (Nat×aH))(t:t8)(v:SV)(p:Nat×aH):CSt.app ⟨l,ob,t⟩ d {val:=v,wr:=[p]}=CSt.put ⟨l,jI ob p.1 p.2,t⟩ d v:=rfl
theorem Lf(l:List (Nat×SV))(ob:List (Nat×aH))(t:t8)(p:SV×Nat×aH):cpS ⟨l,ob,t⟩ d (some p)=some (CSt.put ⟨l,jI ob p.2.1 p.2.2,t⟩ d p.1):=rfl
theorem KE(z:f8)(p:Nat×Nat):mkS c k z (some p)=some (GB c k (.arr z.length (aL p.2 z)) (.psl (k+100) z.length 0 p.1 (some p.2))):=rfl
theorem HS(p:Nat×Nat):xu1 c k (some p)=some (GB c k (.bar (aL p.2 0)) (.psl (k+100) 1 0 p.1 (some p.2))):=rfl
theorem xoJ(x:Arg):dx c (.mov x)=some (c.ev x):=by simp only[dx];rw[xoU]
theorem Yk(z:f8)(y:List (Nat×Nat×Arg)):dx c (.build z y)=xU (jF z (psC c y)):=by simp only[dx];rw[D1]
theorem xoK(y:Nat)(E:List Arg):dx c (.lit y E)=xhT y (rows y (evL c E)):=by simp only[dx];rw[xbg]
theorem xku(y:List Arg):dx c (.litB y)=IM (toB (evL c y)):=by simp only[dx];rw[LG]
theorem xkt(n:Nat)(y:Bool)(a:Arg):dx c (.load n y a)=nP c n y (c.ev a):=by simp only[dx];rw[xkF]
theorem xkp(x:Arg):dx c (.nchk x)=IH (c.ev x):=by simp only[dx];rw[xkB]
theorem xoQ(op:BinOp)(x y:Arg):dx c (.bin op x y)=Jh op (c.ev x) (c.ev y):=by simp only[dx];rw[xoZ]
theorem xoR(E:Bool)(x y:Arg):dx c (.beq E x y)=xih E (c.ev x) (c.ev y):=by simp only[dx];rw[xo0]
theorem xoO(E:Bool)(F:t8)(x y:Arg):dx c (.eqS E F x y)=xid E F (c.ev x) (c.ev y):=by simp only[dx];rw[xoX]
theorem xvM(op:UnOp)(x:Arg):dx c (.un op x)=Ah op (c.ev x):=by simp only[dx];rw[xvR]
theorem Yi(q:IntKind)(x:Arg):dx c (.toInt q x)=iV q (c.ev x):=by simp only[dx];rw[Yv]
theorem Yh(x:Arg):dx c (.toStr x)=xc (c.ev x):=by simp only[dx];rw[Yu]
theorem xkw(y:Bool)(x:Arg):dx c (.isni y x)=IN y (c.ev x):=by simp only[dx];rw[xkH]
theorem xoI(x:Arg):dx c (.s2b x)=xbq (c.ev x):=by simp only[dx];rw[xoT]
theorem xoS(x:Arg):dx c (.b2s x)=xii c (c.ev x):=by simp only[dx];rw[xo1]
theorem xkq(f:Nat)(a b:List Arg):dx c (.mkfn f a b)=some (.fn f (evL c a) (evL c b)):=by simp only[dx];rw[xkC]
theorem xkl(x:Arg)(lo hi:Option Arg):dx c (.slcS x lo hi)=IA c lo hi (c.ev x):=by simp only[dx];rw[LF]
theorem xkm(y:Nat)(x:Arg)(lo hi E:Option Arg):dx c (.slcL y x lo hi E)=pG c y (c.ev x) lo hi E:=by simp only[dx];rw[xkz]
theorem xkn(len y:Nat)(x:Arg)(lo hi E:Option Arg):dx c (.slcA len y x lo hi E)=IB c len y lo hi E (c.ev x):=by simp only[dx];rw[xkA]
theorem Yj(off:Nat)(x:Arg):dx c (.faddr off x)=xP off (c.ev x):=by simp only[dx];rw[Yw]
theorem xoM(off n:Nat)(y:Bool)(x:Arg):dx c (.fld off n y x)=xh4 off n y (c.ev x):=by simp only[dx];rw[xoV]
theorem Jz(y:Nat)(x i:Arg):dx c (.iaddrL y x i)=qQ y (c.ev x) (c.ev i).num:=by simp only[dx];rw[JL]
theorem JA(len y:Nat)(x i:Arg):dx c (.iaddrA len y x i)=ow c len y (c.ev x) (c.ev i).num:=by simp only[dx];rw[yl]
theorem xky(len y:Nat)(E:Bool)(x i:Arg):dx c (.idxA len y E x i)=IR len y E (c.ev x) (c.ev i).num:=by simp only[dx];rw[xkJ]
theorem xkx(x i:Arg):dx c (.idxS x i)=IQ (c.ev x) (c.ev i).num:=by simp only[dx];rw[xkI]
theorem xoN(x:Arg)(i:Nat):dx c (.ext x i)=xic i (c.ev x):=by simp only[dx];rw[xoW]
theorem xoL(b:Bool)(x:Arg):dx c (.len b x)=lenC (lc b (c.ev x)):=by simp only[dx];rw[xbh]
theorem xkv(n:Nat):dx c (.lenC n)=some (.int .i64 n):=by simp only[dx];rw[xkG]
theorem xoP(x:Arg):dx c (.cap x)=xif (c.ev x):=by simp only[dx];rw[xoY]
theorem xkr(x y:Arg):dx c (.mini x y)=IK (c.ev x) (c.ev y):=by simp only[dx];rw[xkD]
theorem xks(x y:Arg):dx c (.maxi x y)=IL (c.ev x) (c.ev y):=by simp only[dx];rw[xkE]
theorem xko(q a b:Arg):dx c (.pick q a b)=IG (c.ev a) (c.ev b) (c.ev q):=by simp only[dx];cases c.ev q<;>rfl
theorem xwd(o:SOp):qv c ⟨d,none,o⟩=dx c o:=rfl
theorem xwc(g:Nat)(b:Bool)(o:SOp):qv c ⟨d,some (g,b),o⟩=qg c o b (c.get g):=rfl
theorem xwf(b t:Bool)(o:SOp):qg c o b (.bool t)=if t=b then dx c o else some (.tup []):=rfl
theorem xwe(b:Bool)(o:SOp):qg c o b (.tup [])=some (.tup []):=rfl
def stG(call:dw)(sg:Nat->Sig)(c:CSt)(d:LAa)(o:SOp)(b:Bool):SV->LAe
 | .bool t=>if t=b then opC call sg c d o else some (c.put d (.tup []))
 | .tup []=>some (c.put d (.tup []))
 |_=>none
theorem xkZ(g:Nat)(b:Bool)(o:SOp):eB call sg c ⟨d,some (g,b),o⟩=stG call sg c d o b (c.get g):=by unfold eB stG;rfl
theorem xo6(b t:Bool)(o:SOp):stG call sg c d o b (.bool t)=if t=b then opC call sg c d o else some (c.put d (.tup [])):=rfl
theorem xo5(b:Bool)(o:SOp):stG call sg c d o b (.tup [])=some (c.put d (.tup [])):=rfl
theorem xnC(b:t8)(y:List FI):fH call sg b [] y c=some c:=by rw[fH]
theorem xxi(b:t8)(n:Nat)(i:SI)(r y:List FI):fH call sg b (⟨n,true,i⟩::r) y c=zx call sg b r (⟨n,true,i⟩::y) c i.dst (qv c i):=by rw[fH]
theorem xxj(b:t8)(n:Nat)(i:SI)(r y:List FI):fH call sg b (⟨n,false,i⟩::r) y c=tq call sg b r y (b.getD n 0) (eB call sg c i):=by rw[fH]
theorem xxg(b:t8)(r y:List FI)(v:SV):zx call sg b r y c d (some v)=fH call sg b r y (c.put d v):=by rw[zx]
theorem xxh(b:t8)(r y:List FI)(m:Nat):tq call sg b r y m (some c)=tu call sg b r y (gdP (wi m c y) c):=by rw[tq]
theorem xxl(b:t8)(r y:List FI):tu call sg b r y (some c)=fH call sg b r y c:=by rw[tu]
theorem xac{α:Type}{p:Prop}(v:α)(h:p):gdP p v=some v:=by unfold gdP;exact if_pos h
theorem xr4(b:t8)(l:List FI)(p:t8):jV call sg b l [p] c=fH call sg b (jw l p) [] c:=by rw[jV]
theorem xr3(b:t8)(l:List FI)(p q:t8)(r:List t8):jV call sg b l (p::q::r) c=pz (fH call sg b (jw l p) [] c) (jV call sg b l (q::r) c):=by rw[jV]
theorem xyc(a y:CSt):pz (some a) (some y)=gdP (a=y) a:=rfl
theorem xnD(m:Nat):wi m c []=True:=rfl
theorem xah(m:Nat)(p:FI)(r:List FI):wi m c (p::r)=((m/2^p.n % 2=1\/qv c p.i=some (c.get (p.i.dst.getD 0)))/\wi m c r):=rfl
end Go.Sy
namespace Go.Sy
variable [bx]
theorem uD{n:Nat}:∀{l:List (Nat×SV)},(∀p∈l,p.1≠n)->fb l n= .undef
 |[],_=>rfl
 |p::r,h=>by simp only[fb];rw[if_neg (h p (aA ..))];exact uD fun q y=>h q (aw _ y)
theorem nQ(n:Nat)(v:SV)(m:Nat):∀l:List (Nat×SV),fb (kr l n v) m=if m=n then v else fb l m
 |[]=>by simp only[kr,fb];by_cases h:n=m<;>simp[h,eq_comm]
 |p::r=>by
  simp only[kr];split
  ·simp only[fb]
   by_cases h:n=m
   ·simp[h]
   ·rw[if_neg h,if_neg (Ne.symm h)]
  ·split
   ·rename_i E y
    simp only[fb]
    by_cases h:n=m
    ·simp[h]
    ·rw[if_neg h,if_neg (Ne.symm h),if_neg (by omega)]
   ·rename_i E y
    simp only[fb,nQ n v m r]
    by_cases h:p.1=m
    ·rw[if_pos h,if_pos h,if_neg (by omega)]
    ·rw[if_neg h,if_neg h]
theorem nN{n:Nat}{v:SV}{p:Nat×SV}:∀{l:List (Nat×SV)},p∈kr l n v->p=(n,v)\/p∈l
 |[],h=>by simpa[kr]using h
 |q::r,h=>by
  simp only[kr]at h;split at h
  ·rcases av.1 h with h|h
   ·exact .inl h
   ·exact .inr h
  ·split at h
   ·rcases av.1 h with h|h
    ·exact .inl h
    ·exact .inr (aw _ h)
   ·rcases av.1 h with h|h
    ·exact .inr (h ▸ aA ..)
    ·rcases nN h with h|h
     ·exact .inl h
     ·exact .inr (aw _ h)
theorem gV(lo hi n:Nat):∀l:List (Nat×SV),fb (dJ lo hi l) n=(fb l n).purge lo hi
 |[]=>by simp[dJ,fb,SV.purge]
 |p::r=>by
  simp only[dJ,fb];split
  ·rfl
  ·exact gV lo hi n r
theorem ky{lo hi:Nat}{p:Nat×SV}:∀{l:List (Nat×SV)},p∈dJ lo hi l->∃q∈l,p.1=q.1
 |q::r,h=>by
  simp only[dJ]at h;rcases av.1 h with h|h
  ·exact⟨q,aA ..,by rw[h]⟩
  ·obtain⟨u,E,y⟩:=ky h
   exact⟨u,aw _ E,y⟩
theorem rT{k:t8}{p:Nat×SV}:∀{l:List (Nat×SV)},p∈zS l k->p∈l
 |q::r,h=>by
  simp only[zS]at h;split at h
  ·exact aw _ (rT h)
  ·rcases av.1 h with h|h
   ·exact h ▸ aA ..
   ·exact aw _ (rT h)
theorem se(k:t8)(n:Nat):∀l:List (Nat×SV),fb (zS l k) n=if k.contains n=true then .undef else fb l n
 |[]=>by simp[zS,fb]
 |p::r=>by
  simp only[zS,fb];split
  ·rename_i h
   rw[se k n r]
   by_cases y:p.1=n
   ·subst y;rw[if_pos h,if_pos h]
   ·rw[if_neg y]
  ·rename_i h
   simp only[fb,se k n r]
   by_cases y:p.1=n
   ·subst y;rw[if_pos rfl,if_neg h,if_pos rfl]
   ·rw[if_neg y,if_neg y]
theorem sh(n:Nat)(v:aH)(m:Nat):∀l:List (Nat×aH),jD (jI l n v) m=if m=n then some v else jD l m
 |[]=>by simp only[jI,jD];by_cases h:n=m<;>simp[h,eq_comm]
 |p::r=>by
  simp only[jI];split
  ·simp only[jD]
   by_cases h:n=m
   ·simp[h]
   ·rw[if_neg h,if_neg (Ne.symm h)]
  ·split
   ·rename_i E y
    simp only[jD]
    by_cases h:n=m
    ·simp[h]
    ·rw[if_neg h,if_neg (Ne.symm h),if_neg (by omega)]
   ·rename_i E y
    simp only[jD,sh n v m r]
    by_cases h:p.1=m
    ·rw[if_pos h,if_pos h,if_neg (by omega)]
    ·rw[if_neg h,if_neg h]
theorem lE{n:Nat}{v:aH}{p:Nat×aH}:∀{l:List (Nat×aH)},p∈jI l n v->p=(n,v)\/p∈l
 |[],h=>by simpa[jI]using h
 |q::r,h=>by
  simp only[jI]at h;split at h
  ·rcases av.1 h with h|h
   ·exact .inl h
   ·exact .inr h
  ·split at h
   ·rcases av.1 h with h|h
    ·exact .inl h
    ·exact .inr (aw _ h)
   ·rcases av.1 h with h|h
    ·exact .inr (h ▸ aA ..)
    ·rcases lE h with h|h
     ·exact .inl h
     ·exact .inr (aw _ h)
theorem xd{n:Nat}{v:aH}:∀{l:List (Nat×aH)},(l.map cW).Pairwise (· < ·)->((jI l n v).map cW).Pairwise (· < ·)
 |[],_=>by simp[jI]
 |p::r,h=>by
  have F:=h;simp only[aI,bJ]at h;simp only[jI];split
  ·rename_i E
   rw[aI,bJ];refine⟨fun k y=> ?_,F⟩;rw[aI]at y;rcases av.1 y with e|e
   ·omega
   ·have:=h.1 k e;omega
  ·split
   ·rename_i E I
    rw[aI,bJ];exact⟨fun k y=>by have:=h.1 k y;omega,h.2⟩
   ·rename_i E I
    rw[aI,bJ];refine⟨fun k y=> ?_,xd h.2⟩;obtain⟨q,J,rfl⟩:=aZ.1 y;rcases lE J with e|e
    ·rw[e];show p.1<n;omega
    ·exact h.1 _ (ji e)
theorem kf{l:List (Nat×aH)}{n:Nat}{v:aH}(h:jD l n=some v):(n,v)∈l:=by
 induction l with
 |nil=>cases h
 |cons p r E=>
  simp only[jD]at h;split at h
  ·rename_i y
   cases h;subst y;exact aA ..
  ·exact aw _ (E h)
theorem kb:∀{l:List (Nat×aH)},(l.map cW).Nodup->∀{p:Nat×aH},p∈l->jD l p.1=some p.2
 |q::r,hn,p,h=>by
  simp only[aI,dR]at hn;simp only[jD];rcases av.1 h with e|e
  ·subst e;rw[if_pos rfl]
  ·rw[if_neg (fun y=>hn.1 (by rw[y];exact ji e))]
   exact kb hn.2 e
theorem jW{l:List (Nat×aH)}(h:(l.map cW).Pairwise (· < ·)):(l.map cW).Nodup:=h.imp fun h=>Nat.ne_of_lt h
theorem jr(o:Nat):∀l:List (Nat×aH),l.lookup o=jD l o
 |[]=>rfl
 |p::r=>by
  simp only[List.lookup,jD]
  by_cases h:o=p.1
  ·rw[if_pos h.symm];simp[h]
  ·have:(o==p.1)=false:=by simpa using h
   rw[this,if_neg (Ne.symm h)];exact jr o r
theorem kG(lo hi o:Nat):∀l:List (Nat×aH),jD (bW lo hi l) o=if lo<=o/\o<hi then none else(jD l o).map (aH.purge lo hi)
 |[]=>by simp[bW,jD]
 |p::r=>by
  simp only[bW,jD];split
  ·rename_i y
   rw[kG lo hi o r]
   by_cases h:p.1=o
   ·subst h;rw[if_pos y,if_pos y]
   ·rw[if_neg h]
  ·rename_i y
   simp only[jD,kG lo hi o r]
   by_cases h:p.1=o
   ·subst h;rw[if_pos rfl,if_neg y,if_pos rfl];rfl
   ·rw[if_neg h,if_neg h]
theorem yw{lo hi:Nat}{l:List (Nat×aH)}(h:(l.map cW).Pairwise (· < ·)):((bW lo hi l).map cW).Pairwise (· < ·):=by rw[ft];exact h.filter _
theorem lF{n t:Nat}:∀{l:t8},t∈og l n↔t=n\/t∈l
 |[]=>by simp[og]
 |p::r=>by
  simp only[og];split
  ·simp
  ·split
   ·rename_i h;subst h;simp
   ·simp only[av,lF]
    constructor
    ·rintro(h|h|h)
     ·exact .inr (.inl h)
     ·exact .inl h
     ·exact .inr (.inr h)
    ·rintro(h|h|h)
     ·exact .inr (.inl h)
     ·exact .inl h
     ·exact .inr (.inr h)
theorem rF{lo hi:Nat}{o:aH}(h:o.wf=true):(o.purge lo hi).wf=true:=by cases o<;>simpa[aH.purge,aH.wf]using h
def CSt.st(N:Nat)(c:CSt):St:=⟨(bC N).map c.get,c.ob,c.tk⟩
structure Inv(N:Nat)(c:CSt):Prop where
 dom:∀p∈c.tm,p.1<N
 so:(c.ob.map cW).Pairwise (· < ·)
 wf:∀p∈c.ob,p.2.wf=true
structure Sim(N:Nat)(c:CSt)(s:St):Prop where
 inv:Inv N c
 tm:s.tm=(bC N).map c.get
 look:∀o,s.look o=c.look o
 tk:∀t,t∈s.tk↔t∈c.tk
variable {N : Nat} {c : CSt} {s : St}
theorem Inv.get(h:Inv N c){n:Nat}(hn:N<=n):c.get n= .undef:=uD fun p y e=>by have:=h.dom p y;omega
theorem Sim.of(h:Inv N c):Sim N c (c.st N):=⟨h,rfl,fun o=>jr o c.ob,fun _=>Iff.rfl⟩
theorem Sim.get(h:Sim N c s)(n:Nat):s.get n=c.get n:=by
 unfold St.get;rw[h.tm,aa,aU];rcases bQ n N with hn|hn
 ·rw[cC hn];rfl
 ·rw[ib (by simpa using hn),h.inv.get hn];rfl
theorem Sim.ev(h:Sim N c s)(a:Arg):s.ev a=c.ev a:=by
 cases a with
 |t n=>exact h.get n
 |c v=>rfl
 |f g=>rfl
theorem Sim.evL(h:Sim N c s)(l:List Arg):Sy.evL c l=l.map s.ev:=by
 induction l with
 |nil=>rfl
 |cons a r y=>simp only[Sy.evL,aI,y,h.ev]
theorem Sim.lookmem(h:Sim N c s){o:Nat}{ob:aH}(y:c.look o=some ob):ob.wf=true:=h.inv.wf _ (kf y)
theorem Sim.rows(h:Sim N c s){o y:Nat}{E:d8}(F:c.look o=some (.arr y E)):∀x∈E,x.length=y:=by have:=h.lookmem F;simpa[aH.wf]using this
theorem Inv.put(h:Inv N c){d:LAa}(hd:∀k,d=some k->k<N)(v:SV):Inv N (c.put d v):=by
 cases d with
 |none=>exact h
 |some k=>
  refine⟨fun p y=> ?_,h.so,h.wf⟩;rcases nN y with e|e
  ·rw[e];exact hd k rfl
  ·exact h.dom p e
theorem iC(c:CSt)(k:Nat)(v:SV)(n:Nat):(c.put (some k) v).get n=if n=k then v else c.get n:=nQ k v n c.tm
theorem Sim.put(h:Sim N c s){d:LAa}(hd:∀k,d=some k->k<N)(v:SV):Sim N (c.put d v) (s.put d v):=by
 cases d with
 |none=>exact h
 |some k=>
  refine⟨h.inv.put hd v, ?_,h.look,h.tk⟩;show s.tm.set k v=_;rw[h.tm];apply List.ext_getElem?;intro i;rw[ik,aU,aU];rcases bQ i N with hi|hi
  ·rw[cC hi]
   simp only[bE,iC,aV,ij]
   by_cases y:k=i
   ·rw[if_pos y,if_pos (by omega),if_pos y.symm]
   ·rw[if_neg y,if_neg (Ne.symm y)]
  ·rw[ib (l:=bC N) (by simpa using hi)]
   have:=hd k rfl;rw[if_neg (by omega)];rfl
theorem cd{α:Type}{p:Prop}[Decidable p]{v u:α}(h:gd p v=some u):p/\v=u:=by
 unfold gd at h;split at h
 ·rename_i y;cases h;exact⟨y,rfl⟩
 ·cases h
theorem KW{op:BinOp}{k:IntKind}{a b:Int}{v:SV}(h:Bh op k a b=some v)(y:ov op=false):∃p,Z8 op k a b=some (p,v)/\p:=by
 cases op<;>simp only[Bh]at h<;>first
  |(cases y;done)
  |(obtain⟨E,rfl⟩:=cd h;exact⟨_,rfl,E⟩)
  |(cases h;exact⟨True,rfl,trivial⟩)
theorem xaU{op:BinOp}{a b v:SV}(h:Jh op a b=some v):∃p,Bx op a b=some (p,v)/\p:=by
 unfold Jh at h;split at h
 ·rename_i k a O b
  split at h
  ·rename_i I
   by_cases F:ov op=true
   ·cases op<;>first
     |(cases F;done)
     |(simp only[Bh]at h;obtain⟨y,rfl⟩:=cd h;exact⟨_,rfl,y⟩)
   ·have E:ov op=false:=by simpa using F
    have L:k=O:=I.resolve_left F;obtain⟨p,y,J⟩:=KW h E;refine⟨p, ?_,J⟩;subst L;cases op<;>first|(cases E;done)|(simp only[Bx,if_true];exact y)
  ·cases h
 ·rename_i a k b
  show ∃p,xbj op a b=some (p,v)/\p
  cases op<;>simp only[U2]at h<;>first
   |(cases h;done)
   |(obtain⟨y,rfl⟩:=cd h;exact⟨_,rfl,y⟩)
 ·rename_i a b
  show ∃p,Ix op a b=some (p,v)/\p
  cases op<;>simp only[BP]at h<;>first
   |(cases h;done)
   |(obtain⟨y,rfl⟩:=cd h;exact⟨_,rfl,y⟩)
   |(cases h;exact⟨True,rfl,trivial⟩)
 ·rename_i a b
  show ∃p,xbp op a b=some (p,v)/\p
  cases op<;>simp only[U7]at h<;>first
   |(cases h;done)
   |(obtain⟨y,rfl⟩:=cd h;exact⟨_,rfl,y⟩)
   |(cases h;exact⟨True,rfl,trivial⟩)
 ·cases h
theorem zb(I:Sim N c s){n:Nat}{J:Bool}{u v:SV}(h:nP c n J u=some v):∃p,jA s n J u=some (p,v)/\p:=by
 cases u with
 |pp cs=>obtain⟨y,rfl⟩:=cd h;exact⟨_,rfl,y⟩
 |ptr o off=>
  simp only[nP]at h;simp only[jA,I.look];split at h
  ·rename_i cs E;rw[E];obtain⟨y,rfl⟩:=cd h;exact⟨_,rfl,y⟩
  ·rename_i Q W E;rw[E];obtain⟨⟨y,F⟩,rfl⟩:=cd h;subst y;exact⟨_,rfl,F,I.rows E⟩
  ·rename_i l E;rw[E];obtain⟨⟨y,F⟩,rfl⟩:=cd h;subst y;exact⟨_,rfl,F⟩
  ·cases h
 |ap o Q i j=>
  simp only[nP]at h;simp only[jA,I.look];split at h
  ·rename_i L W E
   rw[E];obtain⟨⟨y,F,O⟩,rfl⟩:=cd h;refine⟨_,rfl,y,F,O, ?_⟩;rw[aa,ac F,y];exact I.rows E _ (bv _)
  ·rename_i l E;rw[E];obtain⟨y,rfl⟩:=cd h;exact⟨_,rfl,y⟩
  ·cases h
 |_=>cases h
theorem oj(y:Sim N c s)(x:Option Arg)(n:Int):jx s x n=lD c x n:=by
 cases x with
 |none=>rfl
 |some a=>simp only[jx,lD,y.ev]
theorem Ec(J:Sim N c s){O:Nat}{u v:SV}{lo hi Q:Option Arg}(h:pG c O u lo hi Q=some v):∃p,kp s O u lo hi Q=some (p,v)/\p:=by
 cases u with
 |byt l t=>
  simp only[pG]at h;simp only[kp,oj J];split at h<;>try (cases h;done)
  rename_i a b m F E I;rw[F,E,I];obtain⟨y,rfl⟩:=cd h;exact⟨_,rfl,y⟩
 |lst L l t=>
  simp only[pG]at h;simp only[kp,oj J];split at h<;>try (cases h;done)
  rename_i a b m F E I;rw[F,E,I];obtain⟨y,rfl⟩:=cd h;exact⟨_,rfl,y⟩
 |psl o L off n cap=>
  cases cap with
  |none=>
   simp only[pG]at h;simp only[kp,oj J];split at h<;>try (cases h;done)
   rename_i a b F E;rw[F,E];obtain⟨y,rfl⟩:=cd h;exact⟨_,rfl,y⟩
  |some cap=>
   simp only[pG]at h;simp only[kp,oj J];split at h<;>try (cases h;done)
   rename_i a b m F E I;rw[F,E,I];obtain⟨y,rfl⟩:=cd h;exact⟨_,rfl,y⟩
 |_=>cases h
theorem oQ(y:Sim N c s){u:SV}{l:d9}(h:fg c u=some l):∃p,bytesOf s u=some (p,l)/\p:=by
 cases u with
 |byt l t=>cases h;exact⟨True,rfl,trivial⟩
 |str l=>cases h;exact⟨True,rfl,trivial⟩
 |psl o I off n cap=>
  simp only[fg]at h;simp only[bytesOf,y.look];split at h
  ·rename_i J E;rw[E];obtain⟨F,rfl⟩:=cd h;exact⟨_,rfl,F⟩
  ·cases h
 |_=>cases h
theorem lz(F:Sim N c s){u:SV}{L:Nat}{l:d8}(h:gB c L u=some l):∃p,iT s L u=some (p,l)/\p:=by
 cases u with
 |lst y l t=>obtain⟨E,rfl⟩:=cd h;exact⟨_,rfl,E⟩
 |psl o y off n cap=>
  simp only[gB]at h;simp only[iT,F.look];split at h
  ·rename_i O W I
   rw[I];obtain⟨⟨E,J,Q⟩,rfl⟩:=cd h;exact⟨_,rfl,E,J,Q,by rw[J];exact F.rows I⟩
  ·cases h
 |_=>cases h
theorem xlS(E:Sim N c s)(y:List (Nat×Nat×Arg)):psC c y=y.map fun(o,n,x)=>(o,n,s.ev x):=by
 induction y with
 |nil=>rfl
 |cons p r F=>obtain⟨o,n,x⟩:=p;simp only[psC,aI,F,E.ev]
theorem Yt(F:Sim N c s){so:SOp}{v:SV}(h:cY c so=some v):∃p,val s so=some (p,v)/\p:=by
 cases so with
 |mov x=>cases h;exact⟨True,by simp only[val,F.ev],trivial⟩
 |build z ps=>simp only[cY,xlS F]at h;obtain⟨l,E,rfl⟩:=ah.1 h;exact⟨True,by simp only[val,E,bE],trivial⟩
 |lit O xs=>simp only[cY,F.evL]at h;obtain⟨l,E,rfl⟩:=ah.1 h;exact⟨True,by simp only[val,E,bE],trivial⟩
 |litB xs=>simp only[cY,F.evL]at h;obtain⟨l,E,rfl⟩:=ah.1 h;exact⟨True,by simp only[val,E,bE],trivial⟩
 |load n ag a=>simp only[val,F.ev];exact zb F h
 |nchk x=>simp only[cY]at h;simp only[val,F.ev];cases J:c.ev x<;>rw[J]at h<;>first|(cases h;done)|(cases h;exact⟨True,rfl,trivial⟩)
 |bin op x y=>simp only[val,F.ev];exact xaU h
 |beq ne x y=>
  simp only[cY]at h;simp only[val,F.ev];split at h<;>try (cases h;done)
  rename_i a b E I;cases h;rw[E,I];exact⟨True,rfl,trivial⟩
 |eqS ne ts x y=>
  simp only[cY]at h;simp only[val,F.ev];split at h<;>try (cases h;done)
  rename_i a b E I;obtain⟨l,h3,rfl⟩:=ah.1 h;rw[E,I];exact⟨True,by simp only[h3,bE],trivial⟩
 |un op x=>simp only[cY]at h;exact⟨True,by simp only[val,F.ev,h,bE],trivial⟩
 |toInt k x=>simp only[cY]at h;exact⟨True,by simp only[val,F.ev,h,bE],trivial⟩
 |toStr x=>
  simp only[cY]at h;simp only[val,F.ev];split at h<;>try (cases h;done)
  all_goals
   rename_i E;cases h;rw[E];exact⟨True,rfl,trivial⟩
 |slid x=>simp only[cY]at h;cases h
 |newB x=>simp only[cY]at h;cases h
 |isni ne x=>
  simp only[cY]at h;simp only[val,F.ev];split at h<;>try (cases h;done)
  rename_i E;cases h;rw[E];exact⟨True,rfl,trivial⟩
 |s2b x=>
  simp only[cY]at h;simp only[val,F.ev];split at h<;>try (cases h;done)
  rename_i l E;cases h;rw[E];exact⟨True,rfl,trivial⟩
 |b2s x=>
  simp only[cY]at h;simp only[val,F.ev];cases J:c.ev x with
  |byt l t=>rw[J]at h;cases h;exact⟨True,rfl,trivial⟩
  |psl o O off n cap=>
   rw[J]at h;simp only[fg]at h;simp only[By,F.look];obtain⟨l,E,rfl⟩:=ah.1 h;split at E
   ·rename_i l' Q;rw[Q];obtain⟨I,rfl⟩:=cd E;exact⟨_,rfl,I⟩
   ·cases E
  |_=>rw[J]at h;cases h
 |mkfn f a b=>simp only[cY,F.evL]at h;cases h;exact⟨True,rfl,trivial⟩
 |slcS x lo hi=>
  simp only[cY]at h;simp only[val,F.ev];split at h<;>try (cases h;done)
  rename_i l J;rw[J];simp only[oj F];split at h<;>try (cases h;done)
  rename_i a b E I;rw[E,I];obtain⟨L,rfl⟩:=cd h;exact⟨_,rfl,L⟩
 |slcL O x lo hi mx=>simp only[val,F.ev];exact Ec F h
 |slcA len O x lo hi mx=>
  simp only[cY]at h;simp only[val,F.ev];split at h<;>try (cases h;done)
  rename_i o off J;split at h<;>try (cases h;done)
  rename_i ho;subst ho;rw[J];exact Ec F h
 |faddr off x=>simp only[cY]at h;simp only[val,F.ev];cases J:c.ev x<;>rw[J]at h<;>first|(cases h;done)|(cases h;exact⟨True,rfl,trivial⟩)
 |fld off n ag x=>
  simp only[cY]at h;simp only[val,F.ev];split at h<;>try (cases h;done)
  rename_i cs J;rw[J];obtain⟨L,rfl⟩:=cd h;exact⟨_,rfl,L⟩
 |iaddrL O x i=>
  simp only[cY]at h;simp only[val,F.ev];split at h<;>try (cases h;done)
  all_goals
   rename_i E I;rw[E,I];obtain⟨L,rfl⟩:=cd h;exact⟨_,rfl,L⟩
 |iaddrA len O x i=>
  simp only[cY]at h;simp only[val,F.ev,F.look];split at h<;>try (cases h;done)
  ·rename_i o off n E I
   rw[E,I];simp only;split at h<;>try (cases h;done)
   ·rename_i cs Q
    rw[Q];obtain⟨L,rfl⟩:=cd h;exact⟨_,rfl,L⟩
   ·rename_i ob W Q
    rw[Q];obtain⟨⟨L,h5⟩,rfl⟩:=cd h;cases ob with
    |rc cs=>exact absurd rfl (W cs)
    |_=>simp only[L,if_true];exact⟨_,rfl,h5⟩
  ·rename_i cs n E I
   rw[E,I];obtain⟨L,rfl⟩:=cd h;exact⟨_,rfl,L⟩
 |idxA len O ag x i=>
  simp only[cY]at h;simp only[val,F.ev];split at h<;>try (cases h;done)
  rename_i E I;rw[E,I];obtain⟨L,rfl⟩:=cd h;exact⟨_,rfl,L⟩
 |idxS x i=>
  simp only[cY]at h;simp only[val,F.ev];split at h<;>try (cases h;done)
  rename_i E I;rw[E,I];obtain⟨L,rfl⟩:=cd h;exact⟨_,rfl,L⟩
 |ext x i=>
  simp only[cY]at h;simp only[val,F.ev];split at h<;>try (cases h;done)
  rename_i vs J;rw[J];obtain⟨L,rfl⟩:=cd h;exact⟨_,rfl,L⟩
 |len b x=>simp only[cY]at h;obtain⟨n,E,rfl⟩:=ah.1 h;exact⟨True,by simp only[val,F.ev,E],trivial⟩
 |lenC n=>cases h;exact⟨True,rfl,trivial⟩
 |cap x=>
  simp only[cY]at h;simp only[val,F.ev];cases J:c.ev x with
  |psl o O off n m=>cases m<;>rw[J]at h<;>cases h;exact⟨True,rfl,trivial⟩
  |byt l t=>rw[J]at h;simp only at h;split at h<;>cases h;rename_i Z;subst Z;exact⟨True,rfl,trivial⟩
  |lst O l t=>rw[J]at h;simp only at h;split at h<;>cases h;rename_i Z;subst Z;exact⟨True,rfl,trivial⟩
  |_=>rw[J]at h;cases h
 |mini x y=>
  simp only[cY]at h;simp only[val,F.ev];split at h<;>try (cases h;done)
  rename_i E I;rw[E,I];simp only;split at h<;>cases h;rename_i hk;exact⟨True,by rw[if_pos hk],trivial⟩
 |maxi x y=>
  simp only[cY]at h;simp only[val,F.ev];split at h<;>try (cases h;done)
  rename_i E I;rw[E,I];simp only;split at h<;>cases h;rename_i hk;exact⟨True,by rw[if_pos hk],trivial⟩
 |_=>cases h
end Go.Sy
namespace Go.Sy
variable [bx]
variable {P : Program} {C : Ctx} {x : Sit} {a : Act} {w : World} {o : Oper} {so : SOp} {N : Nat} {c c' : CSt} {s : St} {d : Option Nat}
def M(C:Ctx)(N:Nat)(c:CSt):LBa:=I5 C (Sim N c)
theorem Sim.purge(h:Sim N c s)(lo hi:Nat):Sim N (c.purge lo hi) (s.purge lo hi):=by
 refine⟨⟨fun p y=> ?_,yw h.inv.so,fun p y=> ?_⟩, ?_,fun o=> ?_,fun t=> ?_⟩
 ·obtain⟨q,I,e⟩:=ky y
  rw[e];exact h.inv.dom q I
 ·obtain⟨_,ob,F,E⟩:=cM y
  rw[E];exact rF (h.inv.wf _ F)
 ·show SV.purgeL lo hi s.tm=_
  rw[h.tm,dY,List.map_map];apply List.map_congr_left;intro i _;exact(gV lo hi i c.tm).symm
 ·show(bW lo hi s.ob).lookup o=jD (bW lo hi c.ob) o
  have:=h.look o;unfold St.look CSt.look at this;rw[jr]at this ⊢;rw[kG,kG,this]
 ·show t∈cP lo hi s.tk↔t∈cP lo hi c.tk
  rw[bZ,bZ,h.tk]
theorem Sim.addO(h:Sim N c s)(k:Nat){ob:aH}(E:ob.wf=true):Sim N ⟨c.tm,jI c.ob k ob,c.tk⟩ (s.addO k ob):=by
 refine⟨⟨h.inv.dom,xd h.inv.so,fun p F=> ?_⟩,h.tm,fun o=> ?_,h.tk⟩
 ·rcases lE F with e|e
  ·rw[e];exact E
  ·exact h.inv.wf p e
 ·show((k,ob)::s.ob).lookup o=jD (jI c.ob k ob) o
  have:=h.look o;unfold St.look CSt.look at this;rw[sh];simp only[List.lookup]
  by_cases y:o=k
  ·subst y;simp
  ·have:(o==k)=false:=by simpa using y
   rw[this,if_neg y];exact h.look o
theorem lq(k:Nat)(ob:aH)(o:Nat):∀l:List (Nat×aH),(Sy.setO k ob l).lookup o=if o=k/\(l.lookup k).isSome=true then some ob else l.lookup o
 |[]=>by simp[Sy.setO]
 |p::r=>by
  simp only[Sy.setO]
  by_cases E:p.1=k
  ·rw[if_pos E]
   subst E;simp only[List.lookup]
   by_cases y:o=p.1
   ·subst y;simp
   ·have:(o==p.1)=false:=by simpa using y
    simp[this,y]
  ·rw[if_neg E]
   have F:(k==p.1)=false:=by simpa using Ne.symm E
   simp only[List.lookup,F,lq k ob o r]
   by_cases y:o=p.1
   ·subst y;simp[E]
   ·have:(o==p.1)=false:=by simpa using y
    simp[this]
theorem Sim.setO(h:Sim N c s){k:Nat}{ob:aH}(I:(c.look k).isSome=true)(E:ob.wf=true):Sim N ⟨c.tm,jI c.ob k ob,c.tk⟩ (s.setO k ob):=by
 refine⟨⟨h.inv.dom,xd h.inv.so,fun p F=> ?_⟩,h.tm,fun o=> ?_,h.tk⟩
 ·rcases lE F with e|e
  ·rw[e];exact E
  ·exact h.inv.wf p e
 ·show(Sy.setO k ob s.ob).lookup o=jD (jI c.ob k ob) o
  rw[sh,lq]
  have J:(s.ob.lookup k).isSome=true:=by have:=h.look k;unfold St.look at this;rw[this];exact I
  by_cases y:o=k
  ·rw[if_pos ⟨y,J⟩,if_pos y]
  ·rw[if_neg (fun e=>y e.1),if_neg y];exact h.look o
theorem Sim.tks(h:Sim N c s){l k:t8}(y:∀t,t∈l↔t∈k):Sim N ⟨c.tm,c.ob,k⟩ ⟨s.tm,s.ob,l⟩:=⟨⟨h.inv.dom,h.inv.so,h.inv.wf⟩,h.tm,h.look,y⟩
theorem KG{t:Tok}{l k:t8}(h:∀t,t∈l↔t∈k)(n:Nat):n∈t.eat l↔n∈t.eat k:=by
 cases t with
 |id t=>simp only[Tok.eat,bZ,h]
 |_=>exact h n
structure Jo(e:pL)(f:Eff):Prop where
 val:f.val=e.val
 wr:f.wr=e.wr
 new:f.new=e.new
 eat:f.eat=e.eat
 tok:f.tok=e.tok
structure Jw(c:CSt)(e:pL):Prop where
 new:∀ob,e.new=some ob->ob.wf=true
 wr:e.wr=[]\/∃k ob,e.wr=[(k,ob)]/\(c.look k).isSome=true/\ob.wf=true
theorem Sim.app(h:Sim N c s)(hd:∀k,d=some k->k<N){e:pL}{f:Eff}(y:Jo e f)(F:Jw c e):Sim N (c.app d e) (s.app d f):=by
 unfold CSt.app St.app;rw[y.new,y.tok,y.val,y.wr,y.eat];cases hn:e.new with
 |some ob=>exact((h.purge _ _).addO _ (rF (F.new ob hn))).put hd _
 |none=>
  cases ht:e.tok with
  |true=>refine Sim.put (c:=⟨_,_,_⟩) ?_ hd _;refine((h.purge (d.getD 0+100) (d.getD 0+100+1)).tks (fun t=> ?_));rw[lF,av,bZ,bZ,KG h.tk]
  |false=>
   rcases F.wr with E|⟨k,ob,E,h1,h2⟩
   ·rw[E];exact h.put hd _
   ·rw[E];exact(h.setO h1 h2).put hd _
theorem Jo.v(v:SV)(p:Prop):Jo {val:=v} {pre:=p,val:=v}:=⟨rfl,rfl,rfl,rfl,rfl⟩
theorem Jw.v(v:SV):Jw c {val:=v}:=⟨fun ob h=>(by cases h),.inl rfl⟩
theorem xkj(n:Nat)(z:f8):(aH.arr z.length (aL n z)).wf=true:=by simp only[aH.wf,bf,decide_eq_true_eq];intro y E;rw[(List.mem_replicate.1 E).2]
theorem gn{E:Nat}{F:d8}:(aH.arr E F).wf=true↔∀y∈F,y.length=E:=by simp only[aH.wf,bf,decide_eq_true_eq]
theorem zY(E:Nat):∀(m:Nat)(v:f8),v.length=m*E->∀y∈kH E m v,y.length=E
 |0,_,_,y,hy=>by cases hy
 |m+1,v,h,y,hy=>by
  rw[ed]at h;simp only[kH]at hy;rcases av.1 hy with rfl|hy
  ·rw[an];omega
  ·exact zY E m (v.drop E) (by rw[aE];omega) y hy
theorem Ht{F:Nat}{I:d8}{i j n:Nat}{v:f8}(h:∀y∈I,y.length=F)(hi:i<I.length)(Q:j+n<=F)(L:v.length=n):∀y∈jX F I i j n v,y.length=F:=by
 intro y J;unfold jX at J;split at J
 ·rename_i O
  rcases List.mem_or_eq_of_mem_set J with E|E
  ·exact h y E
  ·rw[E,L];exact O.2
 ·rcases List.mem_or_eq_of_mem_set J with E|E
  ·exact h y E
  ·have:(I.getD i []).length=F:=by
    rw[aa,ac hi];exact h _ (bv _)
   rw[E];simp only[ae,an,aE,this,L];omega
theorem ul(h:Sim N c s){t:Tok}(y:t.readyC c=true):t.ready s=true:=by
 cases t with
 |no=>cases y
 |clip=>rfl
 |id t=>simp only[Tok.readyC,fC,decide_eq_true_eq]at y;simp only[Tok.ready,fC,decide_eq_true_eq];exact(h.tk t).2 y
theorem YQ(hM:aR C x s a w){y:Arg}(E:y.isT=true):Rep x (s.ev y) (match y with| .t n=>a.tmps.getD n undef|_=>undef):=by
 cases y with
 |t n=>exact hM.slot n
 |_=>cases E
theorem K7(h:Sim N c s){e:pL}(E:eJ c d so=some e)(hp:∀q y z,so≠ .pick q y z)(hn:∀ne q,so≠ .isnil ne q)(a7:∀sz q y,so≠ .cpy sz q y):∃f,eff s d so=some f/\f.pre/\Jo e f/\Jw c e:=by
 have a1:∀{so:SOp},eJ c d so=DZ (cY c so)->(eff s d so=match val s so with|some (p,v)=>some {pre:=p,val:=v}|none=>none)->eJ c d so=some e->∃f,eff s d so=some f/\f.pre/\Jo e f/\Jw c e:=by
  intro so F L O;rw[F]at O;cases hv:cY c so with
  |none=>rw[hv]at O;cases O
  |some v=>rw[hv]at O;cases O;obtain⟨p,Q,h5⟩:=Yt h hv;exact⟨{pre:=p,val:=v},by rw[L,Q],h5,Jo.v v p,Jw.v v⟩
 cases so with
 |pick q y z=>exact absurd rfl (hp q y z)
 |isnil ne q=>exact absurd rfl (hn ne q)
 |call _ _=>cases E
 |newB _=>cases E
 |slid _=>cases E
 |new ob=>
  simp only[eJ]at E;split at E<;>try (cases E;done)
  obtain⟨F,rfl⟩:=cd E;exact⟨_,rfl,trivial,⟨rfl,rfl,rfl,rfl,rfl⟩,⟨fun ob' e=>(by cases e;exact F),.inl rfl⟩⟩
 |box q=>simp only[eJ]at E;split at E<;>cases E;exact⟨_,rfl,trivial,⟨rfl,rfl,by simp only[h.ev],rfl,rfl⟩,⟨fun ob' e=>(by cases e;rfl),.inl rfl⟩⟩
 |mk z bytes n m=>
  simp only[eJ]at E;simp only[eff,h.ev];split at E<;>try (cases E;done)
  rename_i F L;rw[F,L];obtain⟨F,rfl⟩:=cd E;exact⟨_,rfl,F,⟨rfl,rfl,rfl,rfl,rfl⟩,⟨fun ob' e=>(by cases e;exact xkj _ z),.inl rfl⟩⟩
 |mkB n m=>
  simp only[eJ]at E;simp only[eff,h.ev];split at E<;>try (cases E;done)
  rename_i F L;rw[F,L];obtain⟨F,rfl⟩:=cd E;exact⟨_,rfl,F,⟨rfl,rfl,rfl,rfl,rfl⟩,⟨fun ob' e=>(by cases e;rfl),.inl rfl⟩⟩
 |store n q y=>
  simp only[eJ]at E;simp only[eff,h.ev];split at E<;>try (cases E;done)
  rename_i a6;rw[a6];simp only;unfold mf at E;unfold sL;split at E
  ·rename_i o' off W
   rw[W];simp only[h.look];split at E<;>try (cases E;done)
   ·rename_i cs I
    rw[I];obtain⟨F,rfl⟩:=cd E;exact⟨_,rfl,F,⟨rfl,rfl,rfl,rfl,rfl⟩,⟨fun ob' e=>(by cases e),.inr ⟨_,_,rfl,by rw[I];rfl,rfl⟩⟩⟩
   ·rename_i sz xs I
    rw[I];obtain⟨⟨F,L,O,Q⟩,rfl⟩:=cd E
    exact⟨_,rfl,⟨F,L,O,Q⟩,⟨rfl,rfl,rfl,rfl,rfl⟩,
     ⟨fun ob' e=>(by cases e),.inr ⟨_,_,rfl,by rw[I];rfl,gn.2 (zY sz _ _ (by rw[aV];omega))⟩⟩⟩
   ·rename_i l I
    rw[I];simp only at E ⊢;split at E<;>try (cases E;done)
    rename_i l' hv;rw[hv];obtain⟨F,rfl⟩:=cd E;exact⟨_,rfl,F,⟨rfl,rfl,rfl,rfl,rfl⟩,⟨fun ob' e=>(by cases e),.inr ⟨_,_,rfl,by rw[I];rfl,rfl⟩⟩⟩
  ·rename_i o' sz i j W
   rw[W];simp only[h.look];split at E<;>try (cases E;done)
   ·rename_i a2 xs I
    rw[I];obtain⟨⟨F,L,O,Q,h5⟩,rfl⟩:=cd E
    exact⟨_,rfl,⟨F,L,O,Q,by rw[F];exact h.rows I,h5⟩,⟨rfl,rfl,rfl,rfl,rfl⟩,
     ⟨fun ob' e=>(by cases e),.inr ⟨_,_,rfl,by rw[I];rfl,gn.2 (by subst F;exact Ht (h.rows I) L O (by simpa using Q))⟩⟩⟩
   ·rename_i l I
    rw[I];simp only at E ⊢;split at E<;>try (cases E;done)
    rename_i b hv;rw[hv];obtain⟨F,rfl⟩:=cd E;exact⟨_,rfl,F,⟨rfl,rfl,rfl,rfl,rfl⟩,⟨fun ob' e=>(by cases e),.inr ⟨_,_,rfl,by rw[I];rfl,rfl⟩⟩⟩
  ·cases E
 |app z bytes q y=>
  simp only[eJ]at E;simp only[eff,h.ev];split at E<;>try (cases E;done)
  split at E<;>try (cases E;done)
  ·rename_i l t W
   rw[W];obtain⟨l',F,L⟩:=Option.bind_eq_some_iff.1 E;obtain⟨p,O,Q⟩:=oQ h F;obtain⟨⟨g1,g2,g3,g4⟩,rfl⟩:=cd L;simp only[O];exact⟨_,rfl,⟨Q,g1,g2,ul h g3,g4⟩,⟨rfl,rfl,rfl,rfl,rfl⟩,⟨fun ob' e=>(by cases e),.inl rfl⟩⟩
  ·rename_i a2 l t W
   rw[W];obtain⟨l',F,L⟩:=Option.bind_eq_some_iff.1 E;obtain⟨p,O,Q⟩:=lz h F;obtain⟨⟨g1,g3,g4⟩,rfl⟩:=cd L;simp only[O];exact⟨_,rfl,⟨Q,g1,ul h g3,g4⟩,⟨rfl,rfl,rfl,rfl,rfl⟩,⟨fun ob' e=>(by cases e),.inl rfl⟩⟩
 |cpy sz q y=>exact absurd rfl (a7 sz q y)
 |appO z bytes q y=>cases E
 |clr z q=>
  simp only[eJ]at E;simp only[eff,h.ev];split at E<;>try (cases E;done)
  rename_i o' a2 off n cap W;rw[W];simp only[h.look];split at E<;>try (cases E;done)
  rename_i a8 xs I;rw[I];obtain⟨⟨g0,g1,g2,g3⟩,rfl⟩:=cd E;have J:=h.rows I;refine⟨_,rfl,⟨g0,g1,g2,g3,by rw[g2];exact J⟩,⟨rfl,rfl,rfl,rfl,rfl⟩,⟨fun ob' e=>(by cases e),.inr ⟨_,_,rfl,by rw[I];rfl,gn.2 ?_⟩⟩⟩;intro r Z;rcases am.1 Z with Z|Z
  ·rcases am.1 Z with Z|Z
   ·rw[g2];exact J r (bF Z)
   ·rw[(List.mem_replicate.1 Z).2]
  ·rw[g2];exact J r (cH Z)
 |appM z bytes q y=>cases E
 |ovl q y=>cases E
 |_=>exact a1 (uN rfl) rfl E
theorem xaA(P:Program)(h:Sim N c s)(hM:aR C x s a w){e:pL}(I:eJ c d so=some e)(hp:∀q y z,so≠ .pick q y z)(hn:∀ne q,so≠ .isnil ne q):∃f,eff s d so=some f/\f.pre/\Jo e f/\Jw c e:=by
 by_cases O:∃Z q y,so= .cpy Z q y
 ·obtain⟨Z,q,y,rfl⟩:=O
  simp only[eJ]at I;simp only[eff,h.ev];split at I<;>try (cases I;done)
  rename_i o' a6 off n cap hq;rw[hq];simp only[h.look];split at I<;>try (cases I;done)
  ·rename_i l L
   rw[L];obtain⟨l',h1,h2⟩:=Option.bind_eq_some_iff.1 I;obtain⟨p,W,Q⟩:=oQ h h1;obtain⟨⟨g1,J,g3⟩,rfl⟩:=cd h2;simp only[W];exact⟨_,rfl,⟨Q,g1,J,g3⟩,⟨rfl,rfl,rfl,rfl,rfl⟩,⟨fun ob' e=>(by cases e),.inr ⟨_,_,rfl,by rw[L];rfl,rfl⟩⟩⟩
  ·rename_i a2 xs L
   rw[L];obtain⟨l',h1,h2⟩:=Option.bind_eq_some_iff.1 I;obtain⟨p,W,Q⟩:=lz h h1;obtain⟨⟨g0,g1,J,g3⟩,rfl⟩:=cd h2;simp only[W];have E:=h.rows L;obtain⟨_,a1,_⟩:=rI (P:=P) hM (YQ hM g0) (by rw[h.ev];exact W) Q;refine⟨_,rfl,⟨Q,g1,J,g3,by rw[J];exact E⟩,⟨rfl,rfl,rfl,rfl,rfl⟩,⟨fun ob' e=>(by cases e),.inr ⟨_,_,rfl,by rw[L];rfl,gn.2 ?_⟩⟩⟩;intro r F;rcases am.1 F with F|F
   ·rcases am.1 F with F|F
    ·rw[J];exact E r (bF F)
    ·exact a1 r (bF F)
   ·rw[J];exact E r (cH F)
 ·exact K7 h I hp hn (fun Z q y e=>O ⟨Z,q,y,e⟩)
theorem xpE(h:M C N c a w)(hr:bM P o=some so)(hd:∀k,o.dst=some k->k<N)(O:o5 c o.dst (eJ c o.dst so)=some c'){K:LBa}{Q:LAf}(hK:∀a w,M C N c' a w->K a w):o.wp P a w K Q:=by
 obtain⟨x,s,hM,F⟩:=h;cases he:eJ c o.dst so with
 |none=>rw[he]at O;cases O
 |some e=>
  rw[he]at O;simp only[o5,ax.injEq]at O;subst O
  by_cases hp:∃q y z,so= .pick q y z
  ·obtain⟨q,y,z,rfl⟩:=hp
   simp only[eJ]at he;split at he<;>cases he;rename_i t ht;have I:=Ij hM hr (t:=t) (by rw[F.ev];exact ht);refine dH I (k:=Sim N (c.app o.dst {val:=jo t (c.ev y) (c.ev z)})) ?_ hK;have:(if t=true then s.ev y else s.ev z)=jo t (c.ev y) (c.ev z):=by rw[F.ev,F.ev];rfl
   rw[this];exact F.put hd _
  ·by_cases hn:∃E q,so= .isnil E q
   ·obtain⟨E,q,rfl⟩:=hn
    have key:∃b,b=E/\cE P C o a w (s.put o.dst (.bool b)):=by
     refine Bs hM hr (K:=fun b=>b=E) ?_;rw[F.ev];simp only[eJ]at he;split at he<;>try (cases he;done)
     ·rename_i l t L
      obtain⟨W,_⟩:=cd he
      try rw[L]
      intro b Z;cases b
      ·cases E<;>rfl
      ·exact absurd (Z rfl) W
     ·rename_i sz l t L
      obtain⟨W,_⟩:=cd he
      try rw[L]
      intro b Z;cases b
      ·cases E<;>rfl
      ·exact absurd (Z rfl) W
     ·rename_i L
      first
       |rw[L]
       |rfl
    obtain⟨b,rfl,I⟩:=key;refine dH I (k:=Sim N (c.app o.dst e)) ?_ hK
    have:e= {val:= .bool b}:=by
     simp only[eJ]at he;split at he
     ·obtain⟨_,J⟩:=cd he;exact J.symm
     ·obtain⟨_,J⟩:=cd he;exact J.symm
     ·exact(ax.inj he).symm
     ·cases he
    rw[this];exact F.put hd _
   ·obtain⟨f,W,J,h3,h4⟩:=xaA P F hM he (fun q y z e=>hp ⟨q,y,z,e⟩) (fun E q e=>hn ⟨E,q,e⟩)
    exact dH (xay hM hr W J) (k:=Sim N (c.app o.dst e)) (F.app hd h3 h4) hK
end Go.Sy
namespace Go.Sy
variable [bx]
variable {P : Program} {C : Ctx} {x : Sit} {a : Act} {w : World} {N : Nat} {c c' : CSt} {s : St}
theorem Sim.exact(h:Sim N c s)(hM:aR C x s a w):aR C x (c.st N) a w:=
 ⟨by show cL x ((bC N).map c.get) _;rw[<-h.tm];exact hM.tm,hM.defers,hM.heap.only (fun p I=>by have y:=kb (jW h.inv.so) I;have E:s.look p.1=some p.2:=(h.look p.1).trans y;exact du E) (jW h.inv.so) (fun t F=>(h.tk t).2 F)⟩
theorem M.slots(h:M C N c a w)(hi:Inv N c')(O:c'.ob=c.ob)(J:c'.tk=c.tk)(I:∀i,c'.get i=c.get i\/c'.get i= .undef):M C N c' a w:=by
 obtain⟨x,s,hM,L⟩:=h;have hE:=L.exact hM;refine⟨x,c'.st N,⟨⟨?_,fun i y=> ?_⟩,hM.defers, ?_⟩,Sim.of hi⟩
 ·have:=hE.tm.1;simpa[CSt.st]using this
 ·have F:=hE.tm.2 i (by simpa[CSt.st]using y)
  have E:i<N:=by simpa[CSt.st]using y
  simp only[CSt.st,aa,aU,cC E,bE,aM]at F ⊢;rcases I i with e|e
  ·rw[e];exact F
  ·rw[e];exact .undef _
 ·show dl C x c'.ob c'.tk w
  rw[O,J];exact hE.heap
theorem Inv.kill(h:Inv N c)(l:t8):Inv N (c.kill l):=by
 cases l with
 |nil=>exact h
 |cons n r=>exact⟨fun p y=>h.dom p (rT y),h.so,h.wf⟩
theorem M.kill(h:M C N c a w)(l:t8):M C N (c.kill l) a w:=by
 have hi:Inv N c:=by obtain⟨x,s,_,E⟩:=h;exact E.inv
 cases l with
 |nil=>exact h
 |cons n r=>
  refine h.slots (hi.kill _) rfl rfl fun i=> ?_
  have e:=se (n::r) i c.tm
  by_cases y:(n::r).contains i=true
  ·exact .inr (e.trans (if_pos y))
  ·exact .inl (e.trans (if_neg y))
theorem M.purge(h:M C N c a w)(lo hi:Nat):M C N (c.purge lo hi) a w:=by obtain⟨x,s,hM,y⟩:=h;exact⟨x,_,hM.purge lo hi,y.purge lo hi⟩
theorem M.gc:∀{l:t8}{c:CSt},M C N c a w->M C N (gcC c l) a w
 |[],_,h=>h
 |o::r,c,h=>by show M C N (gcC (c.purge o (o+1)) r) a w;exact M.gc (h.purge o (o+1))
theorem ny{o:Nat}{obj:aH}(cs:f8):SV.pubL o obj cs=cs.map (SV.pub o obj):=by
 induction cs with
 |nil=>rfl
 |cons c r y=>simp only[SV.pubL,aI,y]
theorem Rep.pub{x x':Sit}{o:Nat}{obj:aH}(hβ:x'.bk=x.bk)(hτ:x'.τ=x.τ)(hG:∀b i u,x.G b i=some u->x'.G b i=some u)
 (I:∀k,k<obj.size->∃u,x'.G ((x.bk o).1) k=some u/\cR x'.G (obj.cell k) u) (a8:obj.wf=true) {sv:SV} {v:Value} (h:Rep x sv v):Rep x' (sv.pub o obj) v:=by
 induction h with
 |undef v=>exact .undef v
 |dat s v h ht=>
  have:s.pub o obj=s:=by cases h<;>rfl
  rw[this];exact(Rep.dat s v h ht).grow hG hβ hτ
 |ptr O off=>
  simp only[SV.pub];split
  ·exact .undef _
  ·rw[<-hβ];exact .ptr O off
 |ap O sz i j=>
  simp only[SV.pub];split
  ·exact .undef _
  ·rw[<-hβ];exact .ap O sz i j
 |psl O sz off n cap y F L hn J a2=>
  simp only[SV.pub];split
  ·rename_i ho
   subst ho;cases obj with
   |rc cs=>exact .undef _
   |arr Q xs=>
    simp only[AY];split
    ·rename_i hc
     obtain⟨rfl,hb⟩:=hc;have W:=gn.1 a8;have h1:=leP.psl (o:=O) (cap:=cap) hb W x x' _ hβ hτ hG (fun k hk=>I k hk) (.psl O Q off n cap y F L hn J a2);split
     ·rename_i E
      have a1:=J _ E;obtain⟨b,cq,he,_,hD,_⟩:=h1.lst_inv;exact .dat _ _ (hD.tok (.lst Q ((xs.drop off).take n) .clip) (.inr ⟨Q,_,_,_,rfl,rfl⟩)) ⟨_,n,by rw[<-a1]⟩
     ·exact h1
    ·exact .undef _
   |bar l=>
    simp only[AY];split
    ·rename_i hc
     obtain⟨rfl,hb⟩:=hc;have a6:((l.drop off).take n).length=n:=by simp;omega
     have hD:∀t,cR x'.G (.byt ((l.drop off).take n) t) (.slice (some ⟨(x.bk O).1,y,none⟩) n F):=by
      intro t;refine .byt _ t _ _ _ _ a6.symm hn fun i hi=> ?_
      have Z:y=off:=by omega
      obtain⟨u,hu,hr⟩:=I (off+i) (by simp only[aH.size];omega);rw[Z,hu];simp only[aH.cell]at hr
      have e:((l.drop off).take n).getD i 0=l.getD (off+i) 0:=by simp only[aa,bS,if_pos hi,bB]
      rw[e];cases hr with
      |u8 b=>rfl
     split
     ·rename_i E
      have a1:=J _ E;exact .dat _ _ (hD .clip) ⟨_,n,by rw[<-a1]⟩
     ·exact .dat _ _ (hD .no) trivial
    ·exact .undef _
  ·rw[<-hβ]at a2 ⊢;exact .psl O sz off n cap y F L hn J a2
 |agg cs vs hl _ ih=>simp only[SV.pub,ny];exact .agg _ _ (by simpa using hl) fun i hi=>by rw[bn _ (by rfl)];exact ih i (by simpa using hi)
 |tup cs vs hl _ ih=>simp only[SV.pub,ny];exact .tup _ _ (by simpa using hl) fun i hi=>by rw[bn _ (by rfl)];exact ih i (by simpa using hi)
 |fn f c1 c2 v1 v2 a7 _ b1 _ b3 b0=>simp only[SV.pub,ny];exact .fn _ _ _ _ _ (by simpa using a7) (fun i hi=>by rw[bn _ (by rfl)];exact b3 i (by simpa using hi)) (by simpa using b1) (fun i hi=>by rw[bn _ (by rfl)];exact b0 i (by simpa using hi))
theorem lG{o:Nat}{obj:aH}{p:Nat×aH}:∀{l:List (Nat×aH)},p∈mn o obj l->p.1≠o/\∃q,(p.1,q)∈l/\p.2=pu o obj q
 |q::r,h=>by
  simp only[mn]at h;split at h
  ·obtain⟨E,u,y,F⟩:=lG h
   exact⟨E,u,aw _ y,F⟩
  ·rename_i I
   rcases av.1 h with e|e
   ·rw[e];exact⟨I,q.2,aA ..,rfl⟩
   ·obtain⟨E,u,y,F⟩:=lG e
    exact⟨E,u,aw _ y,F⟩
theorem sj{o:Nat}{obj:aH}:∀l:List (Nat×aH),(mn o obj l).map cW=(l.map cW).filter fun k=>decide (k≠o)
 |[]=>rfl
 |p::r=>by
  simp only[mn,aI,fT]
  by_cases h:p.1=o
  ·rw[if_pos h,sj r];simp[h]
  ·rw[if_neg h,aI,sj r];simp[h]
theorem rO{o:Nat}{obj:aH}{p:Nat×SV}:∀{l:List (Nat×SV)},p∈mX o obj l->∃q∈l,p.1=q.1
 |q::r,h=>by
  simp only[mX]at h;rcases av.1 h with e|e
  ·exact⟨q,aA ..,by rw[e]⟩
  ·obtain⟨u,E,y⟩:=rO e
   exact⟨u,aw _ E,y⟩
theorem lI{o:Nat}{obj:aH}(n:Nat):∀l:List (Nat×SV),fb (mX o obj l) n=(fb l n).pub o obj
 |[]=>rfl
 |p::r=>by
  simp only[mX,fb];split
  ·rfl
  ·exact lI n r
theorem xkk{o:Nat}{obj q:aH}(h:q.wf=true):(pu o obj q).wf=true:=by cases q<;>simpa[pu,aH.wf]using h
theorem qj{o:Nat}{y obj:aH}(hl:c.look o=some y)(d6:∀cs,obj≠ .rc cs)(b4:∀cs,y≠ .rc cs)(e0:obj.size<=y.size)(c7:∀k,k<obj.size->obj.cell k=y.cell k)(d1:obj.wf=true)(hM:aR C x s a w)(J:Sim N c s):
 ∃x',(x'.bk=x.bk/\x'.τ=x.τ/\(∀b i u,x.G b i=some u->x'.G b i=some u)/\(∀i,obj.size<=i->x'.G ((x.bk o).1) i=none)/\(∀k,k<obj.size->∃u,x'.G ((x.bk o).1) k=some u/\cR x'.G (obj.cell k) u))/\(∀sv v,Rep x sv v->Rep x' (sv.pub o obj) v)/\∃s',aR C x' s' a w/\Sim N ⟨mX o obj c.tm,mn o obj c.ob,c.tk⟩ s'/\(∀p∈s'.ob,(x.bk o).1≠(x'.bk p.1).1):=by
 have a1:s.look o=some y:=(J.look o).trans hl;obtain⟨cc,e,fl,fh,hO,d7,hr⟩:=fA hM a1;have b0:=hM.heap.obs _ (du a1)
 let x':Sit:= {x with G:=fun b i=>if b=(x.bk o).1/\i<obj.size then some (cc.getD i undef)else x.G b i}
 have hG:∀b i u,x.G b i=some u->x'.G b i=some u:=by intro b i u hu;show(if _ then _ else _)=_;rw[if_neg];exact hu;rintro⟨rfl,_⟩;have h0:=b0.2.2 i;simp only at h0;rw[h0]at hu;cases hu
 have W:∀k,k<obj.size->∃u,x'.G ((x.bk o).1) k=some u/\cR x'.G (obj.cell k) u:=by
  intro k hk;refine⟨cc.getD k undef,if_pos ⟨rfl,hk⟩,cR.mono hG ?_⟩;have:=hr k (by omega);rw[c7 k hk];cases y with
  |rc cs=>exact absurd rfl (b4 cs)
  |arr sz xs=>exact this
  |bar l=>exact this
 have Q:∀sv v,Rep x sv v->Rep x' (sv.pub o obj) v:=fun sv v h=>Rep.pub (x:=x) (x':=x') rfl rfl hG W d1 h
 have E:=hM.heap
 have a2:Inv N ⟨mX o obj c.tm,mn o obj c.ob,c.tk⟩:=by
  refine⟨fun p I=> ?_, ?_,fun p I=> ?_⟩
  ·obtain⟨q,hq,e⟩:=rO I;rw[e];exact J.inv.dom q hq
  ·show((mn o obj c.ob).map cW).Pairwise _
   rw[sj];exact J.inv.so.filter _
  ·obtain⟨_,q,O,h3⟩:=lG I;rw[h3];exact xkk (J.inv.wf _ O)
 have F:∀p∈mn o obj c.ob,p.1≠o/\∃q,(p.1,q)∈s.ob/\p.2=pu o obj q:=by intro p I;obtain⟨Z,q,O,h3⟩:=lG I;have h4:=kb (jW J.inv.so) O;exact⟨Z,q,du ((J.look p.1).trans h4),h3⟩
 have b1:∀p∈mn o obj c.ob,(x.bk p.1).1≠(x.bk o).1:=fun p I e=>by obtain⟨Z,q,O,_⟩:=F p I;exact Z (E.inj (p.1,q) O _ (du a1) e)
 refine⟨x',⟨rfl,rfl,hG,fun i hi=> ?_,W⟩,Q,_,⟨⟨?_,fun i hi=> ?_⟩,hM.defers, ?_⟩,Sim.of a2,fun p I=>(b1 p I).symm⟩
 ·show(if _ then _ else _)=_
  rw[if_neg (by rintro⟨_,h⟩;omega)];exact b0.2.2 i
 ·have:=hM.tm.1;rw[J.tm]at this;simpa[CSt.st]using this
 ·have b3:i<N:=by simpa[CSt.st]using hi
  have Z:=hM.tm.2 i (by rw[J.tm];simpa using b3);rw[J.tm]at Z;simp only[CSt.st,aa,aU,cC b3,bE,aM]at Z ⊢;have:(CSt.mk (mX o obj c.tm) (mn o obj c.ob) c.tk).get i=(c.get i).pub o obj:=lI i c.tm;rw[this];exact Q _ _ Z
 ·refine⟨
   ?_,fun b i v L=>hG _ _ _ (E.g0 b i v L), ?_,E.new, ?_,jW a2.so, ?_, ?_,fun n hn p I=> ?_,fun n hn m hm=>E.tkd n ((J.tk n).2 hn) m ((J.tk m).2 hm),E.os,E.tape,E.output,E.size,E.ext,E.pin,E.lay⟩
  ·intro b i v L
   replace L:(if b=(x.bk o).1/\i<obj.size then some (cc.getD i undef)else x.G b i)=some v:=L;split at L
   ·rename_i a8
    obtain⟨rfl,hi⟩:=a8;cases L;rw[hO.cell,aS,cB (by omega)];rfl
   ·exact E.per b i v L
  ·intro b i v L
   replace L:(if b=(x.bk o).1/\i<obj.size then some (cc.getD i undef)else x.G b i)=some v:=L;split at L
   ·rename_i a8
    exact .inr (a8.1 ▸ b0.2.1)
   ·exact E.gm b i v L
  ·intro p I
   obtain⟨Z,q,O,h3⟩:=F p I;obtain⟨g1,g2,g3⟩:=E.obs _ O;refine⟨?_,g2,fun off=> ?_⟩
   ·obtain⟨c',e',c5,d4,d5,a7,a6⟩:=g1
    rw[h3];refine⟨c',e',c5,d4,d5, ?_,fun k hk=> ?_⟩
    ·cases q<;>first|exact a7|exact⟨by simpa[pu,aH.size,ny]using a7.1,a7.2.1,fun h=>by cases h⟩
    ·cases q with
     |rc cs=>
      have d2:k<cs.length:=by simpa[pu,aH.size,ny]using hk
      have:=a6 k d2;simp only[pu,cA,ny]at this ⊢;rw[bn _ (by rfl)];exact Q _ _ this
     |arr sz xs=>exact cR.mono hG (a6 k hk)
     |bar l=>exact cR.mono hG (a6 k hk)
   ·show(if _ then _ else _)=_
    rw[if_neg (fun h=>b1 p I h.1)];exact g3 off
  ·intro p I q hq b6
   obtain⟨_,p',d3,_⟩:=F p I;obtain⟨_,q',c3,_⟩:=F q hq;exact E.inj (p.1,p') d3 (q.1,q') c3 b6
  ·intro n b7
   have hn:=(J.tk n).2 b7;rcases E.tks n hn with h|⟨Z,O,h3⟩
   ·exact .inl h
   ·by_cases b5:(x.τ n).2.1=(x.τ n).2.2
    ·exact .inl b5
    ·refine .inr ⟨Z,O,fun off h4 h5=> ?_⟩
     show(if _ then _ else _)=_;rw[if_neg (fun h=>(E.tko n hn _ (du a1)).elim (fun hb=>hb h.1) b5)];exact h3 off h4 h5
  ·obtain⟨_,q,O,_⟩:=F p I
   exact E.tko n ((J.tk n).2 hn) (p.1,q) O
theorem qk{o:Nat}{obj:aH}(I:c.look o=some obj)(y:∀cs,obj≠ .rc cs)(hM:aR C x s a w)(F:Sim N c s):
 ∃x',(x'.bk=x.bk/\x'.τ=x.τ)/\(∀sv v,Rep x sv v->Rep x' (sv.pub o obj) v)/\∃E,aR C x' E a w/\Sim N ⟨mX o obj c.tm,mn o obj c.ob,c.tk⟩ E:=by
 obtain⟨x',J,O,E,L,Q,_⟩:=qj I y y (aK _) (fun _ _=>rfl) (F.lookmem I) hM F;exact⟨x',⟨J.1,J.2.1⟩,O,E,L,Q⟩
theorem HD{o:Nat}{obj:aH}(I:c.look o=some obj)(y:∀cs,obj≠ .rc cs)(hM:aR C x s a w)(F:Sim N c s):
 ∃x',(∀sv v,Rep x sv v->Rep x' (sv.pub o obj) v)/\∃E,aR C x' E a w/\Sim N ⟨mX o obj c.tm,mn o obj c.ob,c.tk⟩ E:=by
 obtain⟨x',_,h⟩:=qk I y hM F;exact⟨x',h⟩
theorem mm{vs:f8}{us:LAb}{o:Nat}(hM:aR C x s a w)(J:Sim N c s)(I:cL x vs us):
 ∃x' y,aR C x' y a w/\Sim N (c.publish o vs).1 y/\cL x' (c.publish o vs).2 us:=by
 unfold CSt.publish
 have L:∀{obj:aH},c.look o=some obj->(∀cs,obj≠ .rc cs)->∃x' y,aR C x' y a w/\Sim N ⟨mX o obj c.tm,mn o obj c.ob,c.tk⟩ y/\cL x' (SV.pubL o obj vs) us:=by intro obj E F;obtain⟨x',O,y,W,Q⟩:=HD E F hM J;refine⟨x',y,W,Q, ?_⟩;rw[ny];refine⟨by simpa using I.1,fun i hi=> ?_⟩;rw[bn _ (by rfl)];exact O _ _ (I.2 i (by simpa using hi))
 split
 ·rename_i Z xs E;exact L E (fun cs e=>by cases e)
 ·rename_i l E;exact L E (fun cs e=>by cases e)
 ·exact⟨x,s,hM,J,I⟩
theorem ki{us:LAb}:∀{l:t8}{c:CSt}{s:St}{x:Sit}{vs:f8},aR C x s a w->Sim N c s->cL x vs us->
 ∃x' y,aR C x' y a w/\Sim N (fx c vs l).1 y/\cL x' (fx c vs l).2 us
 |[],_,_,_,_,hM,hS,hv=>⟨_,_,hM,hS,hv⟩
 |o::r,c,s,x,vs,hM,hS,hv=>by obtain⟨x1,J,F,E,I⟩:=mm (o:=o) hM hS hv;simp only[fx];exact ki F E I
theorem M.pub(h:M C N c a w)(o:Nat):M C N (c.publish o []).1 a w:=by obtain⟨x,s,hM,E⟩:=h;obtain⟨x',F,I,y,_⟩:=mm (o:=o) (vs:=[]) (us:=[]) hM E ⟨rfl,fun i hi=>by simp at hi⟩;exact⟨x',F,I,y⟩
theorem YA(hM:aR C x s a w)(Q:Sim N c s)(id b lo hi:Nat)(Z:lo=hi\/((∃c e fl fh,eQ w b c e fl fh/\hi<=c.size)/\C.mine b/\∀o,lo<=o->o<hi->x.G b o=none))
 (O:∀p∈s.ob,b≠(x.bk p.1).1) (L:∀u∈s.tk,mD (b,lo,hi) (x.τ u)\/(x.τ u).2.1=(x.τ u).2.2) {n:Nat} (hn:n<N) {v:SV}
 (E:Rep (x.newT id b lo hi) v (a.tmps.toList.getD n undef)):
 M C N ⟨kr (dJ id (id+1) c.tm) n v,bW id (id+1) c.ob,og (cP id (id+1) c.tk) id⟩ a w:=by
 have F:dl C (x.newT id b lo hi) (bW id (id+1) s.ob) (id::cP id (id+1) s.tk) w:=
  hM.heap.addT id b lo hi Z (.inr fun p W _=>O p W) (.inr fun u hu _=>L u hu)
 have y:aR C (x.newT id b lo hi) ⟨SV.purgeL id (id+1) s.tm,bW id (id+1) s.ob,id::cP id (id+1) s.tk⟩ a w:=
  ⟨cL.mono (x:=x) (x':=x.newT id b lo hi) (lo:=id) (hi:=id+1) (fun _ _ _ h=>h) (fun _ _=>rfl) (Sit.newT_ne x id _ _ _) hM.tm,hM.defers,F⟩
 have J:Sim N ⟨dJ id (id+1) c.tm,bW id (id+1) c.ob,og (cP id (id+1) c.tk) id⟩ ⟨SV.purgeL id (id+1) s.tm,bW id (id+1) s.ob,id::cP id (id+1) s.tk⟩:=
  (Q.purge id (id+1)).tks (fun u=>by rw[lF,av,bZ,bZ,Q.tk])
 refine⟨x.newT id b lo hi,_, ?_,J.put (d:=some n) (fun k e=>by cases e;exact hn) v⟩;refine⟨⟨?_,fun i hi=> ?_⟩,y.defers,y.heap⟩
 ·have:=y.tm.1;simpa[St.put]using this
 ·simp only[St.put,nE]at hi
  simp only[St.put,aa,ik]
  by_cases I:n=i
  ·subst I
   rw[if_pos rfl,if_pos hi];rw[<-aa];exact E
  ·rw[if_neg I]
   have:=y.tm.2 i hi;simp only[aa]at this;exact this
theorem Al(h:M C N c a w){n id o sz off k Z:Nat}(hg:c.get n= .psl o sz off k (some Z))(hc:YC c n id o sz off k Z (c.look o)=some c')(hn:n<N):M C N c' a w:=by
 cases hl:c.look o with
 |none=>rw[hl]at hc;cases hc;exact h
 |some J=>
  rw[hl]at hc
  have a7:∀(obj:aH)(v:SV),(∀cs,obj≠ .rc cs)->(∀cs,J≠ .rc cs)->obj.size=(off+k)*sz->(off+Z)*sz<=J.size->k<=Z->(∀k,k<obj.size->obj.cell k=J.cell k)->obj.wf=true->
   (∀(x':Sit)(E:Nat),(Z=0\/E=off*sz)->(∀k,k<obj.size->∃u,x'.G ((x'.bk o).1) k=some u/\cR x'.G (obj.cell k) u)->cR x'.G v (.slice (some ⟨(x'.bk o).1,E,none⟩) k Z))->
   (∀x v',U4 x v v'=dP x sz (.id id) v')->
   M C N (IF c n id o obj v) a w:=by
   intro obj v d2 c3 e3 e5 hk a6 d6 hD b7;obtain⟨x,s,hM,hS⟩:=h;have b4:obj.size<=J.size:=by rw[e3];exact mE (bo _ (by omega)) e5
   obtain⟨x',⟨hβ,hτ,hG,a8,I⟩,e8,s',d5,b6,d4⟩:=qj hl d2 c3 b4 a6 d6 hM hS;have b1:s.look o=some J:=(hS.look o).trans hl;obtain⟨cc,e,fl,fh,hO,e7,_⟩:=fA hM b1;have d7:=hM.heap.obs _ (du b1);have a1:=hM.slot n;rw[hS.get,hg]at a1;obtain⟨f1,f0,c7,E,he,L⟩:=a1.psl_inv;obtain rfl:=c7 _ rfl
   have b0:a.tmps.toList.getD n undef= .slice (some ⟨(x.bk o).1,E,none⟩) k Z:=by rw[<-he];simp[aS,aa]
   refine YA d5 b6 id ((x.bk o).1) ((off+k)*sz) ((off+Z)*sz) (.inr ⟨⟨cc,e,fl,fh,hO,by omega⟩,d7.2.1,fun i h1 h2=>a8 i (by omega)⟩) (fun p hp=>d4 p hp) (fun u hu=> ?_) hn ?_
   ·have d1:=(b6.tk u).1 hu
    have d3:=(hS.tk u).2 d1;rw[hτ];exact(hM.heap.tko u d3 _ (du b1)).imp (fun h e=>h e.symm) (fun h=>h)
   ·rw[b0]
    have h1:=hD (x'.newT id ((x.bk o).1) ((off+k)*sz) ((off+Z)*sz)) E L (by show ∀k,k<obj.size->∃u,x'.G ((x'.bk o).1) k=some u/\cR x'.G (obj.cell k) u;rw[hβ];exact I)
    have e1:(x'.newT id ((x.bk o).1) ((off+k)*sz) ((off+Z)*sz)).bk o=x.bk o:=by show x'.bk o=_;rw[hβ]
    rw[e1]at h1;refine .dat _ _ h1 ?_;rw[b7];refine⟨_,k,Z,rfl, ?_⟩
    by_cases e0:Z=0
    ·exact .inl (by omega)
    ·refine .inr ⟨_,E,rfl, ?_⟩
     rw[Sit.newT_eq,L.resolve_left e0,bH,bH]
  cases J with
  |rc cs=>cases hc;exact h
  |bar l=>
   simp only[YC]at hc;split at hc<;>cases hc
   ·rename_i O
    obtain⟨rfl,h2,h3⟩:=O;refine a7 (.bar (l.take (off+k))) (.byt ((l.drop off).take k) (.id id)) (fun cs e=>by cases e) (fun cs e=>by cases e) (by simp only[aH.size,an];omega) (by simp only[aH.size];omega) h3 (fun i hi=> ?_) rfl (fun x' E L I=> ?_) (fun _ _=>rfl)
    ·simp only[aH.size,an]at hi
     simp only[aH.cell,aa,bS,if_pos (show i<off+k by omega)]
    ·have a2:((l.drop off).take k).length=k:=by simp;omega
     refine .byt _ _ _ _ _ _ a2.symm h3 fun i hi=> ?_
     have Q:E=off:=by omega
     obtain⟨u,hu,hr⟩:=I (off+i) (by simp only[aH.size,an];omega);rw[Q,hu];simp only[aH.cell]at hr
     have e1:((l.drop off).take k).getD i 0=(l.take (off+k)).getD (off+i) 0:=by simp only[aa,bS,if_pos hi,bB,if_pos (show off+i<off+k by omega)]
     rw[e1];cases hr with
     |u8 b=>rfl
   ·exact h
  |arr F W=>
   simp only[YC]at hc;split at hc<;>cases hc
   ·rename_i O
    obtain⟨rfl,h2,h3⟩:=O;have b5:∀y∈W,y.length=F:=by obtain⟨x,s,hM,hS⟩:=h;exact gn.1 (hS.lookmem hl)
    have c5:∀y∈W.take (off+k),y.length=F:=fun y hy=>b5 y (bF hy)
    have e9:(W.drop off).take k=(W.take (off+k)).drop off:=by rw[fW,Nat.add_sub_cancel_left]
    refine a7 (.arr F (W.take (off+k))) (.lst F ((W.drop off).take k) (.id id)) (fun cs e=>by cases e) (fun cs e=>by cases e) (by simp only[aH.size,an];congr 1;omega) (by simp only[aH.size];exact bo _ h2) h3 (fun i hi=> ?_) (gn.2 c5) (fun x' E L I=> ?_) (fun _ _=>rfl)
    ·simp only[aH.size,an]at hi
     simp only[aH.cell,aa,bS];have hd:i/F<off+k:=Nat.div_lt_of_lt_mul (by rw[cS];exact Nat.lt_of_lt_of_le hi (bo _ (Nat.min_le_left _ _)));rw[if_pos hd]
    ·have a2:((W.drop off).take k).length=k:=by simp;omega
     have b3:∀i,i<k->((W.drop off).take k).getD i []=(W.take (off+k)).getD (off+i) []:=fun i hi=>by simp only[aa,bS,if_pos hi,bB,if_pos (show off+i<off+k by omega)]
     have e6:∀i,i<k->((W.drop off).take k).getD i []∈W.take (off+k):=fun i hi=>by rw[b3 i hi,aa,ac (show off+i<(W.take (off+k)).length by rw[an];omega)];exact bv _
     have a6:∀i j,i<k->j<F->∃u,x'.G ((x'.bk o).1) (E+i*F+j)=some u/\cR x'.G ((((W.drop off).take k).getD i []).getD j .undef) u:=by
      intro i j hi hj;have Q:E=off*F:=L.resolve_left (by omega)
      have e4:(off+i)*F+j<(off+k)*F:=by have:=bo F (show off+i+1<=off+k by omega);rw[bH,pB]at this;omega
      obtain⟨u,hu,hr⟩:=I ((off+i)*F+j) (by simp only[aH.size,an];rw[fP (by omega)];exact e4);refine⟨u,by rw[Q,<-bH];exact hu, ?_⟩;simp only[aH.cell]at hr;have e1:((off+i)*F+j)/F=off+i:=by rw[cS,Nat.mul_add_div (by omega),BL hj,fm]
      have e2:((off+i)*F+j) % F=j:=by rw[cS,Nat.mul_add_mod,ct hj]
      rw[e1,e2]at hr;rw[b3 i hi];exact hr
     refine .lst _ _ _ _ _ _ _ (fun i j=>(x'.G ((x'.bk o).1) (E+i*F+j)).getD undef) a2.symm h3 (fun i hi=>c5 _ (e6 i hi)) (fun i j hi hj=> ?_) (fun i j hi hj=> ?_)
     ·obtain⟨u,hu,_⟩:=a6 i j hi hj
      rw[hu];rfl
     ·obtain⟨u,hu,hr⟩:=a6 i j hi hj
      rw[hu];exact hr
   ·exact h
theorem lO(hM:aR C x s a w)(E:Sim N c s)(id:Nat)(t:LAa)(W:∀k,t=some k->k∈c.tk){n:Nat}(hn:n<N){v:SV}
 (hv:∀u,Rep x (c.get n) u->Rep (x.newT id ((t.elim (0,0,0) x.τ)).1 ((t.elim (0,0,0) x.τ)).2.1 ((t.elim (0,0,0) x.τ)).2.2) v u):
 M C N ⟨kr (dJ id (id+1) c.tm) n v,bW id (id+1) c.ob,og (cP id (id+1) (t.elim c.tk fun k=>cP k (k+1) c.tk)) id⟩ a w:=by
 generalize hT:t.elim (0,0,0) x.τ=T at hv;generalize hL:(t.elim c.tk fun k=>cP k (k+1) c.tk)=L;have Q:=hM.heap
 have F:∀u∈L,u∈s.tk/\∀k,t=some k->u≠k:=by
  intro u hu;rw[<-hL]at hu;cases t with
  |none=>exact⟨(E.tk u).2 hu,fun k e=>by cases e⟩
  |some k=>obtain⟨h1,h2⟩:=bZ.1 hu;exact⟨(E.tk u).2 h1,fun k' e=>by cases e;omega⟩
 have J:dl C (x.newT id T.1 T.2.1 T.2.2) (bW id (id+1) s.ob) (id::cP id (id+1) L) w:=by
  refine(Q.sub (tk':=L) (pe.refl _) (fun u hu=>(F u hu).1)).addT id T.1 T.2.1 T.2.2 ?_ ?_ ?_
  ·cases t with
   |none=>subst hT;exact .inl rfl
   |some k=>have:=Q.tks k ((E.tk k).2 (W k rfl));unfold iU at this;subst hT;exact this
  ·cases t with
   |none=>subst hT;exact .inl rfl
   |some k=>
    by_cases I:(x.τ k).2.1=(x.τ k).2.2
    ·subst hT;exact .inl I
    ·subst hT
     exact .inr fun p hp _=>(Q.tko k ((E.tk k).2 (W k rfl)) p hp).resolve_right I
  ·cases t with
   |none=>subst hT;exact .inl rfl
   |some k=>
    by_cases I:(x.τ k).2.1=(x.τ k).2.2
    ·subst hT;exact .inl I
    ·subst hT
     refine .inr fun u hu _=> ?_
     obtain⟨h1,h2⟩:=F u hu;rcases Q.tkd k ((E.tk k).2 (W k rfl)) u h1 (fun e=>h2 k rfl e.symm)with h|h|h
     ·exact .inl h
     ·exact absurd h I
     ·exact .inr h
 have y:aR C (x.newT id T.1 T.2.1 T.2.2) ⟨SV.purgeL id (id+1) s.tm,bW id (id+1) s.ob,id::cP id (id+1) L⟩ a w:=
  ⟨cL.mono (x:=x) (x':=x.newT id T.1 T.2.1 T.2.2) (lo:=id) (hi:=id+1) (fun _ _ _ h=>h) (fun _ _=>rfl) (Sit.newT_ne x id _ _ _) hM.tm,hM.defers,J⟩
 have a1:Sim N ⟨dJ id (id+1) c.tm,bW id (id+1) c.ob,og (cP id (id+1) L) id⟩ ⟨SV.purgeL id (id+1) s.tm,bW id (id+1) s.ob,id::cP id (id+1) L⟩:=
  (E.purge id (id+1)).tks (fun u=>by rw[lF,av])
 refine⟨x.newT id T.1 T.2.1 T.2.2,_, ?_,a1.put (d:=some n) (fun k e=>by cases e;exact hn) v⟩;have Z:n<s.tm.length:=by rw[E.tm];simpa using hn
 refine⟨⟨?_,fun i hi=> ?_⟩,y.defers,y.heap⟩
 ·have:=y.tm.1;simpa[St.put]using this
 ·simp only[St.put,nE]at hi
  simp only[St.put,aa,ik]
  by_cases O:n=i
  ·subst O
   rw[if_pos rfl,if_pos hi];refine hv _ ?_;have:=hM.tm.2 n Z;have e:s.tm.getD n .undef=c.get n:=E.get n;rw[e]at this;rw[<-aa];exact this
  ·rw[if_neg O,<-aa,<-aa]
   exact y.tm.2 i hi
theorem Am(h:M C N c a w){n id:Nat}(y:YD c n id (c.get n)=some c'):M C N c' a w:=by
 have I:c.get n≠ .undef->n<N:=by
  obtain⟨x,s,hM,F⟩:=h;intro a1;rcases bQ n N with O|O
  ·exact O
  ·exact absurd (F.inv.get O) a1
 cases hg:c.get n with
 |byt l t=>
  rw[hg]at y;have hN:=I (by rw[hg];exact fun e=>by cases e);cases t with
  |no=>cases y;exact h
  |clip=>
   cases y;obtain⟨x,s,hM,F⟩:=h;refine lO hM F id none (fun k e=>by cases e) hN fun u hu=> ?_
   rw[hg]at hu;exact leT.byt id l x u hu
  |id t=>
   simp only[YD]at y;split at y
   ·cases y;exact h
   ·split at y<;>cases y
    rename_i O W;obtain⟨x,s,hM,F⟩:=h;refine lO hM F id (some t) (fun k e=>by cases e;simpa using W) hN fun u hu=> ?_
    rw[hg]at hu;obtain⟨b,cap,he,_,Z,L⟩:=hu.byt_inv;refine .dat _ _ (Z.tok (.byt l (.id id)) (.inl ⟨l,_,_,rfl,rfl⟩)) ?_;obtain⟨a',n',E,J,hh⟩:=L;refine⟨a',n',E,J,hh.imp (fun h=>h) ?_⟩;rintro⟨b,off,h3,h4⟩;exact⟨b,off,h3,by rw[Sit.newT_eq];exact h4⟩
 |lst Q xs t=>
  rw[hg]at y;have hN:=I (by rw[hg];exact fun e=>by cases e);cases t with
  |no=>cases y;exact h
  |clip=>
   cases y;obtain⟨x,s,hM,F⟩:=h;refine lO hM F id none (fun k e=>by cases e) hN fun u hu=> ?_
   rw[hg]at hu;exact leT.lst id Q xs x u hu
  |id t=>
   simp only[YD]at y;split at y
   ·cases y;exact h
   ·split at y<;>cases y
    rename_i O W;obtain⟨x,s,hM,F⟩:=h;refine lO hM F id (some t) (fun k e=>by cases e;simpa using W) hN fun u hu=> ?_
    rw[hg]at hu;obtain⟨b,cap,he,_,Z,L⟩:=hu.lst_inv;refine .dat _ _ (Z.tok (.lst Q xs (.id id)) (.inr ⟨Q,xs,_,_,rfl,rfl⟩)) ?_;obtain⟨a',n',E,J,hh⟩:=L;refine⟨a',n',E,J,hh.imp (fun h=>h) ?_⟩;rintro⟨b,off,h3,h4⟩;exact⟨b,off,h3,by rw[Sit.newT_eq];exact h4⟩
 |psl o Q off k cp=>
  rw[hg]at y;have hN:=I (by rw[hg];exact fun e=>by cases e);cases cp with
  |none=>cases y;exact h
  |some cp=>exact Al h hg y hN
 |_=>rw[hg]at y;cases y;exact h
theorem aR.retag(hM:aR C x s a w)(n:Nat){v:SV}(y:Rep x v (a.tmps.toList.getD n undef)):aR C x (s.put (some n) v) a w:=by
 refine⟨⟨?_,fun i hi=> ?_⟩,hM.defers,hM.heap⟩
 ·have:=hM.tm.1;simpa[St.put]using this
 ·simp only[St.put,nE]at hi
  simp only[St.put,aa,ik]
  by_cases E:n=i
  ·subst E
   rw[if_pos rfl,if_pos hi];rw[<-aa];exact y
  ·rw[if_neg E]
   have:=hM.tm.2 i hi;simp only[aa]at this;exact this
theorem dl.move{ob:List (Nat×aH)}{tk:t8}(h:dl C x ob tk w){o d:Nat}(a1:100<=d){obj:aH}(ho:(o,obj)∈ob)(a6:∀cs,obj≠ .rc cs):
 dl C (x.newO d (x.bk o).1 (x.bk o).2) ((d,obj)::bW d (d+1) (bW o (o+1) ob)) (cP d (d+1) (cP o (o+1) tk)) w:=by
 have hβ:=Sit.newO_ne x d (x.bk o).1 (k:=(x.bk o).2);obtain⟨⟨c,e,fl,fh,hO,hs,hr⟩,hm,hg⟩:=h.obs _ ho;have y:(x.newO d (x.bk o).1 (x.bk o).2).bk d=x.bk o:=if_pos rfl
 have I:∀p∈bW d (d+1) (bW o (o+1) ob),(x.newO d (x.bk o).1 (x.bk o).2).bk p.1=x.bk p.1/\∃q,(p.1,q)∈ob/\p.1≠o/\¬(d<=p.1/\p.1<d+1)/\p.2=(q.purge o (o+1)).purge d (d+1):=by intro p E;obtain⟨J,q,Q,h3⟩:=cM E;obtain⟨h4,q',h5,h6⟩:=cM Q;simp only at h4 h5 h6;exact⟨hβ _ J,q',h5,by omega,J,by rw[h3,h6]⟩
 have L:∀t∈cP d (d+1) (cP o (o+1) tk),t∈tk:=fun t W=>(bZ.1 (bZ.1 W).1).1
 refine⟨h.per,h.g0,h.gm,h.new, ?_, ?_, ?_,fun t W=>h.tks t (L t W), ?_,fun t W u hu=>h.tkd t (L t W) u (L u hu),h.os,h.tape,h.output,h.size,h.ext,fun i hi=>by rw[hβ i (by omega)];exact h.pin i hi,h.lay⟩
 ·intro p E
  rcases av.1 E with rfl|E
  ·refine⟨⟨c,e,fl,fh,by rw[y];exact hO,by rw[y];exact hs,fun k hk=> ?_⟩,by rw[y];exact hm,fun off=>by rw[y];exact hg off⟩
   have:=hr k hk;cases obj with
   |rc cs=>exact absurd rfl (a6 cs)
   |arr sz xs=>exact this
   |bar l=>exact this
  ·obtain⟨O,q,J,Q,h3,h4⟩:=I p E
   obtain⟨h5,h6,h7⟩:=h.obs _ J;refine⟨?_,by rw[O];exact h6,fun off=>by rw[O];exact h7 off⟩;have e1:=h5.of_heap (x':=x) (w':=w) (lo:=o) (hi:=o+1) rfl (fun _ _ _ h=>h) (fun _ _=>rfl) (fun _ _=>rfl) (by omega);have e2:=e1.of_heap (x':=x.newO d (x.bk o).1 (x.bk o).2) (w':=w) (lo:=d) (hi:=d+1) rfl (fun _ _ _ h=>h) hβ (fun _ _=>rfl) h3;rw[h4];exact e2
 ·rw[aI,dR,ft,ft]
  refine⟨fun Z=> ?_,(h.nd.filter _).filter _⟩;have:=(List.mem_filter.1 Z).2;simp at this
 ·intro p E q hq F
  rcases av.1 E with rfl|E<;>rcases av.1 hq with rfl|hq
  ·rfl
  ·obtain⟨O,q',J,Q,_⟩:=I q hq
   rw[y,O]at F;exact absurd (h.inj (o,obj) ho (q.1,q') J F).symm Q
  ·obtain⟨O,q',J,Q,_⟩:=I p E
   rw[y,O]at F;exact absurd (h.inj (p.1,q') J (o,obj) ho F) Q
  ·obtain⟨O,q1,J,_⟩:=I p E
   obtain⟨a2,q2,Q,_⟩:=I q hq;rw[O,a2]at F;exact h.inj (p.1,q1) J (q.1,q2) Q F
 ·intro t W p E
  rcases av.1 E with rfl|E
  ·show(x.τ t).1≠((x.newO d (x.bk o).1 (x.bk o).2).bk d).1\/_
   rw[y];exact h.tko t (L t W) (o,obj) ho
  ·obtain⟨O,q,J,_⟩:=I p E
   show(x.τ t).1≠((x.newO d (x.bk o).1 (x.bk o).2).bk p.1).1\/_;rw[O];exact h.tko t (L t W) (p.1,q) J
theorem aR.move(hM:aR C x s a w){o d:Nat}(y:100<=d){obj:aH}(F:s.look o=some obj)(E:∀cs,obj≠ .rc cs):
 aR C (x.newO d (x.bk o).1 (x.bk o).2) (((s.purge o (o+1)).purge d (d+1)).addO d obj) a w:=
 ⟨cL.mono (x:=x) (x':=x.newO d (x.bk o).1 (x.bk o).2) (lo:=d) (hi:=d+1) (fun _ _ _ h=>h) (Sit.newO_ne x d _) (fun _ _=>rfl) (hM.purge o (o+1)).tm,hM.defers,hM.heap.move y (du F) E⟩
theorem yZ{n id o J off k:Nat}{cap:LAa}{obj:aH}(hM:aR C x s a w)(y:Sim N c s)(hn:n<N)(L:100<=id)(hg:c.get n= .psl o J off k cap)(Z:c.look o=some obj)(O:∀cs,obj≠ .rc cs):
 M C N (mvC c n id o J off k cap obj) a w:=by
 have W:=hM.move L (by rw[y.look];exact Z) O;have Q:=(((y.purge o (o+1)).purge id (id+1)).addO id (y.lookmem Z)).put (d:=some n) (fun k e=>by cases e;exact hn) (.psl id J off k cap);refine⟨x.newO id (x.bk o).1 (x.bk o).2,_, ?_,Q⟩
 have hv:Rep x (.psl o J off k cap) (a.tmps.toList.getD n undef):=by have:=hM.tm.2 n (by rw[y.tm];simpa using hn);rw[show s.tm.getD n .undef=c.get n from y.get n,hg]at this;exact this
 obtain⟨I,h1,h2,E,he,h3,h4⟩:=hv.psl_invA;refine W.retag n ?_;rw[he];have F:(x.newO id (x.bk o).1 (x.bk o).2).bk id=x.bk o:=if_pos rfl;have:=Rep.psl (x:=x.newO id (x.bk o).1 (x.bk o).2) id J off k cap E I h3 h1 h2 (by rw[F];exact h4);rw[F]at this;exact this
theorem A5(h:M C N c a w){n id:Nat}(F:100<=id)(y:xhP c n id (c.get n)=some c'):M C N c' a w:=by
 obtain⟨x,s,hM,E⟩:=h;cases hg:c.get n with
 |psl o J off k cap=>
  rw[hg]at y
  have hn:n<N:=by
   rcases bQ n N with h|h
   ·exact h
   ·rw[E.inv.get h]at hg;cases hg
  simp only[xhP]at y;split at y
  ·cases y;exact⟨x,s,hM,E⟩
  ·cases hl:c.look o with
   |none=>rw[hl]at y;cases y;exact⟨x,s,hM,E⟩
   |some obj=>
    rw[hl]at y;cases obj with
    |rc cs=>cases y;exact⟨x,s,hM,E⟩
    |arr I L=>cases y;exact yZ hM E hn F hg hl (fun cs e=>by cases e)
    |bar l=>cases y;exact yZ hM E hn F hg hl (fun cs e=>by cases e)
 |_=>rw[hg]at y;cases y;exact⟨x,s,hM,E⟩
theorem qX(h:M C N c a w){q:Dir}(y:tw c q=some c'):M C N c' a w:=by
 cases q with
 |kill l=>cases y;exact h.kill l
 |gc l=>cases y;exact h.gc
 |gcr lo hi=>cases y;exact h.purge lo hi
 |pubo o=>cases y;exact h.pub _
 |pub n=>
  simp only[tw]at y;split at y<;>cases y
  ·exact h.pub _
  ·exact h
 |tok n id=>
  simp only[tw]at y;split at y
  ·cases y
  ·exact Am h y
 |obj n id=>
  simp only[tw]at y;split at y
  ·cases y
  ·exact A5 h (by omega) y
theorem ls:∀{l:List Dir}{c:CSt},M C N c a w->jt c l=some c'->M C N c' a w
 |[],_,h,hc=>by cases hc;exact h
 |q::r,c,h,hc=>by
  simp only[jt]at hc;split at hc
  ·rename_i c1 y;exact ls (qX h y) hc
  ·cases hc
end Go.Sy
namespace Go.Sy
variable [bx]
variable {P : Program} {C : Ctx} {x : Sit} {a : Act} {w : World} {N : Nat} {c c' : CSt} {s : St}
def fZ(P:Program)(f:Nat)(args:f8)(os:List aH)(k:Nat)(R:dV->Prop):Prop:=
 eu P f=true/\∀(C:Ctx)(x:Sit)(w:World)(vs:LAb),C.w0=w->C.G0=x.G->
  (∀b,C.mine b->w.heap.size<=b\/(∃i,i<os.length/\(x.bk i).1=b)\/(∃t,50<=t/\t<50+k/\(x.τ t).2.1≠(x.τ t).2.2/\(x.τ t).1=b))->os.length<=40->
  (∀o∈os,o.wf=true)->dl C x (idx os) (tks 50 k) w->cL x args vs->
  Calls P f ⟨vs⟩ w fun e w'=>∃v x' q,e= .returned v/\R q/\Rep x' q.r v/\dl C x' q.os q.tk w'/\(∀p∈q.os,p.2.wf=true)/\∀i,i<os.length->x'.bk i=x.bk i
theorem lM(cs:f8):SV.bareL cs=cs.map SV.bare:=by
 induction cs with
 |nil=>rfl
 |cons c r y=>simp only[SV.bareL,aI,y]
theorem Rep.bare{x x':Sit}(hG:x'.G=x.G)(W:x'.bk=x.bk){sv:SV}{v:Value}(h:Rep x sv v):Rep x' sv.bare v:=by
 induction h with
 |undef v=>exact .undef v
 |dat s v h ht=>
  have y:=h.toData;rw[<-hG]at y;cases s with
  |byt l t=>exact .dat _ _ y trivial
  |lst E xs t=>exact .dat _ _ y trivial
  |undef=>exact .undef v
  |bool b=>exact .dat _ _ y trivial
  |int k n=>exact .dat _ _ y trivial
  |u8 b=>exact .dat _ _ y trivial
  |str l=>exact .dat _ _ y trivial
  |nilp=>exact .dat _ _ y trivial
  |nili=>exact .dat _ _ y trivial
  |pp cs=>exact .dat _ _ y trivial
  |ptr o off=>cases h
  |ap o E i j=>cases h
  |psl o E off n cap=>cases h
  |agg cs=>cases h
  |tup cs=>cases h
  |fn f a b=>cases h
 |ptr o off=>simp only[SV.bare];rw[<-W];exact .ptr o off
 |ap o E i j=>simp only[SV.bare];rw[<-W];exact .ap o E i j
 |psl o E off n cap I F h hn hc hk=>simp only[SV.bare];rw[<-W]at hk ⊢;exact .psl o E off n cap I F h hn hc hk
 |agg cs vs Q _ L=>simp only[SV.bare,lM];exact .agg _ _ (by simpa using Q) fun i hi=>by rw[bn _ (by rfl)];exact L i (by simpa using hi)
 |tup cs vs Q _ L=>simp only[SV.bare,lM];exact .tup _ _ (by simpa using Q) fun i hi=>by rw[bn _ (by rfl)];exact L i (by simpa using hi)
 |fn f c1 c2 v1 v2 J _ Z _ a1 O=>simp only[SV.bare,lM];exact .fn _ _ _ _ _ (by simpa using J) (fun i hi=>by rw[bn _ (by rfl)];exact a1 i (by simpa using hi)) (by simpa using Z) (fun i hi=>by rw[bn _ (by rfl)];exact O i (by simpa using hi))
def U5(x:Sit):LAa->Nat×Nat×Nat
 |none=>(0,0,0)
 |some t=>x.τ t
def pK(x x1:Sit)(j:Nat)(l:List LAa):Prop:=∀k,k<l.length->x1.τ (j+k)=U5 x (l.getD k none)
theorem pK.left{x x1:Sit}{j:Nat}{l r:List LAa}(h:pK x x1 j (l++r)):pK x x1 j l:=fun k y=>by have:=h k (by simp;omega);rwa[aa,bt y,<-aa]at this
theorem pK.right{x x1:Sit}{j:Nat}{l r:List LAa}(h:pK x x1 j (l++r)):pK x x1 (j+l.length) r:=fun k y=>by have:=h (l.length+k) (by simp;omega);rw[aa,bD (by omega),<-aa]at this;rw[fo,this];congr 2;omega
theorem lX{t:Nat}:∀{l:List LAa},t∈cO l↔some t∈l
 |[]=>by simp[cO]
 |none::r=>by simp[cO,lX]
 |some u::r=>by simp[cO,lX]
theorem gh(l r:List LAa):cO (l++r)=cO l++cO r:=by
 induction l with
 |nil=>rfl
 |cons o l y=>cases o<;>simp[cO,y]
theorem HY{x x1:Sit}(Q:x1.G=x.G)(Z:x1.bk=x.bk){v:SV}{u:Value}(h:Rep x v u):Rep x1 v.kclip u:=by
 have F:=h.bare Q Z;cases v with
 |lst sz xs t=>
  cases t with
  |no=>exact F
  |id u=>exact F
  |clip=>
   cases xs with
   |cons y r=>exact F
   |nil=>obtain⟨b,cap,W,_,J,I⟩:=h.lst_inv;obtain⟨O,L,E⟩:=I;rw[<-Q]at J;exact .dat _ _ (J.tok (.lst _ [] .clip) (.inr ⟨_,[],_,_,rfl,rfl⟩)) ⟨O,L,E⟩
 |byt l t=>
  cases t with
  |no=>exact F
  |id u=>exact F
  |clip=>
   cases l with
   |cons y r=>exact F
   |nil=>obtain⟨b,cap,W,_,J,I⟩:=h.byt_inv;obtain⟨O,L,E⟩:=I;rw[<-Q]at J;exact .dat _ _ (J.tok (.byt [] .clip) (.inl ⟨[],_,_,rfl,rfl⟩)) ⟨O,L,E⟩
 |_=>exact F
theorem Ba{x x1:Sit}(E:x1.G=x.G)(I:x1.bk=x.bk){cs:f8}{u:Value}(h:Rep x (.agg cs) u):Rep x1 (.agg (cs.map SV.kclip)) u:=by
 cases h with
 |dat _ _ h _=>cases h
 |agg _ vs F h=>
  refine .agg _ vs (by rw[aV];exact F) fun i hi=> ?_
  rw[aV]at hi;have y:=HY E I (h i hi);rw[aa,ac hi,aM]at y;rw[aa,aU,ac hi,bE,aM];exact y
theorem ly{x x1:Sit}(Q:x1.G=x.G)(hβ:x1.bk=x.bk){tk:t8}{j:Nat}{v:SV}{u:Value}(h:Rep x v u)(ht:pK x x1 j (lg tk j v).2):Rep x1 (lg tk j v).1 u:=by
 have W:=h.bare Q hβ;cases v with
 |byt l t=>
  cases t with
  |no=>exact W
  |clip=>have e:=ht 0 (by simp[lg]);obtain⟨b,cap,he,_,I,E⟩:=h.byt_inv;obtain⟨L,J,y⟩:=E;rw[<-Q]at I;exact .dat _ _ (I.tok (.byt l (.id j)) (.inl ⟨l,_,_,rfl,rfl⟩)) ⟨L,J,J,y,.inl rfl⟩
  |id t=>
   by_cases O:tk.contains t=true
   ·have e:=ht 0 (by simp only[lg,O,if_true,al];omega)
    simp only[lg,O,if_true]at e ⊢;obtain⟨b,cap,he,_,I,E⟩:=h.byt_inv;obtain⟨L,J,F,y,hh⟩:=E;rw[<-Q]at I;refine .dat _ _ (I.tok (.byt l (.id j)) (.inl ⟨l,_,_,rfl,rfl⟩)) ⟨L,J,F,y,hh.imp id ?_⟩;rintro⟨b,off,h1,h2⟩;exact⟨b,off,h1,by rw[fm]at e;rw[e];exact h2⟩
   ·simp only[lg,O,if_false];exact W
 |lst Z xs t=>
  cases t with
  |no=>exact W
  |clip=>obtain⟨b,cap,he,_,I,E⟩:=h.lst_inv;obtain⟨L,J,y⟩:=E;rw[<-Q]at I;exact .dat _ _ (I.tok (.lst Z xs (.id j)) (.inr ⟨Z,xs,_,_,rfl,rfl⟩)) ⟨L,J,J,y,.inl rfl⟩
  |id t=>
   by_cases O:tk.contains t=true
   ·have e:=ht 0 (by simp only[lg,O,if_true,al];omega)
    simp only[lg,O,if_true]at e ⊢;obtain⟨b,cap,he,_,I,E⟩:=h.lst_inv;obtain⟨L,J,F,y,hh⟩:=E;rw[<-Q]at I;refine .dat _ _ (I.tok (.lst Z xs (.id j)) (.inr ⟨Z,xs,_,_,rfl,rfl⟩)) ⟨L,J,F,y,hh.imp id ?_⟩;rintro⟨b,off,h1,h2⟩;exact⟨b,off,h1,by rw[fm]at e;rw[e];exact h2⟩
   ·simp only[lg,O,if_false];exact W
 |agg cs=>exact Ba Q hβ h
 |_=>exact W
theorem pP{tk:t8}{j:Nat}{v:SV}:∀t∈cO (lg tk j v).2,t∈tk:=by
 intro t y;cases v with
 |byt l q=>
  cases q with
  |id u=>
   by_cases E:tk.contains u=true
   ·simp only[lg,E,if_true,cO,bq]at y;subst y;simpa using E
   ·simp only[lg,E,if_false,cO]at y;cases y
  |_=>cases y
 |lst F I q=>
  cases q with
  |id u=>
   by_cases E:tk.contains u=true
   ·simp only[lg,E,if_true,cO,bq]at y;subst y;simpa using E
   ·simp only[lg,E,if_false,cO]at y;cases y
  |_=>cases y
 |_=>cases y
theorem dO{x:Sit}{v:SV}{u:Value}{cs:f8}{us:LAb}:cL x (v::cs) (u::us)↔Rep x v u/\cL x cs us:=by
 constructor
 ·intro h
  exact⟨h.2 0 (by simp),by simpa using h.1,fun i hi=>by simpa using h.2 (i+1) (by simpa using hi)⟩
 ·rintro⟨E,y⟩
  exact⟨by simp[y.1],fun i hi=>by
   cases i with
   |zero=>exact E
   |succ i=>simpa using y.2 i (by simpa using hi)⟩
theorem JM{x x1:Sit}(E:x1.G=x.G)(F:x1.bk=x.bk){tk:t8}{j:Nat}{v:SV}{u:Value}(h:Rep x v u)(y:pK x x1 j (tZ tk j v).2):Rep x1 (tZ tk j v).1 u:=by
 cases v with
 |lst Q L t=>
  cases t with
  |clip=>
   cases hx:L.isEmpty with
   |true=>simp only[tZ,xa,hx,xb];obtain⟨b,cap,O,_,J,I⟩:=h.lst_inv;rw[<-E]at J;exact .dat _ _ J I
   |false=>simp only[tZ,xa,hx,xb]at y ⊢;exact ly (tk:=tk) E F h y
  |no=>exact ly E F h y
  |id t=>exact ly E F h y
 |_=>exact ly E F h y
theorem YB{tk:t8}{j:Nat}{v:SV}:∀t∈cO (tZ tk j v).2,t∈tk:=by
 cases v with
 |lst F E t=>
  cases t with
  |clip=>
   cases hx:E.isEmpty with
   |true=>intro t y;simp[tZ,xa,hx,xb,cO]at y
   |false=>intro t y;simp[tZ,xa,hx,xb,cO]at y
  |no=>exact pP
  |id t=>exact pP
 |_=>exact pP
theorem nG{x x1:Sit}(y:x1.G=x.G)(E:x1.bk=x.bk){tk own:t8}:∀{cs:f8}{us:LAb}{j i:Nat},cL x cs us->pK x x1 j (lh tk own j i cs).2->cL x1 (lh tk own j i cs).1 us
 |[],[],_,_,_,_=>⟨rfl,fun i hi=>by simp[lh]at hi⟩
 |[],_::_,_,_,h,_=>absurd h.1 (by simp)
 |_::_,[],_,_,h,_=>absurd h.1 (by simp)
 |v::r,u::us,j,i,h,ht=>by
  obtain⟨J,I⟩:=dO.1 h;simp only[lh]at ht ⊢;split
  ·rename_i F
   rw[if_pos F]at ht;exact dO.2 ⟨JM y E J ht.left,nG y E I ht.right⟩
  ·rename_i F
   rw[if_neg F]at ht;exact dO.2 ⟨J.bare y E,nG y E I ht⟩
theorem pQ{tk own:t8}:∀{cs:f8}{j i:Nat},∀t∈cO (lh tk own j i cs).2,t∈tk
 |[],_,_,t,ht=>by cases ht
 |v::r,j,i,t,ht=>by
  simp only[lh]at ht;split at ht
  ·rw[gh,am]at ht
   exact ht.elim (YB t) (pQ t)
  ·exact pQ t ht
theorem yn{x x1:Sit}(E:x1.G=x.G)(F:x1.bk=x.bk){tk:t8}:∀{cs:f8}{j:Nat}{f:Nat->Value},(∀k,k<cs.length->Rep x (cs.getD k .undef) (f k))->pK x x1 j (vr tk j cs).2->
 (vr tk j cs).1.length=cs.length/\∀k,k<cs.length->Rep x1 ((vr tk j cs).1.getD k .undef) (f k)
 |[],_,_,_,_=>⟨rfl,fun i hi=>by simp at hi⟩
 |v::r,j,f,h,ht=>by
  simp only[vr]at ht ⊢;obtain⟨J,I⟩:=yn (f:=fun k=>f (k+1)) E F (fun k y=>by simpa using h (k+1) (by simpa using y)) ht.right;refine⟨by simp[J],fun k y=> ?_⟩;cases k with
  |zero=>exact ly E F (h 0 (by simp)) ht.left
  |succ k=>simpa using I k (by simpa using y)
theorem D2{tk:t8}:∀{cs:f8}{j:Nat},∀t∈cO (vr tk j cs).2,t∈tk
 |[],_,t,ht=>by cases ht
 |v::r,j,t,ht=>by simp only[vr]at ht;rw[gh,am]at ht;exact ht.elim (pP t) (D2 t)
theorem G8{x x1:Sit}(L:x1.G=x.G)(y:x1.bk=x.bk){tk:t8}{j o:Nat}{ob:aH}(h:ey x w o ob)(W:pK x x1 j (kS tk j ob).2):ey x1 w o (kS tk j ob).1:=by
 obtain⟨I,e,fl,fh,J,F,O⟩:=h;cases ob with
 |rc cs=>obtain⟨Q,Z⟩:=yn (f:=fun k=>I.getD k undef) L y O W;exact⟨I,e,fl,fh,by rw[y];exact J,by rw[y];simp only[kS,aH.size,Q]at F ⊢;exact F,fun k E=>Z k (by simpa only[kS,aH.size,Q]using E)⟩
 |arr sz xs=>exact⟨I,e,fl,fh,by rw[y];exact J,by rw[y];exact F,fun k E=>by have:=O k E;simp only[kS,cA]at this ⊢;rw[L];exact this⟩
 |bar l=>exact⟨I,e,fl,fh,by rw[y];exact J,by rw[y];exact F,fun k E=>by have:=O k E;simp only[kS,cA]at this ⊢;rw[L];exact this⟩
theorem JN{tk:t8}{j:Nat}{ob:aH}(h:ob.wf=true):(kS tk j ob).1.wf=true:=by cases ob<;>first|rfl|exact h
theorem JO{tk:t8}{j:Nat}{ob:aH}:∀t∈cO (kS tk j ob).2,t∈tk:=by
 intro t y;cases ob with
 |rc cs=>exact D2 t y
 |_=>cases y
theorem mG{x x1:Sit}(E:x1.G=x.G)(F:x1.bk=x.bk){tk:t8}:∀{obs:List aH}{j:Nat}{f:Nat->Nat},(∀k,k<obs.length->ey x w (f k) (obs.getD k (.rc [])))->pK x x1 j (eU tk j obs).2->
 (eU tk j obs).1.length=obs.length/\∀k,k<obs.length->ey x1 w (f k) ((eU tk j obs).1.getD k (.rc []))
 |[],_,_,_,_=>⟨rfl,fun i hi=>by simp at hi⟩
 |v::r,j,f,h,ht=>by
  simp only[eU]at ht ⊢;obtain⟨J,I⟩:=mG (f:=fun k=>f (k+1)) E F (fun k y=>by simpa using h (k+1) (by simpa using y)) ht.right;refine⟨by simp[J],fun k y=> ?_⟩;cases k with
  |zero=>exact G8 E F (h 0 (by simp)) ht.left
  |succ k=>simpa using I k (by simpa using y)
theorem oG{tk:t8}:∀{obs:List aH}{j:Nat},∀t∈cO (eU tk j obs).2,t∈tk
 |[],_,t,ht=>by cases ht
 |v::r,j,t,ht=>by simp only[eU]at ht;rw[gh,am]at ht;exact ht.elim (JO t) (oG t)
theorem oF{tk:t8}:∀{obs:List aH}{j:Nat},(∀o∈obs,o.wf=true)->∀o∈(eU tk j obs).1,o.wf=true
 |[],_,_,o,ho=>by cases ho
 |v::r,j,h,o,ho=>by
  simp only[eU]at ho;rcases av.1 ho with e|e
  ·rw[e];exact JN (h v (aA ..))
  ·exact oF (fun o y=>h o (aw _ y)) o e
theorem oq{m:t8}{o:Nat}(h:o∈m):iy m o<m.length/\m.getD (iy m o) 0=o:=by
 induction m with
 |nil=>cases h
 |cons p r F=>
  simp only[iy];split
  ·rename_i y;subst y;simp
  ·rename_i y
   obtain⟨I,E⟩:=F ((av.1 h).resolve_left (Ne.symm y));exact⟨by simpa using I,by simpa using E⟩
theorem kv{l:t8}(h:eg l=true):l.Nodup:=by
 induction l with
 |nil=>exact List.nodup_nil
 |cons p r y=>simp only[eg,aD,dj,fC,decide_eq_false_iff_not]at h;exact dR.2 ⟨h.1,y h.2⟩
theorem yo{l r:t8}(h:pR l r=true):∀o∈l,o∈r:=by intro o y;simp only[pR,bf,fC,decide_eq_true_eq]at h;exact h o y
theorem rV:∀{m:t8}{os:List aH},im c m=some os->os.length=m.length/\∀i,i<m.length->c.look (m.getD i 0)=some (os.getD i (.rc []))
 |[],os,h=>by cases h;exact⟨rfl,fun i hi=>by simp at hi⟩
 |o::r,os,h=>by
  simp only[im]at h;split at h<;>cases h;rename_i ob l F y;obtain⟨I,E⟩:=rV y;refine⟨by simp[I],fun i hi=> ?_⟩;cases i with
  |zero=>exact F
  |succ i=>simpa using E i (by simpa using hi)
theorem gY(mo mt:Nat->Nat)(l:List aH):eY mo mt l=l.map fun o=>o.ren mo mt:=by
 induction l with
 |nil=>rfl
 |cons p r y=>simp only[eY,aI,y]
theorem qz{l:List aH}{o:aH}(h:o∈l):∀k∈o.ids,k∈gp l:=by
 induction l with
 |nil=>cases h
 |cons p r E=>
  intro k y;simp only[gp,am];rcases av.1 h with e|e
  ·subst e;exact .inl y
  ·exact .inr (E e k y)
theorem oX{l:List LAa}(h:(cO l).Nodup):∀{i j:Nat}{t u:Nat},i≠j->l.getD i none=some t->l.getD j none=some u->t≠u:=by
 have key:∀{l:List LAa},(cO l).Nodup->∀{i j:Nat}{t u:Nat},i<j->l.getD i none=some t->l.getD j none=some u->t≠u:=by
  intro l;induction l with
  |nil=>intro _ i j t u _ E;simp at E
  |cons o r J=>
   intro hn i j t u I E y
   have L:(cO r).Nodup:=by cases o with
    |none=>exact hn
    |some q=>exact(dR.1 hn).2
   cases j with
   |zero=>omega
   |succ j=>
    rw[jk]at y;cases i with
    |zero=>
     rw[List.getD_cons_zero]at E;subst E
     have F:some u∈r:=by
      rw[aa]at y;cases hj:r[j]? with
      |none=>rw[hj]at y;cases y
      |some q=>rw[hj]at y;cases y;exact List.mem_of_getElem? hj
     intro e;subst e;exact(dR.1 hn).1 (lX.2 F)
    |succ i=>rw[jk]at E;exact J L (by omega) E y
 intro i j t u I E y;rcases Nat.lt_or_gt_of_ne I with F|F
 ·exact key h F E y
 ·exact(key h F y E).symm
theorem kN{b n t:Nat}:t∈tks b n↔b<=t/\t<b+n:=by
 unfold tks
 have:∀n k,k∈lw n↔k<n:=by
  intro n;induction n with
  |zero=>intro k;simp[lw]
  |succ n y=>intro k;simp only[lw,am,y,bq];omega
 simp only[aZ,this];constructor
 ·rintro⟨k,h,rfl⟩;omega
 ·rintro⟨F,E⟩;exact⟨t-b,by omega,by omega⟩
structure Jm(x x2:Sit)(c:CSt)(m:List Nat)(mt:List (Option Nat)):Prop where
 G:x2.G=x.G
 bk:∀i,i<m.length->x2.bk i=x.bk (m.getD i 0)
 τ:pK x x2 50 mt
 nd:m.Nodup
 ob:∀i,i<m.length->∃ob,(m.getD i 0,ob)∈c.ob
 tnd:(cO mt).Nodup
 tk:∀t∈cO mt,t∈c.tk
def Ctx.took(x2:Sit)(w:World)(n k:Nat):Ctx:=
 ⟨w,x2.G,fun b=>w.heap.size<=b\/(∃i,i<n/\(x2.bk i).1=b)\/(∃t,50<=t/\t<50+k/\(x2.τ t).2.1≠(x2.τ t).2.2/\(x2.τ t).1=b),x2.bk⟩
theorem gF{m:t8}{i:Nat}(h:i<m.length):m.getD i 0∈m:=by rw[aa,ac h];exact bv _
theorem mM{m:t8}(h:m.Nodup){i j:Nat}(hi:i<m.length)(y:j<m.length)(e:m.getD i 0=m.getD j 0):i=j:=by rw[aa,aa,ac hi,ac y]at e;exact uq h hi y e
theorem jE{l:List LAa}{i t:Nat}(h:l.getD i none=some t):t∈cO l:=by
 rw[aa]at h;cases hj:l[i]? with
 |none=>rw[hj]at h;cases h
 |some q=>rw[hj]at h;cases h;exact lX.2 (List.mem_of_getElem? hj)
theorem Jm.tok{x2:Sit}{m:t8}{mt:List LAa}(h:Jm x x2 c m mt){t:Nat}(E:50<=t)(y:t<50+mt.length):
 (x2.τ t).2.1=(x2.τ t).2.2\/∃u,mt.getD (t-50) none=some u/\x2.τ t=x.τ u/\u∈c.tk/\u∈cO mt:=by
 have e:=h.τ (t-50) (by omega);rw[show 50+(t-50)=t by omega]at e;cases hu:mt.getD (t-50) none with
 |none=>rw[hu]at e;rw[e];exact .inl rfl
 |some u=>rw[hu]at e;exact .inr ⟨u,rfl,e,h.tk u (jE hu),jE hu⟩
theorem tY{x2:Sit}{m:t8}{mt:List LAa}(J:dl C x c.ob c.tk w)(h:Jm x x2 c m mt){E:List aH}(hl:E.length=m.length)
 (ho:∀i,i<m.length->ey x2 w i (E.getD i (.rc []))):dl (Ctx.took x2 w m.length mt.length) x2 (idx E) (tks 50 mt.length) w:=by
 refine⟨fun b o v W=>J.per b o v (by rw[<-h.G];exact W),fun _ _ _ W=>W,fun _ _ _ W=> .inl W,fun b hb=> .inl hb, ?_,oJ E, ?_, ?_, ?_, ?_,rfl,rfl,rfl,aK _,fun _ _=>rfl,fun _ _=>rfl,J.lay.mono (fun b o v W=>by show x2.G b o=some v;rw[h.G];exact J.g0 b o v W)⟩
 ·intro p hp
  obtain⟨y,F⟩:=jK.1 hp;rw[hl]at y;obtain⟨ob,Q⟩:=h.ob p.1 y;refine⟨by rw[F];exact ho p.1 y,.inr (.inl ⟨p.1,y,rfl⟩),fun off=> ?_⟩;rw[h.G,h.bk _ y];exact(J.obs _ Q).2.2 off
 ·intro p hp q hq Z
  obtain⟨y,_⟩:=jK.1 hp;obtain⟨F,_⟩:=jK.1 hq;rw[hl]at y F;rw[h.bk _ y,h.bk _ F]at Z;obtain⟨o1,L⟩:=h.ob _ y;obtain⟨o2,g2⟩:=h.ob _ F;exact mM h.nd y F (J.inj _ L _ g2 Z)
 ·intro t ht
  obtain⟨y,F⟩:=kN.1 ht;rcases h.tok y F with Q|⟨u,_,O,h5,_⟩
  ·exact .inl Q
  ·by_cases I:(x2.τ t).2.1=(x2.τ t).2.2
   ·exact .inl I
   ·have:=J.tks u h5
    unfold iU at this ⊢;rw[O]at I ⊢;rcases this with g|⟨L,g2,g3⟩
    ·exact absurd g I
    ·exact .inr ⟨L,.inr (.inr ⟨t,y,F,by rw[O];exact I,by rw[O]⟩),by rw[h.G];exact g3⟩
 ·intro t ht p hp
  obtain⟨y,F⟩:=kN.1 ht;obtain⟨h6,_⟩:=jK.1 hp;rw[hl]at h6;rcases h.tok y F with Q|⟨u,_,O,h5,_⟩
  ·exact .inr Q
  ·obtain⟨o1,L⟩:=h.ob _ h6
   rw[O,h.bk _ h6];exact J.tko u h5 _ L
 ·intro t ht u hu a1
  obtain⟨y,F⟩:=kN.1 ht;obtain⟨Q,O⟩:=kN.1 hu;rcases h.tok y F with g|⟨t',L,g2,g3,_⟩
  ·exact .inr (.inl g)
  ·rcases h.tok Q O with k|⟨u',k1,k2,k3,_⟩
   ·exact .inr (.inr k)
   ·rw[g2,k2]
    exact J.tkd t' g3 u' k3 (oX h.tnd (by omega) L k1)
end Go.Sy
namespace Go.Sy
variable [bx]
variable {P : Program} {C : Ctx} {x : Sit} {a : Act} {w : World} {N : Nat} {c c' : CSt} {s : St}
theorem Kj(d:Nat)(l:t8):tE d l=l.map (kM d):=by
 induction l with
 |nil=>rfl
 |cons p r y=>simp only[tE,aI,y]
theorem oL{k:t8}{t:Nat}:∀{l:t8},t∈nT k l↔t∈l/\t∉k
 |[]=>by simp[nT]
 |p::r=>by
  simp only[nT];split
  ·rename_i F
   have I:p∈k:=by simpa using F
   rw[oL,av];constructor
   ·rintro⟨y,E⟩;exact⟨.inr y,E⟩
   ·rintro⟨y|y,E⟩
    ·exact absurd (y ▸ I) E
    ·exact⟨y,E⟩
  ·rename_i F
   have I:p∉k:=by simpa using F
   rw[av,oL,av];constructor
   ·rintro(y|⟨y,E⟩)
    ·exact⟨.inl y,y ▸ I⟩
    ·exact⟨.inr y,E⟩
   ·rintro⟨y|y,E⟩
    ·exact .inl y
    ·exact .inr ⟨y,E⟩
theorem uu{t:Nat}:∀{r l:t8},t∈tN l r↔t∈r\/t∈l
 |[],l=>by simp[tN]
 |p::r,l=>by
  simp only[tN];rw[uu,lF,av];constructor
  ·rintro(h|h|h)
   ·exact .inl (.inr h)
   ·exact .inl (.inl h)
   ·exact .inr h
  ·rintro((h|h)|h)
   ·exact .inr (.inl h)
   ·exact .inl h
   ·exact .inr (.inr h)
theorem oK{p:Nat×aH}:∀{r l:List (Nat×aH)},p∈tM l r->p∈r\/p∈l
 |[],l,h=> .inr h
 |q::r,l,h=>by
  simp only[tM]at h;rcases oK h with e|e
  ·exact .inl (aw _ e)
  ·rcases lE e with e|e
   ·exact .inl (e ▸ aA ..)
   ·exact .inr e
theorem Ea:∀{r l:List (Nat×aH)},(l.map cW).Pairwise (· < ·)->((tM l r).map cW).Pairwise (· < ·)
 |[],_,h=>h
 |_::r,_,h=>Ea (r:=r) (xd h)
theorem BU{mo mt:Nat->Nat}{o:aH}(h:o.wf=true):(o.ren mo mt).wf=true:=by cases o<;>first|rfl|exact h
theorem Aj{x2:Sit}{m:t8}{mt:List LAa}(y:dl C x c.ob c.tk w)(h:Jm x x2 c m mt){x':Sit}{w':World}{q:dV}(hH:dl (Ctx.took x2 w m.length mt.length) x' q.os q.tk w'){D:Nat}
 (hm:∀o∈m,inR D o=false) (a7:∀p∈q.os,p.1<1000/\(∀k∈p.2.ids,k<1000)/\∀k∈p.2.toks,k<1000) (b6:∀t∈q.tk,t<1000) (hg:∀i,i<m.length->x'.bk i=x2.bk i):
 ∃x3:Sit,x3.G=x'.G/\(∀b o v,x.G b o=some v->x3.G b o=some v)/\(∀k,k<1000->x3.bk (jn D m k)=x'.bk k)/\(∀k,k<1000->x3.τ (kM D k)=x'.τ k)/\
  (∀k,¬((D+1)*1000<=k/\k<(D+2)*1000)->x3.bk k=x.bk k)/\(∀k,¬((D+1)*1000<=k/\k<(D+2)*1000)->x3.τ k=x.τ k)/\
  dl C x3 (p7 D m q.os++fK m (bW ((D+1)*1000) ((D+2)*1000) c.ob)) (tE D q.tk++nT (cO mt) (cP ((D+1)*1000) ((D+2)*1000) c.tk)) w':=by
 let lo:=(D+1)*1000
 let hi:=(D+2)*1000
 have f1:lo=(D+1)*1000:=rfl;have f3:hi=(D+2)*1000:=rfl
 let β2:Nat->Nat×Nat:=fun k=>if inR D k then x'.bk (k-lo)else x.bk k
 let τ2:Nat->Nat×Nat×Nat:=fun k=>if inR D k then x'.τ (k-lo)else x.τ k
 have e4:∀k,k<1000->inR D (lo+k)=true:=by intro k hk;simp only[inR,aD,decide_eq_true_eq];omega
 have d2:∀k,¬(lo<=k/\k<hi)->inR D k=false:=by intro k hk;rw[Bool.eq_false_iff];intro h;simp only[inR,aD,decide_eq_true_eq]at h;exact hk h
 have b1:∀k,¬(lo<=k/\k<hi)->β2 k=x.bk k:=fun k hk=>by simp only[β2];rw[d2 k hk];rfl
 have b4:∀k,¬(lo<=k/\k<hi)->τ2 k=x.τ k:=fun k hk=>by simp only[τ2];rw[d2 k hk];rfl
 have F:∀k,k<1000->β2 (jn D m k)=x'.bk k:=by
  intro k hk
  by_cases c5:k<m.length
  ·have E:jn D m k=m.getD k 0:=if_pos c5
   simp only[β2];rw[E,hm _ (gF c5),hg k c5,h.bk k c5];rfl
  ·have E:jn D m k=lo+k:=if_neg c5
   simp only[β2];rw[E,e4 k hk,if_pos rfl];congr 1;omega
 have I:∀k,k<1000->τ2 (kM D k)=x'.τ k:=by intro k hk;have E:kM D k=lo+k:=rfl;simp only[τ2];rw[E,e4 k hk,if_pos rfl];congr 1;omega
 have hG:∀b o v,x.G b o=some v->x'.G b o=some v:=fun b o v hv=>hH.g0 b o v (by show x2.G b o=_;rw[h.G];exact hv)
 refine⟨⟨x'.G,β2,τ2⟩,rfl,hG,F,I,b1,b4, ?_⟩;rw[yO,Kj]
 have b5:∀b,(Ctx.took x2 w m.length mt.length).mine b->C.mine b:=by
  rintro b (E|⟨i,hi,rfl⟩|⟨t,E,L,J,rfl⟩)
  ·exact y.new b (mE y.size E)
  ·obtain⟨ob,d7⟩:=h.ob i hi
   rw[h.bk i hi];exact(y.obs _ d7).2.1
  ·rcases h.tok E L with g|⟨u,_,g1,g2,_⟩
   ·exact absurd g J
   ·rw[g1]at J ⊢
    rcases y.tks u g2 with k|⟨_,k,_⟩
    ·exact absurd k J
    ·exact k
 have c7:∀b,b<w.heap.size->(∀i,i<m.length->(x.bk (m.getD i 0)).1≠b)->(∀u∈cO mt,(x.τ u).2.1=(x.τ u).2.2\/(x.τ u).1≠b)->w'.heap[b]? =w.heap[b]? /\((∀off,x.G b off=none)->∀off,x'.G b off=none)/\
  (∀off,x.G b off=none->x'.G b off=none):=by
  intro b hb d5 e0
  have d1:¬(Ctx.took x2 w m.length mt.length).mine b:=by
   rintro(E|⟨i,hi,E⟩|⟨t,E,L,J,h4⟩)
   ·omega
   ·rw[h.bk i hi]at E;exact d5 i hi E
   ·rcases h.tok E L with g|⟨u,_,g1,_,g3⟩
    ·exact J g
    ·rw[g1]at J h4
     rcases e0 u g3 with k|k
     ·exact J k
     ·exact k h4
  have one:∀off,x.G b off=none->x'.G b off=none:=by
   intro off ho;cases hg:x'.G b off with
   |none=>rfl
   |some v=>
    rcases hH.gm b off v hg with E|E
    ·change x2.G b off=some v at E;rw[h.G,ho]at E;cases E
    ·exact absurd E d1
  exact⟨hH.ext b d1,fun h off=>one off (h off),one⟩
 have a6:∀p∈fK m (bW lo hi c.ob),∃ob,(p.1,ob)∈c.ob/\p.2=ob.purge lo hi/\¬(lo<=p.1/\p.1<hi)/\p.1∉m/\(∀i,i<m.length->(x.bk (m.getD i 0)).1≠(x.bk p.1).1)/\(∀u∈cO mt,(x.τ u).2.1=(x.τ u).2.2\/(x.τ u).1≠(x.bk p.1).1)/\(x.bk p.1).1<w.heap.size:=by
  intro p Z;obtain⟨E,L⟩:=kz.1 Z;obtain⟨J,ob,h4,h5⟩:=cM E;refine⟨ob,h4,h5,J,L,fun i hi e=> ?_,fun u hu=> ?_, ?_⟩
  ·obtain⟨ob',e5⟩:=h.ob i hi
   have:=y.inj _ e5 _ h4 e;simp only at this;apply L;rw[<-this];exact gF hi
  ·exact(y.tko u (h.tk u hu) _ h4).symm
  ·obtain⟨⟨c,e,fl,fh,hO,_⟩,_⟩:=y.obs _ h4
   exact hO.lt
 have a8:∀p∈q.os.map (fun p=>(jn D m p.1,p.2.ren (jn D m) (kM D))),∃r∈q.os,p=(jn D m r.1,r.2.ren (jn D m) (kM D))/\β2 p.1=x'.bk r.1:=by intro p Z;obtain⟨r,W,rfl⟩:=aZ.1 Z;exact⟨r,W,rfl,F _ (a7 r W).1⟩
 have a2:∀r∈q.os,w.heap.size<=(x'.bk r.1).1\/(∃i,i<m.length/\(x.bk (m.getD i 0)).1=(x'.bk r.1).1)\/(∃u∈cO mt,(x.τ u).2.1≠(x.τ u).2.2/\(x.τ u).1=(x'.bk r.1).1):=by
  intro r W;rcases (hH.obs r W).2.1 with E|⟨i,hi,E⟩|⟨t,E,L,J,h4⟩
  ·exact .inl E
  ·exact .inr (.inl ⟨i,hi,by rw[<-h.bk i hi];exact E⟩)
  ·rcases h.tok E L with g|⟨u,_,g1,_,g3⟩
   ·exact absurd g J
   ·rw[g1]at J h4;exact .inr (.inr ⟨u,g3,J,h4⟩)
 have b3:∀t∈q.tk,(x'.τ t).2.1=(x'.τ t).2.2\/w.heap.size<=(x'.τ t).1\/(∃i,i<m.length/\(x.bk (m.getD i 0)).1=(x'.τ t).1)\/(∃u∈cO mt,(x.τ u).2.1≠(x.τ u).2.2/\(x.τ u).1=(x'.τ t).1):=by
  intro t Q;rcases hH.tks t Q with k|⟨_,k,_⟩
  ·exact .inl k
  ·right
   rcases k with E|⟨i,hi,E⟩|⟨t',E,L,J,h4⟩
   ·exact .inl E
   ·exact .inr (.inl ⟨i,hi,by rw[<-h.bk i hi];exact E⟩)
   ·rcases h.tok E L with g|⟨u,_,g1,_,g3⟩
    ·exact absurd g J
    ·rw[g1]at J h4;exact .inr (.inr ⟨u,g3,J,h4⟩)
 have O:∀t∈nT (cO mt) (cP lo hi c.tk),t∈c.tk/\¬(lo<=t/\t<hi)/\t∉cO mt:=fun t Q=>by obtain⟨E,L⟩:=oL.1 Q;obtain⟨J,h4⟩:=bZ.1 E;exact⟨J,h4,L⟩
 have a1:∀t∈c.tk,t∉cO mt->(x.τ t).2.1=(x.τ t).2.2\/((x.τ t).1<w.heap.size/\(∀i,i<m.length->(x.bk (m.getD i 0)).1≠(x.τ t).1)/\(∀u∈cO mt,(x.τ u).2.1=(x.τ u).2.2\/(x.τ u).1≠(x.τ t).1)):=by
  intro t Q e0;rcases y.tks t Q with E|⟨⟨c,e,fl,fh,hO,_⟩,_⟩
  ·exact .inl E
  ·by_cases he:(x.τ t).2.1=(x.τ t).2.2
   ·exact .inl he
   ·refine .inr ⟨hO.lt,fun i hi e'=> ?_,fun u hu=> ?_⟩
    ·obtain⟨ob,d7⟩:=h.ob i hi
     rcases y.tko t Q _ d7 with E|E
     ·exact E e'.symm
     ·exact he E
    ·rcases y.tkd u (h.tk u hu) t Q (fun e=>e0 (e ▸ hu))with k|k|k
     ·exact .inr k
     ·exact .inl k
     ·exact absurd k he
 refine⟨hH.per,fun b o v hv=>hG _ _ _ (y.g0 b o v hv), ?_,y.new, ?_, ?_, ?_, ?_, ?_, ?_,hH.os.trans y.os,hH.tape.trans y.tape,hH.output.trans y.output,mE y.size hH.size, ?_,fun i hi=>(b1 i (by omega)).trans (y.pin i hi),y.lay⟩
 ·intro b o v hv
  rcases hH.gm b o v hv with E|E
  ·exact y.gm b o v (by rw[<-h.G];exact E)
  ·exact .inr (b5 b E)
 ·intro p Z
  rcases am.1 Z with Z|Z
  ·obtain⟨r,W,rfl,hb⟩:=a8 p Z
   obtain⟨E,L,J⟩:=hH.obs r W;refine⟨E.renF (x2:=⟨x'.G,β2,τ2⟩) (fun _ _ _ h=>h) (F _ (a7 r W).1) (fun k hk=>F k ((a7 r W).2.1 k hk)) (fun t Q=>I t ((a7 r W).2.2 t Q)), ?_,fun off=> ?_⟩
   ·show C.mine (β2 (jn D m r.1)).1;rw[F _ (a7 r W).1];exact b5 _ L
   ·show x'.G (β2 (jn D m r.1)).1 off=none;rw[F _ (a7 r W).1];exact J off
  ·obtain⟨ob,E,L,J,h4,h5,h6,h7⟩:=a6 p Z
   obtain⟨g1,g2,g3⟩:=y.obs _ E;obtain⟨k1,k2,_⟩:=c7 _ h7 h5 h6;have hb:β2 p.1=x.bk p.1:=b1 _ J;refine⟨?_,by show C.mine (β2 p.1).1;rw[hb];exact g2,fun off=>by show x'.G (β2 p.1).1 off=none;rw[hb];exact k2 g3 off⟩;rw[L];exact ey.of_heap (x':=⟨x'.G,β2,τ2⟩) g1 k1 hG b1 b4 J
 ·rw[co,List.nodup_append]
  refine⟨?_, ?_, ?_⟩
  ·rw[List.map_map]
   have e3:=ii.1 hH.nd;refine ii.2 (fO.imp_of_mem (fun{p r} Z W d5=> ?_) e3);intro e;simp only[Function.comp]at e;have:(x'.bk p.1).1=(x'.bk r.1).1:=by rw[<-F _ (a7 p Z).1,<-F _ (a7 r W).1,e]
   exact d5 (hH.inj p Z r W this)
  ·have E:(fK m (bW lo hi c.ob)).Sublist (bW lo hi c.ob):=iR _ _
   refine Ae.sublist (E.map cW) ?_;rw[ft];exact y.nd.filter _
  ·intro o1 E o2 L e
   subst e;obtain⟨p,Z,rfl⟩:=aZ.1 E;obtain⟨r,W,d4⟩:=aZ.1 L;obtain⟨u,hu,rfl⟩:=aZ.1 Z;obtain⟨ob,k1,k2,k3,k4,_⟩:=a6 r W;simp only at d4
   by_cases d6:u.1<m.length
   ·apply k4;rw[d4];show jn D m u.1∈m;unfold jn;rw[if_pos d6];exact gF d6
   ·apply k3;rw[d4];show lo<=jn D m u.1/\jn D m u.1<hi
    unfold jn;rw[if_neg d6];have:=(a7 u hu).1;omega
 ·intro p Z r W b0
  change (β2 p.1).1=(β2 r.1).1 at b0;rcases am.1 Z with Z|Z<;>rcases am.1 W with W|W
  ·obtain⟨p',e1,rfl,hb⟩:=a8 p Z
   obtain⟨r',d3,rfl,e6⟩:=a8 r W;rw[hb,e6]at b0;have:=hH.inj p' e1 r' d3 b0;simp only;rw[this]
  ·obtain⟨p',e1,rfl,hb⟩:=a8 p Z
   obtain⟨ob,k1,k2,k3,k4,k5,k6,k7⟩:=a6 r W;rw[hb,b1 _ k3]at b0;rcases a2 p' e1 with E|⟨i,hi,E⟩|⟨u,hu,E,L⟩
   ·omega
   ·exact absurd (E.trans b0) (k5 i hi)
   ·rcases k6 u hu with g|g
    ·exact absurd g E
    ·exact absurd (L.trans b0) g
  ·obtain⟨r',d3,rfl,hb⟩:=a8 r W
   obtain⟨ob,k1,k2,k3,k4,k5,k6,k7⟩:=a6 p Z;rw[hb,b1 _ k3]at b0;rcases a2 r' d3 with E|⟨i,hi,E⟩|⟨u,hu,E,L⟩
   ·omega
   ·exact absurd (E.trans b0.symm) (k5 i hi)
   ·rcases k6 u hu with g|g
    ·exact absurd g E
    ·exact absurd (L.trans b0.symm) g
  ·obtain⟨ob,k1,k2,k3,_⟩:=a6 p Z
   obtain⟨ob',f0,f2,e7,_⟩:=a6 r W;rw[b1 _ k3,b1 _ e7]at b0;exact y.inj (p.1,ob) k1 (r.1,ob') f0 b0
 ·intro t Q
  rcases am.1 Q with Q|Q
  ·obtain⟨u,hu,rfl⟩:=aZ.1 Q
   have:=hH.tks u hu;unfold iU at this ⊢;simp only[I u (b6 u hu)];exact this.imp id fun⟨E,L,J⟩=>⟨E,b5 _ L,J⟩
  ·obtain⟨E,L,J⟩:=O t Q
   have:=y.tks t E;unfold iU at this ⊢;simp only[b4 t L];rcases this with g|⟨⟨c,e,fl,fh,hO,hc⟩,h4,h5⟩
   ·exact .inl g
   ·rcases a1 t E J with g|⟨k1,k2,k3⟩
    ·exact .inl g
    ·obtain⟨g1,_,g2⟩:=c7 _ k1 k2 k3
     exact .inr ⟨⟨c,e,fl,fh,hO.of_heap g1,hc⟩,h4,fun o e8 e9=>g2 o (h5 o e8 e9)⟩
 ·intro t Q p Z
  rcases am.1 Q with Q|Q<;>rcases am.1 Z with Z|Z
  ·obtain⟨u,hu,rfl⟩:=aZ.1 Q
   obtain⟨r,W,rfl,hb⟩:=a8 p Z;show(τ2 (kM D u)).1≠(β2 (jn D m r.1)).1\/(τ2 (kM D u)).2.1=(τ2 (kM D u)).2.2;rw[I u (b6 u hu),F _ (a7 r W).1];exact hH.tko u hu r W
  ·obtain⟨u,hu,rfl⟩:=aZ.1 Q
   obtain⟨ob,k1,k2,k3,k4,k5,k6,k7⟩:=a6 p Z;show(τ2 (kM D u)).1≠(β2 p.1).1\/(τ2 (kM D u)).2.1=(τ2 (kM D u)).2.2;rw[I u (b6 u hu),b1 _ k3];rcases b3 u hu with g|g|⟨i,hi,g⟩|⟨v,hv,g1,g2⟩
   ·exact .inr g
   ·left;intro e;omega
   ·left;intro e;exact k5 i hi (g.trans e)
   ·left;intro e
    rcases k6 v hv with k|k
    ·exact g1 k
    ·exact k (g2.trans e)
  ·obtain⟨E,L,J⟩:=O t Q
   obtain⟨r,W,rfl,hb⟩:=a8 p Z;show(τ2 t).1≠(β2 (jn D m r.1)).1\/(τ2 t).2.1=(τ2 t).2.2;rw[b4 t L,F _ (a7 r W).1];rcases a1 t E J with g|⟨k1,k2,k3⟩
   ·exact .inr g
   ·left;intro e
    rcases a2 r W with g|⟨i,hi,g⟩|⟨v,hv,g1,g2⟩
    ·omega
    ·exact k2 i hi (g.trans e.symm)
    ·rcases k3 v hv with k|k
     ·exact g1 k
     ·exact k (g2.trans e.symm)
  ·obtain⟨E,L,J⟩:=O t Q
   obtain⟨ob,k1,k2,k3,_⟩:=a6 p Z;show(τ2 t).1≠(β2 p.1).1\/(τ2 t).2.1=(τ2 t).2.2;rw[b4 t L,b1 _ k3];exact y.tko t E (p.1,ob) k1
 ·intro t Q u hu e2
  show mD (τ2 t) (τ2 u)\/(τ2 t).2.1=(τ2 t).2.2\/(τ2 u).2.1=(τ2 u).2.2;rcases am.1 Q with Q|Q<;>rcases am.1 hu with hu|hu
  ·obtain⟨t',c3,rfl⟩:=aZ.1 Q
   obtain⟨u',b7,rfl⟩:=aZ.1 hu;rw[I t' (b6 t' c3),I u' (b6 u' b7)];exact hH.tkd t' c3 u' b7 (fun e=>e2 (by rw[e]))
  ·obtain⟨t',c3,rfl⟩:=aZ.1 Q
   obtain⟨E,L,J⟩:=O u hu;rw[I t' (b6 t' c3),b4 u L];rcases a1 u E J with k|⟨k1,k2,k3⟩
   ·exact .inr (.inr k)
   ·rcases b3 t' c3 with g|g|⟨i,hi,g⟩|⟨v,hv,g1,g2⟩
    ·exact .inr (.inl g)
    ·exact .inl fun e=>by omega
    ·exact .inl fun e=>k2 i hi (g.trans e)
    ·refine .inl fun e=> ?_
     rcases k3 v hv with k|k
     ·exact g1 k
     ·exact k (g2.trans e)
  ·obtain⟨u',b7,rfl⟩:=aZ.1 hu
   obtain⟨E,L,J⟩:=O t Q;rw[I u' (b6 u' b7),b4 t L];rcases a1 t E J with k|⟨k1,k2,k3⟩
   ·exact .inr (.inl k)
   ·rcases b3 u' b7 with g|g|⟨i,hi,g⟩|⟨v,hv,g1,g2⟩
    ·exact .inr (.inr g)
    ·exact .inl fun e=>by omega
    ·exact .inl fun e=>k2 i hi (g.trans e.symm)
    ·refine .inl fun e=> ?_
     rcases k3 v hv with k|k
     ·exact g1 k
     ·exact k (g2.trans e.symm)
  ·obtain⟨E,L,_⟩:=O t Q
   obtain⟨J,h4,_⟩:=O u hu;rw[b4 t L,b4 u h4];exact y.tkd t E u J e2
 ·intro b hb
  have d1:¬(Ctx.took x2 w m.length mt.length).mine b:=fun h=>hb (b5 b h)
  exact(hH.ext b d1).trans (y.ext b hb)
end Go.Sy
namespace Go.Sy
variable [bx]
variable {P : Program} {C : Ctx} {x : Sit} {a : Act} {w : World} {N : Nat} {c c' : CSt} {s : St}
theorem Ak(t:Tok):t.ren (fun k=>k)=t:=by cases t<;>rfl
theorem xk1(sv:SV):sv.ren (fun k=>k) (fun k=>k)=sv:=by
 refine SV.rec (motive_1:=fun sv=>sv.ren (fun k=>k) (fun k=>k)=sv) (motive_2:=fun _=>True) (motive_3:=fun l=>SV.renL (fun k=>k) (fun k=>k) l=l)
  ?_ ?_ ?_ ?_ ?_ ?_ ?_ ?_ ?_ ?_ ?_ ?_ ?_ ?_ ?_ ?_ ?_ ?_ ?_ ?_ sv
 all_goals intros
 all_goals first
  |trivial
  |rfl
  |(simp only[SV.ren,SV.renL,Ak];done)
  |(simp only[SV.ren,SV.renL, *])
theorem xkV{q:dV}(h:q.small=true):(∀p∈q.os,p.1<1000/\(∀k∈p.2.ids,k<1000)/\∀k∈p.2.toks,k<1000)/\(∀k∈q.r.ids,k<1000)/\(∀k∈q.r.toks,k<1000)/\∀k∈q.tk,k<1000:=by simp only[dV.small,aD,bf,decide_eq_true_eq]at h;obtain⟨⟨⟨E,F⟩,J⟩,I⟩:=h;exact⟨fun p y=>⟨(E p y).1.1,(E p y).1.2,(E p y).2⟩,F,J,I⟩
theorem o9{d:LAa}{m:t8}{mt:List LAa}{q:dV}{x2 x':Sit}{w':World}{v:Value}(hM:aR C x s a w)(I:Sim N c s)(hd:∀k,d=some k->k<N)(h:Jm x x2 c m mt)
 (hH:dl (Ctx.took x2 w m.length mt.length) x' q.os q.tk w') (F:Rep x' q.r v) (W:∀p∈q.os,p.2.wf=true) (hg:∀i,i<m.length->x'.bk i=x2.bk i) (hm:∀o∈m,inR (d.getD 0) o=false) (hs:q.small=true):
 M C N (lf c d m (cO mt) q) (a.put d v) w':=by
 obtain⟨s1,s2,s3,s4⟩:=xkV hs;have hE:=I.exact hM;obtain⟨J,g1,g2,g3,g4,g5,g6,g7⟩:=Aj hE.heap h hH hm s1 s4 hg
 let O:CSt:=⟨dJ ((d.getD 0+1)*1000) ((d.getD 0+2)*1000) c.tm,tM (fK m (bW ((d.getD 0+1)*1000) ((d.getD 0+2)*1000) c.ob)) (p7 (d.getD 0) m q.os),
  tN (nT (cO mt) (cP ((d.getD 0+1)*1000) ((d.getD 0+2)*1000) c.tk)) (tE (d.getD 0) q.tk)⟩
 have hI:Inv N O:=by
  refine⟨fun p E=> ?_,Ea ?_,fun p E=> ?_⟩
  ·obtain⟨r,F,e⟩:=ky E
   rw[e];exact I.inv.dom r F
  ·exact fO.sublist ((iR _ _).map cW) (yw I.inv.so)
  ·rcases oK E with e|e
   ·rw[yO]at e
    obtain⟨r,F,rfl⟩:=aZ.1 e;exact BU (W r F)
   ·obtain⟨_,ob,L,h2⟩:=cM (kz.1 e).1
    rw[h2];exact rF (I.inv.wf _ L)
 have Q:aR C J (O.st N) a w':=by
  refine⟨⟨?_,fun i hi=> ?_⟩,hM.defers,g7.only (fun p E=> ?_) (jW hI.so) (fun t Z=> ?_)⟩
  ·have:=hE.tm.1;simpa[CSt.st]using this
  ·have y:i<N:=by simpa[CSt.st]using hi
   have L:=hE.tm.2 i (by simpa[CSt.st]using y);simp only[CSt.st,aa,aU,cC y,bE,aM]at L ⊢;have e:O.get i=(c.get i).purge ((d.getD 0+1)*1000) ((d.getD 0+2)*1000):=gV _ _ i c.tm;rw[e];exact L.mono (x':=J) g2 g5 g6
  ·rcases oK E with e|e
   ·exact am.2 (.inl e)
   ·exact am.2 (.inr e)
  ·rcases uu.1 Z with e|e
   ·exact am.2 (.inl e)
   ·exact am.2 (.inr e)
 refine⟨J,_,Q.put d (c:=q.r.ren (jn (d.getD 0) m) (kM (d.getD 0))) ?_,(Sim.of hI).put hd _⟩;exact Rep.renF (x:=x') (x2:=J) (fun b o v hv=>by rw[g1];exact hv) F (fun k hk=>g3 k (s2 k hk)) (fun t Z=>g4 t (s3 t Z))
theorem Bn{call:dw}{g:Nat}{d:LAa}{a_:f8}{vs:LAb}(hM:aR C x s a w)(hS:Sim N c s)(hd:∀k,d=some k->k<N)(a2:∀a_ os k q,call g a_ os k=some q->fZ P g a_ os k (· =q))
 (F:nR c d (call g (SV.bareL a_) [] 0)=some c') (Q:cL x a_ vs):Calls P g ⟨vs⟩ w fun en w'=>∃v,en= .returned v/\M C N c' (a.put d v) w':=by
 cases hq:call g (SV.bareL a_) [] 0 with
 |none=>rw[hq]at F;cases F
 |some q=>
  rw[hq]at F
  have hb:cL x (SV.bareL a_) vs:=by rw[lM];refine⟨by simpa using Q.1,fun i hi=> ?_⟩;rw[bn _ (by rfl)];exact(Q.2 i (by simpa using hi)).bare rfl rfl
  obtain⟨_,W⟩:=a2 _ _ _ _ hq
  by_cases y:q.bare=true
  ·simp only[nR,y,py,ax.injEq]at F
   subst F;have O:=yh (m:=[]) (os:=[]) (mo:=fun k=>k) (mt:=fun k=>k) hM (fun i hi=>by simp at hi) rfl (by simp) (fun i hi=>by simp at hi);refine(W (Ctx.callee x w [] (x.back (fun k=>k) (fun k=>k)).bk) x w vs rfl rfl ?_ (by simp) (by simp) O hb).mono ?_
   ·rintro b (h|⟨i,hi,_⟩)
    ·exact .inl h
    ·simp at hi
   ·rintro en w' ⟨v,x',q',rfl,J,hr,hH,L,_⟩
    subst J;simp only[dV.bare,aD,List.isEmpty_iff]at y;obtain⟨⟨⟨Z,b2⟩,b3⟩,b4⟩:=y
    obtain⟨hG,hA⟩:=Bi (m:=[]) (os:=[]) (mo:=fun k=>k) (mt:=fun k=>k) (lo:=0) (hi:=0) (β2:=x.bk) (τ2:=x.τ) hM rfl (fun i hi=>by simp at hi) hH (fun i hi=>by simp at hi) (fun i hi=>by omega) (fun _ _=>rfl) (fun _ _=>rfl)
     (fun p E=>by rw[Z]at E;cases E) (fun p E=>by rw[Z]at E;cases E) (fun p E=>by rw[Z]at E;cases E) (fun p E=>by rw[Z]at E;cases E) (fun t I=>by rw[b2]at I;cases I)
    have a1:dl C ⟨x'.G,x.bk,x.τ⟩ s.ob s.tk w':=by
     refine hA.only (fun p E=> ?_) hM.heap.nd (fun t I=> ?_)
     ·exact am.2 (.inr (kz.2 ⟨by rw[Ko];exact E,by simp⟩))
     ·exact am.2 (.inr (bZ.2 ⟨I,by omega⟩))
    refine⟨v,rfl,⟨x'.G,x.bk,x.τ⟩,_, ?_,hS.put hd q'.r⟩;refine aR.put ⟨cL.grow (x:=x) (x':=⟨x'.G,x.bk,x.τ⟩) hG rfl rfl hM.tm,hM.defers,a1⟩ d ?_;have:=Rep.renF (x:=x') (x2:=⟨x'.G,x.bk,x.τ⟩) (mo:=fun k=>k) (mt:=fun k=>k) (fun _ _ _ h=>h) hr (fun k hk=>by rw[b3]at hk;cases hk) (fun t I=>by rw[b4]at I;cases I);rwa[xk1]at this
  ·have a6:q.bare=false:=by simpa using y
   simp only[nR,a6,py]at F;cases hsm:q.small with
   |false=>rw[hsm]at F;cases F
   |true=>
    rw[hsm]at F;simp only[Bp,ax.injEq]at F;subst F;have hE:=hS.exact hM;have hT:Jm x x c [] []:=⟨rfl,fun i hi=>by simp at hi,fun k hk=>by simp at hk,by simp,fun i hi=>by simp at hi,by simp[cO],fun t I=>by simp[cO]at I⟩;refine(W (Ctx.took x w 0 0) x w vs rfl rfl ?_ (by simp) (by simp) (tY hE.heap hT rfl (fun i hi=>by simp at hi)) hb).mono ?_
    ·rintro b h;exact h
    ·rintro en w' ⟨v,x',q',rfl,J,hr,hH,L,_⟩
     subst J;exact⟨v,rfl,o9 hM hS hd hT hH hr L (fun i hi=>by simp at hi) (fun o ho=>by simp at ho) hsm⟩
theorem Ax{call:dw}{sg:Sig}{g:Nat}{d:LAa}{a_:f8}{vs:LAb}(hM:aR C x s a w)(hS:Sim N c s)(hd:∀k,d=some k->k<N)(d1:∀a_ os k q,call g a_ os k=some q->fZ P g a_ os k (· =q))
 (F:kT call sg d g (c,a_)=some c') (e0:cL x a_ vs):Calls P g ⟨vs⟩ w fun en w'=>∃v,en= .returned v/\M C N c' (a.put d v) w':=by
 simp only[kT]at F;generalize hz:lh c.tk sg.own 50 0 a_=z at F;obtain⟨J,E⟩:=z;simp only[pl]at F;generalize eC c 60 [] (SV.idsL J)=m at F;cases ho:im c m with
 |none=>rw[ho]at F;cases F
 |some L=>
  rw[ho]at F;simp only[mI]at F;generalize Z:eU c.tk (50+E.length) L=z2 at F;obtain⟨os,I⟩:=z2;simp only[pk]at F;cases hb:(pR (SV.idsL J++gp os) m&&eg m&&eg (cO (E++I))&&decide (m.length<=40)&&m.all fun o=> !inR (d.getD 0) o)with
  |false=>rw[hb]at F;cases F
  |true=>
   rw[hb]at F;simp only[pj]at F;simp only[aD,decide_eq_true_eq,bf,dj]at hb;obtain⟨⟨⟨⟨b5,d3⟩,d5⟩,e1⟩,d6⟩:=hb;cases hq:call g (SV.renL (iy m) id J) (eY (iy m) id os) (E.length+I.length)with
   |none=>rw[hq]at F;cases F
   |some q=>
    rw[hq]at F;simp only[pW]at F;cases hsm:q.small with
    |false=>rw[hsm]at F;cases F
    |true=>
     rw[hsm]at F;simp only[Az,ax.injEq]at F;subst F;have hE:=hS.exact hM;obtain⟨e3,d7⟩:=rV ho
     let τ2:Nat->Nat×Nat×Nat:=fun t=>if 50<=t/\t<50+(E++I).length then U5 x ((E++I).getD (t-50) none)else(0,0,0)
     let x1:Sit:=⟨x.G,x.bk,τ2⟩
     let x2:Sit:=⟨x.G,fun i=>x.bk (m.getD i 0),τ2⟩
     have hτ:∀y:Sit,y.τ=τ2->pK x y 50 (E++I):=by
      intro y hy k hk;rw[hy];show(if _ then _ else _)=_;rw[if_pos ⟨by omega,by omega⟩]
      congr 2;omega
     have Q:∀i,i<m.length->(m.getD i 0,L.getD i (.rc []))∈c.ob:=fun i hi=>kf (d7 i hi)
     have O:=yo b5;have a2:=kv d3
     have hT:Jm x x2 c m (E++I):=by
      refine⟨rfl,fun _ _=>rfl,hτ x2 rfl,a2,fun i hi=>⟨_,Q i hi⟩,kv d5,fun t ht=> ?_⟩;rw[gh,am]at ht;rcases ht with ht|ht
      ·have:=pQ (tk:=c.tk) (own:=sg.own) (cs:=a_) (j:=50) (i:=0) t (by rw[hz];exact ht)
       exact this
      ·have:=oG (tk:=c.tk) (obs:=L) (j:=50+E.length) t (by rw[Z];exact ht)
       exact this
     have a7:=hτ x1 rfl
     have b0:cL x1 J vs:=by have:=nG (x:=x) (x1:=x1) rfl rfl (tk:=c.tk) (own:=sg.own) (j:=50) (i:=0) e0 (by rw[hz];exact a7.left);rwa[hz]at this
     have hβ:∀o∈m,x2.bk (iy m o)=x.bk o:=fun o ho=>by show x.bk (m.getD (iy m o) 0)=_;rw[(oq ho).2]
     have d2:cL x2 (SV.renL (iy m) id J) vs:=by
      rw[fJ];refine⟨by simpa using b0.1,fun i hi=> ?_⟩;have b3:i<J.length:=by simpa using hi
      rw[bn _ (by rfl)];exact Rep.renF (x:=x1) (x2:=x2) (fun _ _ _ h=>h) (b0.2 i b3) (fun k hk=>hβ k (O k (am.2 (.inl (mA b3 k hk))))) (fun t _=>rfl)
     obtain⟨a6,W⟩:=mG (x:=x) (x1:=x1) (w:=w) rfl rfl (tk:=c.tk) (obs:=L) (j:=50+E.length) (f:=fun i=>m.getD i 0)
      (fun i hi=>(hE.heap.obs _ (Q i (by omega))).1) (by rw[Z];exact a7.right)
     rw[Z]at a6 W;simp only at a6 W
     have b4:∀i,i<m.length->ey x2 w i ((eY (iy m) id os).getD i (.rc [])):=by
      intro i hi;have h1:=W i (by omega);have b1:i<os.length:=by omega
      have e:(eY (iy m) id os).getD i (.rc [])=(os.getD i (.rc [])).ren (iy m) id:=by rw[gY,aa,aa,aU,ac b1];rfl
      rw[e];have a8:=gF (m:=m) hi;have c5:os.getD i (.rc [])∈os:=by rw[aa,ac b1];exact bv _
      have h2:=h1.renF (x2:=x2) (mo:=iy m) (mt:=id) (fun _ _ _ h=>h) (hβ _ a8) (fun k hk=>hβ k (O k (am.2 (.inr (qz c5 k hk))))) (fun t _=>rfl);have e2:iy m (m.getD i 0)=i:=mM a2 (oq a8).1 hi (oq a8).2;rwa[e2]at h2
     have c3:(eY (iy m) id os).length=m.length:=by rw[gY,aV];omega
     obtain⟨_,b6⟩:=d1 _ _ _ _ hq;have b7:E.length+I.length=(E++I).length:=by simp
     rw[b7]at b6;refine(b6 (Ctx.took x2 w m.length (E++I).length) x2 w vs rfl rfl ?_ (by omega) ?_ (tY hE.heap hT c3 b4) d2).mono ?_
     ·rintro b h;rw[c3];exact h
     ·intro o a1
      rw[gY]at a1;obtain⟨r,hr,rfl⟩:=aZ.1 a1;refine BU ?_
      have:=oF (tk:=c.tk) (obs:=L) (j:=50+E.length) (fun o h'=>by obtain⟨i,hi,rfl⟩:=bg h';have:=hS.inv.wf _ (Q i (by omega));simpa[aa,ac hi]using this) r (by rw[Z];exact hr)
      exact this
     ·rintro en w' ⟨v,x',q',rfl,c7,hr,hH,d4,hg⟩
      subst c7;exact⟨v,rfl,o9 hM hS hd hT hH hr d4 (fun i hi=>hg i (by omega)) (fun o a1=>d6 o a1) hsm⟩
theorem yj{call:dw}{sg:Sig}{g:Nat}{d:LAa}{a_:f8}{vs:LAb}(hM:aR C x s a w)(I:Sim N c s)(hd:∀k,d=some k->k<N)(y:∀a_ os k q,call g a_ os k=some q->fZ P g a_ os k (· =q))
 (F:jb call sg c d g a_=some c') (E:cL x a_ vs):Calls P g ⟨vs⟩ w fun en w'=>∃v,en= .returned v/\M C N c' (a.put d v) w':=by
 unfold jb at F;generalize ((SV.idsL a_).isEmpty&&sg.own.isEmpty)=b at F;cases b with
 |true=>exact Bn hM I hd y F E
 |false=>simp only[ld]at F;obtain⟨x1,Q,O,L,J⟩:=ki (l:=jP sg.raw 0 a_) hM I E;exact Ax O L hd y F J
end Go.Sy
namespace Go.Sy
variable [bx]
variable {P : Program} {C : Ctx} {x : Sit} {a : Act} {w : World} {N : Nat} {c c' : CSt} {s : St} {call : dw} {sg : Nat -> Sig}
def gX(P:Program)(call:dw):Prop:=∀g a_ os k q,call g a_ os k=some q->fZ P g a_ os k (· =q)
theorem Bu{sg:Sig}{d:LAa}{g:Nat}{a_:f8}(y:jb call sg c d g a_=some c'):∃O os k q,call g O os k=some q:=by
 unfold jb at y;generalize ((SV.idsL a_).isEmpty&&sg.own.isEmpty)=b at y;cases b with
 |true=>
  simp only[ld]at y;cases hq:call g (SV.bareL a_) [] 0 with
  |none=>rw[hq]at y;cases y
  |some q=>exact⟨_,_,_,q,hq⟩
 |false=>
  simp only[ld]at y;generalize fx c a_ (jP sg.raw 0 a_)=z at y;obtain⟨c1,L⟩:=z;simp only[kT]at y;generalize lh c1.tk sg.own 50 0 L=z at y;obtain⟨E,F⟩:=z;simp only[pl]at y;cases ho:im c1 (eC c1 60 [] (SV.idsL E))with
  |none=>rw[ho]at y;cases y
  |some J=>
   rw[ho]at y;simp only[mI]at y;generalize eU c1.tk (50+F.length) J=z at y;obtain⟨os,I⟩:=z;simp only[pk]at y;generalize (pR (SV.idsL E++gp os) (eC c1 60 [] (SV.idsL E))&&eg (eC c1 60 [] (SV.idsL E))&&eg (cO (F++I))&&decide ((eC c1 60 [] (SV.idsL E)).length<=40)&&(eC c1 60 [] (SV.idsL E)).all fun o=> !inR (d.getD 0) o)=b at y;cases b with
   |false=>cases y
   |true=>
    simp only[pj]at y;cases hq:call g (SV.renL (iy (eC c1 60 [] (SV.idsL E))) id E) (eY (iy (eC c1 60 [] (SV.idsL E))) id os) (F.length+I.length)with
    |none=>rw[hq]at y;cases y
    |some q=>exact⟨_,_,_,q,hq⟩
theorem dl.freeze{ob:List (Nat×aH)}{tk:t8}(h:dl C x ob tk w){b:Nat}(hb:C.mine b)(ho:∀p∈ob,(x.bk p.1).1≠b)(ht:∀t∈tk,(x.τ t).1≠b\/(x.τ t).2.1=(x.τ t).2.2)(off n:Nat):
 dl C x ob tk (w.freeze ⟨b,off,none⟩ n):=by
 have E:∀y,y≠b->(w.freeze ⟨b,off,none⟩ n).heap[y]? =w.heap[y]? :=by
  intro y O;unfold World.freeze;split
  ·rfl
  ·simp only[Array.getElem?_modify,if_neg (Ne.symm O)]
 have I:∀y i,(w.freeze ⟨b,off,none⟩ n).cell? ⟨y,i,none⟩=w.cell? ⟨y,i,none⟩:=by
  intro y i
  by_cases O:y=b
  ·subst O
   unfold World.freeze;split
   ·rfl
   ·simp only[World.cell?,Array.getElem?_modify,if_true]
    cases hw:w.heap[y]? with
    |none=>rfl
    |some q=>cases q<;>rfl
  ·exact dN (E y O)
 have Z:(w.freeze ⟨b,off,none⟩ n).heap.size=w.heap.size:=by unfold World.freeze;split<;>simp
 have F:(w.freeze ⟨b,off,none⟩ n).os=w.os/\(w.freeze ⟨b,off,none⟩ n).tape=w.tape/\(w.freeze ⟨b,off,none⟩ n).output=w.output:=by unfold World.freeze;split<;>exact⟨rfl,rfl,rfl⟩
 refine⟨fun y i v hv=>by rw[I];exact h.per y i v hv,h.g0,h.gm,h.new,fun p hp=> ?_,h.nd,h.inj,fun t L=> ?_,h.tko,h.tkd,F.1.trans h.os,F.2.1.trans h.tape,F.2.2.trans h.output,by rw[Z];exact h.size,fun y J=> ?_,h.pin,h.lay⟩
 ·obtain⟨⟨cc,e,fl,fh,W,r⟩,q⟩:=h.obs p hp
  exact⟨⟨cc,e,fl,fh,W.of_heap (E _ (ho p hp)),r⟩,q⟩
 ·rcases h.tks t L with h1|⟨⟨cc,e,fl,fh,W,h2⟩,h3⟩
  ·exact .inl h1
  ·rcases ht t L with Q|Q
   ·exact .inr ⟨⟨cc,e,fl,fh,W.of_heap (E _ Q),h2⟩,h3⟩
   ·exact .inl Q
 ·rw[E y (fun e=>J (e ▸ hb))];exact h.ext y J
theorem YR{o:Oper}{q:Arg}(y:bM P o=some (.slid q)):∃E X e,o.op= .convert E E X/\P.underlying E=some (.slice e)/\m9 P e=true/\bL P E X=some q:=by
 cases ho:o.op with
 |convert E dst X=>
  simp only[bM,ho]at y;split at y<;>try (cases y;done)
  ·split at y<;>cases y
  ·split at y<;>cases y
  ·rename_i e L J hd hX
   split at y<;>try (cases y;done)
   rename_i F;simp only[aD,decide_eq_true_eq]at F;obtain⟨rfl,I⟩:=F;cases y;exact⟨E,X,e,rfl,hd,I,hX⟩
 |_=>exfalso;exact absurd y (by
  intro y;simp only[bM,ho]at y
  first
   |(cases y;done)
   |(obtain⟨_,_,h⟩:=ah.1 y;cases h;done)
   |(repeat' split at y)<;>first|(cases y;done)|contradiction|(obtain⟨_,_,h⟩:=ah.1 y;first|(cases h;done)|(split at h<;>cases h;done)))
theorem Ki{o:Oper}{F:List Arg}(y:bM P o=some (.newB F)):False:=by
 cases ho:o.op with
 |buildSlice t len E=>
  simp only[bM,ho]at y;split at y<;>try (cases y;done)
  split at y<;>try (cases y;done)
  split at y<;>try (cases y;done)
  obtain⟨_,_,h⟩:=ah.1 y;split at h<;>cases h
 |_=>
  simp only[bM,ho]at y
  first
   |(cases y;done)
   |(obtain⟨_,_,h⟩:=ah.1 y;cases h;done)
   |(repeat' split at y)<;>first|(cases y;done)|contradiction|(obtain⟨_,_,h⟩:=ah.1 y;first|(cases h;done)|(split at h<;>cases h;done))
theorem Hy{o:Oper}{z:f8}{b:Nat}{q y:Arg}(E:bM P o=some (.appO z b q y)):False:=by
 cases ho:o.op with
 |buildSlice t len F=>
  simp only[bM,ho]at E;split at E<;>try (cases E;done)
  split at E<;>try (cases E;done)
  split at E<;>try (cases E;done)
  obtain⟨_,_,h⟩:=ah.1 E;split at h<;>cases h
 |_=>
  simp only[bM,ho]at E
  first
   |(cases E;done)
   |(obtain⟨_,_,h⟩:=ah.1 E;cases h;done)
   |(repeat' split at E)<;>first|(cases E;done)|contradiction|(obtain⟨_,_,h⟩:=ah.1 E;first|(cases h;done)|(split at h<;>cases h;done))
theorem xrT{ops:Array Oper}{o:Oper}{i:SI}(h:gS P ops o=some i):i.er=i:=by
 obtain⟨E,_,_⟩:=lT h;obtain⟨d,g,op⟩:=i
 have:op.er=op:=by
  cases op with
  |appO z b q y=>
   rcases E with E|⟨xs,e,_⟩
   ·exact(Hy E).elim
   ·cases e
  |_=>rfl
 show SI.mk d g op.er=_;rw[this]
theorem AC{o:Oper}{q:Arg}(h:M C N c a w)(hr:bM P o=some (.slid q))(hd:∀k,o.dst=some k->k<N)(I:tD c o.dst (c.ev q)=some c'){K:LBa}{Q:LAf}(hK:∀a w,M C N c' a w->K a w):o.wp P a w K Q:=by
 obtain⟨x,s,hM,W⟩:=h;unfold tD at I;split at I<;>try (cases I;done)
 rename_i y off n cap hq;unfold pX at I;split at I<;>try (cases I;done)
 rename_i l hl;split at I<;>try (cases I;done)
 rename_i J;obtain⟨hb,rfl⟩:=J;cases I;obtain⟨b1,X,e,ho,hu,h8,hX⟩:=YR hr;have hv:=aP hM hX;rw[W.ev,hq]at hv;obtain⟨cp,b3,b5,a2,Z,b0⟩:=hv.psl_inv;have F:s.look y=some (.bar l):=(W.look y).trans hl;obtain⟨cc,e',fl,fh,hO,b4,_⟩:=fA hM F;have a6:=hM.heap.obs _ (du F);obtain⟨x',⟨hβ,hτ⟩,hp,s',E,O⟩:=qk hl (fun cs e=>by cases e) hM W
 have L:Rep x' (.byt ((l.drop off).take n) .clip) (a.eval X):=by have:=hp _ _ hv;simpa only[SV.pub,if_true,AY,true_and,if_pos hb]using this
 have h1:∀p∈s'.ob,(x'.bk p.1).1≠(x.bk y).1:=by intro p a8 e;rw[hβ]at e;have h2:s'.look p.1=some p.2:=A7 E.heap.nd a8;rw[O.look]at h2;obtain⟨h3,q',h4,_⟩:=lG (kf h2);have h5:=kb (jW W.inv.so) h4;exact h3 (hM.heap.inj (p.1,q') (du ((W.look p.1).trans h5)) _ (du F) e)
 have h2:∀t∈s'.tk,(x'.τ t).1≠(x.bk y).1\/(x'.τ t).2.1=(x'.τ t).2.2:=by intro t ht;rw[hτ];exact hM.heap.tko t ((W.tk t).2 ((O.tk t).1 ht)) _ (du F)
 have a7:aR C x' s' a (w.freeze ⟨(x.bk y).1,cc.size,none⟩ 1):=⟨E.tm,E.defers,E.heap.freeze a6.2.1 h1 h2 _ _⟩
 have a1:(execOp a.eval o).run P w= .ok (.value (a.eval X)) (w.freeze ⟨(x.bk y).1,cc.size,none⟩ 1):=by have hm:(markStringish ⟨(x.bk y).1,a2,none⟩).run P w= .ok () (w.freeze ⟨(x.bk y).1,cc.size,none⟩ 1):=fa (e:=e') (by simp only[World.shape?,hO.1]);simp only[execOp,ho,Z,convert,aC,run_underlying hu,aq,beq_self_eq_true,run_underlying (kd h8),hm,aN]
 refine dH ⟨a.eval X,_,x',_,a1,.inl rfl,a7.put o.dst L⟩ (k:=Sim N _) ?_ hK;have e1:(c.publish y []).1=⟨mX y (.bar l) c.tm,mn y (.bar l) c.ob,c.tk⟩:=by unfold CSt.publish;rw[hl]
 rw[e1];exact O.put hd _
theorem qA{o:Oper}{Z:List Arg}(h:M C N c a w)(W:bM P o=some (.litB Z))(hd:∀k,o.dst=some k->k<N)(F:pw c o.dst (toB (evL c Z))=some c'){K:LBa}{Q:LAf}(hK:∀a w,M C N c' a w->K a w):o.wp P a w K Q:=by
 obtain⟨x,s,hM,O⟩:=h;rw[O.evL]at F;unfold pw at F;split at F<;>try (cases F;done)
 rename_i k l hk hl;cases F;obtain⟨t,len,J,ho⟩:=ZT W;obtain⟨r,e,E,L,y⟩:=AL hM ho W hl
 have I:=hM.newObj (d:=k+100) o.dst (by omega) (.bar l) (val:= .psl (k+100) 1 0 l.length (some l.length)) (u:= .slice (some ⟨w.heap.size,0,none⟩) l.length l.length) (t:=e) L (fun i hi=>by
  show cR x.G (.u8 (l.getD i 0)) _;rw[y i hi];exact .u8 _) (by
  have:=Rep.psl (x:=x.newO (k+100) w.heap.size) (k+100) 1 0 l.length (some l.length) 0 l.length (.inr rfl) (aK _) (fun _ e=>by cases e;rfl) (fun e=>by cases e);rwa[kY]at this)
 refine dH ⟨_,_,_,_,E,.inl rfl,I⟩ (k:=Sim N _) ?_ hK;have:=O.app hd (e:= {val:= .psl (k+100) 1 0 l.length (some l.length),new:=some (.bar l)}) (f:= {pre:=True,val:= .psl (k+100) 1 0 l.length (some l.length),new:=some (.bar l)}) ⟨rfl,rfl,rfl,rfl,rfl⟩ ⟨fun ob he=>by cases he;rfl,.inl rfl⟩;rw[hk]at this ⊢;exact this
theorem KZ(hM:aR C x s a w)(y:Sim N c s){g:Nat}{t:Bool}(h:c.get g= .bool t):a.tmps[g]? =some (.bool t):=(K1 hM (by rw[y.get];exact h)).2.1
theorem x5{ops:Array Oper}{o:Oper}{j g:Nat}{b:Bool}(h:o.guard=some (j,b))(E:(ops[j]?).bind (·.dst)=some g)(y:∀t,a.tmps[g]? ≠some (.bool t)):Region.wanted o (yielded ops a.tmps)=false:=by
 have F:yielded ops a.tmps j=none:=by
  unfold yielded;rw[E,dp];cases hv:a.tmps[g]? with
  |none=>rfl
  |some v=>
   cases v with
   |bool t=>exact absurd hv (y t)
   |_=>rfl
 simp only[Region.wanted,h,F];rfl
theorem yM{x:Sit}:Rep x (.tup []) undef:= .tup [] [] rfl fun i hi=>by simp at hi
theorem K0(hM:aR C x s a w)(F:Sim N c s){g:Nat}(h:c.get g= .tup []):∀t,a.tmps[g]? ≠some (.bool t):=by
 intro t I;have y:=hM.slot g;rw[F.get,h]at y
 have E:a.tmps.getD g undef= .bool t:=by rw[aS,I];rfl
 replace y:Rep x (.tup []) (a.tmps.getD g undef):=y;rw[E]at y;cases y with
 |dat _ _ h _=>cases h
theorem LO{o:Oper}{q:Arg}(y:bM P o=some (.s2b q)):∃E dst X e,o.op= .convert E dst X/\P.underlying E=some .string/\P.underlying dst=some (.slice e)/\m9 P e=true/\bL P E X=some q:=by
 cases ho:o.op with
 |convert E dst X=>
  simp only[bM,ho]at y;split at y<;>try (cases y;done)
  ·split at y<;>cases y
  ·rename_i e J I hd hX
   split at y<;>try (cases y;done)
   rename_i F;cases y;exact⟨E,dst,X,e,rfl,I,hd,F,hX⟩
  ·split at y<;>cases y
 |_=>exfalso;exact absurd y (by
  intro y;simp only[bM,ho]at y
  first
   |(cases y;done)
   |(obtain⟨_,_,h⟩:=ah.1 y;cases h;done)
   |(repeat' split at y)<;>first|(cases y;done)|contradiction|(obtain⟨_,_,h⟩:=ah.1 y;first|(cases h;done)|(split at h<;>cases h;done)))
theorem xn6{o:Oper}{z:f8}{b:Nat}{q r:Arg}(y:bM P o=some (.app z b q r)):∃E,o.op= .call E/\E.callee= .builtin .append:=by
 cases ho:o.op with
 |call E=>
  refine⟨E,rfl, ?_⟩;cases hb:E.callee with
  |builtin F=>
   cases F with
   |append=>rfl
   |_=>
    exfalso;simp only[bM,ho,hb]at y
    first
     |(cases y;done)
     |(repeat' split at y)<;>first|(cases y;done)|contradiction
  |_=>
   exfalso;simp only[bM,ho,hb]at y
   first
    |(cases y;done)
    |(repeat' split at y)<;>first|(cases y;done)|contradiction
 |_=>exfalso;exact absurd y (by
  intro y;simp only[bM,ho]at y
  first
   |(cases y;done)
   |(obtain⟨_,_,h⟩:=ah.1 y;cases h;done)
   |(repeat' split at y)<;>first|(cases y;done)|contradiction|(obtain⟨_,_,h⟩:=ah.1 y;first|(cases h;done)|(split at h<;>cases h;done)))
theorem aR.newObjF(hM:aR C x s a w){d:Nat}(E:LAa)(y:100<=d){cv:LAc}{t:TypeId}{fl fh:Nat}(obj:aH){val:SV}{u:Value}(J:∀i,i<cv.size->¬(fl<=i/\i<fh))(Z:obj.size<=cv.size)(Q:∀k,k<obj.size->cA x obj k (cv.getD k undef))
 (F:obj.arrB=true->¬(fl<=cv.size/\cv.size<fh)) (W:Rep (x.newO d w.heap.size cv.size) val u) {w':World} (I:w'.heap=(w.alloc (.cells cv t (fl,fh))).heap) (h1:w'.os=w.os) (O:w'.tape=w.tape) (L:w'.output=w.output):
 aR C (x.newO d w.heap.size cv.size) (((s.purge d (d+1)).addO d (obj.purge d (d+1))).put E val) (a.put E u) w':=by
 refine aR.put ⟨?_,hM.defers, ?_⟩ E W
 ·exact cL.mono (x:=x) (x':=x.newO d w.heap.size cv.size) (lo:=d) (hi:=d+1) (fun _ _ _ h=>h) (Sit.newO_ne x d _) (fun _ _=>rfl) hM.tm
 ·exact dl.congr (w:=w.alloc (.cells cv t (fl,fh))) (hM.heap.allocO d y obj J Z Q (aK _) F) I h1 O L
theorem aR.drew(hM:aR C x s a w):aR C x s a w.drew:=⟨hM.tm,hM.defers,hM.heap.drew⟩
theorem A3{o:Oper}{q:Arg}(h:M C N c a w)(hr:bM P o=some (.s2b q))(hd:∀k,o.dst=some k->k<N)(J:Zy c o.dst (c.ev q)=some c'){K:LBa}{Q:LAf}(hK:∀a w,M C N c' a w->K a w):o.wp P a w K Q:=by
 obtain⟨x,s,hM,hS⟩:=h;unfold Zy at J;split at J<;>try (cases J;done)
 rename_i k l hk hl;cases J;obtain⟨a2,dst,X,e,ho,hs,W,h8,hX⟩:=LO hr;have he:=kd h8;have h1:=aP hM hX;rw[hS.ev,hl]at h1;have hf:(Question.appendCap (ByteArray.mk ⟨l⟩).size 0 e).forced=false:=rfl
 obtain⟨y,a1,Z⟩:∃y,(Question.appendCap (ByteArray.mk ⟨l⟩).size 0 e).cut (w.tape w.drawn (Question.appendCap (ByteArray.mk ⟨l⟩).size 0 e))=y/\l.length<=y:=by
  refine⟨_,rfl, ?_⟩;simp only[Question.cut];have:(ByteArray.mk ⟨l⟩).size=l.length:=by simp[ByteArray.size]
  omega
 let cs:LAc:=(ByteArray.mk ⟨l⟩).data.map (fun b=> .int .u8 b.toNat)++eT (y-(ByteArray.mk ⟨l⟩).size) (.int .u8 0)
 have F:(ByteArray.mk ⟨l⟩).size=l.length:=by simp[ByteArray.size]
 have O:cs.size=y:=by simp[cs,F];omega
 have I:∀i,i<l.length->cs[i]? =some (.int .u8 (l.getD i 0).toNat):=by intro i hi;simp only[cs];rw[cy (by simpa using hi)];simp[hi,aa]
 have E:(execOp a.eval o).run P w= .ok (.value (.slice (some ⟨w.heap.size,0,none⟩) l.length y)) ((w.drew.alloc (.cells cs e (0,0))).freeze ⟨w.heap.size,cs.size,none⟩ 1):=by simp only[execOp,ho,h1.str_inv,convert,aC,run_underlying hs,run_underlying W,aq,run_underlying he,Conv.stringToBytes,run_choose_drew,hf,aO,if_false,a1,newRow,run_newObj_alloc,aN];rw[fa (e:=e) (n:=cs.size) (by simp only[World.shape?];rw[heap_alloc_new])];simp only[aq,F];rfl
 have L:=hM.drew.newObjF (d:=k+100) o.dst (by omega) (.bar l) (cv:=cs) (t:=e) (fl:=cs.size) (fh:=cs.size+1) (val:= .psl (k+100) 1 0 l.length none) (u:= .slice (some ⟨w.heap.size,0,none⟩) l.length y) (fun i hi h=>by omega) (by simp only[aH.size];omega) (fun i hi=>by
  simp only[aH.size]at hi;show cR x.G (.u8 (l.getD i 0)) _;have:cs.getD i undef= .int .u8 (l.getD i 0).toNat:=by rw[aS,I i hi];rfl
  rw[this];exact .u8 _) (fun h=>by cases h) (by
  have:=Rep.psl (x:=x.newO (k+100) w.drew.heap.size cs.size) (k+100) 1 0 l.length none 0 y (.inr rfl) Z (fun _ e=>by cases e) (fun _=> .inr (by rw[i6,O];omega));rw[kY]at this;exact this) (io w.drew cs e) rfl rfl rfl
 refine dH ⟨_,_,_,_,E,.inl rfl,L⟩ (k:=Sim N _) ?_ hK;have:=hS.app hd (e:= {val:= .psl (k+100) 1 0 l.length none,new:=some (.bar l)}) (f:= {pre:=True,val:= .psl (k+100) 1 0 l.length none,new:=some (.bar l)}) ⟨rfl,rfl,rfl,rfl,rfl⟩ ⟨fun ob he=>by cases he;rfl,.inl rfl⟩;rw[hk]at this ⊢;exact this
theorem Ao{o:Oper}{q:Arg}(h:M C N c a w)(hr:bM P o=some (.s2b q))(hd:∀k,o.dst=some k->k<N)(O:YF c o.dst (c.ev q)=some c'){K:LBa}{Q:LAf}(hK:∀a w,M C N c' a w->K a w):o.wp P a w K Q:=by
 obtain⟨x,s,hM,hS⟩:=h;unfold YF at O;split at O<;>try (cases O;done)
 rename_i k l hk hl;cases O;obtain⟨b3,dst,X,e,ho,hs,Z,h8,hX⟩:=LO hr;have he:=kd h8;have h1:=aP hM hX;rw[hS.ev,hl]at h1;have hf:(Question.appendCap (ByteArray.mk ⟨l⟩).size 0 e).forced=false:=rfl
 obtain⟨y,b0,a2⟩:∃y,(Question.appendCap (ByteArray.mk ⟨l⟩).size 0 e).cut (w.tape w.drawn (Question.appendCap (ByteArray.mk ⟨l⟩).size 0 e))=y/\l.length<=y:=by
  refine⟨_,rfl, ?_⟩;simp only[Question.cut];have:(ByteArray.mk ⟨l⟩).size=l.length:=by simp[ByteArray.size]
  omega
 let cs:LAc:=(ByteArray.mk ⟨l⟩).data.map (fun b=> .int .u8 b.toNat)++eT (y-(ByteArray.mk ⟨l⟩).size) (.int .u8 0)
 have J:(ByteArray.mk ⟨l⟩).size=l.length:=by simp[ByteArray.size]
 have b1:cs.size=y:=by simp[cs,J];omega
 have L:∀i,i<l.length->cs[i]? =some (.int .u8 (l.getD i 0).toNat):=by intro i hi;simp only[cs];rw[cy (by simpa using hi)];simp[hi,aa]
 have F:(execOp a.eval o).run P w= .ok (.value (.slice (some ⟨w.heap.size,0,none⟩) l.length y)) ((w.drew.alloc (.cells cs e (0,0))).freeze ⟨w.heap.size,cs.size,none⟩ 1):=by simp only[execOp,ho,h1.str_inv,convert,aC,run_underlying hs,run_underlying Z,aq,run_underlying he,Conv.stringToBytes,run_choose_drew,hf,aO,if_false,b0,newRow,run_newObj_alloc,aN];rw[fa (e:=e) (n:=cs.size) (by simp only[World.shape?];rw[heap_alloc_new])];simp only[aq,J];rfl
 have hG:∀o,x.G w.heap.size o=none:=by
  intro o;cases hg:x.G w.heap.size o with
  |none=>rfl
  |some v=>exact absurd (hM.heap.ltG hg) (by omega)
 have a8:=hM.heap.newD_le cs l.length;have hH:dl C (x.newD w.heap.size cs l.length) s.ob s.tk (w.drew.alloc (.cells cs e (cs.size,cs.size+1))):=hM.heap.drew.allocD l.length;have I:eQ (w.drew.alloc (.cells cs e (cs.size,cs.size+1))) w.heap.size cs e cs.size (cs.size+1):=⟨heap_alloc_new (w:=w.drew),fun i _ h=>by omega⟩
 have a6:dl C ((x.newD w.heap.size cs l.length).newT (k+100) w.heap.size l.length y) (bW (k+100) (k+100+1) s.ob) ((k+100)::cP (k+100) (k+100+1) s.tk) (w.drew.alloc (.cells cs e (cs.size,cs.size+1))):=by
  refine hH.addT (k+100) w.heap.size _ _ (.inr ⟨⟨cs,e,_,_,I,by omega⟩,hM.heap.new _ hM.heap.size,fun o h1 h2=> ?_⟩) (.inr fun p hp _=> ?_) (.inr fun u hu _=> ?_)
  ·simp only[Sit.newD];rw[if_neg (by omega)];exact hG o
  ·obtain⟨⟨c2,e2,a1,a7,E,_⟩,_⟩:=hM.heap.obs p hp
   have:=E.lt;show w.heap.size≠(x.bk p.1).1;omega
  ·rcases hM.heap.tks u hu with h|⟨⟨c2,e2,a1,a7,E,_⟩,_⟩
   ·exact .inr h
   ·have:=E.lt
    exact .inl (by show w.heap.size≠(x.τ u).1;omega)
 have W:aR C ((x.newD w.heap.size cs l.length).newT (k+100) w.heap.size l.length y) ((s.grew .no (k+100)).put o.dst (.byt l (.id (k+100)))) (a.put o.dst (.slice (some ⟨w.heap.size,0,none⟩) l.length y)) ((w.drew.alloc (.cells cs e (0,0))).freeze ⟨w.heap.size,cs.size,none⟩ 1):=by
  refine aR.put ⟨?_,hM.defers, ?_⟩ o.dst ?_
  ·exact cL.mono (x:=x) (x':=(x.newD w.heap.size cs l.length).newT (k+100) w.heap.size l.length y) (lo:=k+100) (hi:=k+100+1) a8 (fun _ _=>rfl) (Sit.newT_ne (x.newD w.heap.size cs l.length) (k+100) _ _ _) hM.tm
  ·exact dl.congr (w:=w.drew.alloc (.cells cs e (cs.size,cs.size+1))) a6 (io w.drew cs e) rfl rfl rfl
  ·refine .dat _ _ (.byt l _ w.heap.size 0 y l.length rfl a2 fun i hi=> ?_) ⟨_,l.length,y,rfl,.inr ⟨w.heap.size,0,rfl, ?_⟩⟩
   ·show(x.newD w.heap.size cs l.length).G w.heap.size (0+i)=_
    simp only[Sit.newD];rw[if_pos ⟨trivial,by omega⟩,bY];exact L i hi
   ·rw[Sit.newT_eq,dq,dq,bY,bY]
 refine dH ⟨_,_,_,_,F,.inl rfl,W⟩ (k:=Sim N _) ?_ hK;have:=hS.app hd (e:= {val:= .byt l (.id (k+100)),tok:=true}) (f:= {pre:=True,val:= .byt l (.id (k+100)),tok:=true}) ⟨rfl,rfl,rfl,rfl,rfl⟩ ⟨fun ob he=>(by cases he),.inl rfl⟩;rw[hk]at this ⊢;exact this
theorem uW(hM:aR C x s a w){t u W:TypeId}{d2:TypeDesc}{n by_:Nat}{zs:LAb}(hd:P.underlying t=some (.slice W))(hu:P.underlying u=some d2)(d1:(∃e',d2= .slice e')\/d2= .string)(hn:fI P W=some n)(hb:wt P W=some by_)
 (hz:gQ P W=some zs) (hb0:by_≠0) (hzl:zs.length=n) {ty:TypeId} {X Y:Value} {fl y:f8} {ns:LAb} {len m cap:Nat} (hX:GQ x.G n fl X len cap)
 (a6:∀w',w'.heap=w.heap->(Builtin.lenOf Y).run P w'= .ok m w') (I:∀w',w'.heap=w.heap->(Builtin.firstCells n m Y).run P w'= .ok ns.toArray w') (b6:ns.length=m*n) (E:New x ns y) (L:(len+m)*by_<=140737488355328) (hc:¬len+m<=cap):
 ∃Q cv,len+m<=Q/\(Builtin.append_ #[t,u] ty #[X,Y]).run P w= .ok (.slice (some ⟨w.heap.size,0,none⟩) (len+m) Q) (w.drew.alloc (.cells cv W (0,0)))/\((fl++y).length<=cv.size/\Q*n<=cv.size)/\∀k,k<(fl++y).length->cR x.G ((fl++y).getD k .undef) (cv.getD k undef):=by
 obtain⟨a7,d5,a1⟩:=hX;obtain⟨z,d3,b7⟩:=de hz
 obtain⟨i,hi,b5⟩:∃i,P.info? W=some i/\i.bytes=by_:=by
  unfold wt at hb;cases hi:P.info? W with
  |none=>simp[hi]at hb
  |some i=>simp[hi]at hb;exact⟨i,rfl,hb⟩
 obtain⟨bs,b1⟩:∃bs,X= .slice bs len cap:=by
  rcases a1 with⟨b,off,rfl,_⟩|⟨⟨a,rfl⟩,rfl,rfl⟩
  ·exact⟨_,rfl⟩
  ·exact⟨_,rfl⟩
 subst b1;have d4:y.length=m*n:=by rw[E.len,b6]
 obtain⟨os,b0,F,a8⟩:∃os:LAb,(∀w',w'.heap=w.heap->(Builtin.firstCells n len (.slice bs len cap)).run P w'= .ok os.toArray w')/\os.length=fl.length/\∀k,k<fl.length->cR x.G (fl.getD k .undef) (os.getD k undef):=by
  rcases a1 with⟨b,off,O,hr⟩|⟨O,h1,h2⟩
  ·simp only[Value.slice.injEq]at O
   obtain⟨rfl,_⟩:=O;refine⟨(bC (len*n)).map fun k=>(w.cell? ⟨b,off+k,none⟩).getD undef,fun w' c7=> ?_,by simp[a7],fun k Z=> ?_⟩
   ·simp only[Builtin.firstCells]
    refine run_loadCells w' _ _ _ fun j hj=> ?_
    rw[dB,dN (w:=w) (by rw[c7])];obtain⟨v,hv,_⟩:=hr j (by omega);rw[hM.heap.per _ _ _ hv];rfl
   ·obtain⟨v,hv,b3⟩:=hr k Z
    have:((bC (len*n)).map fun k=>(w.cell? ⟨b,off+k,none⟩).getD undef).getD k undef=v:=by rw[aa];simp[show k<len*n from by omega,hM.heap.per _ _ _ hv]
    rw[this];exact b3
  ·obtain⟨a,O⟩:=O
   simp only[Value.slice.injEq]at O;obtain⟨rfl,rfl,_⟩:=O;have:fl=[]:=b8.1 (by rw[<-a7,h1,iq]);subst this;exact⟨[],fun w' _=>by cases bs<;>simp only[Builtin.firstCells,iq]<;>rfl,rfl,fun k Z=>by simp at Z⟩
 obtain⟨Q,b4,a2⟩:=fp (t:=t) (u:=u) (ty:=ty) (Y:=Y) hd hu d1 hn hi b5 hb0 b7 a6 I b0 hc L;refine⟨Q,_,b4,a2, ?_,fun k Z=> ?_⟩
 ·have c3:z.cells.size=n:=by rw[<-aW,d3];exact hzl
  have e3:len*n+m*n+(Q-(len+m))*n=Q*n:=by rw[<-bH,<-bH];congr 1;omega
  simp only[ae,cV,ce,F,<-E.len,cn,c3];omega
 ·have c5:k<os.length+ns.length:=by rw[F,<-E.len,<-ae];exact Z
  rw[aS,lv os ns _ k c5]
  by_cases J:k<fl.length
  ·have e1:(fl++y).getD k .undef=fl.getD k .undef:=by simp only[aa,bt J]
   have e2:((os++ns)[k]?).getD undef=os.getD k undef:=by simp only[aa,bt (show k<os.length by omega)]
   rw[e1,e2];exact a8 k J
  ·have e1:(fl++y).getD k .undef=y.getD (k-fl.length) .undef:=by simp only[aa,bD (Nat.le_of_not_lt J)]
   have e2:((os++ns)[k]?).getD undef=ns.getD (k-fl.length) undef:=by simp only[aa,bD (show os.length<=k by omega),F]
   rw[e1,e2];exact E.rep _ (by rw[ae]at Z;omega)
theorem l3{n:Nat}{fl:f8}{X:Value}{len cap:Nat}(hX:GQ x.G n fl X len cap)(y:dP x n .clip X):cap=len:=by
 obtain⟨a,k,F⟩:=y;obtain⟨_,_,E⟩:=hX;rcases E with⟨b,off,h,_⟩|⟨h,h1,h2⟩
 ·rw[h]at F;simp only[Value.slice.injEq]at F;omega
 ·omega
theorem oU(o:Nat)(obj:aH):∀l:List (Nat×aH),bW o (o+1) (setO o obj l)=bW o (o+1) l
 |[]=>rfl
 |p::r=>by
  simp only[setO]
  by_cases y:p.1=o
  ·rw[if_pos y]
   simp only[bW];rw[if_pos (by omega),if_pos (by omega)]
  ·rw[if_neg y]
   simp only[bW];rw[if_neg (by omega),if_neg (by omega),oU o obj r]
theorem A1{o:Oper}{z:f8}{by_ F sz n:Nat}{r q:Arg}(h:M C N c a w)(hr:bM P o=some (.app z by_ r q))(hd:∀k,o.dst=some k->k<N)(hx:c.ev r= .psl F sz 0 n none)
 (hc:Uj c z by_ F sz n o.dst (gB c z.length (.psl F sz 0 n none)) (gB c z.length (c.ev q))=some c') {K:LBa} {Q:LAf} (hK:∀a w,M C N c' a w->K a w):o.wp P a w K Q:=by
 obtain⟨x,s,hM,hS⟩:=h;obtain⟨X,Y,t,u,el,d2,zs,I,b0,_⟩:=xa0 hr (.inl rfl) a;have b0:=b0 rfl;have h1:=aP hM I.hX;have h2:=aP hM I.hY;rw[hS.ev,hx]at h1;unfold Uj at hc;split at hc<;>try (cases hc;done)
 rename_i k R0 E hk a8 f5;rw[aJ]at hc;obtain⟨⟨rfl,J,c3⟩,hc⟩:=hc;obtain⟨p0,e4,g8⟩:=lz hS a8;obtain⟨p1,b4,g7⟩:=lz hS f5;rw[<-hS.ev]at b4;obtain⟨os,g0,n0,s0⟩:=rI (P:=P) hM h1 e4 g8;obtain⟨ns,g1,n1,s1⟩:=rI (P:=P) hM h2 b4 g7
 obtain⟨O,hl,h5,b1⟩:∃O,c.look F=some (.arr z.length O)/\n<=O.length/\R0=O.take n:=by
  simp only[gB]at a8;split at a8
  ·rename_i i2 O hl
   obtain⟨⟨_,e1,e2⟩,e3⟩:=cd a8;exact⟨O,by rw[hl,<-e1],by omega,by rw[<-e3];rfl⟩
  ·cases a8
 obtain⟨cp,i1,Z,d3,b3,d6⟩:=h1.psl_invK;have a6:ns.length=E.length*z.length:=by rw[<-n1.len,b9 g1]
 have d4:os.length=n*z.length:=by rw[<-n0.len,b9 g0,J]
 have c5:s.look F=some (.arr z.length O):=(hS.look F).trans hl;obtain⟨cc,e,fl,fh,hO,⟨i3,f1,e8⟩,d1⟩:=fA hM c5;have W:∀y∈R0++E,y.length=z.length:=fun y hy=>(am.1 hy).elim (g0 y) (g1 y)
 have i0:∀y∈O,y.length=z.length:=hS.rows hl;have hN:=n0.append n1;rw[<-cg]at hN;have L:(aH.arr z.length (R0++E)).size=(n+E.length)*z.length:=by simp only[aH.size,ae,J]
 have a1:=(hS.purge F (F+1)).app (d:=o.dst) hd (e:= {val:= .psl (k+100) z.length 0 (n+E.length) none,new:=some (.arr z.length (R0++E))}) (f:= {pre:=True,val:= .psl (k+100) z.length 0 (n+E.length) none,new:=some (.arr z.length (R0++E))}) ⟨rfl,rfl,rfl,rfl,rfl⟩ ⟨fun ob he=>by cases he;exact gn.2 W,.inl rfl⟩;have g9:=ax.inj hc;subst g9;have c7:=I.ex;rw[d3]at c7;have e5:(n+E.length)*z.length=n*z.length+E.length*z.length:=bH _ _ _
 by_cases a2:n+E.length<=cp
 ·have b7:n*z.length+ns.length<=cc.size:=by
   rcases d6 with h0|h0
   ·have h3:n=0:=by omega
    have h4:E.length=0:=by omega
    rw[a6,h3,h4];omega
   ·have h3:(n+E.length)*z.length<=cp*z.length:=bo _ a2
    rw[a6];omega
  obtain⟨q1,q2,q3,q4,q5⟩:=dI ((x.bk F).1) ns w (n*z.length);obtain⟨c2,h8,b6,g3⟩:=dv ns w (n*z.length) cc hO b7
  have g4:aR C x (s.setO F (.arr z.length (R0++E))) a (cj w ((x.bk F).1) (n*z.length) ns):=
   ⟨hM.tm,hM.defers,hM.heap.block (du c5) q1 q2 q3 q4 q5 ⟨c2,e,fl,fh,h8,⟨by rw[L,b6];omega,by rw[b6];exact f1,fun h=>by rw[b6];exact e8 rfl⟩,fun i hi=>by
    rw[L]at hi;rw[g3 i];have f3:i<(R0++E).length*z.length:=by rw[ae,J];exact hi
    show cR x.G ((((R0++E)).getD (i/z.length) []).getD (i % z.length) .undef) _;rw[<-cX _ W i f3,cg];have e9:R0.flatten.length=n*z.length:=by rw[b9 g0,J]
    by_cases f0:n*z.length<=i
    ·rw[if_pos ⟨f0,by omega⟩]
     have:=n1.rep (i-n*z.length) (by rw[b9 g1];omega);rw[aa,bD (by omega),e9,<-aa];exact this
    ·rw[if_neg (fun h=>f0 h.1)]
     have i4:n*z.length<=O.length*z.length:=bo _ h5;have h3:=d1 i (by simp only[aH.size];omega);change cR x.G ((O.getD (i/z.length) []).getD (i % z.length) .undef) _ at h3;rw[<-cX O i0 i (by omega)]at h3;rw[aa,bt (by omega),b1]
     have e6:O.flatten[i]? =(O.take n).flatten[i]? :=by
      have:O.flatten=(O.take n).flatten++(O.drop n).flatten:=by rw[<-cg,cT]
      rw[this,bt (by rw[<-b1];omega)]
     rw[<-e6,<-aa];exact h3⟩⟩
  have e0:=g4.move (d:=k+100) (by omega) (obj:= .arr z.length (R0++E)) (by show(setO F _ s.ob).lookup F=_;have h3:s.ob.lookup F=some (.arr z.length O):=c5;rw[lq,if_pos ⟨rfl,by rw[h3];rfl⟩]) (fun cs e=>by cases e)
  have f2:(s.setO F (.arr z.length (R0++E))).purge F (F+1)=s.purge F (F+1):=by simp only[St.purge,St.setO,oU]
  rw[f2]at e0;have d7:(x.newO (k+100) (x.bk F).1 (x.bk F).2).bk (k+100)=x.bk F:=if_pos rfl
  have hv:Rep (x.newO (k+100) (x.bk F).1 (x.bk F).2) (.psl (k+100) z.length 0 (n+E.length) none) (.slice (some ⟨(x.bk F).1,Z,none⟩) (n+E.length) cp):=by have:=Rep.psl (x:=x.newO (k+100) (x.bk F).1 (x.bk F).2) (k+100) z.length 0 (n+E.length) none Z cp b3 a2 (fun _ e=>by cases e) (fun _=>by rw[d7];exact d6);rw[d7]at this;exact this
  have g6:=e0.put o.dst hv
  have a7:=eZ (P:=P) (t:=t) (u:=u) (ty:=o.type) (Y:=a.eval Y) (bs:=some ⟨(x.bk F).1,Z,none⟩) (len:=n) (m:=E.length) (cap:=cp) (w1:=cj w ((x.bk F).1) (n*z.length) ns) I.hd I.hu b0 I.hn (s1.len w rfl) (s1.cells w rfl) a2 (by
   simp only[dB]
   by_cases h6:cp=0
   ·have:ns=[]:=b8.1 (by
     rw[a6];have:E.length=0:=by omega
     rw[this,iq])
    rw[this];simp[storeCells,cj]
   ·rw[b3.resolve_left h6,iq,bY]
    exact fX (n*z.length) ns w cc 0 hO (by omega) n1.one)
  refine dH ⟨_,_,_,.value _, ?_,.inl rfl,g6⟩ (k:=Sim N _) ?_ hK
  ·rw[c7];simp only[aC,a7,aq,aN]
  ·rw[hk]at a1 ⊢
   exact a1
 ·obtain⟨i,hi,h7⟩:=Is I.hby
  obtain⟨zv,h9,f6⟩:=de I.hz
  obtain⟨nc,d5,a7⟩:=fp (P:=P) (t:=t) (u:=u) (ty:=o.type) (Y:=a.eval Y) (bs:=some ⟨(x.bk F).1,Z,none⟩) (len:=n) (m:=E.length) (cap:=cp) (os:=os) (ns:=ns) I.hd I.hu b0 I.hn hi h7 I.hb0 f6 s1.len s1.cells (by have:=s0.cells;rw[d3,J]at this;exact this) a2 c3
  have g2:zv.cells.size=z.length:=by rw[<-aW,h9];exact I.hzl.symm
  have b5:(os.toArray++ns.toArray++Builtin.zeroCells zv.cells (nc-(n+E.length))).size=nc*z.length:=by simp only[cV,ce,cn,g2,d4,a6];rw[<-bH,<-bH];congr 1;omega
  have g5:=(hM.purge F (F+1)).drew.newObjF (d:=k+100) o.dst (by omega) (.arr z.length (R0++E)) (cv:=os.toArray++ns.toArray++Builtin.zeroCells zv.cells (nc-(n+E.length))) (t:=el) (fl:=0) (fh:=0) (val:= .psl (k+100) z.length 0 (n+E.length) none) (u:= .slice (some ⟨w.heap.size,0,none⟩) (n+E.length) nc) (fun i hi h=>by omega) (by
   rw[L,b5];exact bo _ d5) (fun i hi=>by
   rw[L]at hi;have h3:=It W hN i (by rw[ae,J];exact hi)
   have e7:(os.toArray++ns.toArray++Builtin.zeroCells zv.cells (nc-(n+E.length))).getD i undef=(⟨os++ns⟩:LAc).getD i undef:=by rw[aS,lv os ns _ i (by rw[d4,a6];omega),aS];simp
   rw[e7];exact h3) (fun _ h=>by omega) (by
   have:=Rep.psl (x:=x.newO (k+100) w.drew.heap.size (os.toArray++ns.toArray++Builtin.zeroCells zv.cells (nc-(n+E.length))).size) (k+100) z.length 0 (n+E.length) none 0 nc (.inr (by omega)) d5 (fun _ e=>by cases e) (fun _=> .inr (by rw[i6,b5];omega));rw[kY]at this;exact this) (w':=w.drew.alloc (.cells (os.toArray++ns.toArray++Builtin.zeroCells zv.cells (nc-(n+E.length))) el (0,0))) rfl rfl rfl rfl
  refine dH ⟨_,_,_,.value _, ?_,.inl rfl,g5⟩ (k:=Sim N _) ?_ hK
  ·rw[c7];simp only[aC,a7,aq,aN]
  ·rw[hk]at a1 ⊢
   exact a1
theorem qu{o:Oper}{z:f8}{by_:Nat}{r q:Arg}(h:M C N c a w)(J:bM P o=some (.app z by_ r q))(hd:∀k,o.dst=some k->k<N)(F:um c o.dst z by_ q (c.ev r)=some c'){K:LBa}{Q:LAf}(hK:∀a w,M C N c' a w->K a w):o.wp P a w K Q:=by
 by_cases b6:∃o' sz n,c.ev r= .psl o' sz 0 n none
 ·obtain⟨o',sz,n,hx⟩:=b6
  rw[hx]at F;exact A1 h J hd hx F hK
 obtain⟨x,s,hM,hS⟩:=h;obtain⟨cl,ho,hb⟩:=xn6 J;simp only[bM,ho,hb]at J;split at J<;>try (cases J;done)
 rename_i X Y t u hX ht;split at J<;>try (cases J;done)
 rename_i el d2 r' q' b4 hu e3 e2;split at J<;>try (cases J;done)
 rename_i n e7 z' hn hby hz
 rw[aJ]at J;obtain⟨b0,J⟩:=J;simp only[aD,decide_eq_true_eq]at b0;obtain⟨⟨hb0,hn0⟩,e0⟩:=b0;obtain⟨zs,e1,e9,_⟩:=kj hz;have hzl:zs.length=n:=by omega
 obtain⟨b3,rfl,rfl,rfl,rfl⟩:((∃e',d2= .slice e')\/d2= .string)/\z'=z/\e7=by_/\r'=r/\q'=q:=by
  split at J<;>try (cases J;done)
  ·cases J;exact⟨.inl ⟨_,rfl⟩,rfl,rfl,rfl,rfl⟩
  ·rw[aJ]at J
   obtain⟨_,J⟩:=J;cases J;exact⟨.inr rfl,rfl,rfl,rfl,rfl⟩
 have h1:=aP hM e3;have h2:=aP hM e2;have ea:cl.args= #[X,Y]:=by apply eI;simpa using hX
 have et:cl.argTypes= #[t,u]:=by apply eI;simpa using ht
 have c5:=gq (a:=a) ho hb _ rfl;rw[ea,et]at c5;have em: #[X,Y].map a.eval= #[a.eval X,a.eval Y]:=by simp
 rw[em]at c5
 have W:∀{v w'},(Builtin.append_ #[t,u] o.type #[a.eval X,a.eval Y]).run P w= .ok v w'->(execOp a.eval o).run P w= .ok (.value v) w':=by intro v w' E;rw[c5];simp[E]
 rw[hS.ev]at h1
 have d5:∀{k nc cv}(obj:aH)(sz m:Nat),o.dst=some k->m<=nc->(Builtin.append_ #[t,u] o.type #[a.eval X,a.eval Y]).run P w= .ok (.slice (some ⟨w.heap.size,0,none⟩) m nc) (w.drew.alloc (.cells cv el (0,0)))->
  obj.size<=cv.size->nc*sz<=cv.size->(∀i,i<obj.size->cA x obj i (cv.getD i undef))->obj.wf=true->c'=c.app (some k) {val:= .psl (k+100) sz 0 m none,new:=some obj}->o.wp P a w K Q:=by
  intro k nc cv obj sz m hk a7 E a2 f0 I e5 e6;subst e6
  have e4:=hM.drew.newObjF (d:=k+100) o.dst (by omega) obj (cv:=cv) (t:=el) (fl:=0) (fh:=0) (val:= .psl (k+100) sz 0 m none) (u:= .slice (some ⟨w.heap.size,0,none⟩) m nc) (fun i hi h=>by omega) a2 I (fun _ h=>by omega) (by have:=Rep.psl (x:=x.newO (k+100) w.drew.heap.size cv.size) (k+100) sz 0 m none 0 nc (.inr (by omega)) a7 (fun _ e=>by cases e) (fun _=> .inr (by rw[i6];omega));rw[kY]at this;exact this) (w':=w.drew.alloc (.cells cv el (0,0))) rfl rfl rfl rfl
  refine dH ⟨_,_,_,_,W E,.inl rfl,e4⟩ (k:=Sim N _) ?_ hK;have:=hS.app hd (e:= {val:= .psl (k+100) sz 0 m none,new:=some obj}) (f:= {pre:=True,val:= .psl (k+100) sz 0 m none,new:=some obj}) ⟨rfl,rfl,rfl,rfl,rfl⟩ ⟨fun ob he=>by cases he;exact e5,.inl rfl⟩;rw[hk]at this ⊢;exact this
 unfold um at F;split at F<;>try (cases F;done)
 ·rename_i l tk hl
  rw[aJ]at F;obtain⟨rfl,F⟩:=F;unfold Zx at F;split at F<;>try (cases F;done)
  rename_i k l' hk d3;split at F<;>try (cases F;done)
  rename_i d4;have d4:z'.length=1:=Classical.not_not.1 d4;obtain rfl:n=1:=by omega
  obtain⟨p,Z,c7⟩:=oQ hS d3;rw[<-hS.ev]at Z;rw[hl]at h1;obtain⟨g1,g2⟩:=jG (P:=P) hM h2 Z c7;obtain⟨_,_,_,_,_,a8⟩:=h1.byt_inv;obtain⟨cap,hF,_⟩:=zA (h1.data rfl)
  by_cases L:l'=[]
  ·rw[if_pos L]at F
   cases F;subst L
   obtain⟨bs,b7⟩:∃bs,a.eval X= .slice bs l.length cap:=by
    rcases hF.2.2 with⟨b,off,h,_⟩|⟨h,h1,h2⟩
    ·exact⟨_,h⟩
    ·exact⟨_,by rw[h.choose_spec,h1,h2]⟩
   have b1:=l3 hF a8;rw[b7]at h1 W
   have E:=eZ (P:=P) (t:=t) (u:=u) (ty:=o.type) (Y:=a.eval Y) (ns:=[]) (w:=w) (w1:=w) (m:=0) (bs:=bs) (len:=l.length) (cap:=cap) b4 hu b3 hn (g1 w rfl) (by have:=g2 0 (aK _) w rfl;simpa using this) (by omega) (by cases bs<;>rfl)
   refine dH ⟨_,_,_,_,W E,.inl rfl,hM.put o.dst h1⟩ (k:=Sim N _) ?_ hK;have:=hS.put hd (.byt l .clip);rw[hk]at this ⊢;exact this
  ·rw[if_neg L]at F
   rw[aJ]at F;obtain⟨⟨rfl,a6⟩,F⟩:=F;have b1:=l3 hF a8;have d7:0<l'.length:=List.length_pos_iff.2 L
   obtain⟨nc,cv,a7,E,a2,I⟩:=uW (ty:=o.type) hM b4 hu b3 hn hby e1 hb0 hzl hF g1 (fun w' c3=>by have:=g2 l'.length (aK _) w' c3;rwa[dy]at this) (by simp) (ur l') (by omega) (by omega)
   refine d5 (.bar (l++l')) 1 _ hk a7 E (by simp only[aH.size];simpa using a2.1) a2.2 (fun i hi=> ?_) rfl (ax.inj F).symm;simp only[aH.size]at hi;have:=I i (by simpa using hi);rw[<-co,js _ _ hi]at this;exact this
 ·rename_i sz l tk hl
  rw[aJ]at F;obtain⟨rfl,F⟩:=F;unfold Zw at F;split at F<;>try (cases F;done)
  rename_i k l' hk d3;obtain⟨p,Z,c7⟩:=lz hS d3;rw[<-hS.ev]at Z;rw[hl]at h1;obtain⟨a1,g1,ns,b5,g2⟩:=iL (P:=P) hM h2 Z c7;obtain⟨_,_,_,_,_,a8⟩:=h1.lst_inv;obtain⟨cap,hF,_,d1⟩:=sk (h1.data rfl)
  by_cases L:l'=[]
  ·rw[if_pos L]at F
   cases F;subst L
   obtain⟨bs,b7⟩:∃bs,a.eval X= .slice bs l.length cap:=by
    rcases hF.2.2 with⟨b,off,h,_⟩|⟨h,h1,h2⟩
    ·exact⟨_,h⟩
    ·exact⟨_,by rw[h.choose_spec,h1,h2]⟩
   have b1:=l3 hF a8;rw[b7]at h1 W
   have E:=eZ (P:=P) (t:=t) (u:=u) (ty:=o.type) (Y:=a.eval Y) (ns:=[]) (w:=w) (w1:=w) (m:=0) (bs:=bs) (len:=l.length) (cap:=cap) b4 hu b3 hn (g1 w rfl) (by have:=g2 0 (aK _) w rfl;rw[e0]at this;simpa using this) (by omega) (by cases bs<;>rfl)
   refine dH ⟨_,_,_,_,W E,.inl rfl,hM.put o.dst h1⟩ (k:=Sim N _) ?_ hK;have:=hS.put hd (.lst sz l .clip);rw[hk]at this ⊢;exact this
  ·rw[if_neg L]at F
   rw[aJ]at F;obtain⟨⟨rfl,a6⟩,F⟩:=F;obtain rfl:n=z'.length:=by omega
   have b1:=l3 hF a8;have d7:0<l'.length:=List.length_pos_iff.2 L;have d6:ns.length=l'.length*z'.length:=by rw[<-b5.len,b9 a1]
   obtain⟨nc,cv,a7,E,a2,I⟩:=uW (ty:=o.type) hM b4 hu b3 hn hby e1 hb0 hzl hF g1 (fun w' c3=>by have:=g2 l'.length (aK _) w' c3;rwa[<-d6,dy]at this) d6 b5 a6 (by omega)
   have O:∀y∈l++l',y.length=z'.length:=fun y hy=>(am.1 hy).elim (d1 y) (a1 y)
   have e8:(l++l').length*z'.length=(l.flatten++l'.flatten).length:=by rw[<-cg,b9 O]
   refine d5 (.arr z'.length (l++l')) z'.length _ hk a7 E (by simp only[aH.size];omega) a2.2 (fun i hi=> ?_) (gn.2 O) (ax.inj F).symm;simp only[aH.size]at hi;have:=I i (by omega);rw[<-cg,cX _ O i hi]at this;exact this
 ·rename_i o' sz n hl
  exact absurd ⟨o',sz,n,hl⟩ b6
theorem uo(J:gX P call){o:Oper}{so:SOp}(h:M C N c a w)(E:tQ P o so.er)(hd:∀k,o.dst=some k->k<N)(I:opC call sg c o.dst so=some c'){K:LBa}{Q:LAf}(hK:∀a w,M C N c' a w->K a w):o.wp P a w K Q:=by
 by_cases L:∃z b q y,so= .appO z b q y
 ·obtain⟨z,b,q,y,rfl⟩:=L
  exact qu h (E.old (by intro Z e;cases e)) hd I hK
 have b1:so.er=so:=by cases so<;>first|rfl|exact absurd ⟨_,_,_,_,rfl⟩ L
 rw[b1]at E
 by_cases W:∃Z,so= .newB Z
 ·obtain⟨Z,rfl⟩:=W
  rcases E with O|⟨ys,e,O⟩
  ·exact(Ki O).elim
  ·cases e
   exact qA h O hd I hK
 have O:=E.old fun Z e=>W ⟨Z,e⟩
 by_cases a2:∃q,so= .slid q
 ·obtain⟨q,rfl⟩:=a2
  exact AC h O hd I hK
 by_cases a1:∃f a_,so= .call f a_
 ·obtain⟨f,a_,rfl⟩:=a1
  simp only[opC]at I;split at I<;>try (cases I;done)
  rename_i g c1 c2 hg;obtain⟨x,s,hM,hS⟩:=h;obtain⟨cl,F,ho,hb,h1,h2,h3⟩:=Lm O;obtain⟨b4,b3,k',q',b0⟩:=Bu I;have a8:eu P g=true:=(J _ _ _ _ _ b0).1;obtain⟨vs,a6,a7⟩:=Ie hM ho hb h1 h2 h3 (by rw[hS.ev];exact hg) a8;rw[<-hS.evL]at a7;exact xZ a6 (yj hM hS hd (J g) I a7) hK
 ·refine xpE h O hd ?_ hK
  cases so with
  |call f a_=>exact absurd ⟨f,a_,rfl⟩ a1
  |newB Z=>exact absurd ⟨Z,rfl⟩ W
  |slid q=>exact absurd ⟨q,rfl⟩ a2
  |appO z b q y=>exact absurd ⟨_,_,_,_,rfl⟩ L
  |_=>exact I
theorem A2{o:Oper}{E:Nat}{xs:List Arg}(h:M C N c a w)(F:bM P o=some (.lit E xs))(hd:∀k,o.dst=some k->k<N)(O:Zv c E o.dst (rows E (evL c xs))=some c'){K:LBa}{Q:LAf}(hK:∀a w,M C N c' a w->K a w):o.wp P a w K Q:=by
 obtain⟨x,s,hM,hS⟩:=h;rw[hS.evL]at O;unfold Zv at O;split at O<;>try (cases O;done)
 rename_i k l hk hl;cases O
 obtain⟨t,len,y,Z⟩:∃t len y,o.op= .buildSlice t len y:=by
  cases Z:o.op with
  |buildSlice t len y=>exact⟨t,len,y,rfl⟩
  |_=>exfalso;exact absurd F (by
   intro F;simp only[bM,Z]at F
   first
    |(cases F;done)
    |(obtain⟨_,_,h⟩:=ah.1 F;cases h;done)
    |(repeat' split at F)<;>first|(cases F;done)|contradiction|(obtain⟨_,_,h⟩:=ah.1 F;first|(cases h;done)|(split at h<;>cases h;done)))
 obtain⟨r,e,L,a1,I,J⟩:=AK hM Z F hl
 have W:=hM.newObj (d:=k+100) o.dst (by omega) (.arr E l) (val:= .psl (k+100) E 0 l.length (some l.length)) (u:= .slice (some ⟨w.heap.size,0,none⟩) l.length l.length) (t:=e) (by simp only[aH.size];omega) (fun i hi=>J i hi) (by have:=Rep.psl (x:=x.newO (k+100) w.heap.size) (k+100) E 0 l.length (some l.length) 0 l.length (.inr (by omega)) (aK _) (fun _ e=>by cases e;rfl) (fun e=>by cases e);rwa[kY]at this)
 refine dH ⟨_,_,_,_,L,.inl rfl,W⟩ (k:=Sim N _) ?_ hK;have:=hS.app hd (e:= {val:= .psl (k+100) E 0 l.length (some l.length),new:=some (.arr E l)}) (f:= {pre:=True,val:= .psl (k+100) E 0 l.length (some l.length),new:=some (.arr E l)}) ⟨rfl,rfl,rfl,rfl,rfl⟩ ⟨fun ob he=>by cases he;exact gn.2 I,.inl rfl⟩;rw[hk]at this ⊢;exact this
theorem AZ{ops:Array Oper}{n:Nat}{o:Oper}{i:SI}(h:M C N c a w)(hi:i.ok N=true)(ho:ops[n]? =some o)(hr:gS P ops o=some i)(F:vQ c i=some c'){K:LBa}{Q:LAf}
 (hK:∀a w,M C N c' a w->K a w):wpOp P ops Q n K a w:=by
 obtain⟨J,h2,W⟩:=lT hr
 have hd:∀k,i.dst=some k->k<N:=by intro k Z;unfold SI.ok at hi;rw[Z]at hi;simpa using hi
 unfold wpOp;rw[ho];simp only;unfold vQ at F;split at F<;>try (cases F;done)
 rename_i O;rcases W with⟨_,L⟩|⟨j,b,g,hg',_⟩
 ·rw[lm L,if_pos rfl]
  rw[h2]at F hd;left;unfold xuY at F;split at F<;>try (cases F;done)
  ·rename_i sz I E
   exact A2 h (J.old (fun I e=>by rw[e]at E;cases E)|>fun e=>by rw[E]at e;exact e) hd F hK
  ·rename_i I E
   exact qA h (J.old (fun I e=>by rw[e]at E;cases E)|>fun e=>by rw[E]at e;exact e) hd F hK
  ·rename_i q E
   exact A3 h (J.old (fun I e=>by rw[e]at E;cases E)|>fun e=>by rw[E]at e;exact e) hd F hK
  ·rename_i z by_ q y E
   exact qu h (J.old (fun I e=>by rw[e]at E;cases E)|>fun e=>by rw[E]at e;exact e) hd F hK
 ·rw[O]at hg';cases hg'
theorem An{ops:Array Oper}{n:Nat}{o:Oper}{i:SI}(h:M C N c a w)(hi:i.ok N=true)(O:ops[n]? =some o)(Z:gS P ops o=some i)(y:D3 c i=some c'){K:LBa}{Q:LAf}
 (hK:∀a w,M C N c' a w->K a w):wpOp P ops Q n K a w:=by
 obtain⟨h1,W,J⟩:=lT Z
 have hd:∀k,i.dst=some k->k<N:=by intro k L;unfold SI.ok at hi;rw[L]at hi;simpa using hi
 unfold wpOp;rw[O];simp only;unfold D3 at y;split at y<;>try (cases y;done)
 rename_i I;rcases J with⟨_,E⟩|⟨j,b,g,hg',_⟩
 ·rw[lm E,if_pos rfl]
  rw[W]at y hd;left;unfold xtt at y;split at y<;>try (cases y;done)
  ·rename_i q F
   exact Ao h (h1.old (fun xs e=>by rw[e]at F;cases F)|>fun e=>by rw[F]at e;exact e) hd y hK
 ·rw[I]at hg';cases hg'
theorem ie(F:gX P call){ops:Array Oper}{n:Nat}{o:Oper}{i:SI}(h:M C N c a w)(hi:i.ok N=true)(ho:ops[n]? =some o)(hr:gS P ops o=some i.er)(y:eB call sg c i=some c'){K:LBa}{Q:LAf}
 (hK:∀a w,M C N c' a w->K a w):wpOp P ops Q n K a w:=by
 obtain⟨Z,J,h3⟩:=lT hr;change tQ P o i.op.er at Z;change i.dst=o.dst at J;change (i.g=none/\o.guard=none\/∃j b g,i.g=some (g,b)/\o.guard=some (j,b)/\(ops[j]?).bind (·.dst)=some g)at h3
 have hd:∀k,i.dst=some k->k<N:=by intro k hk;unfold SI.ok at hi;rw[hk]at hi;simpa using hi
 unfold wpOp;rw[ho];simp only;unfold eB at y;rcases h3 with⟨O,E⟩|⟨j,b,g,O,E,hdg⟩
 ·rw[O]at y
  rw[lm E,if_pos rfl];rw[J]at y hd;exact .inl (uo F h Z hd y hK)
 ·rw[O]at y
  simp only at y;split at y<;>try (cases y;done)
  rotate_left
  ·rename_i W
   cases y;obtain⟨x,s,hM,L⟩:=h;rw[x5 E hdg (K0 hM L W),if_neg (by simp)];rw[J]at hd;rw[J]at hK;exact hK _ _ ⟨x,_,hM.put o.dst yM,L.put hd _⟩
  rename_i t W;have hv:a.tmps[g]? =some (.bool t):=by obtain⟨x,s,hM,L⟩:=h;exact KZ hM L W
  rw[x0 E hdg hv];split at y
  ·rename_i I
   subst I;rw[if_pos (by simp)];rw[J]at y hd;exact .inl (uo F h Z hd y hK)
  ·rename_i I
   cases y;rw[if_neg (by simpa using I)];obtain⟨x,s,hM,L⟩:=h;rw[J]at hd;rw[J]at hK;exact hK _ _ ⟨x,_,hM.put o.dst yM,L.put hd _⟩
theorem kh(y:gX P call){ops:Array Oper}{n:Nat}{o:Oper}{i:SI}(h:M C N c a w)(hi:i.ok N=true)(I:ops[n]? =some o)(E:gS P ops o=some i)(F:eB call sg c i=some c'){K:LBa}{Q:LAf}
 (hK:∀a w,M C N c' a w->K a w):wpOp P ops Q n K a w:=ie y h hi I (by rw[xrT E];exact E) F hK
theorem ix{d:LAa}{g:Nat}{t:Bool}{v:SV}(hd:d≠some g)(h:c.get g= .bool t):(c.put d v).get g= .bool t:=by
 cases d with
 |none=>exact h
 |some k=>rw[iC,if_neg (fun e=>hd (by rw[e]))];exact h
theorem HV{d:LAa}{g:Nat}{u v:SV}(hd:d≠some g)(h:c.get g=u):(c.put d v).get g=u:=by
 cases d with
 |none=>exact h
 |some k=>rw[iC,if_neg (fun e=>hd (by rw[e]))];exact h
theorem kE{g lo hi:Nat}{t:Bool}{l:List (Nat×SV)}(h:fb l g= .bool t):fb (dJ lo hi l) g= .bool t:=by rw[gV,h];rfl
theorem lH{d:LAa}{g:Nat}{t:Bool}{e:pL}(hd:d≠some g)(h:c.get g= .bool t):(c.app d e).get g= .bool t:=by
 have wr:∀(l:List (Nat×aH))(c:CSt),(c.wr l).tm=c.tm:=by
  intro l;induction l with
  |nil=>intro c;rfl
  |cons p r y=>intro c;simp only[CSt.wr];rw[y]
 unfold CSt.app;split
 ·exact ix (c:=⟨_,_,_⟩) hd (kE h)
 ·exact ix (c:=⟨_,_,_⟩) hd (kE h)
 ·refine ix hd ?_
  show fb (c.wr e.wr).tm g=_;rw[wr];exact h
theorem qG{d:LAa}{g:Nat}{t:Bool}{m mt:t8}{q:dV}(hd:d≠some g)(h:c.get g= .bool t):(lf c d m mt q).get g= .bool t:=ix (c:=⟨_,_,_⟩) hd (kE h)
theorem m7{g o:Nat}{t:Bool}{vs:f8}(h:c.get g= .bool t):(c.publish o vs).1.get g= .bool t:=by
 have k:∀obj,fb (mX o obj c.tm) g= .bool t:=fun obj=>by rw[lI];have:fb c.tm g= .bool t:=h;rw[this];rfl
 unfold CSt.publish;split
 ·exact k _
 ·exact k _
 ·exact h
theorem oZ{g:Nat}{t:Bool}:∀{l:t8}{c:CSt}{vs:f8},c.get g= .bool t->(fx c vs l).1.get g= .bool t
 |[],_,_,h=>h
 |o::r,c,vs,h=>by show(fx (c.publish o vs).1 (c.publish o vs).2 r).1.get g=_;exact oZ (m7 h)
theorem HX{sg:Sig}{d:LAa}{g n:Nat}{a_:f8}{t:Bool}(y:jb call sg c d n a_=some c')(hd:d≠some g)(h:c.get g= .bool t):c'.get g= .bool t:=by
 unfold jb at y;generalize ((SV.idsL a_).isEmpty&&sg.own.isEmpty)=b at y;cases b with
 |true=>
  simp only[ld]at y;cases hq:call n (SV.bareL a_) [] 0 with
  |none=>rw[hq]at y;cases y
  |some q=>
   rw[hq]at y;simp only[nR]at y;cases hb:q.bare with
   |true=>rw[hb]at y;cases y;exact ix hd h
   |false=>
    rw[hb]at y;simp only[py]at y;cases hs:q.small with
    |true=>rw[hs]at y;cases y;exact qG hd h
    |false=>rw[hs]at y;cases y
 |false=>
  simp only[ld]at y;have O:=oZ (l:=jP sg.raw 0 a_) (vs:=a_) h;generalize fx c a_ (jP sg.raw 0 a_)=z at y O;obtain⟨c1,L⟩:=z;simp only[kT]at y;generalize lh c1.tk sg.own 50 0 L=z at y;obtain⟨E,F⟩:=z;simp only[pl]at y;generalize eC c1 60 [] (SV.idsL E)=m at y;cases ho:im c1 m with
  |none=>rw[ho]at y;cases y
  |some J=>
   rw[ho]at y;simp only[mI]at y;generalize eU c1.tk (50+F.length) J=z at y;obtain⟨os,I⟩:=z;simp only[pk]at y;generalize (pR (SV.idsL E++gp os) m&&eg m&&eg (cO (F++I))&&decide (m.length<=40)&&m.all fun o=> !inR (d.getD 0) o)=b at y;cases b with
   |false=>cases y
   |true=>
    simp only[pj]at y;cases hq:call n (SV.renL (iy m) id E) (eY (iy m) id os) (F.length+I.length)with
    |none=>rw[hq]at y;cases y
    |some q=>
     rw[hq]at y;simp only[pW]at y;cases hs:q.small with
     |true=>rw[hs]at y;cases y;exact qG hd O
     |false=>rw[hs]at y;cases y
theorem HW{d:LAa}{g:Nat}{z:f8}{b:Nat}{y:Arg}{v:SV}{t:Bool}(E:um c d z b y v=some c')(hd:d≠some g)(h:c.get g= .bool t):c'.get g= .bool t:=by
 unfold um at E;split at E<;>try (cases E;done)
 ·split at E<;>try (cases E;done)
  unfold Zx at E;split at E<;>try (cases E;done)
  split at E<;>try (cases E;done)
  split at E
  ·cases E;exact ix hd h
  ·split at E<;>try (cases E;done)
   cases E;exact lH hd h
 ·split at E<;>try (cases E;done)
  unfold Zw at E;split at E<;>try (cases E;done)
  split at E
  ·cases E;exact ix hd h
  ·split at E<;>try (cases E;done)
   cases E;exact lH hd h
 ·unfold Uj at E
  split at E<;>try (cases E;done)
  split at E<;>try (cases E;done)
  cases E;exact lH hd (kE h)
theorem ZX{d:LAa}{g:Nat}{o:SOp}{t:Bool}(E:opC call sg c d o=some c')(hd:d≠some g)(h:c.get g= .bool t):c'.get g= .bool t:=by
 have e:o5 c d (eJ c d o)=some c'->c'.get g= .bool t:=by
  intro E;cases he:eJ c d o with
  |none=>rw[he]at E;cases E
  |some e=>rw[he]at E;cases E;exact lH hd h
 cases o with
 |call f a_=>
  simp only[opC]at E;split at E<;>try (cases E;done)
  exact HX E hd h
 |appO z b q y=>exact HW E hd h
 |newB F=>
  simp only[opC]at E;unfold pw at E;split at E<;>try (cases E;done)
  cases E;exact lH hd h
 |slid q=>
  simp only[opC]at E;unfold tD at E;split at E<;>try (cases E;done)
  unfold pX at E;split at E<;>try (cases E;done)
  split at E<;>try (cases E;done)
  cases E;exact ix hd (m7 h)
 |_=>exact e E
theorem yV{g:Nat}{b:Bool}{i:SI}(h:i.okG N g b=true):(∀k,i.dst=some k->k<N)/\i.g=some (g,b)/\i.dst≠some g:=by
 simp only[SI.okG,aD,decide_eq_true_eq]at h;obtain⟨⟨E,y⟩,I⟩:=h;refine⟨fun k J=> ?_, ?_,I⟩
 ·unfold SI.ok at E;rw[J]at E;simpa using E
 ·split at y
  ·rename_i L O F
   simp only[aD,decide_eq_true_eq,beq_iff_eq]at y;rw[F,y.1,y.2]
  ·cases y
theorem HE(L:gX P call){ops:Array Oper}{y E:LAd}(hl:kC (gS P ops) ops.toList=some y){Q:LAf}{g:Nat}{b:Bool}{c1:CSt}
 (a7:∀(m n:Nat),n+m=ops.size->E=y.drop n->∀a w,M C N c1 a w->wpOps P ops Q (tC n m) a w):
 ∀(l:LAd)(m n:Nat)(c:CSt)(a:Act)(w:World),n+m=ops.size->l++E=y.drop n->(∀i∈l,i.okG N g b=true)->M C N c a w->c.get g= .bool b->plC call sg l c=some c1->wpOps P ops Q (tC n m) a w:=by
 obtain⟨Z,a1⟩:=fz hl;intro l;induction l with
 |nil=>intro m n c a w hn J _ hM _ F;rw[Uh]at F;cases F;exact a7 m n hn J a w hM
 |cons i l b0=>
  intro m n c a w hn J O hM ht F;obtain⟨g1,g2,g3⟩:=yV (O i (aA ..));simp only[bp]at J
  have I:n<y.length:=by
   rcases bQ n y.length with h|h
   ·exact h
   ·rw[bT h]at J;cases J
  rw[bz I]at J;obtain⟨b3,a8⟩:=mU.inj J;have W:n<ops.toList.length:=by omega
  obtain⟨m',rfl⟩:∃m',m=m'+1:=⟨m-1,by rw[Z,aW]at I;omega⟩;simp only[List.range'_succ];rw[wpOps_cons];rw[plC]at F;cases h1:opC call sg c i.dst i.op with
  |none=>rw[h1,FW]at F;cases F
  |some c2=>
   rw[h1,FV]at F;have b1:eB call sg c i=some c2:=by unfold eB;rw[g2];simp only[ht,if_true];exact h1
   have a6:i.ok N=true:=by
    unfold SI.ok;cases hdd:i.dst with
    |none=>rfl
    |some k=>simpa using g1 k hdd
   refine kh L hM a6 (o:=ops.toList[n]) (by rw[<-db,ac W]) (by rw[b3];exact a1 n W I) b1 ?_;intro a' w' a2;exact b0 m' (n+1) c2 a' w' (by omega) a8 (fun j hj=>O j (aw _ hj)) a2 (ZX h1 g3 ht) F
theorem tX(J:gX P call){ops:Array Oper}{y E:LAd}(hl:kC (gS P ops) ops.toList=some y){Q:LAf}{g:Nat}{b:Bool}{v:SV}(a2:v= .tup []\/∃t,v= .bool t/\t≠b){c1:CSt}
 (a7:∀(m n:Nat),n+m=ops.size->E=y.drop n->∀a w,M C N c1 a w->wpOps P ops Q (tC n m) a w):
 ∀(l:LAd)(m n:Nat)(c:CSt)(a:Act)(w:World),n+m=ops.size->l++E=y.drop n->(∀i∈l,i.okG N g b=true)->M C N c a w->c.get g=v->unL c l=c1->wpOps P ops Q (tC n m) a w:=by
 obtain⟨W,Z⟩:=fz hl;intro l;induction l with
 |nil=>intro m n c a w hn I _ hM _ hs;cases hs;exact a7 m n hn I a w hM
 |cons i l b0=>
  intro m n c a w hn I L hM ht hs;obtain⟨g1,g2,g3⟩:=yV (L i (aA ..));simp only[bp]at I
  have F:n<y.length:=by
   rcases bQ n y.length with h|h
   ·exact h
   ·rw[bT h]at I;cases I
  rw[bz F]at I;obtain⟨b3,a8⟩:=mU.inj I;have O:n<ops.toList.length:=by omega
  obtain⟨m',rfl⟩:∃m',m=m'+1:=⟨m-1,by rw[W,aW]at F;omega⟩;simp only[List.range'_succ];rw[wpOps_cons]
  have b1:eB call (fun _=> {}) c i=some (c.put i.dst (.tup [])):=by
   unfold eB;rw[g2];simp only[ht];rcases a2 with rfl|⟨t,rfl,htb⟩
   ·rfl
   ·simp only[htb,if_false]
  have a6:i.ok N=true:=by
   unfold SI.ok;cases hdd:i.dst with
   |none=>rfl
   |some k=>simpa using g1 k hdd
  refine kh J hM a6 (o:=ops.toList[n]) (by rw[<-db,ac O]) (by rw[b3];exact Z n O F) b1 ?_;intro a' w' a1;exact b0 m' (n+1) _ a' w' (by omega) a8 (fun j hj=>L j (aw _ hj)) a1 (HV g3 ht) hs
theorem A4(a2:gX P call){ops:Array Oper}{y:LAd}(hl:kC (gS P ops) ops.toList=some y){Q:LAf}:
 ∀(l:List RI)(m n:Nat),n+m=ops.size->erL l=y.drop n->l.all (RI.ok N)=true->∀{c:CSt}{a:Act}{w:World},M C N c a w->gw call sg l c=some c'->(∀a w,M C N c' a w->Q .normal a w)->wpOps P ops Q (tC n m) a w:=by
 obtain⟨a6,b0⟩:=fz hl;intro l;induction l with
 |nil=>
  intro m n hn F _ c a w hM E hQ;have h1:y.length<=n:=List.drop_eq_nil_iff.1 F.symm;rw[a6,aW]at h1;have:m=0:=by omega
  subst this;simp only[List.range'_zero,wpOps];rw[FR]at E;cases E;exact hQ _ _ hM
 |cons q r ih=>
  intro m n hn F b4 c a w hM E hQ;rw[List.all_cons,aD]at b4;obtain⟨a1,L⟩:=b4;cases q with
  |dir q=>
   rw[FT]at E;cases hd:tw c q with
   |none=>rw[hd,mq]at E;cases E
   |some c1=>rw[hd,mp,rW]at E;exact ih m n hn F L (qX hM hd) E hQ
  |own i I=>
   rw[FQ]at E;simp only[erL]at F
   have J:n<y.length:=by
    rcases bQ n y.length with h|h
    ·exact h
    ·rw[bT h]at F;cases F
   rw[bz J]at F;obtain⟨a8,a7⟩:=mU.inj F;have Z:n<ops.toList.length:=by omega
   obtain⟨m',rfl⟩:∃m',m=m'+1:=⟨m-1,by rw[a6,aW]at J;omega⟩;simp only[List.range'_succ];rw[wpOps_cons];cases hs:vQ c i with
   |none=>rw[hs,mq]at E;cases E
   |some c1=>rw[hs,mp]at E;refine AZ hM a1 (o:=ops.toList[n]) (by rw[<-db,ac Z]) (by rw[a8];exact b0 n Z J) hs ?_;intro a' w' O;exact ih m' (n+1) (by omega) a7 L (O.kill I) E hQ
  |tks i I=>
   rw[FP]at E;simp only[erL]at F
   have J:n<y.length:=by
    rcases bQ n y.length with h|h
    ·exact h
    ·rw[bT h]at F;cases F
   rw[bz J]at F;obtain⟨a8,a7⟩:=mU.inj F;have Z:n<ops.toList.length:=by omega
   obtain⟨m',rfl⟩:∃m',m=m'+1:=⟨m-1,by rw[a6,aW]at J;omega⟩;simp only[List.range'_succ];rw[wpOps_cons];cases hs:D3 c i with
   |none=>rw[hs,mq]at E;cases E
   |some c1=>rw[hs,mp]at E;refine An hM a1 (o:=ops.toList[n]) (by rw[<-db,ac Z]) (by rw[a8];exact b0 n Z J) hs ?_;intro a' w' O;exact ih m' (n+1) (by omega) a7 L (O.kill I) E hQ
  |op i I=>
   rw[Uk]at E;simp only[erL]at F
   have J:n<y.length:=by
    rcases bQ n y.length with h|h
    ·exact h
    ·rw[bT h]at F;cases F
   rw[bz J]at F;obtain⟨a8,a7⟩:=mU.inj F;have Z:n<ops.toList.length:=by omega
   obtain⟨m',rfl⟩:∃m',m=m'+1:=⟨m-1,by rw[a6,aW]at J;omega⟩;simp only[List.range'_succ];rw[wpOps_cons];cases hs:eB call sg c i with
   |none=>rw[hs,mq]at E;cases E
   |some c1=>rw[hs,mp]at E;refine kh a2 hM a1 (o:=ops.toList[n]) (by rw[<-db,ac Z]) (by rw[a8];exact b0 n Z J) hs ?_;intro a' w' O;exact ih m' (n+1) (by omega) a7 L (O.kill I) E hQ
  |grp g b l I=>
   rw[FS]at E;cases hs:qS call sg b l c (c.get g)with
   |none=>rw[hs,mq]at E;cases E
   |some c1=>
    rw[hs,mp]at E;unfold qS at hs;have b5:=hs;split at hs<;>try (cases hs;done)
    rotate_left
    ·rename_i ht
     have W:∀i∈l,i.okG N g b=true:=by simpa[RI.ok]using a1
     have b1:∀(m n:Nat),n+m=ops.size->erL r=y.drop n->∀a w,M C N c1 a w->wpOps P ops Q (tC n m) a w:=fun m n hn F a w O=>ih m n hn F L (O.kill I) E hQ
     simp only[erL]at F;cases hs;exact tX a2 hl (.inl rfl) b1 l m n c a w hn F W hM ht rfl
    rename_i t ht;have W:∀i∈l,i.okG N g b=true:=by simpa[RI.ok]using a1
    have b1:∀(m n:Nat),n+m=ops.size->erL r=y.drop n->∀a w,M C N c1 a w->wpOps P ops Q (tC n m) a w:=fun m n hn F a w O=>ih m n hn F L (O.kill I) E hQ
    simp only[erL]at F;split at hs
    ·rename_i b3
     exact HE a2 hl b1 l m n c a w hn F W hM (by rw[ht,b3]) hs
    ·rename_i b3
     cases hs;exact tX a2 hl (.inr ⟨t,rfl,b3⟩) b1 l m n c a w hn F W hM ht rfl
end Go.Sy
