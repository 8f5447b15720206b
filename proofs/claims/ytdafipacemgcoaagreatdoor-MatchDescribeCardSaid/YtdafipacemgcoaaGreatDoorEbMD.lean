/- A sound engine for Go code. No condition. -/
import Derived.Test.YtdafipacemgcoaaGreatDoorEaMD
import Derived.LoopN
open Array renaming ext' -> dL, getD_eq_getD_getElem? -> aW, getElem?_append_left -> fV, getElem?_eq_getElem -> cy, getElem?_toList -> cY, length_toList -> aP, replicate -> dT, size_append -> m9
open Bool renaming and_eq_true -> aA, false_eq_true -> aJ, not_eq_true' -> dv
open List renaming Nodup -> vg, Pairwise -> iI, Sublist -> m6, all_cons -> iH, all_eq_true -> aT, cons -> io, cons_append -> bU, contains_eq_mem -> eQ, drop_eq_getElem_cons -> aU, drop_eq_nil_of_le -> bO, filter_cons -> kE, flatten_append -> bY, getD_cons_succ -> bF, getD_cons_zero -> bp, getD_eq_getElem?_getD -> aa, getElem?_append_left -> aY, getElem?_append_right -> bj, getElem?_drop -> bf, getElem?_eq_getElem -> af, getElem?_eq_none -> jZ, getElem?_map -> aR, getElem?_range -> cM, getElem?_set -> eW, getElem?_take -> bv, getElem_mem -> bo, getElem_of_mem -> bl, length_append -> ah, length_cons -> av, length_drop -> aE, length_eq_zero_iff -> bP, length_map -> aQ, length_pos_iff -> ig, length_set -> cw, length_take -> aD, map_append -> dh, map_cons -> aO, mem_append -> ak, mem_cons -> an, mem_cons_of_mem -> aq, mem_cons_self -> ax, mem_map -> aS, mem_map_of_mem -> ie, mem_of_mem_drop -> dQ, mem_of_mem_take -> bL, mem_singleton -> aN, nodup_cons -> ed, pairwise_cons -> bA, pairwise_map -> gu, range -> bS, replicate -> au, size_toArray -> gq, take_append_drop -> fZ, take_length -> bt, take_of_length_le -> cg
open Nat renaming add_assoc -> cH, add_mul -> bD, add_zero -> fm, le_max_right -> wT, le_refl -> aI, le_trans -> pC, lt_or_ge -> bH, min_eq_left -> gK, mod_eq_of_lt -> iG, mul_comm -> dq, mul_le_mul_right -> bB, mul_one -> iF, succ_mul -> dH, zero_add -> bC, zero_mul -> pB
open Go.Op renaming bytesLess -> bI
open Option renaming bind_some -> cQ, getD_some -> ba, ite_none_right_eq_some -> aG, map_eq_some_iff -> ai, map_some -> bm, some -> aw
open Prod renaming fst -> cB, mk -> bn
open Go.Result renaming andThen_ok -> am
open Go.Sem renaming run_bind -> aB, run_pure -> aF
open UInt8 renaming ofNat -> ej
set_option linter.unusedVariables false
set_option linter.unusedSimpArgs false
set_option linter.unnecessarySimpa false
set_option linter.unusedSectionVars false
namespace Go.Sy
variable [bc]
variable {P : Program} {C : Ctx} {x : Sit} {s : St} {a : Act} {w : World}
theorem Yg(p:Nat->Prop)(h:∃n,p n):∃n,p n/\∀m,p m->n<=m:=by
 obtain⟨n,hn⟩:=h;induction n using Nat.strongRecOn with
 |_ n F=>
  by_cases B:∃m,m<n/\p m
  ·obtain⟨m,H,z⟩:=B;exact F m H z
  ·exact⟨n,hn,fun m z=>Nat.le_of_not_lt fun E=>B ⟨m,E,z⟩⟩
def vO(P:Program)(s:St):List ResultVar->Option (Prop×t7)
 |[]=>some (True,[])
 | .tmp t::r=>match vO P s r with
  |some (p,vs)=>some (p,s.get t::vs)
  |none=>none
 | .cell t ty::r=>match fj P ty,pR P ty,vO P s r with
  |some n,some ag,some (p,vs)=>match (if ag||n==1 then iB s n ag (s.get t)else none)with
   |some (q,v)=>some (q/\p,v::vs)
   |none=>none
  |_,_,_=>none
def jn:t7->SV
 |[v]=>v
 |vs=> .tup vs
theorem pO(O:aM C x s a w){t:TypeId}{n:Nat}{E:Bool}{u c:SV}{v:Value}{p:Prop}(hn:fj P t=some n)(B:pR P t=some E)(hu:Rep x u v)(h:(if E||n==1 then iB s n E u else none)=some (p,c))(J:p):
 ∃F r,v= .pointer (some F)/\(loadVar t F).run P w= .ok r w/\Rep x c r:=by
 split at h<;>try (cases h;done)
 rename_i L;obtain⟨b,off,cs,rfl,rfl,I⟩:=lq O hu h J;obtain⟨r,H,z⟩:=ox (P:=P) I hn B L;exact⟨_,r,rfl,H,z⟩
def Rt(tmps:LAc):ResultVar->Sem Value
 | .tmp t=>pure (tmps.getD t undef)
 | .cell a t=>do loadVar t (<-asAddr (tmps.getD a undef))
theorem vN(fn:Func)(tmps:LAc):results fn tmps=(do let vs<-fn.results.mapM (Rt tmps);pure (if h:vs.size=1 then vs[0]else .tuple vs)):=by
 unfold results
 congr 1
theorem pI(Q:aM C x s a w):∀{rs:List ResultVar}{p:Prop}{vs:t7},vO P s rs=some (p,vs)->p->
 ∃us,(rs.mapM (Rt a.tmps)).run P w= .ok us w/\cr x vs us:=by
 intro rs;induction rs with
 |nil=>intro p vs h _;simp only[vO,aw.injEq,bn.injEq]at h;obtain⟨_,rfl⟩:=h;exact⟨[],rfl,rfl,fun i hi=>by simp at hi⟩
 |cons r rs U=>
  intro p vs h O
  have cons:∀{c:SV}{u:Value}{cs:t7}{us:LAb},Rep x c u->cr x cs us->cr x (c::cs) (u::us):=by
   intro c u cs us Z S
   exact⟨by simp[S.1],fun i hi=>by
    cases i with
    |zero=>exact Z
    |succ i=>simpa using S.2 i (by simpa using hi)⟩
  cases r with
  |tmp t=>
   simp only[vO]at h;split at h<;>try (cases h;done)
   rename_i q L F;simp only[aw.injEq,bn.injEq]at h;obtain⟨rfl,rfl⟩:=h;obtain⟨us,z,I⟩:=U F O;refine⟨_, ?_,cons (Q.slot t) I⟩;simp only[List.mapM_cons,Rt,aB,aF,am,z]
  |cell t ty=>
   simp only[vO]at h;split at h<;>try (cases h;done)
   rename_i n ag q L hn J F;split at h<;>try (cases h;done)
   rename_i q' v' hv;simp only[aw.injEq,bn.injEq]at h;obtain⟨rfl,rfl⟩:=h;obtain⟨us,z,I⟩:=U F O.2;obtain⟨W,r,B,H,E⟩:=pO Q hn J (Q.slot t) hv O.1;refine⟨_, ?_,cons E I⟩;have hA:(asAddr (a.tmps.getD t undef)).run P w= .ok W w:=by rw[B];rfl
   simp only[List.mapM_cons,Rt,aB,hA,aF,am,H,z]
end Go.Sy
namespace Go.Sy
variable [bc]
variable {P : Program}
end Go.Sy
namespace Go.Sy
variable [bc]
variable {P : Program} {C : Ctx} {x : Sit} {s : St} {a : Act} {w : World}
def leT(t:Nat)(a b:SV):Prop:=∀(x:Sit)(v:Value),Rep x a v->Rep (x.newT t 0 0 0) b v
theorem leT.lst(t h:Nat)(z:f8):leT t (.lst h z .clip) (.lst h z (.id t)):=fun x v I=>by obtain⟨b,cap,L,_,H,E⟩:=I.lst_inv;obtain⟨J,F,B⟩:=E;exact .dat _ _ (H.tok (.lst h z (.id t)) (.inr ⟨h,z,_,_,rfl,rfl⟩)) ⟨J,F,F,B,.inl rfl⟩
theorem leT.byt(t:Nat)(l:t6):leT t (.byt l .clip) (.byt l (.id t)):=fun x v F=>by obtain⟨b,cap,I,_,E,z⟩:=F.byt_inv;obtain⟨H,B,h⟩:=z;exact .dat _ _ (E.tok (.byt l (.id t)) (.inl ⟨l,_,_,rfl,rfl⟩)) ⟨H,B,B,h,.inl rfl⟩
def leP(o h:Nat)(z:f8)(a b:SV):Prop:=∀(x x':Sit)(v:Value),x'.bk=x.bk->x'.τ=x.τ->(∀b i u,x.G b i=some u->x'.G b i=some u)->
 (∀k,k<z.length*h->∃u,x'.G ((x.bk o).1) k=some u/\cD x'.G ((z.getD (k/h) []).getD (k % h) .undef) u)->Rep x a v->Rep x' b v
theorem leP.psl{o h off n:Nat}{cap:LAa}{z:f8}(hb:off+n<=z.length)(H:∀y∈z,y.length=h):leP o h z (.psl o h off n cap) (.lst h ((z.drop off).take n) .no):=by
 intro x x' v hβ hτ hG U hv;obtain⟨cap,L,_,J,he,W⟩:=hv.psl_inv;rw[he];have E:((z.drop off).take n).length=n:=by simp;omega
 refine .dat _ _ ?_ trivial
 by_cases hn:n=0
 ·subst hn
  refine .lst _ _ _ _ _ _ _ (fun _ _=>undef) E.symm L (fun i hi=>by omega) (fun i j hi=>by omega) (fun i j hi=>by omega)
 ·have I:J=off*h:=by omega
  have F:∀i,i<n->(((z.drop off).take n).getD i [])=z.getD (off+i) []:=fun i hi=>by simp only[aa,bv,if_pos hi,bf]
  have Z:∀i,i<n->(z.getD (off+i) []).length=h:=fun i hi=>by rw[aa,af (by omega)];exact H _ (bo _)
  have S:∀i j,i<n->j<h->off*h+i*h+j<z.length*h:=fun i j hi B=>by have:=bB h (show off+i+1<=z.length by omega);simp only[bD,Nat.one_mul]at this;omega
  have O:∀i j,j<h->(off*h+i*h+j)/h=off+i/\(off*h+i*h+j) % h=j:=fun i j B=>by rw[<-bD,dq,Nat.mul_add_div (by omega),Nat.div_eq_of_lt B,fm];exact⟨rfl,by rw[Nat.mul_add_mod,iG B]⟩
  refine .lst _ _ _ _ _ _ _ (fun i j=>(x'.G ((x.bk o).1) (off*h+i*h+j)).getD undef) E.symm L (fun i hi=>by rw[F i hi];exact Z i hi) (fun i j hi B=> ?_) (fun i j hi B=> ?_)
  ·obtain⟨u,hu,_⟩:=U _ (S i j hi B)
   rw[I,hu];rfl
  ·obtain⟨u,hu,Q⟩:=U _ (S i j hi B)
   rw[hu,F i hi];rw[(O i j B).1,(O i j B).2]at Q;exact Q
end Go.Sy
namespace Go.Sy
variable [bc]
structure CSt where
 tm:List (Nat×SV)
 ob:List (Nat×aC)
 tk:List Nat
abbrev LAe:=Option CSt
def eB:List (Nat×SV)->Nat->SV
 |[],_=> .undef
 |p::r,n=>if p.1=n then p.2 else eB r n
def jm:List (Nat×SV)->Nat->SV->List (Nat×SV)
 |[],n,v=> [(n,v)]
 |p::r,n,v=>if n<p.1 then(n,v)::p::r else if n=p.1 then(n,v)::r else p::jm r n v
def uU:List (Nat×SV)->t8->List (Nat×SV)
 |[],_=> []
 |p::r,l=>if l.contains p.1 then uU r l else p::uU r l
def iC:List (Nat×aC)->Nat->Option aC
 |[],_=>none
 |p::r,n=>if p.1=n then some p.2 else iC r n
def iK:List (Nat×aC)->Nat->aC->List (Nat×aC)
 |[],n,v=> [(n,v)]
 |p::r,n,v=>if n<p.1 then(n,v)::p::r else if n=p.1 then(n,v)::r else p::iK r n v
def xds:List (Nat×aC)->Nat->List (Nat×aC)
 |[],_=> []
 |p::r,n=>if p.1=n then xds r n else p::xds r n
def mb:t8->Nat->t8
 |[],n=> [n]
 |p::r,n=>if n<p then n::p::r else if n=p then p::r else p::mb r n
def da(lo hi:Nat):List (Nat×SV)->List (Nat×SV)
 |[]=> []
 |p::r=>(p.1,p.2.purge lo hi)::da lo hi r
def CSt.get(c:CSt)(n:Nat):SV:=eB c.tm n
def CSt.ev(c:CSt):Arg->SV
 | .t n=>c.get n
 | .c v=>v
 | .f g=> .fn g [] []
def evL(c:CSt):List Arg->t7
 |[]=> []
 |a::r=>c.ev a::evL c r
def CSt.put(c:CSt)(d:LAa)(v:SV):CSt:=
 match d with
 |some d=>⟨jm c.tm d v,c.ob,c.tk⟩
 |none=>c
def CSt.look(c:CSt)(o:Nat):Option aC:=iC c.ob o
def CSt.purge(c:CSt)(lo hi:Nat):CSt:=⟨da lo hi c.tm,bz lo hi c.ob,co lo hi c.tk⟩
def CSt.kill(c:CSt)(l:t8):CSt:=
 match l with
 |[]=>c
 |l=>⟨uU c.tm l,c.ob,c.tk⟩
def gd{α:Type}(p:Prop)[Decidable p](v:α):Option α:=if p then some v else none
def wq(op:BinOp)(k:IntKind)(a b:Int):Option SV:=
 match op with
 | .add=>some (.int k (k.wrap (a+b)))
 | .sub=>some (.int k (k.wrap (a-b)))
 | .mul=>some (.int k (k.wrap (a*b)))
 | .quo=>gd (b≠0) (.int k (k.wrap (a.tdiv b)))
 | .rem=>gd (b≠0) (.int k (a.tmod b))
 | .and=>some (.int k (bx .and k a b))
 | .or=>some (.int k (bx .or k a b))
 | .xor=>some (.int k (bx .xor k a b))
 | .andNot=>some (.int k (bx .andNot k a b))
 | .shl=>gd (0<=b) (.int k (k.wrap (a*2^(min b.toNat k.bits))))
 | .shr=>gd (0<=b) (.int k (a.fdiv (2^(min b.toNat k.bits))))
 | .eql=>some (.bool (decide (a=b)))
 | .neq=>some (.bool (decide (a≠b)))
 | .lss=>some (.bool (decide (a<b)))
 | .leq=>some (.bool (decide (a<=b)))
 | .gtr=>some (.bool (decide (b<a)))
 | .geq=>some (.bool (decide (b<=a)))
def wW(op:BinOp)(a b:UInt8):Option SV:=
 match op with
 | .add=>some (.u8 (a+b))
 | .sub=>some (.u8 (a-b))
 | .mul=>some (.u8 (a*b))
 | .quo=>gd (b≠0) (.u8 (a/b))
 | .rem=>gd (b≠0) (.u8 (a % b))
 | .and=>some (.u8 (a&&&b))
 | .or=>some (.u8 (a|||b))
 | .xor=>some (.u8 (a^^^b))
 | .andNot=>some (.u8 (a&&& ~~~b))
 | .eql=>some (.bool (decide (a=b)))
 | .neq=>some (.bool (decide (a≠b)))
 | .lss=>some (.bool (decide (a<b)))
 | .leq=>some (.bool (decide (a<=b)))
 | .gtr=>some (.bool (decide (b<a)))
 | .geq=>some (.bool (decide (b<=a)))
 |_=>none
def M2(op:BinOp)(a:UInt8)(b:Int):Option SV:=
 match op with
 | .shl=>gd (0<=b) (.u8 (ej (a.toNat*2^(min b.toNat 8))))
 | .shr=>gd (0<=b) (.u8 (ej (a.toNat/2^(min b.toNat 8))))
 |_=>none
def M5(op:BinOp)(a b:t6):Option SV:=
 match op with
 | .add=>gd (a.length+b.length<=9223372036854775807) (.str (a++b))
 | .eql=>some (.bool (decide (a=b)))
 | .neq=>some (.bool (decide (a≠b)))
 | .lss=>some (.bool (bI a b))
 | .leq=>some (.bool (bI a b||decide (a=b)))
 | .gtr=>some (.bool (!(bI a b||decide (a=b))))
 | .geq=>some (.bool (!bI a b))
 |_=>none
def mg:BinOp->Bool
 | .shl| .shr=>true
 |_=>false
def Ep(op:BinOp):SV->SV->Option SV
 | .int k a,.int k' b=>if mg op=true\/k=k' then wq op k a b else none
 | .u8 a,.int _ b=>M2 op a b
 | .u8 a,.u8 b=>wW op a b
 | .str a,.str b=>M5 op a b
 |_,_=>none
def lU(c:CSt)(n:Nat)(h:Bool):SV->Option SV
 | .pp cs=>gd (n<=cs.length) (du h n (cs.map SV.data))
 | .ptr o off=>match c.look o with
  |some (.rc cs)=>gd (off+n<=cs.length) (du h n (cs.drop off))
  |some (.arr _ xs)=>gd (off=0/\n<=xs.flatten.length) (du h n (xs.flatten.map SV.data))
  |some (.bar l)=>gd (off=0/\n<=l.length) (du h n (l.map .u8))
  |none=>none
 | .ap o z i j=>match c.look o with
  |some (.arr sz' xs)=>gd (z=sz'/\i<xs.length/\j+n<=z) (du h n (((xs.getD i []).drop j).map SV.data))
  |some (.bar l)=>gd (z=1/\j=0/\n=1/\i<l.length) (du h n [.u8 (l.getD i 0)])
  |_=>none
 |_=>none
def ka(c:CSt)(x:Option Arg)(h:Int):Option Int:=
 match x with
 |none=>some h
 |some a=>(c.ev a).num
def nF(c:CSt)(B:Nat)(x:SV)(lo hi z:Option Arg):Option SV:=
 match x with
 | .byt l t=>
  match ka c lo 0,ka c hi l.length,ka c z l.length with
  |some a,some b,some m=>gd (0<=a/\a<=b/\b<=m/\m<=l.length/\B=1/\(z.isSome=true->b=m)) (.byt ((l.take b.toNat).drop a.toNat) (lA t hi.isNone z.isSome))
  |_,_,_=>none
 | .lst h l t=>
  match ka c lo 0,ka c hi l.length,ka c z l.length with
  |some a,some b,some m=>gd (0<=a/\a<=b/\b<=m/\m<=l.length/\B=h/\(z.isSome=true->b=m)) (.lst B ((l.take b.toNat).drop a.toNat) (lA t hi.isNone z.isSome))
  |_,_,_=>none
 | .psl o h off n none=>
  match ka c lo 0,ka c hi n,z with
  |some a,some b,none=>gd (0<=a/\a<=b/\b<=n/\B=h) (.psl o B (off+a.toNat) (b.toNat-a.toNat) none)
  |_,_,_=>none
 | .psl o h off n (some cap)=>
  match ka c lo 0,ka c hi n,ka c z cap with
  |some a,some b,some m=>gd (0<=a/\a<=b/\b<=m/\m<=cap/\B=h) (.psl o B (off+a.toNat) (b.toNat-a.toNat) (some (m.toNat-a.toNat)))
  |_,_,_=>none
 |_=>none
def dJ(c:CSt):SV->Option t6
 | .byt l _=>some l
 | .str l=>some l
 | .psl o h off n _=>match c.look o with
  |some (.bar l)=>gd (h=1/\off+n<=l.length) ((l.drop off).take n)
  |_=>none
 |_=>none
def fB(c:CSt)(B:Nat):SV->Option f8
 | .lst h z _=>gd (B=h) z
 | .psl o h off n _=>match c.look o with
  |some (.arr sz'' z)=>gd (B=h/\B=sz''/\off+n<=z.length) ((z.drop off).take n)
  |_=>none
 |_=>none
def psC(c:CSt):List (Nat×Nat×Arg)->List (Nat×Nat×SV)
 |[]=> []
 |(o,n,x)::r=>(o,n,c.ev x)::psC c r
def ik(t:Bool)(a b:SV):SV:=if t=true then a else b
def cG(c:CSt):SOp->Option SV
 | .mov x=>some (c.ev x)
 | .build z J=>(iE z (psC c J)).map .agg
 | .lit h B=>(rows h (evL c B)).map fun r=> .lst h r .clip
 | .litB B=>(toB (evL c B)).map fun r=> .byt r .clip
 | .load n E a=>lU c n E (c.ev a)
 | .nchk x=>match c.ev x with
  | .ptr o off=>some (.ptr o off)
  | .ap o h i j=>some (.ap o h i j)
  | .pp cs=>some (.pp cs)
  | .fn f a b=>some (.fn f a b)
  |_=>none
 | .bin op x y=>Ep op (c.ev x) (c.ev y)
 | .beq F x y=>match c.ev x,c.ev y with
  | .bool a,.bool b=>some (.bool (if F then decide (a≠b)else decide (a=b)))
  |_,_=>none
 | .eqS F I x y=>match c.ev x,c.ev y with
  | .agg cs,.agg ds=>(gF I cs ds).map fun b=> .bool (if F then !b else b)
  |_,_=>none
 | .un op x=>vh op (c.ev x)
 | .toInt k x=>g8 k (c.ev x)
 | .toStr x=>match c.ev x with| .str l=>some (.str l)|_=>none
 | .slid _=>none
 | .newB _=>none
 | .isni F x=>match c.ev x with| .nili=>some (.bool (!F))|_=>none
 | .s2b x=>match c.ev x with| .str l=>some (.byt l .no)|_=>none
 | .b2s x=>match c.ev x with
  | .str _=>none
  |v=>(dJ c v).map .str
 | .mkfn f a b=>some (.fn f (evL c a) (evL c b))
 | .slcS x lo hi=>match c.ev x with
  | .str l=>match ka c lo 0,ka c hi l.length with
   |some a,some b=>gd (0<=a/\a<=b/\b<=l.length) (.str ((l.take b.toNat).drop a.toNat))
   |_,_=>none
  |_=>none
 | .slcL h x lo hi H=>nF c h (c.ev x) lo hi H
 | .slcA len h x lo hi H=>match c.ev x with
  | .ptr o off=>if off=0 then nF c h (.psl o h 0 len (some len)) lo hi H else none
  |_=>none
 | .faddr off x=>match c.ev x with
  | .ptr o k=>some (.ptr o (k+off))
  | .ap o h i j=>some (.ap o h i (j+off))
  | .pp cs=>some (.pp (cs.drop off))
  |_=>none
 | .fld off n E x=>match c.ev x with
  | .agg cs=>gd (off+n<=cs.length) (du E n (cs.drop off))
  |_=>none
 | .iaddrL h x i=>match c.ev x,(c.ev i).num with
  | .byt l _,some n=>gd (0<=n/\n<l.length/\h=1) (.pp [.u8 (l.getD n.toNat 0)])
  | .lst sz' B _,some n=>gd (0<=n/\n<B.length/\h=sz') (.pp (B.getD n.toNat []))
  | .psl o sz' off k _,some n=>gd (0<=n/\n<k/\h=sz') (.ap o h (off+n.toNat) 0)
  |_,_=>none
 | .iaddrA len h x i=>match c.ev x,(c.ev i).num with
  | .ptr o off,some n=>match c.look o with
   |some (.rc _)=>gd (0<=n/\n<len) (.ptr o (off+n.toNat*h))
   |some _=>gd (off=0/\0<=n/\n<len) (.ap o h n.toNat 0)
   |none=>none
  | .pp cs,some n=>gd (0<=n/\n<len/\cs.length=len*h) (.pp (cs.drop (n.toNat*h)))
  |_,_=>none
 | .idxA len h E x i=>match c.ev x,(c.ev i).num with
  | .agg cs,some n=>gd (0<=n/\n<len/\cs.length=len*h) (du E h (cs.drop (n.toNat*h)))
  |_,_=>none
 | .idxS x i=>match c.ev x,(c.ev i).num with
  | .str l,some n=>gd (0<=n/\n<l.length) (.u8 (l.getD n.toNat 0))
  |_,_=>none
 | .ext x i=>match c.ev x with
  | .tup vs=>gd (i<vs.length) (vs.getD i .undef)
  |_=>none
 | .len b x=>(jF b (c.ev x)).map fun n=> .int .i64 (n:Nat)
 | .lenC n=>some (.int .i64 n)
 | .cap x=>match c.ev x with
  | .psl _ _ _ _ (some m)=>some (.int .i64 m)
  | .byt l t=>if t= .clip then some (.int .i64 l.length)else none
  | .lst _ B t=>if t= .clip then some (.int .i64 B.length)else none
  |_=>none
 | .mini x y=>match c.ev x,c.ev y with
  | .int k a,.int k' b=>if k=k' then some (.int k (if b<a then b else a))else none
  |_,_=>none
 | .maxi x y=>match c.ev x,c.ev y with
  | .int k a,.int k' b=>if k=k' then some (.int k (if a<b then b else a))else none
  |_,_=>none
 |_=>none
structure nK where
 val:SV
 wr:List (Nat×aC):=[]
 new:Option aC:=none
 eat:Tok:= .no
 tok:Bool:=false
def Arg.isT:Arg->Bool
 | .t _=>true
 |_=>false
def aC.wf:aC->Bool
 | .arr h z=>z.all fun x=>decide (x.length=h)
 |_=>true
def kH(c:CSt)(n:Nat)(v:t7):SV->Option nK
 | .ptr o off=>match c.look o with
  |some (.rc cs)=>gd (off+n<=cs.length/\v.length=n/\v.all SV.one=true) {val:= .undef,wr:=[(o,.rc (setCells cs off v))]}
  |some (.arr h xs)=>gd (off=0/\n=xs.length*h/\v.length=n/\v.all SV.isData=true) {val:= .undef,wr:=[(o,.arr h (jw h xs.length (v.map SV.data)))]}
  |some (.bar l)=>match toB v with
   |some z=>gd (off=0/\n=l.length/\z.length=n) {val:= .undef,wr:=[(o,.bar z)]}
   |none=>none
  |_=>none
 | .ap o h i j=>match c.look o with
  |some (.arr sz' xs)=>gd (h=sz'/\i<xs.length/\j+n<=h/\v.length=n/\v.all SV.isData=true) {val:= .undef,wr:=[(o,.arr sz' (gS h xs i j n (v.map SV.data)))]}
  |some (.bar l)=>match v with
   |[.u8 b]=>gd (h=1/\j=0/\n=1/\i<l.length) {val:= .undef,wr:=[(o,.bar (l.set i b))]}
   |_=>none
  |_=>none
 |_=>none
def Tok.readyC(c:CSt):Tok->Bool
 | .no=>false
 | .clip=>true
 | .id t=>c.tk.contains t
def dM(c:CSt)(d:LAa):SOp->Option nK
 | .new o=>match d with
  |some d=>gd (o.wf=true) {val:= .ptr (d+100) 0,new:=some o}
  |none=>none
 | .box x=>match d with
  |some d=>some {val:= .ptr (d+100) 0,new:=some (.rc (c.ev x).cells)}
  |none=>none
 | .mk z bytes n m=>match d,c.ev n,c.ev m with
  |some d,.int _ n,.int _ m=>gd (0<=n/\n<=m/\bytes*m<=140737488355328/\m<=9223372036854775807) {val:= .psl (d+100) z.length 0 n.toNat (some m.toNat),new:=some (.arr z.length (au m.toNat z))}
  |_,_,_=>none
 | .mkB n m=>match d,c.ev n,c.ev m with
  |some d,.int _ n,.int _ m=>gd (0<=n/\n<=m/\m<=140737488355328) {val:= .psl (d+100) 1 0 n.toNat (some m.toNat),new:=some (.bar (au m.toNat 0))}
  |_,_,_=>none
 | .store n a x=>if(c.ev x).isDef=true then kH c n (c.ev x).cells (c.ev a)else none
 | .app z bytes x y=>match d with
  |some d=>match c.ev x with
   | .byt l t=>(dJ c (c.ev y)).bind fun B=>gd (z.length=1/\bytes=1/\t.readyC c=true/\l.length+B.length<=140737488355328) {val:= .byt (l++B) (.id (d+100)),eat:=t,tok:=true}
   | .lst h l t=>(fB c z.length (c.ev y)).bind fun B=>gd (z.length=h/\t.readyC c=true/\(l.length+B.length)*bytes<=140737488355328) {val:= .lst z.length (l++B) (.id (d+100)),eat:=t,tok:=true}
   |_=>none
  |none=>none
 | .clr z x=>match c.ev x with
  | .psl o h off n _=>match c.look o with
   |some (.arr sz'' E)=>gd (0<n/\z.length=h/\z.length=sz''/\off+n<=E.length) {val:= .tup [],wr:=[(o,.arr z.length (E.take off++au n z++E.drop (off+n)))]}
   |_=>none
  |_=>none
 | .cpy F x y=>match c.ev x with
  | .psl o h off n _=>match c.look o with
   |some (.bar l)=>(dJ c (c.ev y)).bind fun B=>gd (F=1/\h=1/\off+n<=l.length) {val:= .int .i64 (min B.length n:Nat),wr:=[(o,.bar (l.take off++B.take n++l.drop (off+(B.take n).length)))]}
   |some (.arr sz'' E)=>(fB c F (c.ev y)).bind fun B=>gd (y.isT=true/\F=h/\F=sz''/\off+n<=E.length) {val:= .int .i64 (min B.length n:Nat),wr:=[(o,.arr F (E.take off++B.take n++E.drop (off+(B.take n).length)))]}
   |_=>none
  |_=>none
 | .pick k a b=>match c.ev k with
  | .bool t=>some {val:=ik t (c.ev a) (c.ev b)}
  |_=>none
 | .call _ _=>none
 | .isnil H x=>match c.ev x with
  | .byt l _=>gd (l≠ []) {val:= .bool H}
  | .lst _ E _=>gd (E≠ []) {val:= .bool H}
  | .psl _ _ _ _ _=>some {val:= .bool H}
  |_=>none
 |so=>match cG c so with
  |some v=>some {val:=v}
  |none=>none
def CSt.wr(c:CSt):List (Nat×aC)->CSt
 |[]=>c
 |p::r=>CSt.wr ⟨c.tm,iK c.ob p.1 p.2,c.tk⟩ r
def CSt.app(c:CSt)(d:LAa)(e:nK):CSt:=
 match e.new,e.tok with
 |some o,_=>CSt.put ⟨da (d.getD 0+100) (d.getD 0+101) c.tm,iK (bz (d.getD 0+100) (d.getD 0+101) c.ob) (d.getD 0+100) (o.purge (d.getD 0+100) (d.getD 0+101)),co (d.getD 0+100) (d.getD 0+101) c.tk⟩ d e.val
 |none,true=>CSt.put ⟨da (d.getD 0+100) (d.getD 0+101) c.tm,bz (d.getD 0+100) (d.getD 0+101) c.ob,mb (co (d.getD 0+100) (d.getD 0+101) (e.eat.eat c.tk)) (d.getD 0+100)⟩ d e.val
 |none,false=>(c.wr e.wr).put d e.val
end Go.Sy
namespace Go.Sy
variable [bc]
mutual
def SV.bare:SV->SV
 | .byt l _=> .byt l .no
 | .lst h z _=> .lst h z .no
 | .agg cs=> .agg (SV.bareL cs)
 | .tup cs=> .tup (SV.bareL cs)
 | .fn f a b=> .fn f (SV.bareL a) (SV.bareL b)
 |v=>v
def SV.bareL:t7->t7
 |[]=> []
 |v::r=>v.bare::SV.bareL r
end
def vZ(obj:aC)(h off n:Nat)(cap:LAa):SV:=
 match obj with
 | .arr z B=>if z=h/\off+n<=B.length then .lst h ((B.drop off).take n) (if cap=some n then .clip else .no)else .undef
 | .bar l=>if h=1/\off+n<=l.length then .byt ((l.drop off).take n) (if cap=some n then .clip else .no)else .undef
 | .rc _=> .undef
mutual
def SV.pub(o:Nat)(obj:aC):SV->SV
 | .psl h z off n cap=>if h=o then vZ obj z off n cap else .psl h z off n cap
 | .ptr h off=>if h=o then .undef else .ptr h off
 | .ap h z i j=>if h=o then .undef else .ap h z i j
 | .agg cs=> .agg (SV.pubL o obj cs)
 | .tup cs=> .tup (SV.pubL o obj cs)
 | .fn f a b=> .fn f (SV.pubL o obj a) (SV.pubL o obj b)
 |v=>v
def SV.pubL(o:Nat)(obj:aC):t7->t7
 |[]=> []
 |v::r=>v.pub o obj::SV.pubL o obj r
end
def ln(o:Nat)(obj:aC):List (Nat×SV)->List (Nat×SV)
 |[]=> []
 |p::r=>(p.1,p.2.pub o obj)::ln o obj r
def nl(o:Nat)(obj:aC):aC->aC
 | .rc cs=> .rc (SV.pubL o obj cs)
 |ob=>ob
def kN(o:Nat)(obj:aC):List (Nat×aC)->List (Nat×aC)
 |[]=> []
 |p::r=>if p.1=o then kN o obj r else(p.1,nl o obj p.2)::kN o obj r
def CSt.publish(c:CSt)(o:Nat)(vs:t7):CSt×t7:=
 match c.look o with
 |some (.arr sz xs)=>(⟨ln o (.arr sz xs) c.tm,kN o (.arr sz xs) c.ob,c.tk⟩,SV.pubL o (.arr sz xs) vs)
 |some (.bar l)=>(⟨ln o (.bar l) c.tm,kN o (.bar l) c.ob,c.tk⟩,SV.pubL o (.bar l) vs)
 |_=>(c,vs)
def gL:SV->t8
 | .psl o _ _ _ _=> [o]
 |_=> []
def sX:t7->t8
 |[]=> []
 |v::r=>gL v++sX r
def l8(raw:t8)(i:Nat):SV->t8
 | .psl o _ _ _ _=>if raw.contains i=true then []else [o]
 | .agg cs=>if raw.contains i=true then []else sX cs
 |_=> []
def iP(raw:t8):Nat->t7->t8
 |_,[]=> []
 |i,v::r=>l8 raw i v++iP raw (i+1) r
def eL(c:CSt)(vs:t7):t8->CSt×t7
 |[]=>(c,vs)
 |o::r=>eL (c.publish o vs).1 (c.publish o vs).2 r
def Tok.kc:Tok->Bool->Tok
 | .clip,b=>if b=true then .clip else .no
 | .no,_=> .no
 | .id _,_=> .no
def SV.kclip:SV->SV
 | .lst z h t=> .lst z h (t.kc h.isEmpty)
 | .byt l t=> .byt l (t.kc l.isEmpty)
 |v=>v.bare
def jM(tk:t8)(j:Nat):SV->SV×List LAa
 | .agg cs=>(.agg (cs.map SV.kclip),[])
 | .byt l .no=>(.byt l .no,[])
 | .byt l .clip=>(.byt l (.id j),[none])
 | .byt l (.id t)=>if tk.contains t=true then(.byt l (.id j),[some t])else(.byt l .no,[])
 | .lst sz xs .no=>(.lst sz xs .no,[])
 | .lst sz xs .clip=>(.lst sz xs (.id j),[none])
 | .lst sz xs (.id t)=>if tk.contains t=true then(.lst sz xs (.id j),[some t])else(.lst sz xs .no,[])
 |v=>(v.bare,[])
def sU(j h:Nat)(z:f8):Bool->SV×List LAa
 |true=>(.lst h z .clip,[])
 |false=>(.lst h z (.id j),[none])
def sT(tk:t8)(j z:Nat)(h:f8):Tok->SV×List LAa
 | .clip=>sU j z h h.isEmpty
 | .no=>jM tk j (.lst z h .no)
 | .id t=>jM tk j (.lst z h (.id t))
def qp(tk:t8)(j:Nat):SV->SV×List LAa
 | .lst h z t=>sT tk j h z t
 |v=>jM tk j v
def jN(tk:t8)(own:t8):Nat->Nat->t7->t7×List LAa
 |_,_,[]=>([],[])
 |j,i,v::r=>
  if own.contains i=true then
   ((qp tk j v).1::(jN tk own (j+(qp tk j v).2.length) (i+1) r).1,(qp tk j v).2++(jN tk own (j+(qp tk j v).2.length) (i+1) r).2)
  else(v.bare::(jN tk own j (i+1) r).1,(jN tk own j (i+1) r).2)
def rG(tk:t8):Nat->t7->t7×List LAa
 |_,[]=>([],[])
 |j,v::r=>((jM tk j v).1::(rG tk (j+(jM tk j v).2.length) r).1,(jM tk j v).2++(rG tk (j+(jM tk j v).2.length) r).2)
def jB(tk:t8)(j:Nat):aC->aC×List LAa
 | .rc cs=>(.rc (rG tk j cs).1,(rG tk j cs).2)
 |o=>(o,[])
def dV(tk:t8):Nat->List aC->List aC×List LAa
 |_,[]=>([],[])
 |j,v::r=>((jB tk j v).1::(dV tk (j+(jB tk j v).2.length) r).1,(jB tk j v).2++(dV tk (j+(jB tk j v).2.length) r).2)
def cn:List LAa->t8
 |[]=> []
 |none::r=>cn r
 |some t::r=>t::cn r
def dC(c:CSt):Nat->t8->t8->t8
 |0,acc,_=>acc
 |_+1,acc,[]=>acc
 |
  f+1,acc,o::t=>if acc.contains o=true then dC c f acc t else
  match c.look o with
  |some ob=>dC c f (acc++ [o]) (t++ob.ids)
  |none=>dC c f acc t
def gv(c:CSt):t8->Option (List aC)
 |[]=>some []
 |o::r=>match c.look o,gv c r with
  |some ob,some l=>some (ob::l)
  |_,_=>none
def gD:t8->Nat->Nat
 |[],_=>0
 |p::r,o=>if p=o then 0 else gD r o+1
def fy:List aC->t8
 |[]=> []
 |o::r=>o.ids++fy r
def dt:t8->Bool
 |[]=>true
 |a::r=> !r.contains a&&dt r
def nR(a b:t8):Bool:=a.all b.contains
def ee(mo mt:Nat->Nat):List aC->List aC
 |[]=> []
 |o::r=>o.ren mo mt::ee mo mt r
structure dY where
 r:SV
 os:List (Nat×aC)
 tk:List Nat
structure Sig where
 own:List Nat:=[]
 raw:List Nat:=[]
def qc(ob:List (Nat×aC)):List (Nat×aC)->List (Nat×aC)
 |[]=>ob
 |p::r=>qc (iK ob p.1 p.2) r
def qd(tk:t8):t8->t8
 |[]=>tk
 |t::r=>qd (mb tk t) r
def l4(l:t8):t8->t8
 |[]=> []
 |t::r=>if l.contains t=true then l4 l r else t::l4 l r
def p8(d:Nat):t8->t8
 |[]=> []
 |t::r=>jy d t::p8 d r
def dY.small(q:dY):Bool:=q.os.all (fun p=>decide (p.1<1000)&&p.2.ids.all (fun k=>decide (k<1000))&&p.2.toks.all (fun k=>decide (k<1000)))&&q.r.ids.all (fun k=>decide (k<1000))&&q.r.toks.all (fun k=>decide (k<1000))&&q.tk.all (fun k=>decide (k<1000))
def jH(c:CSt)(d:LAa)(m mt:t8)(q:dY):CSt:=
 CSt.put ⟨da ((d.getD 0+1)*1000) ((d.getD 0+2)*1000) c.tm,
  qc (fb m (bz ((d.getD 0+1)*1000) ((d.getD 0+2)*1000) c.ob)) (nZ (d.getD 0) m q.os),
  qd (l4 mt (co ((d.getD 0+1)*1000) ((d.getD 0+2)*1000) c.tk)) (p8 (d.getD 0) q.tk)⟩ d (q.r.ren (ij (d.getD 0) m) (jy (d.getD 0)))
abbrev cV:=Nat->t7->List aC->Nat->Option dY
def dY.bare(q:dY):Bool:=q.os.isEmpty&&q.tk.isEmpty&&q.r.ids.isEmpty&&q.r.toks.isEmpty
def wz(c:CSt)(d:LAa)(q:dY):Bool->LAe
 |true=>some (jH c d [] [] q)
 |false=>none
def nq(c:CSt)(d:LAa)(q:dY):Bool->LAe
 |true=>some (c.put d q.r)
 |false=>wz c d q q.small
def lY(c:CSt)(d:LAa):Option dY->LAe
 |some q=>nq c d q q.bare
 |none=>none
def vw(c:CSt)(d:LAa)(m mt:t8)(q:dY):Bool->LAe
 |true=>some (jH c d m mt q)
 |false=>none
def nW(c:CSt)(d:LAa)(m mt:t8):Option dY->LAe
 |some q=>vw c d m mt q q.small
 |none=>none
def nb(call:cV)(c:CSt)(d:LAa)(g:Nat)(a_:t7)(z:List LAa)(m:t8)(os:List aC)(h:List LAa):Bool->LAe
 |true=>nW c d m (cn (z++h)) (call g (SV.renL (gD m) id a_) (ee (gD m) id os) (z.length+h.length))
 |false=>none
def nf(call:cV)(c:CSt)(d:LAa)(g:Nat)(a_:t7)(h:List LAa)(m:t8):List aC×List LAa->LAe
 |(os,mt2)=>nb call c d g a_ h m os mt2 (nR (SV.idsL a_++fy os) m&&dt m&&dt (cn (h++mt2))&&decide (m.length<=40)&&m.all fun o=> !inR (d.getD 0) o)
def kY(call:cV)(c:CSt)(d:LAa)(g:Nat)(a_:t7)(h:List LAa)(m:t8):Option (List aC)->LAe
 |some os=>nf call c d g a_ h m (dV c.tk (50+h.length) os)
 |none=>none
def ng(call:cV)(c:CSt)(d:LAa)(g:Nat):t7×List LAa->LAe
 |(a_,mt1)=>kY call c d g a_ mt1 (dC c 60 [] (SV.idsL a_)) (gv c (dC c 60 [] (SV.idsL a_)))
def jC(call:cV)(sg:Sig)(d:LAa)(g:Nat):CSt×t7->LAe
 |(c,a_)=>ng call c d g (jN c.tk sg.own 50 0 a_)
def jG(call:cV)(sg:Sig)(c:CSt)(d:LAa)(g:Nat)(a_:t7):Bool->LAe
 |true=>lY c d (call g (SV.bareL a_) [] 0)
 |false=>jC call sg d g (eL c a_ (iP sg.raw 0 a_))
def ib(call:cV)(sg:Sig)(c:CSt)(d:LAa)(g:Nat)(a_:t7):LAe:=
 jG call sg c d g a_ ((SV.idsL a_).isEmpty&&sg.own.isEmpty)
inductive Dir where
 |kill (l:List Nat)
 |gc (l:List Nat)
 |gcr (lo hi:Nat)
 |pub (n:Nat)
 |pubo (o:Nat)
 |tok (n id:Nat)
 |obj (n id:Nat)
inductive RI where
 |op (i:SI) (dead:List Nat)
 |grp (g:Nat) (b:Bool) (l:List SI) (dead:List Nat)
 |own (i:SI) (dead:List Nat)
 |tks (i:SI) (dead:List Nat)
 |dir (d:Dir)
structure FI where
 n:Nat
 q:Bool
 i:SI
inductive RC where
 |skip
 |ops (l:List RI)
 |flt (b ds:List Nat) (l:List FI) (dead:List Nat)
 |fla (b ds:List Nat) (l:List FI) (ps:List (List Nat)) (dead:List Nat)
 |seq (a b:RC)
 |cond (c:Arg) (a b:RC)
 |block (id:Nat) (b:RC)
 |loop (b:RC)
 |exit (id:Nat)
 |ret
 |pre (ds:List Dir) (a:RC)
 |post (a:RC) (ds:List Dir)
 |bad
def erL:List RI->LAd
 |[]=> []
 | .op i _::r=>i::erL r
 | .grp _ _ l _::r=>l++erL r
 | .own i _::r=>i::erL r
 | .tks i _::r=>i::erL r
 | .dir _::r=>erL r
def SOp.er:SOp->SOp
 | .appO z b x y=> .app z b x y
 |o=>o
def SI.er(i:SI):SI:=⟨i.dst,i.g,i.op.er⟩
def Ef:List FI->Nat->SI
 |[],_=>⟨none,none,.lenC 0⟩
 |f::r,k=>if f.n=k then f.i.er else Ef r k
def unF(l:List FI):LAd:=(bS l.length).map (Ef l)
def RC.er:RC->fG
 | .skip=> .skip
 | .ops l=> .ops (erL l)
 | .flt b h l _=> .drw b h (unF l)
 | .fla b h l _ _=> .drw b h (unF l)
 | .seq a b=> .seq a.er b.er
 | .cond c a b=> .cond c a.er b.er
 | .block id b=> .block id b.er
 | .loop b=> .loop b.er
 | .exit id=> .exit id
 | .ret=> .ret
 | .pre _ a=>a.er
 | .post a _=>a.er
 | .bad=> .bad
def gcC(c:CSt):t8->CSt
 |[]=>c
 |o::r=>gcC (c.purge o (o+1)) r
def D1(c:CSt)(n id o:Nat)(obj:aC)(v:SV):CSt:=
 ⟨jm (da id (id+1) (ln o obj c.tm)) n v,bz id (id+1) (kN o obj c.ob),mb (co id (id+1) c.tk) id⟩
def Oh(c:CSt)(n id o h off k cp:Nat):Option aC->LAe
 |some (.bar l)=>if h=1/\off+cp<=l.length/\k<=cp then some (D1 c n id o (.bar (l.take (off+k))) (.byt ((l.drop off).take k) (.id id)))else some c
 |some (.arr sz' xs)=>if sz'=h/\off+cp<=xs.length/\k<=cp then some (D1 c n id o (.arr sz' (xs.take (off+k))) (.lst h ((xs.drop off).take k) (.id id)))else some c
 |_=>some c
def Oi(c:CSt)(n id:Nat):SV->LAe
 | .byt l t=>match t with
  | .no=>some c
  | .clip=>some ⟨jm (da id (id+1) c.tm) n (.byt l (.id id)),bz id (id+1) c.ob,mb (co id (id+1) c.tk) id⟩
  | .id t=>if t=id then some c else if c.tk.contains t=true then some ⟨jm (da id (id+1) c.tm) n (.byt l (.id id)),bz id (id+1) c.ob,mb (co id (id+1) (co t (t+1) c.tk)) id⟩else none
 | .lst h z t=>match t with
  | .no=>some c
  | .clip=>some ⟨jm (da id (id+1) c.tm) n (.lst h z (.id id)),bz id (id+1) c.ob,mb (co id (id+1) c.tk) id⟩
  | .id t=>if t=id then some c else if c.tk.contains t=true then some ⟨jm (da id (id+1) c.tm) n (.lst h z (.id id)),bz id (id+1) c.ob,mb (co id (id+1) (co t (t+1) c.tk)) id⟩else none
 | .psl o h off k (some cp)=>Oh c n id o h off k cp (c.look o)
 |_=>some c
def mvC(c:CSt)(n id o h off k:Nat)(cap:LAa)(obj:aC):CSt:=
 ⟨jm (da id (id+1) (da o (o+1) c.tm)) n (.psl id h off k cap),iK (bz id (id+1) (bz o (o+1) c.ob)) id obj,co id (id+1) (co o (o+1) c.tk)⟩
def xh6(c:CSt)(n id o h off k:Nat)(cap:LAa):Option aC->LAe
 |some (.bar l)=>some (mvC c n id o h off k cap (.bar l))
 |some (.arr sz' xs)=>some (mvC c n id o h off k cap (.arr sz' xs))
 |_=>some c
def Yc(c:CSt)(n id:Nat):SV->LAe
 | .psl o h off k cap=>if o=id then some c else xh6 c n id o h off k cap (c.look o)
 |_=>some c
def pY(c:CSt):Dir->LAe
 | .kill l=>some (c.kill l)
 | .gc l=>some (gcC c l)
 | .gcr lo hi=>some (c.purge lo hi)
 | .pubo o=>some (c.publish o []).1
 | .pub n=>match c.get n with
  | .psl o _ _ _ _=>some (c.publish o []).1
  |_=>some c
 | .tok n id=>if id=99 then none else Oi c n id (c.get n)
 | .obj n id=>if id<100 then none else Yc c n id (c.get n)
def iw(c:CSt):List Dir->LAe
 |[]=>some c
 |d::r=>match pY c d with
  |some c'=>iw c' r
  |none=>none
inductive Ex where
 |n
 |x (id:Nat)
 |r
abbrev gI:=Option (Ex×CSt)
def mW(c:CSt)(d:LAa):Option nK->LAe
 |some e=>some (c.app d e)
 |none=>none
def nm(c:CSt):LAa->Option t6->LAe
 |some k,some l=>some (c.app (some k) {val:= .psl (k+100) 1 0 l.length (some l.length),new:=some (.bar l)})
 |_,_=>none
def nX(c:CSt)(d:LAa)(o off n:Nat)(cap:LAa):Option aC->LAe
 |some (.bar l)=>if off+n<=l.length/\cap=some n then some (((c.publish o []).1).put d (.byt ((l.drop off).take n) .clip))else none
 |_=>none
def p7(c:CSt)(d:LAa):SV->LAe
 | .psl o 1 off n cap=>nX c d o off n cap (c.look o)
 |_=>none
def Pg(c:CSt):LAa->SV->LAe
 |some k,.str l=>some (c.app (some k) {val:= .psl (k+100) 1 0 l.length none,new:=some (.bar l)})
 |_,_=>none
def Pe(c:CSt)(z:t7)(bytes:Nat)(l:t6):LAa->Option t6->LAe
 |some k,some l'=>if z.length≠1 then none else if l'=[]then some (c.put (some k) (.byt l .clip))else if bytes=1/\l.length+l'.length<=140737488355328 then some (c.app (some k) {val:= .psl (k+100) 1 0 (l.length+l'.length) none,new:=some (.bar (l++l'))})else none
 |_,_=>none
def Pd(c:CSt)(z:t7)(bytes h:Nat)(l:f8):LAa->Option f8->LAe
 |some k,some l'=>if l'=[]then some (c.put (some k) (.lst h l .clip))else if z.length=h/\(l.length+l'.length)*bytes<=140737488355328 then some (c.app (some k) {val:= .psl (k+100) h 0 (l.length+l'.length) none,new:=some (.arr h (l++l'))})else none
 |_,_=>none
def ME(c:CSt)(z:t7)(bytes o h n:Nat):LAa->Option f8->Option f8->Option t6->Option t6->LAe
 |some k,some R,some l',_,_=>if z.length=h/\R.length=n/\(n+l'.length)*bytes<=140737488355328 then some ((c.purge o (o+1)).app (some k) {val:= .psl (k+100) h 0 (n+l'.length) none,new:=some (.arr h (R++l'))})else none
 |some k,none,_,some R,some l'=>if z.length=1/\h=1/\R.length=n/\(n+l'.length)*bytes<=140737488355328 then some ((c.purge o (o+1)).app (some k) {val:= .psl (k+100) 1 0 (n+l'.length) none,new:=some (.bar (R++l'))})else none
 |_,_,_,_,_=>none
def qz(c:CSt)(d:LAa)(z:t7)(bytes:Nat)(y:Arg):SV->LAe
 | .byt l t=>if t= .clip then Pe c z bytes l d (dJ c (c.ev y))else none
 | .lst h l t=>if t= .clip then Pd c z bytes h l d (fB c z.length (c.ev y))else none
 | .psl o h 0 n none=>ME c z bytes o h n d (fB c z.length (.psl o h 0 n none)) (fB c z.length (c.ev y)) (dJ c (.psl o h 0 n none)) (dJ c (c.ev y))
 |_=>none
def opC(call:cV)(sg:Nat->Sig)(c:CSt)(d:LAa)(o:SOp):LAe:=
 match o with
 | .newB h=>nm c d (toB (evL c h))
 | .slid x=>p7 c d (c.ev x)
 | .appO z bytes x y=>qz c d z bytes y (c.ev x)
 | .call f a_=>match c.ev f with
  | .fn g a b=>ib call (sg g) c d g (a++evL c a_++b)
  |_=>none
 |o=>mW c d (dM c d o)
def dB(call:cV)(sg:Nat->Sig)(c:CSt)(i:SI):LAe:=
 match i.g with
 |none=>opC call sg c i.dst i.op
 |some (g,b)=>match c.get g with
  | .bool t=>if t=b then opC call sg c i.dst i.op else some (c.put i.dst (.tup []))
  | .tup []=>some (c.put i.dst (.tup []))
  |_=>none
mutual
def plC(call:cV)(sg:Nat->Sig):LAd->CSt->LAe
 |[],c=>some c
 |i::r,c=>nxP call sg r (opC call sg c i.dst i.op)
def nxP(call:cV)(sg:Nat->Sig):LAd->LAe->LAe
 |r,some c=>plC call sg r c
 |_,none=>none
end
def unL(c:CSt):LAd->CSt
 |[]=>c
 |i::r=>unL (c.put i.dst (.tup [])) r
def oD(call:cV)(sg:Nat->Sig)(b:Bool)(l:LAd)(c:CSt):SV->LAe
 | .bool t=>if t=b then plC call sg l c else some (unL c l)
 | .tup []=>some (unL c l)
 |_=>none
def Pc(c:CSt)(h:Nat):LAa->Option f8->LAe
 |some k,some xs=>some (c.app (some k) {val:= .psl (k+100) h 0 xs.length (some xs.length),new:=some (.arr h xs)})
 |_,_=>none
def xh5(c:CSt)(d:LAa):SOp->LAe
 | .lit B h=>Pc c B d (rows B (evL c h))
 | .litB h=>nm c d (toB (evL c h))
 | .s2b x=>Pg c d (c.ev x)
 | .app z bytes x y=>qz c d z bytes y (c.ev x)
 |_=>none
def Ol(c:CSt):LAa->SV->LAe
 |some k,.str l=>some (c.app (some k) {val:= .byt l (.id (k+100)),tok:=true})
 |_,_=>none
def xhc(c:CSt)(d:LAa):SOp->LAe
 | .s2b x=>Ol c d (c.ev x)
 |_=>none
def y9(c:CSt)(i:SI):LAe:=match i.g with
 |none=>xhc c i.dst i.op
 |some _=>none
def rV(c:CSt)(i:SI):LAe:=match i.g with
 |none=>xh5 c i.dst i.op
 |some _=>none
mutual
def fA(call:cV)(sg:Nat->Sig):List RI->CSt->LAe
 |[],c=>some c
 | .op i dead::r,c=>nxC call sg dead r (dB call sg c i)
 | .grp g b l dead::r,c=>nxC call sg dead r (oD call sg b l c (c.get g))
 | .own i dead::r,c=>nxC call sg dead r (rV c i)
 | .tks i dead::r,c=>nxC call sg dead r (y9 c i)
 | .dir d::r,c=>nxC call sg [] r (pY c d)
def nxC(call:cV)(sg:Nat->Sig)(h:t8):List RI->LAe->LAe
 |r,some c=>fA call sg r (c.kill h)
 |_,none=>none
end
def cW(c:CSt):SOp->Option SV
 | .pick k a b=>match c.ev k with
  | .bool t=>some (ik t (c.ev a) (c.ev b))
  |_=>none
 |so=>cG c so
def qg(c:CSt)(o:SOp)(b:Bool):SV->Option SV
 | .bool t=>if t=b then cW c o else some (.tup [])
 | .tup []=>some (.tup [])
 |_=>none
def qv(c:CSt)(i:SI):Option SV:=match i.g with
 |none=>cW c i.op
 |some (g,b)=>qg c i.op b (c.get g)
def sj(m:Nat)(c:CSt):List FI->Prop
 |[]=>True
 |p::r=>(m/2^p.n % 2=1\/qv c p.i=some (c.get (p.i.dst.getD 0)))/\sj m c r
open Classical in
noncomputable def gdP{α:Type}(p:Prop)(v:α):Option α:=if p then some v else none
mutual
noncomputable def eX(call:cV)(sg:Nat->Sig)(b:t8):List FI->List FI->CSt->LAe
 |[],_,c=>some c
 |⟨n,true,i⟩::r,ps,c=>uI call sg b r (⟨n,true,i⟩::ps) c i.dst (qv c i)
 |⟨n,false,i⟩::r,ps,c=>pT call sg b r ps (b.getD n 0) (dB call sg c i)
noncomputable def uI(call:cV)(sg:Nat->Sig)(b:t8):List FI->List FI->CSt->LAa->Option SV->LAe
 |r,ps,c,d,some v=>eX call sg b r ps (c.put d v)
 |_,_,_,_,none=>none
noncomputable def pT(call:cV)(sg:Nat->Sig)(b:t8):List FI->List FI->Nat->LAe->LAe
 |r,ps,m,some c=>pU call sg b r ps (gdP (sj m c ps) c)
 |_,_,_,none=>none
noncomputable def pU(call:cV)(sg:Nat->Sig)(b:t8):List FI->List FI->LAe->LAe
 |r,ps,some c=>eX call sg b r ps c
 |_,_,none=>none
end
def th:List FI->Nat->FI
 |[],k=>⟨k,false,⟨none,none,.lenC 0⟩⟩
 |f::r,k=>if f.n=k then f else th r k
def iz(l:List FI):t8->List FI
 |[]=> []
 |k::r=>th l k::iz l r
noncomputable def nz:LAe->LAe->LAe
 |some a,some b=>gdP (a=b) a
 |_,_=>none
noncomputable def iW(call:cV)(sg:Nat->Sig)(b:t8)(l:List FI):List t8->CSt->LAe
 |[],_=>none
 |[p],c=>eX call sg b (iz l p) [] c
 |p::q::r,c=>nz (eX call sg b (iz l p) [] c) (iW call sg b l (q::r) c)
def nrm(h:t8):LAe->gI
 |some c=>some (.n,c.kill h)
 |none=>none
def sq(rn:RC->CSt->gI)(b:RC):gI->gI
 |some (.n,c)=>rn b c
 |r=>r
def cnd(rn:RC->CSt->gI)(a b:RC)(c:CSt):SV->gI
 | .bool t=>if t=true then rn a c else rn b c
 |_=>none
def blk(id:Nat):gI->gI
 |some (.x id',c)=>if id'=id then some (.n,c)else some (.x id',c)
 |r=>r
def lp(rn:RC->CSt->gI)(b:RC):gI->gI
 |some (.n,c)=>rn (.loop b) c
 |r=>r
def prD(rn:RC->CSt->gI)(a:RC):LAe->gI
 |some c=>rn a c
 |none=>none
def psD(h:List Dir):gI->gI
 |some (.n,c)=>match iw c h with
  |some c'=>some (.n,c')
  |none=>none
 |r=>r
noncomputable def dI(rn:RC->CSt->gI)(call:cV)(sg:Nat->Sig):RC->CSt->gI
 | .skip,c=>some (.n,c)
 | .ops l,c=>nrm [] (fA call sg l c)
 | .flt b _ l dead,c=>nrm dead (eX call sg b l [] c)
 | .fla b _ l ps dead,c=>nrm dead (iW call sg b l ps c)
 | .seq a b,c=>sq rn b (rn a c)
 | .cond k a b,c=>cnd rn a b c (c.ev k)
 | .block id b,c=>blk id (rn b c)
 | .loop b,c=>lp rn b (rn b c)
 | .exit id,c=>some (.x id,c)
 | .ret,c=>some (.r,c)
 | .pre ds a,c=>prD rn a (iw c ds)
 | .post a ds,c=>psD ds (rn a c)
 | .bad,_=>none
def SI.ok(N:Nat)(i:SI):Bool:=match i.dst with
 |some d=>decide (d<N)
 |none=>true
def SI.okG(N g:Nat)(b:Bool)(i:SI):Bool:=i.ok N&&(match i.g with|some (g',b')=>decide (g'=g)&&(b'==b)|none=>false)&&decide (i.dst≠some g)
def RI.ok(N:Nat):RI->Bool
 | .op i _=>i.ok N
 | .grp g b l _=>l.all (SI.okG N g b)
 | .own i _=>i.ok N
 | .tks i _=>i.ok N
 | .dir _=>true
def mV(b:t8)(i j:Nat):Bool:=(b.getD j 0).testBit i
def ni(b:t8):LAa->List FI->Bool
 |_,[]=>true
 |
  s,f::r=>if f.q then(match s with|some s=>mV b s f.n|none=>true)&&ni b s r
  else(match s with|some s=>mV b s f.n|none=>true)&&ni b (some f.n) r
def MD(b:t8)(p q:FI):Bool:= !mV b q.n p.n&&(p.q||q.q||mV b p.n q.n)
def oq(b:t8):List FI->Bool
 |[]=>true
 |p::r=>r.all (MD b p)&&oq b r
def SI.rds(i:SI):t8:=i.op.args.filterMap (fun| .t n=>some n|_=>none)++(match i.g with|some (g,_)=> [g]|none=> [])
def PQ(b:t8)(l:List FI):Bool:=l.all fun q=> !q.q||(match q.i.dst with|some d=>l.all fun p=> !p.i.rds.contains d||(mV b q.n p.n&&decide (p.n≠q.n))|none=>false)
def NH(b:t8)(l:List FI):Bool:=ni b none l&&oq b l&&PQ b l&&decide ((l.map FI.n).Nodup)&&l.all (fun f=>decide (f.n<l.length))&&(bS l.length).all (l.map FI.n).contains
def vI(b:t8):LAa->List FI->Bool
 |_,[]=>true
 |s,f::r=>if f.q then(match s with|some s=>mV b s f.n|none=>true)&&vI b s r else vI b (some f.n) r
def ti(b:t8):List FI->Bool
 |[]=>true
 |p::r=>r.all (fun q=> !mV b q.n p.n)&&ti b r
def fo(l:List FI):t8:=l.filterMap fun f=>if f.q then none else some f.n
def ky(b:t8):Nat->List t8->Bool
 |_,[]=>false
 |_,[]::_=>true
 |0,_=>false
 |k+1,A@((h::t)::_)=>(h::t).all fun g=>(h::t).any (fun x=>decide (x≠g)&&mV b x g)||ky b k (A.filterMap fun p=>match p with|x::r=>if x=g then some r else none|[]=>none)
def NV(b:t8)(l:List FI)(h:List t8):Bool:=
 PQ b l&&decide ((l.map FI.n).Nodup)&&l.all (fun f=>decide (f.n<l.length))&&(bS l.length).all (l.map FI.n).contains&&
 h.all (fun p=>decide p.Nodup&&p.all (l.map FI.n).contains&&(l.map FI.n).all p.contains&&vI b none (iz l p)&&ti b (iz l p))&&ky b l.length (h.map fun p=>fo (iz l p))
def RC.ok(N:Nat):RC->Bool
 | .ops l=>l.all (RI.ok N)
 | .flt b _ l _=>l.all (fun f=>f.i.ok N)&&NH b l
 | .fla b _ l h _=>l.all (fun f=>f.i.ok N)&&NV b l h
 | .seq a b=>a.ok N&&b.ok N
 | .cond _ a b=>a.ok N&&b.ok N
 | .block _ b=>b.ok N
 | .loop b=>b.ok N
 | .pre _ a=>a.ok N
 | .post a _=>a.ok N
 |_=>true
inductive RV where
 |tmp (t:Nat)
 |cell (t n:Nat) (ag:Bool)
structure FnC where
 code:RC
 n:Nat
 rs:List RV
 keep:List Nat:=[]
 raw:List Nat:=[]
inductive FnB where
 |code (F:FnC)
 |prim (f:List SV->List aC->Nat->Option dY)
structure lj where
 fn:Nat->Option FnB
 sg:Nat->Sig
def qu(c:CSt):List RV->Option t7
 |[]=>some []
 | .tmp t::r=>match qu c r with
  |some vs=>some (c.get t::vs)
  |none=>none
 | .cell t n ag::r=>match (if ag=true\/n=1 then lU c n ag (c.get t)else none),qu c r with
  |some v,some vs=>some (v::vs)
  |_,_=>none
def j0:Nat->t8
 |0=> []
 |n+1=>j0 n++ [n]
def fM(k:Nat):List aC->List (Nat×aC)
 |[]=> []
 |o::r=>(k,o)::fM (k+1) r
def gN(k:Nat)(m:t8)(o:Nat):Nat:=if o<k then o else 100+gD m o
def tks(b n:Nat):t8:=(j0 n).map (b+ ·)
def Yp(k:Nat)(vs:t7)(z:List LAa)(m:t8)(os:List aC)(h:List LAa):Bool->Option dY
 |true=>some ⟨(jn vs).ren (gN k m) id,(fM 0 (ee (gN k m) id (os.take k)))++(fM (100+k) (ee (gN k m) id (os.drop k))),tks 60 (z.length+h.length)⟩
 |false=>none
def Yq(k:Nat)(vs:t7)(h:List LAa)(m:t8):List aC×List LAa->Option dY
 |(os,mt2)=>Yp k vs h m os mt2 (nR (SV.idsL vs++fy os) m&&dt m&&dt (cn (h++mt2))&&decide (m.take k=j0 k)&&(m.drop k).all fun o=>decide (k<=o))
def Yr(k:Nat)(c:CSt)(vs:t7)(h:List LAa)(m:t8):Option (List aC)->Option dY
 |some os=>Yq k vs h m (dV c.tk (60+h.length) os)
 |none=>none
def Ys(k:Nat)(c:CSt):t7×List LAa->Option dY
 |(vs,mt1)=>Yr k c vs mt1 (dC c 60 [] (j0 k++SV.idsL vs)) (gv c (dC c 60 [] (j0 k++SV.idsL vs)))
def MP(keep:t8)(k:Nat)(c:CSt)(vs:t7):Bool->Option dY
 |true=>some ⟨jn (SV.bareL vs),[],[]⟩
 |false=>Ys k c (jN c.tk keep 60 0 vs)
def PV(keep:t8)(k:Nat):CSt×t7->Option dY
 |(c,vs)=>MP keep k c vs (decide (k=0)&&(SV.idsL vs).isEmpty&&keep.isEmpty)
def MQ(keep raw:t8)(k:Nat)(c:CSt):Option t7->Option dY
 |some vs=>PV keep k (eL c vs (iP raw 0 vs))
 |none=>none
def El(F:FnC)(k:Nat):gI->Option dY
 |some (.n,c)=>MQ F.keep F.raw k c (qu c F.rs)
 |some (.r,c)=>MQ F.keep F.raw k c (qu c F.rs)
 |_=>none
def nn:Nat->t7->List (Nat×SV)
 |_,[]=> []
 |i,v::r=>(i,v)::nn (i+1) r
def qf(args:t7)(os:List aC)(k:Nat):CSt:=⟨nn 0 args,fM 0 os,tks 50 k⟩
def Ek(rn:RC->CSt->gI)(F:FnC)(args:t7)(os:List aC)(k:Nat):gI:=if args.length<=F.n then rn F.code (qf args os k)else none
def ny(rn:RC->CSt->gI):Option FnB->t7->List aC->Nat->Option dY
 |some (.code F),args,os,k=>El F os.length (Ek rn F args os k)
 |some (.prim f),args,os,k=>f args os k
 |none,_,_,_=>none
noncomputable def gA(T:lj):Nat->RC->CSt->gI
 |0,_,_=>none
 |n+1,r,c=>dI (gA T n) (fun g args os k=>ny (gA T n) (T.fn g) args os k) T.sg r c
noncomputable def eV(T:lj)(n:Nat):cV:=fun g args os k=>ny (gA T n) (T.fn g) args os k
noncomputable def lim{α:Type}(g:Nat->Option α):Option α:=open Classical in if h:∃n x,g n=some x then g (Classical.choose h)else none
noncomputable def run(T:lj)(r:RC)(c:CSt):gI:=lim fun n=>gA T n r c
noncomputable def call(T:lj):cV:=fun g args os k=>lim fun n=>eV T n g args os k
end Go.Sy
namespace Go.Sy
variable [bc]
def leR(f g:RC->CSt->gI):Prop:=∀r c x,f r c=some x->g r c=some x
def leC(f g:cV):Prop:=∀a b o k x,f a b o k=some x->g a b o k=some x
theorem wy{c:CSt}{d:LAa}{x:CSt}{a b:Option dY}(h:∀q,a=some q->b=some q)(k:lY c d a=some x):lY c d b=some x:=by
 cases a with
 |none=>cases k
 |some q=>rw[h q rfl];exact k
theorem vx{c:CSt}{d:LAa}{m mt:t8}{x:CSt}{a b:Option dY}(h:∀q,a=some q->b=some q)(k:nW c d m mt a=some x):nW c d m mt b=some x:=by
 cases a with
 |none=>cases k
 |some q=>rw[h q rfl];exact k
theorem vy{f g:cV}(h:leC f g){c:CSt}{d:LAa}{n:Nat}{a_:t7}{B:List LAa}{m:t8}{o:Option (List aC)}{x:CSt}
 (k:kY f c d n a_ B m o=some x):kY g c d n a_ B m o=some x:=by
 cases o with
 |none=>cases k
 |some os=>
  simp only[kY]at k ⊢;generalize dV c.tk (50+B.length) os=z at k ⊢;obtain⟨E,F⟩:=z;simp only[nf]at k ⊢;generalize (nR (SV.idsL a_++fy E) m&&dt m&&dt (cn (B++F))&&decide (m.length<=40)&&m.all fun o=> !inR (d.getD 0) o)=b at k ⊢;cases b with
  |false=>cases k
  |true=>simp only[nb]at k ⊢;exact vx (fun q H=>h _ _ _ _ _ H) k
theorem vv{f g:cV}(h:leC f g){sg:Sig}{d:LAa}{n:Nat}{p:CSt×t7}{x:CSt}(k:jC f sg d n p=some x):jC g sg d n p=some x:=by obtain⟨c,a_⟩:=p;simp only[jC]at k ⊢;generalize jN c.tk sg.own 50 0 a_=z at k ⊢;obtain⟨E,B⟩:=z;simp only[ng]at k ⊢;exact vy h k
theorem wG{f g:cV}(h:leC f g){sg:Sig}{c:CSt}{d:LAa}{n:Nat}{a_:t7}{x:CSt}(k:ib f sg c d n a_=some x):ib g sg c d n a_=some x:=by
 unfold ib at k ⊢;generalize ((SV.idsL a_).isEmpty&&sg.own.isEmpty)=b at k ⊢;cases b with
 |true=>exact wy (fun q z=>h _ _ _ _ _ z) k
 |false=>exact vv h k
theorem lP{f g:cV}(h:leC f g){sg:Nat->Sig}{c:CSt}{d:LAa}{o:SOp}{x:CSt}(k:opC f sg c d o=some x):opC g sg c d o=some x:=by
 cases o with
 |call a a_=>simp only[opC]at k ⊢;split at k<;>first|exact wG h k|cases k
 |_=>exact k
theorem jh{f g:cV}(h:leC f g){sg:Nat->Sig}{c:CSt}{i:SI}{x:CSt}(k:dB f sg c i=some x):dB g sg c i=some x:=by
 unfold dB at k ⊢;split at k
 ·exact lP h k
 ·split at k
  ·split at k
   ·rename_i z;rw[if_pos z];exact lP h k
   ·rename_i z;rw[if_neg z];exact k
  ·exact k
  ·cases k
theorem um{f g:cV}(h:leC f g){sg:Nat->Sig}:∀{l:LAd}{c x:CSt},plC f sg l c=some x->plC g sg l c=some x:=by
 intro l;induction l with
 |nil=>intro c x k;simpa[plC]using k
 |cons i r z=>
  intro c x k;simp only[plC]at k ⊢;cases hs:opC f sg c i.dst i.op with
  |none=>rw[hs]at k;simp[nxP]at k
  |some c1=>rw[hs]at k;rw[lP h hs];simp only[nxP]at k ⊢;exact z k
theorem qO{f g:cV}(h:leC f g){sg:Nat->Sig}{b:Bool}{l:LAd}{c x:CSt}{v:SV}(k:oD f sg b l c v=some x):oD g sg b l c v=some x:=by
 unfold oD at k ⊢;split at k
 ·split at k
  ·rename_i z;rw[if_pos z];exact um h k
  ·rename_i z;rw[if_neg z];exact k
 ·exact k
 ·cases k
theorem mA{f g:cV}(h:leC f g){sg:Nat->Sig}:∀{l:List RI}{c x:CSt},fA f sg l c=some x->fA g sg l c=some x:=by
 intro l;induction l with
 |nil=>intro c x k;simpa[fA]using k
 |cons i r B=>
  intro c x k;cases i with
  |op i z=>
   simp only[fA]at k ⊢;cases hs:dB f sg c i with
   |none=>rw[hs]at k;simp[nxC]at k
   |some c1=>rw[hs]at k;rw[jh h hs];simp only[nxC]at k ⊢;exact B k
  |grp q b l z=>
   simp only[fA]at k ⊢;cases hs:oD f sg b l c (c.get q)with
   |none=>rw[hs]at k;simp[nxC]at k
   |some c1=>rw[hs]at k;rw[qO h hs];simp only[nxC]at k ⊢;exact B k
  |own i z=>
   simp only[fA]at k ⊢;cases hs:rV c i with
   |none=>rw[hs]at k;simp[nxC]at k
   |some c1=>rw[hs]at k;simp only[nxC]at k ⊢;exact B k
  |tks i z=>
   simp only[fA]at k ⊢;cases hs:y9 c i with
   |none=>rw[hs]at k;simp[nxC]at k
   |some c1=>rw[hs]at k;simp only[nxC]at k ⊢;exact B k
  |dir d=>
   simp only[fA]at k ⊢;cases hs:pY c d with
   |none=>rw[hs]at k;simp[nxC]at k
   |some c1=>rw[hs]at k;simp only[nxC]at k ⊢;exact B k
theorem iT{f g:cV}(h:leC f g){sg:Nat->Sig}{b:t8}:∀{l z:List FI}{c x:CSt},eX f sg b l z c=some x->eX g sg b l z c=some x:=by
 intro l;induction l with
 |nil=>intro z c x k;simpa[eX]using k
 |cons i r B=>
  intro z c x k;obtain⟨n,q,i⟩:=i;cases q with
  |true=>
   simp only[eX]at k ⊢;cases hq:qv c i with
   |none=>rw[hq]at k;simp[uI]at k
   |some v=>rw[hq]at k;simp only[uI]at k ⊢;exact B k
  |false=>
   simp only[eX]at k ⊢;cases hs:dB f sg c i with
   |none=>rw[hs]at k;simp[pT]at k
   |some c1=>
    rw[hs]at k;rw[jh h hs];simp only[pT]at k ⊢;cases hg:gdP (sj (b.getD n 0) c1 z) c1 with
    |none=>rw[hg]at k;simp[pU]at k
    |some c2=>rw[hg]at k;simp only[pU]at k ⊢;exact B k
theorem mP{f g:cV}(h:leC f g){sg:Nat->Sig}{b:t8}{l:List FI}:∀{B:List t8}{c x:CSt},iW f sg b l B c=some x->iW g sg b l B c=some x
 |[],c,x,k=>by simp[iW]at k
 |[p],c,x,k=>iT h k
 |p::q::r,c,x,k=>by
  simp only[iW]at k ⊢;cases h1:eX f sg b (iz l p) [] c with
  |none=>rw[h1]at k;simp[nz]at k
  |some y=>
   cases h2:iW f sg b l (q::r) c with
   |none=>rw[h1,h2]at k;simp[nz]at k
   |some z=>rw[h1,h2]at k;rw[iT h h1,mP h h2];exact k
theorem nT{rn F:RC->CSt->gI}{f g:cV}(B:leR rn F)(h:leC f g){sg:Nat->Sig}{r:RC}{c:CSt}{x:Ex×CSt}(k:dI rn f sg r c=some x):dI F g sg r c=some x:=by
 cases r with
 |skip=>exact k
 |ret=>exact k
 |exit id=>exact k
 |ops l=>
  simp only[dI]at k ⊢;cases hs:fA f sg l c with
  |none=>rw[hs]at k;cases k
  |some c1=>rw[hs]at k;rw[mA h hs];exact k
 |flt b H l E=>
  simp only[dI]at k ⊢;cases hs:eX f sg b l [] c with
  |none=>rw[hs]at k;simp[nrm]at k
  |some c1=>rw[hs]at k;rw[iT h hs];exact k
 |fla b H l J E=>
  simp only[dI]at k ⊢;cases hs:iW f sg b l J c with
  |none=>rw[hs]at k;simp[nrm]at k
  |some c1=>rw[hs]at k;rw[mP h hs];exact k
 |seq a b=>
  simp only[dI]at k ⊢;cases hs:rn a c with
  |none=>rw[hs]at k;cases k
  |some p=>
   rw[hs]at k;rw[B _ _ _ hs];obtain⟨e,c1⟩:=p;cases e with
   |n=>exact B _ _ _ k
   |x id=>exact k
   |r=>exact k
 |cond a y z=>
  simp only[dI]at k ⊢;unfold cnd at k ⊢;split at k
  ·split at k
   ·rename_i I;rw[if_pos I];exact B _ _ _ k
   ·rename_i I;rw[if_neg I];exact B _ _ _ k
  ·cases k
 |block id b=>
  simp only[dI]at k ⊢;cases hs:rn b c with
  |none=>rw[hs]at k;cases k
  |some p=>rw[hs]at k;rw[B _ _ _ hs];exact k
 |loop b=>
  simp only[dI]at k ⊢;cases hs:rn b c with
  |none=>rw[hs]at k;cases k
  |some p=>
   rw[hs]at k;rw[B _ _ _ hs];obtain⟨e,c1⟩:=p;cases e with
   |n=>exact B _ _ _ k
   |x id=>exact k
   |r=>exact k
 |pre H a=>
  simp only[dI]at k ⊢;cases hs:iw c H with
  |none=>rw[hs]at k;cases k
  |some c1=>rw[hs]at k;exact B _ _ _ k
 |bad=>cases k
 |post a H=>
  simp only[dI]at k ⊢;cases hs:rn a c with
  |none=>rw[hs]at k;cases k
  |some p=>rw[hs]at k;rw[B _ _ _ hs];exact k
theorem lg{rn z:RC->CSt->gI}(E:leR rn z){o:Option FnB}{a:t7}{os:List aC}{k:Nat}{x:dY}(h:ny rn o a os k=some x):ny z o a os k=some x:=by
 cases o with
 |none=>cases h
 |some b=>
  cases b with
  |prim f=>exact h
  |code F=>
   simp only[ny,Ek]at h ⊢;split at h
   ·rename_i B
    rw[if_pos B];cases hs:rn F.code (qf a os k)with
    |none=>rw[hs]at h;cases h
    |some p=>rw[hs]at h;rw[E _ _ _ hs];exact h
   ·cases h
variable {T : lj}
theorem qr:∀n,leR (gA T n) (gA T (n+1))
 |0=>fun r c x h=>by simp[gA]at h
 |n+1=>fun r c x h=>by have z:=qr n;rw[gA]at h ⊢;exact nT z (fun g a os k x h=>lg z h) h
theorem ko{n m:Nat}(h:n<=m):leR (gA T n) (gA T m):=by
 induction m with
 |zero=>
  have:n=0:=by omega
  subst this;exact fun _ _ _ h=>h
 |succ m B=>
  rcases bH n (m+1)with z|z
  ·exact fun r c x E=>qr m r c x (B (by omega) r c x E)
  ·have:n=m+1:=by omega
   subst this;exact fun _ _ _ h=>h
theorem dE{n m:Nat}(h:n<=m):leC (eV T n) (eV T m):=fun _ _ _ _ _ z=>lg (ko h) z
theorem uC{α:Type}{g:Nat->Option α}(E:∀n m x,n<=m->g n=some x->g m=some x){n:Nat}{x:α}(h:g n=some x):lim g=some x:=by have z:∃n x,g n=some x:=⟨n,x,h⟩;unfold lim;rw[dif_pos z];obtain⟨y,B⟩:=Classical.choose_spec z;have F:=E _ (max n (Classical.choose z)) _ (wT _ _) B;have H:=E _ (max n (Classical.choose z)) _ (Nat.le_max_left _ _) h;rw[B,<-F,H]
theorem MI{α:Type}{g:Nat->Option α}{x:α}(h:lim g=some x):∃n,g n=some x:=by
 unfold lim at h;split at h
 ·exact⟨_,h⟩
 ·cases h
theorem GI{n:Nat}{r:RC}{c:CSt}{x:Ex×CSt}(h:gA T n r c=some x):run T r c=some x:=uC (fun _ _ _ z h=>ko z _ _ _ h) h
theorem gJ{r:RC}{c:CSt}{x:Ex×CSt}(h:run T r c=some x):∃n,gA T n r c=some x:=MI h
theorem sk{n:Nat}{g:Nat}{a:t7}{os:List aC}{k:Nat}{x:dY}(h:eV T n g a os k=some x):call T g a os k=some x:=uC (fun _ _ _ z h=>dE z _ _ _ _ _ h) h
theorem ou{g:Nat}{a:t7}{os:List aC}{k:Nat}{x:dY}(h:call T g a os k=some x):∃n,eV T n g a os k=some x:=MI h
theorem GJ(n:Nat):leR (gA T n) (run T):=fun _ _ _ h=>GI h
theorem QI(n:Nat):leC (eV T n) (call T):=fun _ _ _ _ _ h=>sk h
theorem wH{sg:Sig}{c:CSt}{d:LAa}{g:Nat}{a_:t7}{x:CSt}(k:ib (call T) sg c d g a_=some x):∃n,ib (eV T n) sg c d g a_=some x:=by
 unfold ib at k ⊢;generalize ((SV.idsL a_).isEmpty&&sg.own.isEmpty)=b at k ⊢;cases b with
 |true=>
  simp only[jG]at k ⊢;cases hq:call T g (SV.bareL a_) [] 0 with
  |none=>rw[hq]at k;cases k
  |some q=>obtain⟨n,hn⟩:=ou hq;exact⟨n,by rw[hn];rw[hq]at k;exact k⟩
 |false=>
  simp only[jG]at k ⊢;generalize eL c a_ (iP sg.raw 0 a_)=z at k ⊢;obtain⟨c1,H⟩:=z;simp only[jC]at k ⊢;generalize jN c1.tk sg.own 50 0 H=z at k ⊢;obtain⟨h,B⟩:=z;simp only[ng]at k ⊢;cases ho:gv c1 (dC c1 60 [] (SV.idsL h))with
  |none=>rw[ho]at k;cases k
  |some os=>
   rw[ho]at k;simp only[kY]at k ⊢;generalize dV c1.tk (50+B.length) os=z at k ⊢;obtain⟨E,F⟩:=z;simp only[nf]at k ⊢;generalize (nR (SV.idsL h++fy E) (dC c1 60 [] (SV.idsL h))&&dt (dC c1 60 [] (SV.idsL h))&&dt (cn (B++F))&&decide ((dC c1 60 [] (SV.idsL h)).length<=40)&&(dC c1 60 [] (SV.idsL h)).all fun o=> !inR (d.getD 0) o)=b at k ⊢;cases b with
   |false=>cases k
   |true=>
    simp only[nb]at k ⊢;cases hq:call T g (SV.renL (gD (dC c1 60 [] (SV.idsL h))) id h) (ee (gD (dC c1 60 [] (SV.idsL h))) id E) (B.length+F.length)with
    |none=>rw[hq]at k;cases k
    |some q=>obtain⟨n,hn⟩:=ou hq;exact⟨n,by rw[hn];rw[hq]at k;exact k⟩
theorem oY{sg:Nat->Sig}{c:CSt}{d:LAa}{o:SOp}{x:CSt}(k:opC (call T) sg c d o=some x):∃n,opC (eV T n) sg c d o=some x:=by
 cases o with
 |call a a_=>simp only[opC]at k ⊢;split at k<;>first|exact wH k|cases k
 |_=>exact⟨0,k⟩
theorem nU{sg:Nat->Sig}{c:CSt}{i:SI}{x:CSt}(k:dB (call T) sg c i=some x):∃n,dB (eV T n) sg c i=some x:=by
 unfold dB at k ⊢;split at k
 ·exact oY k
 ·split at k
  ·split at k
   ·rename_i h;simp only[if_pos h];exact oY k
   ·rename_i h;simp only[if_neg h];exact⟨0,k⟩
  ·exact⟨0,k⟩
  ·cases k
theorem FA{sg:Nat->Sig}:∀{l:LAd}{c x:CSt},plC (call T) sg l c=some x->∃n,plC (eV T n) sg l c=some x:=by
 intro l;induction l with
 |nil=>intro c x k;exact⟨0,by simpa[plC]using k⟩
 |cons i r h=>
  intro c x k;simp only[plC]at k ⊢;cases hs:opC (call T) sg c i.dst i.op with
  |none=>rw[hs]at k;simp[nxP]at k
  |some c1=>rw[hs]at k;simp only[nxP]at k;obtain⟨n,hn⟩:=oY hs;obtain⟨m,z⟩:=h k;refine⟨max n m, ?_⟩;rw[lP (dE (Nat.le_max_left n m)) hn];simp only[nxP];exact um (dE (wT n m)) z
theorem Dt{sg:Nat->Sig}{b:Bool}{l:LAd}{c x:CSt}{v:SV}(k:oD (call T) sg b l c v=some x):∃n,oD (eV T n) sg b l c v=some x:=by
 unfold oD at k ⊢;split at k
 ·split at k
  ·rename_i h;simp only[if_pos h];exact FA k
  ·rename_i h;simp only[if_neg h];exact⟨0,k⟩
 ·exact⟨0,k⟩
 ·cases k
theorem Db{sg:Nat->Sig}:∀{l:List RI}{c x:CSt},fA (call T) sg l c=some x->∃n,fA (eV T n) sg l c=some x:=by
 intro l;induction l with
 |nil=>intro c x k;exact⟨0,by simpa[fA]using k⟩
 |cons i r z=>
  intro c x k;cases i with
  |op i h=>
   simp only[fA]at k ⊢;cases hs:dB (call T) sg c i with
   |none=>rw[hs]at k;simp[nxC]at k
   |some c1=>rw[hs]at k;simp only[nxC]at k;obtain⟨n,hn⟩:=nU hs;obtain⟨m,B⟩:=z k;refine⟨max n m, ?_⟩;rw[jh (dE (Nat.le_max_left n m)) hn];simp only[nxC];exact mA (dE (wT n m)) B
  |grp q b l h=>
   simp only[fA]at k ⊢;cases hs:oD (call T) sg b l c (c.get q)with
   |none=>rw[hs]at k;simp[nxC]at k
   |some c1=>rw[hs]at k;simp only[nxC]at k;obtain⟨n,hn⟩:=Dt hs;obtain⟨m,B⟩:=z k;refine⟨max n m, ?_⟩;rw[qO (dE (Nat.le_max_left n m)) hn];simp only[nxC];exact mA (dE (wT n m)) B
  |own i h=>
   simp only[fA]at k ⊢;cases hs:rV c i with
   |none=>rw[hs]at k;simp[nxC]at k
   |some c1=>rw[hs]at k;simp only[nxC]at k ⊢;exact z k
  |tks i h=>
   simp only[fA]at k ⊢;cases hs:y9 c i with
   |none=>rw[hs]at k;simp[nxC]at k
   |some c1=>rw[hs]at k;simp only[nxC]at k ⊢;exact z k
  |dir d=>
   simp only[fA]at k ⊢;cases hs:pY c d with
   |none=>rw[hs]at k;simp[nxC]at k
   |some c1=>rw[hs]at k;simp only[nxC]at k ⊢;exact z k
theorem mI{sg:Nat->Sig}{b:t8}:∀{l h:List FI}{c x:CSt},eX (call T) sg b l h c=some x->∃n,eX (eV T n) sg b l h c=some x:=by
 intro l;induction l with
 |nil=>intro h c x k;exact⟨0,by simpa[eX]using k⟩
 |cons i r H=>
  intro h c x k;obtain⟨n,q,i⟩:=i;cases q with
  |true=>
   simp only[eX]at k ⊢;cases hq:qv c i with
   |none=>rw[hq]at k;simp[uI]at k
   |some v=>rw[hq]at k;simp only[uI]at k ⊢;exact H k
  |false=>
   simp only[eX]at k ⊢;cases hs:dB (call T) sg c i with
   |none=>rw[hs]at k;simp[pT]at k
   |some c1=>
    rw[hs]at k;simp only[pT]at k;cases hg:gdP (sj (b.getD n 0) c1 h) c1 with
    |none=>rw[hg]at k;simp[pU]at k
    |some c2=>rw[hg]at k;simp only[pU]at k;obtain⟨E,z⟩:=nU hs;obtain⟨B,F⟩:=H k;refine⟨max E B, ?_⟩;rw[jh (dE (Nat.le_max_left E B)) z];simp only[pT];rw[hg];simp only[pU];exact iT (dE (wT E B)) F
theorem rk{sg:Nat->Sig}{b:t8}{l:List FI}:∀{h:List t8}{c x:CSt},iW (call T) sg b l h c=some x->∃n,iW (eV T n) sg b l h c=some x
 |[],c,x,k=>by simp[iW]at k
 |[p],c,x,k=>mI k
 |p::q::r,c,x,k=>by
  simp only[iW]at k ⊢;cases h1:eX (call T) sg b (iz l p) [] c with
  |none=>rw[h1]at k;simp[nz]at k
  |some y=>
   cases h2:iW (call T) sg b l (q::r) c with
   |none=>rw[h1,h2]at k;simp[nz]at k
   |some z=>rw[h1,h2]at k;obtain⟨n,hn⟩:=mI h1;obtain⟨m,B⟩:=rk h2;exact⟨max n m,by rw[iT (dE (Nat.le_max_left n m)) hn,mP (dE (wT n m)) B];exact k⟩
theorem two{r s:RC}{c d:CSt}{x y:Ex×CSt}(h:run T r c=some x)(k:run T s d=some y):∃n,gA T n r c=some x/\gA T n s d=some y:=by obtain⟨n,hn⟩:=gJ h;obtain⟨m,z⟩:=gJ k;exact⟨max n m,ko (Nat.le_max_left n m) _ _ _ hn,ko (wT n m) _ _ _ z⟩
theorem vq{r:RC}{c:CSt}{x:Ex×CSt}(k:dI (run T) (call T) T.sg r c=some x):∃n,dI (gA T n) (eV T n) T.sg r c=some x:=by
 cases r with
 |skip=>exact⟨0,k⟩
 |ret=>exact⟨0,k⟩
 |exit id=>exact⟨0,k⟩
 |ops l=>
  simp only[dI]at k ⊢;cases hs:fA (call T) T.sg l c with
  |none=>rw[hs]at k;cases k
  |some c1=>obtain⟨n,hn⟩:=Db hs;exact⟨n,by rw[hn];rw[hs]at k;exact k⟩
 |flt b B l h=>
  simp only[dI]at k ⊢;cases hs:eX (call T) T.sg b l [] c with
  |none=>rw[hs]at k;simp[nrm]at k
  |some c1=>obtain⟨n,hn⟩:=mI hs;exact⟨n,by rw[hn];rw[hs]at k;exact k⟩
 |fla b B l I h=>
  simp only[dI]at k ⊢;cases hs:iW (call T) T.sg b l I c with
  |none=>rw[hs]at k;simp[nrm]at k
  |some c1=>obtain⟨n,hn⟩:=rk hs;exact⟨n,by rw[hn];rw[hs]at k;exact k⟩
 |seq a b=>
  simp only[dI]at k ⊢;cases hs:run T a c with
  |none=>rw[hs]at k;cases k
  |some p=>
   rw[hs]at k;obtain⟨e,c1⟩:=p;cases e with
   |n=>obtain⟨n,H,E⟩:=two hs k;exact⟨n,by rw[H];exact E⟩
   |x id=>obtain⟨n,hn⟩:=gJ hs;exact⟨n,by rw[hn];exact k⟩
   |r=>obtain⟨n,hn⟩:=gJ hs;exact⟨n,by rw[hn];exact k⟩
 |cond a y z=>
  simp only[dI]at k ⊢;unfold cnd at k ⊢;split at k
  ·split at k
   ·rename_i F;simp only[if_pos F];exact gJ k
   ·rename_i F;simp only[if_neg F];exact gJ k
  ·cases k
 |block id b=>
  simp only[dI]at k ⊢;cases hs:run T b c with
  |none=>rw[hs]at k;cases k
  |some p=>obtain⟨n,hn⟩:=gJ hs;exact⟨n,by rw[hn];rw[hs]at k;exact k⟩
 |loop b=>
  simp only[dI]at k ⊢;cases hs:run T b c with
  |none=>rw[hs]at k;cases k
  |some p=>
   rw[hs]at k;obtain⟨e,c1⟩:=p;cases e with
   |n=>obtain⟨n,H,E⟩:=two hs k;exact⟨n,by rw[H];exact E⟩
   |x id=>obtain⟨n,hn⟩:=gJ hs;exact⟨n,by rw[hn];exact k⟩
   |r=>obtain⟨n,hn⟩:=gJ hs;exact⟨n,by rw[hn];exact k⟩
 |pre B a=>
  simp only[dI]at k ⊢;cases hs:iw c B with
  |none=>rw[hs]at k;cases k
  |some c1=>rw[hs]at k;exact gJ k
 |bad=>cases k
 |post a B=>
  simp only[dI]at k ⊢;cases hs:run T a c with
  |none=>rw[hs]at k;cases k
  |some p=>obtain⟨n,hn⟩:=gJ hs;exact⟨n,by rw[hn];rw[hs]at k;exact k⟩
theorem rY{α:Type}{a b:Option α}(h:∀x,a=some x->b=some x)(k:∀x,b=some x->a=some x):a=b:=by
 cases a with
 |none=>cases b with
  |none=>rfl
  |some x=>exact absurd (k x rfl) (by simp)
 |some x=>exact(h x rfl).symm
theorem gT(r:RC)(c:CSt):run T r c=dI (run T) (call T) T.sg r c:=by
 refine rY (fun x h=> ?_) (fun x h=> ?_)
 ·obtain⟨n,hn⟩:=gJ h
  cases n with
  |zero=>simp[gA]at hn
  |succ n=>rw[gA]at hn;exact nT (GJ n) (QI n) hn
 ·obtain⟨n,hn⟩:=vq h
  exact GI (n:=n+1) (by rw[gA];exact hn)
theorem Cp(g:Nat)(a:t7)(os:List aC)(k:Nat):call T g a os k=ny (run T) (T.fn g) a os k:=by
 refine rY (fun x h=> ?_) (fun x h=> ?_)
 ·obtain⟨n,hn⟩:=ou h
  exact lg (GJ n) hn
 ·cases hF:T.fn g with
  |none=>rw[hF]at h;cases h
  |some b=>
   cases b with
   |prim f=>exact sk (n:=0) (by unfold eV;rw[hF];rw[hF]at h;exact h)
   |code F=>
    rw[hF]at h;simp only[ny,Ek]at h;split at h
    ·rename_i z
     cases hs:run T F.code (qf a os k)with
     |none=>rw[hs]at h;cases h
     |some p=>obtain⟨n,hn⟩:=gJ hs;refine sk (n:=n) ?_;unfold eV;rw[hF];simp only[ny,Ek,if_pos z];rw[hn];rw[hs]at h;exact h
    ·cases h
theorem E8(c:CSt):run T .skip c=some (.n,c):=gT _ _
theorem OI(c:CSt):run T .ret c=some (.r,c):=gT _ _
theorem Fe(id:Nat)(c:CSt):run T (.exit id) c=some (.x id,c):=gT _ _
theorem OK(l:List RI)(c:CSt):run T (.ops l) c=nrm [] (fA (call T) T.sg l c):=gT _ _
theorem OM(b B:t8)(l:List FI)(z:List t8)(h:t8)(c:CSt):run T (.fla b B l z h) c=nrm h (iW (call T) T.sg b l z c):=gT _ _
theorem OL(b z:t8)(l:List FI)(h:t8)(c:CSt):run T (.flt b z l h) c=nrm h (eX (call T) T.sg b l [] c):=gT _ _
theorem OH(a b:RC)(c:CSt):run T (.seq a b) c=sq (run T) b (run T a c):=gT _ _
theorem Ff(k:Arg)(a b:RC)(c:CSt):run T (.cond k a b) c=cnd (run T) a b c (c.ev k):=gT _ _
theorem C3(id:Nat)(b:RC)(c:CSt):run T (.block id b) c=blk id (run T b c):=gT _ _
theorem al(b:RC)(c:CSt):run T (.loop b) c=lp (run T) b (run T b c):=gT _ _
theorem OJ(h:List Dir)(a:RC)(c:CSt):run T (.pre h a) c=prD (run T) a (iw c h):=gT _ _
theorem Fb(a:RC)(h:List Dir)(c:CSt):run T (.post a h) c=psD h (run T a c):=gT _ _
theorem az{g:Nat}{F:FnC}(h:T.fn g=some (.code F))(a:t7)(os:List aC)(k:Nat):call T g a os k=El F os.length (Ek (run T) F a os k):=by rw[Cp,h];rfl
theorem gX{g:Nat}{f:t7->List aC->Nat->Option dY}(h:T.fn g=some (.prim f))(a:t7)(os:List aC)(k:Nat):call T g a os k=f a os k:=by rw[Cp,h];rfl
end Go.Sy
namespace Go.Sy
variable [bc]
variable {call : cV} {sg : Nat -> Sig} {c : CSt} {d : Option Nat} {k : Nat}
theorem xcL{α:Type}{p:Prop}[Decidable p]{v:α}(h:p):gd p v=some v:=if_pos h
def fx(c:CSt)(d:LAa):Option SV->LAe
 |some v=>some (c.put d v)
 |none=>none
theorem C5(v:SV):fx c d (some v)=some (c.put d v):=rfl
theorem C6:fx c d none=none:=rfl
theorem Fp(l:List (Nat×SV))(o:List (Nat×aC))(t:t8)(v:SV):CSt.put ⟨l,o,t⟩ (some k) v=⟨jm l k v,o,t⟩:=rfl
theorem Fq(v:SV):CSt.put c none v=c:=rfl
theorem xcK(l:List (Nat×SV))(o:List (Nat×aC))(t:t8)(n:Nat):CSt.get ⟨l,o,t⟩ n=eB l n:=rfl
theorem Px(l:List (Nat×SV))(o:List (Nat×aC))(t:t8)(n:Nat):CSt.look ⟨l,o,t⟩ n=iC o n:=rfl
theorem xkn(n:Nat):c.ev (.t n)=c.get n:=rfl
theorem xkp(v:SV):c.ev (.c v)=v:=rfl
theorem xko(g:Nat):c.ev (.f g)= .fn g [] []:=rfl
theorem o9:c.kill []=c:=rfl
theorem Dh(l:List (Nat×SV))(o:List (Nat×aC))(t:t8)(n:Nat)(r:t8):CSt.kill ⟨l,o,t⟩ (n::r)=⟨uU l (n::r),o,t⟩:=rfl
def y5:Option SV->Option nK
 |some v=>some {val:=v}
 |none=>none
theorem CC(v:SV):y5 (some v)=some {val:=v}:=rfl
theorem CD:y5 none=none:=rfl
theorem pu{so:SOp}{o:Option SV}(h:dM c d so=y5 o):mW c d (dM c d so)=fx c d o:=by rw[h];cases o<;>rfl
theorem N8(o:Option SV):(match o with|some v=>some {val:=v}|none=>none:Option nK)=y5 o:=by cases o<;>rfl
def D5:SV->Option SV
 | .ptr o off=>some (.ptr o off)
 | .ap o h i j=>some (.ap o h i j)
 | .pp cs=>some (.pp cs)
 | .fn f a b=>some (.fn f a b)
 |_=>none
def YE(h:Bool):SV->SV->Option SV
 | .bool a,.bool b=>some (.bool (if h then decide (a≠b)else decide (a=b)))
 |_,_=>none
def Yy(z:Bool)(h:t8):SV->SV->Option SV
 | .agg cs,.agg ds=>(gF h cs ds).map fun b=> .bool (if z then !b else b)
 |_,_=>none
def sV:SV->Option SV
 | .str l=>some (.str l)
 |_=>none
def Eb(h:Bool):SV->Option SV
 | .nili=>some (.bool (!h))
 |_=>none
def Rr:SV->Option SV
 | .str l=>some (.byt l .no)
 |_=>none
def YF(c:CSt):SV->Option SV
 | .str _=>none
 |v=>(dJ c v).map .str
def GF(l:t6):Option Int->Option Int->Option SV
 |some a,some b=>gd (0<=a/\a<=b/\b<=l.length) (.str ((l.take b.toNat).drop a.toNat))
 |_,_=>none
def DT(c:CSt)(lo hi:Option Arg):SV->Option SV
 | .str l=>GF l (ka c lo 0) (ka c hi l.length)
 |_=>none
def DU(c:CSt)(len h:Nat)(lo hi z:Option Arg):SV->Option SV
 | .ptr o off=>if off=0 then nF c h (.psl o h 0 len (some len)) lo hi z else none
 |_=>none
def tq(off:Nat):SV->Option SV
 | .ptr o k=>some (.ptr o (k+off))
 | .ap o h i j=>some (.ap o h i (j+off))
 | .pp cs=>some (.pp (cs.drop off))
 |_=>none
def Yo(off n:Nat)(h:Bool):SV->Option SV
 | .agg cs=>gd (off+n<=cs.length) (du h n (cs.drop off))
 |_=>none
def oC(h:Nat):SV->Option Int->Option SV
 | .byt l _,some n=>gd (0<=n/\n<l.length/\h=1) (.pp [.u8 (l.getD n.toNat 0)])
 | .lst sz' xs _,some n=>gd (0<=n/\n<xs.length/\h=sz') (.pp (xs.getD n.toNat []))
 | .psl o sz' off k _,some n=>gd (0<=n/\n<k/\h=sz') (.ap o h (off+n.toNat) 0)
 |_,_=>none
def pe(len h o off:Nat)(n:Int):Option aC->Option SV
 |some (.rc _)=>gd (0<=n/\n<len) (.ptr o (off+n.toNat*h))
 |some _=>gd (off=0/\0<=n/\n<len) (.ap o h n.toNat 0)
 |none=>none
def mi(c:CSt)(len h:Nat):SV->Option Int->Option SV
 | .ptr o off,some n=>pe len h o off n (c.look o)
 | .pp cs,some n=>gd (0<=n/\n<len/\cs.length=len*h) (.pp (cs.drop (n.toNat*h)))
 |_,_=>none
def Ee(len h:Nat)(z:Bool):SV->Option Int->Option SV
 | .agg cs,some n=>gd (0<=n/\n<len/\cs.length=len*h) (du z h (cs.drop (n.toNat*h)))
 |_,_=>none
def Ed:SV->Option Int->Option SV
 | .str l,some n=>gd (0<=n/\n<l.length) (.u8 (l.getD n.toNat 0))
 |_,_=>none
def Yw(i:Nat):SV->Option SV
 | .tup vs=>gd (i<vs.length) (vs.getD i .undef)
 |_=>none
def lenC:LAa->Option SV
 |some n=>some (.int .i64 (n:Nat))
 |none=>none
def YB:SV->Option SV
 | .psl _ _ _ _ (some m)=>some (.int .i64 m)
 | .byt l t=>if t= .clip then some (.int .i64 l.length)else none
 | .lst _ h t=>if t= .clip then some (.int .i64 h.length)else none
 |_=>none
def D6:SV->SV->Option SV
 | .int k a,.int k' b=>if k=k' then some (.int k (if b<a then b else a))else none
 |_,_=>none
def D7:SV->SV->Option SV
 | .int k a,.int k' b=>if k=k' then some (.int k (if a<b then b else a))else none
 |_,_=>none
def tw:Option t7->Option SV
 |some l=>some (.agg l)
 |none=>none
def Yf(h:Nat):Option f8->Option SV
 |some r=>some (.lst h r .clip)
 |none=>none
def D8:Option t6->Option SV
 |some r=>some (.byt r .clip)
 |none=>none
theorem xdQ(x:Arg):cG c (.mov x)=some (c.ev x):=rfl
theorem y7(z:t7)(h:List (Nat×Nat×Arg)):cG c (.build z h)=tw (iE z (psC c h)):=by simp only[cG];cases iE z (psC c h)<;>rfl
theorem Rh(h:Nat)(z:List Arg):cG c (.lit h z)=Yf h (rows h (evL c z)):=by simp only[cG];cases rows h (evL c z)<;>rfl
theorem GC(h:List Arg):cG c (.litB h)=D8 (toB (evL c h)):=by simp only[cG];cases toB (evL c h)<;>rfl
theorem xah(n:Nat)(h:Bool)(a:Arg):cG c (.load n h a)=lU c n h (c.ev a):=rfl
theorem xad(x:Arg):cG c (.nchk x)=D5 (c.ev x):=rfl
theorem xdV(op:BinOp)(x y:Arg):cG c (.bin op x y)=Ep op (c.ev x) (c.ev y):=rfl
theorem xdW(h:Bool)(x y:Arg):cG c (.beq h x y)=YE h (c.ev x) (c.ev y):=rfl
theorem xdT(z:Bool)(h:t8)(x y:Arg):cG c (.eqS z h x y)=Yy z h (c.ev x) (c.ev y):=rfl
theorem xiW(op:UnOp)(x:Arg):cG c (.un op x)=vh op (c.ev x):=rfl
theorem Ob(q:IntKind)(x:Arg):cG c (.toInt q x)=g8 q (c.ev x):=rfl
theorem Oa(x:Arg):cG c (.toStr x)=sV (c.ev x):=rfl
theorem xaj(h:Bool)(x:Arg):cG c (.isni h x)=Eb h (c.ev x):=rfl
theorem xdP(x:Arg):cG c (.s2b x)=Rr (c.ev x):=rfl
theorem xdX(x:Arg):cG c (.b2s x)=YF c (c.ev x):=rfl
theorem xae(f:Nat)(a b:List Arg):cG c (.mkfn f a b)=some (.fn f (evL c a) (evL c b)):=rfl
theorem GB(x:Arg)(lo hi:Option Arg):cG c (.slcS x lo hi)=DT c lo hi (c.ev x):=by simp only[cG];cases c.ev x<;>rfl
theorem xab(z:Nat)(x:Arg)(lo hi h:Option Arg):cG c (.slcL z x lo hi h)=nF c z (c.ev x) lo hi h:=rfl
theorem xac(len z:Nat)(x:Arg)(lo hi h:Option Arg):cG c (.slcA len z x lo hi h)=DU c len z lo hi h (c.ev x):=rfl
theorem Oc(off:Nat)(x:Arg):cG c (.faddr off x)=tq off (c.ev x):=rfl
theorem xdR(off n:Nat)(h:Bool)(x:Arg):cG c (.fld off n h x)=Yo off n h (c.ev x):=rfl
theorem EE(h:Nat)(x i:Arg):cG c (.iaddrL h x i)=oC h (c.ev x) (c.ev i).num:=rfl
theorem tY(len h:Nat)(x i:Arg):cG c (.iaddrA len h x i)=mi c len h (c.ev x) (c.ev i).num:=by simp only[cG];unfold mi pe;rfl
theorem xal(len z:Nat)(h:Bool)(x i:Arg):cG c (.idxA len z h x i)=Ee len z h (c.ev x) (c.ev i).num:=rfl
theorem xak(x i:Arg):cG c (.idxS x i)=Ed (c.ev x) (c.ev i).num:=rfl
theorem xdS(x:Arg)(i:Nat):cG c (.ext x i)=Yw i (c.ev x):=rfl
theorem Ri(b:Bool)(x:Arg):cG c (.len b x)=lenC (jF b (c.ev x)):=by simp only[cG];cases jF b (c.ev x)<;>rfl
theorem xai(n:Nat):cG c (.lenC n)=some (.int .i64 n):=rfl
theorem xdU(x:Arg):cG c (.cap x)=YB (c.ev x):=rfl
theorem xaf(x y:Arg):cG c (.mini x y)=D6 (c.ev x) (c.ev y):=rfl
theorem xag(x y:Arg):cG c (.maxi x y)=D7 (c.ev x) (c.ev y):=rfl
def SOp.pure:SOp->Bool
 | .new _| .box _| .mk _ _ _ _| .mkB _ _| .store _ _ _| .app _ _ _ _| .cpy _ _ _| .pick _ _ _| .call _ _| .isnil _ _| .newB _| .slid _| .appO _ _ _ _| .clr _ _=>false
 |_=>true
theorem qY{so:SOp}(h:so.pure=true):dM c d so=y5 (cG c so):=by
 cases so<;>first|cases h;done|rfl|exact N8 _
theorem bR{so:SOp}(h:so.pure=true):opC call sg c d so=fx c d (cG c so):=by
 have z:opC call sg c d so=mW c d (dM c d so):=by cases so<;>first|rfl|cases h
 rw[z];exact pu (qY h)
theorem xfp(x:Arg):opC call sg c d (.mov x)=fx c d (some (c.ev x)):=bR rfl
theorem Pp(z:t7)(h:List (Nat×Nat×Arg)):opC call sg c d (.build z h)=fx c d (tw (iE z (psC c h))):=(bR rfl).trans (by rw[y7])
theorem xfr(h:Nat)(z:List Arg):opC call sg c d (.lit h z)=fx c d (Yf h (rows h (evL c z))):=(bR rfl).trans (by rw[Rh])
theorem xcp(h:List Arg):opC call sg c d (.litB h)=fx c d (D8 (toB (evL c h))):=(bR rfl).trans (by rw[GC])
theorem xco(n:Nat)(h:Bool)(a:Arg):opC call sg c d (.load n h a)=fx c d (lU c n h (c.ev a)):=bR rfl
theorem xck(x:Arg):opC call sg c d (.nchk x)=fx c d (D5 (c.ev x)):=bR rfl
theorem xfA(op:BinOp)(x y:Arg):opC call sg c d (.bin op x y)=fx c d (Ep op (c.ev x) (c.ev y)):=bR rfl
theorem xfB(h:Bool)(x y:Arg):opC call sg c d (.beq h x y)=fx c d (YE h (c.ev x) (c.ev y)):=bR rfl
theorem xfv(z:Bool)(h:t8)(x y:Arg):opC call sg c d (.eqS z h x y)=fx c d (Yy z h (c.ev x) (c.ev y)):=bR rfl
theorem xjf(op:UnOp)(x:Arg):opC call sg c d (.un op x)=fx c d (vh op (c.ev x)):=bR rfl
theorem Pl(q:IntKind)(x:Arg):opC call sg c d (.toInt q x)=fx c d (g8 q (c.ev x)):=bR rfl
theorem Pk(x:Arg):opC call sg c d (.toStr x)=fx c d (sV (c.ev x)):=bR rfl
theorem xcj(h:List Arg):opC call sg c d (.newB h)=nm c d (toB (evL c h)):=rfl
theorem xce(x:Arg):opC call sg c d (.slid x)=p7 c d (c.ev x):=rfl
theorem wh(k:Nat)(l:t6):nm c (some k) (some l)=some (CSt.app c (some k) {val:= .psl (k+100) 1 0 l.length (some l.length),new:=some (.bar l)}):=rfl
theorem CK(o off n:Nat)(cap:LAa):p7 c d (.psl o 1 off n cap)=nX c d o off n cap (c.look o):=rfl
theorem CL(o off n:Nat)(cap:LAa)(l:t6):nX c d o off n cap (some (.bar l))=if off+n<=l.length/\cap=some n then some (((c.publish o []).1).put d (.byt ((l.drop off).take n) .clip))else none:=rfl
theorem xcr(h:Bool)(x:Arg):opC call sg c d (.isni h x)=fx c d (Eb h (c.ev x)):=bR rfl
theorem xfn(x:Arg):opC call sg c d (.s2b x)=fx c d (Rr (c.ev x)):=bR rfl
theorem xfC(x:Arg):opC call sg c d (.b2s x)=fx c d (YF c (c.ev x)):=bR rfl
theorem xcl(f:Nat)(a b:List Arg):opC call sg c d (.mkfn f a b)=fx c d (some (.fn f (evL c a) (evL c b))):=bR rfl
theorem xcf(x:Arg)(lo hi:Option Arg):opC call sg c d (.slcS x lo hi)=fx c d (DT c lo hi (c.ev x)):=(bR rfl).trans (by rw[GB])
theorem xcg(z:Nat)(x:Arg)(lo hi h:Option Arg):opC call sg c d (.slcL z x lo hi h)=fx c d (nF c z (c.ev x) lo hi h):=bR rfl
theorem xch(len z:Nat)(x:Arg)(lo hi h:Option Arg):opC call sg c d (.slcA len z x lo hi h)=fx c d (DU c len z lo hi h (c.ev x)):=bR rfl
theorem Po(off:Nat)(x:Arg):opC call sg c d (.faddr off x)=fx c d (tq off (c.ev x)):=bR rfl
theorem xft(off n:Nat)(h:Bool)(x:Arg):opC call sg c d (.fld off n h x)=fx c d (Yo off n h (c.ev x)):=bR rfl
theorem FE(h:Nat)(x i:Arg):opC call sg c d (.iaddrL h x i)=fx c d (oC h (c.ev x) (c.ev i).num):=bR rfl
theorem FF(len h:Nat)(x i:Arg):opC call sg c d (.iaddrA len h x i)=fx c d (mi c len h (c.ev x) (c.ev i).num):=(bR rfl).trans (by rw[tY])
theorem xct(len z:Nat)(h:Bool)(x i:Arg):opC call sg c d (.idxA len z h x i)=fx c d (Ee len z h (c.ev x) (c.ev i).num):=bR rfl
theorem xcs(x i:Arg):opC call sg c d (.idxS x i)=fx c d (Ed (c.ev x) (c.ev i).num):=bR rfl
theorem xfu(x:Arg)(i:Nat):opC call sg c d (.ext x i)=fx c d (Yw i (c.ev x)):=bR rfl
theorem xfs(b:Bool)(x:Arg):opC call sg c d (.len b x)=fx c d (lenC (jF b (c.ev x))):=(bR rfl).trans (by rw[Ri])
theorem xcq(n:Nat):opC call sg c d (.lenC n)=fx c d (some (.int .i64 n)):=bR rfl
theorem xfy(x:Arg):opC call sg c d (.cap x)=fx c d (YB (c.ev x)):=bR rfl
theorem xcm(x y:Arg):opC call sg c d (.mini x y)=fx c d (D6 (c.ev x) (c.ev y)):=bR rfl
theorem xcn(x y:Arg):opC call sg c d (.maxi x y)=fx c d (D7 (c.ev x) (c.ev y)):=bR rfl
def D2(a b:SV):SV->Option SV
 | .bool t=>some (ik t a b)
 |_=>none
theorem xdb(q a b:Arg):dM c d (.pick q a b)=y5 (D2 (c.ev a) (c.ev b) (c.ev q)):=by simp only[dM];cases c.ev q<;>rfl
theorem xci(q a b:Arg):opC call sg c d (.pick q a b)=fx c d (D2 (c.ev a) (c.ev b) (c.ev q)):=pu (xdb q a b)
def tn(h:Bool):SV->Option SV
 | .byt l _=>gd (l≠ []) (.bool h)
 | .lst _ z _=>gd (z≠ []) (.bool h)
 | .psl _ _ _ _ _=>some (.bool h)
 |_=>none
theorem Qu(h:Bool)(x:Arg):dM c d (.isnil h x)=y5 (tn h (c.ev x)):=by simp only[dM];cases c.ev x<;>first|rfl|(simp only[tn];unfold gd;split<;>rfl)
theorem Pn(h:Bool)(x:Arg):opC call sg c d (.isnil h x)=fx c d (tn h (c.ev x)):=pu (Qu h x)
def Cr(c:CSt)(k:Nat)(o:aC)(v:SV):CSt:=CSt.app c (some k) {val:=v,new:=some o}
theorem QW(l:List (Nat×SV))(ob:List (Nat×aC))(t:t8)(o:aC)(v:SV):
 Cr ⟨l,ob,t⟩ k o v=⟨jm (da (k+100) (k+101) l) k v,iK (bz (k+100) (k+101) ob) (k+100) (o.purge (k+100) (k+101)),co (k+100) (k+101) t⟩:=rfl
def xix(c:CSt)(k:Nat)(v:SV):Option aC->LAe
 |some o=>some (Cr c k o v)
 |none=>none
theorem DO(v:SV)(o:aC):xix c k v (some o)=some (Cr c k o v):=rfl
theorem xfo(o:aC):opC call sg c (some k) (.new o)=xix c k (.ptr (k+100) 0) (gd (o.wf=true) o):=by show mW c (some k) (gd _ _)=_;unfold gd;split<;>rfl
theorem xfz(x:Arg):opC call sg c (some k) (.box x)=some (Cr c k (.rc (c.ev x).cells) (.ptr (k+100) 0)):=rfl
def mkE(bytes:Nat):SV->SV->Option (Nat×Nat)
 | .int _ n,.int _ m=>gd (0<=n/\n<=m/\bytes*m<=140737488355328/\m<=9223372036854775807) (n.toNat,m.toNat)
 |_,_=>none
def mkS(c:CSt)(k:Nat)(z:t7):Option (Nat×Nat)->LAe
 |some p=>some (Cr c k (.arr z.length (au p.2 z)) (.psl (k+100) z.length 0 p.1 (some p.2)))
 |none=>none
theorem xjg(z:t7)(bytes:Nat)(n m:Arg):opC call sg c (some k) (.mk z bytes n m)=mkS c k z (mkE bytes (c.ev n) (c.ev m)):=by show mW c (some k) (dM c (some k) (.mk z bytes n m))=_;simp only[dM];cases h1:c.ev n<;>cases h2:c.ev m<;>first|rfl|(simp only[mkE];unfold gd;split<;>rfl)
def xdp:SV->SV->Option (Nat×Nat)
 | .int _ n,.int _ m=>gd (0<=n/\n<=m/\m<=140737488355328) (n.toNat,m.toNat)
 |_,_=>none
def xh7(c:CSt)(k:Nat):Option (Nat×Nat)->LAe
 |some p=>some (Cr c k (.bar (au p.2 0)) (.psl (k+100) 1 0 p.1 (some p.2)))
 |none=>none
theorem xfq(n m:Arg):opC call sg c (some k) (.mkB n m)=xh7 c k (xdp (c.ev n) (c.ev m)):=by show mW c (some k) (dM c (some k) (.mkB n m))=_;simp only[dM];cases h1:c.ev n<;>cases h2:c.ev m<;>first|rfl|(simp only[xdp];unfold gd;split<;>rfl)
def stC(c:CSt)(n:Nat)(v:t7):SV->Option (Nat×aC)
 | .ptr o off=>match c.look o with
  |some (.rc cs)=>gd (off+n<=cs.length/\v.length=n/\v.all SV.one=true) (o,.rc (setCells cs off v))
  |some (.arr h xs)=>gd (off=0/\n=xs.length*h/\v.length=n/\v.all SV.isData=true) (o,.arr h (jw h xs.length (v.map SV.data)))
  |some (.bar l)=>match toB v with
   |some z=>gd (off=0/\n=l.length/\z.length=n) (o,.bar z)
   |none=>none
  |_=>none
 | .ap o h i j=>match c.look o with
  |some (.arr sz' xs)=>gd (h=sz'/\i<xs.length/\j+n<=h/\v.length=n/\v.all SV.isData=true) (o,.arr sz' (gS h xs i j n (v.map SV.data)))
  |some (.bar l)=>match v with
   |[.u8 b]=>gd (h=1/\j=0/\n=1/\i<l.length) (o,.bar (l.set i b))
   |_=>none
  |_=>none
 |_=>none
def stS(c:CSt):Option (Nat×aC)->LAe
 |some p=>some ⟨c.tm,iK c.ob p.1 p.2,c.tk⟩
 |none=>none
theorem EK(l:List (Nat×SV))(ob:List (Nat×aC))(t:t8)(p:Nat×aC):stS ⟨l,ob,t⟩ (some p)=some ⟨l,iK ob p.1 p.2,t⟩:=rfl
theorem CI(n:Nat)(v:t7)(a:SV):kH c n v a=(stC c n v a).map fun p=> {val:= .undef,wr:=[p]}:=by
 cases a with
 |ptr o off=>
  simp only[kH,stC];cases c.look o with
  |none=>rfl
  |some ob=>
   cases ob with
   |rc cs=>simp only;unfold gd;split<;>rfl
   |arr h z=>simp only;unfold gd;split<;>rfl
   |bar l=>simp only;cases toB v<;>first|rfl|(simp only;unfold gd;split<;>rfl)
 |ap o B i j=>
  simp only[kH,stC];cases c.look o with
  |none=>rfl
  |some ob=>
   cases ob with
   |rc cs=>rfl
   |arr h z=>simp only;unfold gd;split<;>rfl
   |bar l=>
    rcases v with _|⟨u,_|⟨u2,r⟩⟩
    ·rfl
    ·cases u<;>first|rfl|(simp only;unfold gd;split<;>rfl)
    ·cases u<;>rfl
 |_=>rfl
theorem Pm(n:Nat)(a x:Arg):opC call sg c none (.store n a x)=if(c.ev x).isDef=true then stS c (stC c n (c.ev x).cells (c.ev a))else none:=by
 show mW c none (dM c none (.store n a x))=_;simp only[dM];split
 ·rw[CI];cases stC c n (c.ev x).cells (c.ev a)<;>rfl
 ·rfl
def apB(c:CSt)(k:Nat)(l:t6)(t:Tok)(z:t7)(bytes:Nat):Option t6->LAe
 |some h=>if z.length=1/\bytes=1/\t.readyC c=true/\l.length+h.length<=140737488355328 then some (CSt.app c (some k) {val:= .byt (l++h) (.id (k+100)),eat:=t,tok:=true})else none
 |none=>none
def apL(c:CSt)(k:Nat)(h:Nat)(l:f8)(t:Tok)(z:t7)(bytes:Nat):Option f8->LAe
 |some B=>if z.length=h/\t.readyC c=true/\(l.length+B.length)*bytes<=140737488355328 then some (CSt.app c (some k) {val:= .lst z.length (l++B) (.id (k+100)),eat:=t,tok:=true})else none
 |none=>none
theorem QV(l:List (Nat×SV))(ob:List (Nat×aC))(t:t8)(v:SV)(e:Tok):
 CSt.app ⟨l,ob,t⟩ (some k) {val:=v,eat:=e,tok:=true}=⟨jm (da (k+100) (k+101) l) k v,bz (k+100) (k+101) ob,mb (co (k+100) (k+101) (e.eat t)) (k+100)⟩:=rfl
def apS(c:CSt)(k:Nat)(z:t7)(bytes:Nat)(y:SV):SV->LAe
 | .byt l t=>apB c k l t z bytes (dJ c y)
 | .lst h l t=>apL c k h l t z bytes (fB c z.length y)
 |_=>none
theorem xfD(z:t7)(bytes:Nat)(x y:Arg):opC call sg c (some k) (.app z bytes x y)=apS c k z bytes (c.ev y) (c.ev x):=by
 show mW c (some k) (dM c (some k) (.app z bytes x y))=_;simp only[dM];cases c.ev x<;>try rfl
 ·simp only[apS]
  cases dJ c (c.ev y)with
  |none=>rfl
  |some h=>simp only[cQ,apB];unfold gd;split<;>rfl
 ·simp only[apS]
  cases fB c z.length (c.ev y)with
  |none=>rfl
  |some h=>simp only[cQ,apL];unfold gd;split<;>rfl
def cpB(o off n:Nat)(B h:Nat)(l:t6):Option t6->Option (SV×Nat×aC)
 |some z=>gd (B=1/\h=1/\off+n<=l.length) (.int .i64 (min z.length n:Nat),o,.bar (l.take off++z.take n++l.drop (off+(z.take n).length)))
 |none=>none
def cpL(b:Bool)(o off n:Nat)(z B h:Nat)(E:f8):Option f8->Option (SV×Nat×aC)
 |some F=>gd (b=true/\z=B/\z=h/\off+n<=E.length) (.int .i64 (min F.length n:Nat),o,.arr z (E.take off++F.take n++E.drop (off+(F.take n).length)))
 |none=>none
def cp2(b:Bool)(c:CSt)(z o h off n:Nat)(y:SV):Option aC->Option (SV×Nat×aC)
 |some (.bar l)=>cpB o off n z h l (dJ c y)
 |some (.arr sz'' xs)=>cpL b o off n z h sz'' xs (fB c z y)
 |_=>none
def cpC(b:Bool)(c:CSt)(z:Nat)(y:SV):SV->Option (SV×Nat×aC)
 | .psl o h off n _=>cp2 b c z o h off n y (c.look o)
 |_=>none
def cpS(c:CSt)(d:LAa):Option (SV×Nat×aC)->LAe
 |some p=>some (CSt.put ⟨c.tm,iK c.ob p.2.1 p.2.2,c.tk⟩ d p.1)
 |none=>none
theorem xcv(z:t7)(b:Nat)(x y:Arg):opC call sg c d (.appO z b x y)=qz c d z b y (c.ev x):=rfl
def clA(o off n:Nat)(z:t7)(E h:Nat)(B:f8):Option (SV×Nat×aC):=gd (0<n/\z.length=E/\z.length=h/\off+n<=B.length) (.tup [],o,.arr z.length (B.take off++au n z++B.drop (off+n)))
def cl2(z:t7)(o h off n:Nat):Option aC->Option (SV×Nat×aC)
 |some (.arr sz'' xs)=>clA o off n z h sz'' xs
 |_=>none
def clC(c:CSt)(z:t7):SV->Option (SV×Nat×aC)
 | .psl o h off n _=>cl2 z o h off n (c.look o)
 |_=>none
theorem xfx(z:t7)(x:Arg):opC call sg c d (.clr z x)=cpS c d (clC c z (c.ev x)):=by
 show mW c d (dM c d (.clr z x))=_;simp only[dM];cases c.ev x<;>try rfl
 rename_i o B off n cap;simp only[clC];cases c.look o with
 |none=>rfl
 |some ob=>
  cases ob with
  |rc cs=>rfl
  |bar l=>rfl
  |arr h E=>simp only[cl2,clA];unfold gd;split<;>rfl
theorem xfw(h:Nat)(x y:Arg):opC call sg c d (.cpy h x y)=cpS c d (cpC y.isT c h (c.ev y) (c.ev x)):=by
 show mW c d (dM c d (.cpy h x y))=_;simp only[dM];cases c.ev x<;>try rfl
 rename_i o B off n cap;simp only[cpC];cases c.look o with
 |none=>rfl
 |some ob=>
  cases ob with
  |rc cs=>rfl
  |bar l=>
   simp only[cp2];cases dJ c (c.ev y)with
   |none=>rfl
   |some E=>simp only[cQ,cpB];unfold gd;split<;>rfl
  |arr z F=>
   simp only[cp2];cases fB c h (c.ev y)with
   |none=>rfl
   |some E=>simp only[cQ,cpL];unfold gd;split<;>rfl
def NJ(call:cV)(sg:Nat->Sig)(c:CSt)(d:LAa)(a_:t7):SV->LAe
 | .fn g a b=>ib call (sg g) c d g (a++a_++b)
 |_=>none
theorem xcu(f:Arg)(a_:List Arg):opC call sg c d (.call f a_)=NJ call sg c d (evL c a_) (c.ev f):=by simp only[opC];unfold NJ;rfl
theorem xax(o:SOp):dB call sg c ⟨d,none,o⟩=opC call sg c d o:=rfl
theorem xbu(g:Option (Nat×Bool))(o:SOp)(r:LAd):plC call sg (⟨d,g,o⟩::r) c=nxP call sg r (opC call sg c d o):=by rw[plC]
theorem BM:fA call sg [] c=some c:=by rw[fA]
theorem MF(i:SI)(h:t8)(r:List RI):fA call sg (.op i h::r) c=nxC call sg h r (dB call sg c i):=by rw[fA]
theorem BN(g:Nat)(b:Bool)(l:LAd)(h:t8)(r:List RI):fA call sg (.grp g b l h::r) c=nxC call sg h r (oD call sg b l c (c.get g)):=by rw[fA]
theorem BK(i:SI)(h:t8)(r:List RI):fA call sg (.tks i h::r) c=nxC call sg h r (y9 c i):=by rw[fA]
theorem Ok(d:LAa)(x:Arg):y9 c ⟨d,none,.s2b x⟩=Ol c d (c.ev x):=rfl
theorem xao(k:Nat)(l:t6):Ol c (some k) (.str l)=some (CSt.app c (some k) {val:= .byt l (.id (k+100)),tok:=true}):=rfl
theorem BL(i:SI)(h:t8)(r:List RI):fA call sg (.own i h::r) c=nxC call sg h r (rV c i):=by rw[fA]
theorem O9(d:LAa)(x:Arg):rV c ⟨d,none,.s2b x⟩=Pg c d (c.ev x):=rfl
theorem Pa(d:LAa)(h:Nat)(z:List Arg):rV c ⟨d,none,.lit h z⟩=Pc c h d (rows h (evL c z)):=rfl
theorem FC(d:LAa)(h:List Arg):rV c ⟨d,none,.litB h⟩=nm c d (toB (evL c h)):=rfl
theorem Pb(d:LAa)(z:t7)(b:Nat)(x y:Arg):rV c ⟨d,none,.app z b x y⟩=qz c d z b y (c.ev x):=rfl
theorem BO(q:Dir)(r:List RI):fA call sg (.dir q::r) c=nxC call sg [] r (pY c q):=by rw[fA]
theorem kO(h:t8)(r:List RI):nxC call sg h r (some c)=fA call sg r (c.kill h):=by rw[nxC]
theorem kP(h:t8)(r:List RI):nxC call sg h r none=none:=by rw[nxC]
theorem MC:plC call sg [] c=some c:=by rw[plC]
theorem BR(r:LAd):nxP call sg r (some c)=plC call sg r c:=by rw[nxP]
theorem BS(r:LAd):nxP call sg r none=none:=by rw[nxP]
theorem xam:unL c []=c:=rfl
theorem Od(g:Option (Nat×Bool))(o:SOp)(r:LAd):unL c (⟨d,g,o⟩::r)=unL (c.put d (.tup [])) r:=rfl
theorem xfY(b:Bool)(l:LAd):oD call sg b l c (.tup [])=some (unL c l):=rfl
theorem xfZ(b t:Bool)(l:LAd):oD call sg b l c (.bool t)=if t=b then plC call sg l c else some (unL c l):=rfl
theorem xcw(h:t8)(r:List RI)(p:Prop)[Decidable p](a b:LAe):nxC call sg h r (if p then a else b)=if p then nxC call sg h r a else nxC call sg h r b:=by split<;>rfl
theorem xcE(p:Prop)[Decidable p](l h:List (Nat×SV))(o:List (Nat×aC))(t:t8):(if p then some (CSt.mk l o t)else some (CSt.mk h o t))=some (CSt.mk (if p then l else h) o t):=by split<;>rfl
theorem xcD(p:Prop)[Decidable p](n:Nat)(v w:SV)(l h:List (Nat×SV)):(if p then(n,v)::l else(n,w)::h)=(n,if p then v else w)::(if p then l else h):=by split<;>rfl
theorem PC(p:Prop)[Decidable p]:(if p then([]:List (Nat×SV))else [])=[]:=by split<;>rfl
theorem FV{α:Type}(p:Prop)[Decidable p](a:α):(if p then a else a)=a:=by split<;>rfl
theorem FU(p:Prop)[Decidable p](q:IntKind)(a b:Int):(if p then SV.int q a else SV.int q b)= .int q (if p then a else b):=by split<;>rfl
theorem Dm(p:Prop)[Decidable p](a b:Bool):(if p then SV.bool a else SV.bool b)= .bool (if p then a else b):=by split<;>rfl
theorem PB(p:Prop)[Decidable p](a b:UInt8):(if p then SV.u8 a else SV.u8 b)= .u8 (if p then a else b):=by split<;>rfl
theorem Do(t a b:Bool):ik t (.bool a) (.bool b)= .bool (if t=true then a else b):=by cases t<;>rfl
theorem FW(t:Bool)(q:IntKind)(a b:Int):ik t (.int q a) (.int q b)= .int q (if t=true then a else b):=by cases t<;>rfl
theorem PD(t:Bool)(a b:UInt8):ik t (.u8 a) (.u8 b)= .u8 (if t=true then a else b):=by cases t<;>rfl
theorem Dn(a b:SV):ik true a b=a:=rfl
theorem wn(a b:SV):ik false a b=b:=rfl
variable {rn : RC -> CSt -> gI}
theorem FG(h:t8):nrm h (some c)=some (.n,c.kill h):=rfl
theorem FH(h:t8):nrm h none=none:=rfl
theorem Ps(h:t8)(p:Prop)[Decidable p](a b:LAe):nrm h (if p then a else b)=if p then nrm h a else nrm h b:=by split<;>rfl
theorem xi0(b:RC):sq rn b (some (.n,c))=rn b c:=rfl
theorem xiY(b:RC)(id:Nat):sq rn b (some (.x id,c))=some (.x id,c):=rfl
theorem xiZ(b:RC):sq rn b (some (.r,c))=some (.r,c):=rfl
theorem Oo(b:RC):sq rn b none=none:=rfl
theorem xas(b:RC)(p:Prop)[Decidable p](x y:gI):sq rn b (if p then x else y)=if p then sq rn b x else sq rn b y:=by split<;>rfl
theorem xf7(a b:RC)(t:Bool):cnd rn a b c (.bool t)=if t=true then rn a c else rn b c:=rfl
theorem xgb(id:Nat):blk id (some (.n,c))=some (.n,c):=rfl
theorem xga(id:Nat):blk id (some (.r,c))=some (.r,c):=rfl
theorem xf9(id h:Nat):blk id (some (.x h,c))=if h=id then some (.n,c)else some (.x h,c):=rfl
theorem Gw(id:Nat):blk id none=none:=rfl
theorem QN(id:Nat)(p:Prop)[Decidable p](x y:gI):blk id (if p then x else y)=if p then blk id x else blk id y:=by split<;>rfl
theorem xjk(b:RC):lp rn b (some (.n,c))=rn (.loop b) c:=rfl
theorem xji(b:RC)(id:Nat):lp rn b (some (.x id,c))=some (.x id,c):=rfl
theorem xjj(b:RC):lp rn b (some (.r,c))=some (.r,c):=rfl
theorem Pw(b:RC):lp rn b none=none:=rfl
theorem xcy(b:RC)(p:Prop)[Decidable p](x y:gI):lp rn b (if p then x else y)=if p then lp rn b x else lp rn b y:=by split<;>rfl
theorem Fw(a:RC):prD rn a (some c)=rn a c:=rfl
theorem xek(h:List Dir):psD h (some (.n,c))=prD (fun _ c=>some (.n,c)) .skip (iw c h):=by simp only[psD];cases iw c h<;>rfl
theorem xei(h:List Dir)(id:Nat):psD h (some (.x id,c))=some (.x id,c):=rfl
theorem xej(h:List Dir):psD h (some (.r,c))=some (.r,c):=rfl
theorem Fv(h:List Dir):psD h none=none:=rfl
theorem O6(h:List Dir)(p:Prop)[Decidable p](x y:gI):psD h (if p then x else y)=if p then psD h x else psD h y:=by split<;>rfl
theorem Gl:iw c []=some c:=rfl
def xiu(h:List Dir):LAe->LAe
 |some c=>iw c h
 |none=>none
theorem DJ(q:Dir)(h:List Dir):iw c (q::h)=xiu h (pY c q):=by simp only[iw];cases pY c q<;>rfl
theorem DK(h:List Dir):xiu h (some c)=iw c h:=rfl
theorem xf1(F:FnC)(n:Nat):El F n (some (.n,c))=MQ F.keep F.raw n c (qu c F.rs):=rfl
theorem xf0(F:FnC)(n:Nat):El F n (some (.r,c))=MQ F.keep F.raw n c (qu c F.rs):=rfl
theorem PU(F:FnC)(n:Nat)(p:Prop)[Decidable p](x y:gI):El F n (if p then x else y)=if p then El F n x else El F n y:=by split<;>rfl
theorem Gt(sg:Sig)(g:Nat)(a_:t7):ib call sg c d g a_=jG call sg c d g a_ ((SV.idsL a_).isEmpty&&sg.own.isEmpty):=rfl
theorem QJ(sg:Sig)(g:Nat)(a_:t7):jG call sg c d g a_ true=lY c d (call g (SV.bareL a_) [] 0):=rfl
theorem QK(sg:Sig)(g:Nat)(a_:t7):jG call sg c d g a_ false=jC call sg d g (eL c a_ (iP sg.raw 0 a_)):=rfl
theorem PW(q:dY):lY c d (some q)=nq c d q q.bare:=rfl
theorem PY(q:dY):nq c d q true=some (c.put d q.r):=rfl
theorem PZ(q:dY):nq c d q false=wz c d q q.small:=rfl
theorem PX(q:dY):wz c d q true=some (jH c d [] [] q):=rfl
theorem QR(r:SV)(os:List (Nat×aC))(tk:t8):(dY.mk r os tk).bare=(os.isEmpty&&tk.isEmpty&&r.ids.isEmpty&&r.toks.isEmpty):=rfl
theorem EM(r:SV)(os:List (Nat×aC))(tk:t8):(dY.mk r os tk).small=(os.all (fun p=>decide (p.1<1000)&&p.2.ids.all (fun k=>decide (k<1000))&&p.2.toks.all (fun k=>decide (k<1000)))&&r.ids.all (fun k=>decide (k<1000))&&r.toks.all (fun k=>decide (k<1000))&&tk.all (fun k=>decide (k<1000))):=rfl
theorem Ot(sg:Sig)(g:Nat)(a_:t7):jC call sg d g (c,a_)=ng call c d g (jN c.tk sg.own 50 0 a_):=rfl
theorem Oz(g:Nat)(a_:t7)(h:List LAa):ng call c d g (a_,h)=kY call c d g a_ h (dC c 60 [] (SV.idsL a_)) (gv c (dC c 60 [] (SV.idsL a_))):=rfl
theorem Oy(g:Nat)(a_:t7)(h:List LAa)(m:t8)(os:List aC):kY call c d g a_ h m (some os)=nf call c d g a_ h m (dV c.tk (50+h.length) os):=rfl
theorem Ox(g:Nat)(a_:t7)(z:List LAa)(m:t8)(os:List aC)(h:List LAa):nf call c d g a_ z m (os,h)=
 nb call c d g a_ z m os h (nR (SV.idsL a_++fy os) m&&dt m&&dt (cn (z++h))&&decide (m.length<=40)&&m.all fun o=> !inR (d.getD 0) o):=rfl
theorem Ow(g:Nat)(a_:t7)(z:List LAa)(m:t8)(os:List aC)(h:List LAa):nb call c d g a_ z m os h true=
 nW c d m (cn (z++h)) (call g (SV.renL (gD m) id a_) (ee (gD m) id os) (z.length+h.length)):=rfl
theorem Ov(m mt:t8)(q:dY):nW c d m mt (some q)=vw c d m mt q q.small:=rfl
theorem Ou(m mt:t8)(q:dY):vw c d m mt q true=some (jH c d m mt q):=rfl
theorem xcW(keep raw:t8)(vs:t7):MQ keep raw k c (some vs)=PV keep k (eL c vs (iP raw 0 vs)):=rfl
theorem xcP(keep:t8)(vs:t7):PV keep k (c,vs)=MP keep k c vs (decide (k=0)&&(SV.idsL vs).isEmpty&&keep.isEmpty):=rfl
theorem xcU(keep:t8)(vs:t7):MP keep k c vs true=some ⟨jn (SV.bareL vs),[],[]⟩:=rfl
theorem xcV(keep:t8)(vs:t7):MP keep k c vs false=Ys k c (jN c.tk keep 60 0 vs):=rfl
theorem xcT(vs:t7)(h:List LAa):Ys k c (vs,h)=Yr k c vs h (dC c 60 [] (j0 k++SV.idsL vs)) (gv c (dC c 60 [] (j0 k++SV.idsL vs))):=rfl
theorem xcS(vs:t7)(h:List LAa)(m:t8)(os:List aC):Yr k c vs h m (some os)=Yq k vs h m (dV c.tk (60+h.length) os):=rfl
theorem xcR(vs:t7)(z:List LAa)(m:t8)(os:List aC)(h:List LAa):Yq k vs z m (os,h)=
 Yp k vs z m os h (nR (SV.idsL vs++fy os) m&&dt m&&dt (cn (z++h))&&decide (m.take k=j0 k)&&(m.drop k).all fun o=>decide (k<=o)):=rfl
theorem xcQ(vs:t7)(z:List LAa)(m:t8)(os:List aC)(h:List LAa):Yp k vs z m os h true=
 some ⟨(jn vs).ren (gN k m) id,(fM 0 (ee (gN k m) id (os.take k)))++(fM (100+k) (ee (gN k m) id (os.drop k))),tks 60 (z.length+h.length)⟩:=rfl
theorem Pi(v:SV):jn [v]=v:=rfl
theorem Ph(v w:SV)(r:t7):jn (v::w::r)= .tup (v::w::r):=rfl
theorem Pj:jn []= .tup []:=rfl
theorem EU(raw:t8)(i:Nat)(q:IntKind)(n:Int):l8 raw i (.int q n)=[]:=rfl
theorem CO(raw:t8)(i:Nat)(b:Bool):l8 raw i (.bool b)=[]:=rfl
theorem OC(raw:t8)(i:Nat)(b:UInt8):l8 raw i (.u8 b)=[]:=rfl
theorem EP(raw:t8)(i:Nat)(l:t6):l8 raw i (.str l)=[]:=rfl
theorem EV(raw:t8)(i:Nat)(l:t6)(t:Tok):l8 raw i (.byt l t)=[]:=rfl
theorem ET(raw:t8)(i h:Nat)(l:f8)(t:Tok):l8 raw i (.lst h l t)=[]:=rfl
theorem CM(raw:t8)(i:Nat):l8 raw i .nilp=[]:=rfl
theorem CN(raw:t8)(i:Nat):l8 raw i .nili=[]:=rfl
theorem vB(raw:t8)(i:Nat):l8 raw i .undef=[]:=rfl
theorem OD(raw:t8)(i:Nat)(l:t7):l8 raw i (.pp l)=[]:=rfl
theorem ER(raw:t8)(i o off:Nat):l8 raw i (.ptr o off)=[]:=rfl
theorem OF(raw:t8)(i o h a b:Nat):l8 raw i (.ap o h a b)=[]:=rfl
theorem EW(raw:t8)(i:Nat)(l:t7):l8 raw i (.agg l)=if raw.contains i=true then []else sX l:=rfl
theorem CX:sX []=[]:=rfl
theorem vG(v:SV)(r:t7):sX (v::r)=gL v++sX r:=rfl
theorem CU(q:IntKind)(n:Int):gL (.int q n)=[]:=rfl
theorem vF(b:Bool):gL (.bool b)=[]:=rfl
theorem EX(b:UInt8):gL (.u8 b)=[]:=rfl
theorem CQ(l:t6):gL (.str l)=[]:=rfl
theorem CV(l:t6)(t:Tok):gL (.byt l t)=[]:=rfl
theorem CT(h:Nat)(l:f8)(t:Tok):gL (.lst h l t)=[]:=rfl
theorem vC:gL .nilp=[]:=rfl
theorem vE:gL .nili=[]:=rfl
theorem tN:gL .undef=[]:=rfl
theorem EY(l:t7):gL (.pp l)=[]:=rfl
theorem CR(o off:Nat):gL (.ptr o off)=[]:=rfl
theorem E0(o h a b:Nat):gL (.ap o h a b)=[]:=rfl
theorem CW(l:t7):gL (.agg l)=[]:=rfl
theorem CP(l:t7):gL (.tup l)=[]:=rfl
theorem EZ(f:Nat)(a b:t7):gL (.fn f a b)=[]:=rfl
theorem CS(o h off n:Nat)(m:LAa):gL (.psl o h off n m)=[o]:=rfl
theorem EO(raw:t8)(i:Nat)(l:t7):l8 raw i (.tup l)=[]:=rfl
theorem OE(raw:t8)(i f:Nat)(a b:t7):l8 raw i (.fn f a b)=[]:=rfl
theorem ES(raw:t8)(i o h off n:Nat)(m:LAa):l8 raw i (.psl o h off n m)=if raw.contains i=true then []else [o]:=rfl
theorem PJ(p:Prop)[Decidable p](a b v:SV):ik (decide p) (if p then a else b) v=ik (decide p) a v:=by by_cases h:p<;>simp[ik,h]
theorem PI(p:Prop)[Decidable p](a b v:SV):ik (decide p) v (if ¬p then a else b)=ik (decide p) v a:=by by_cases h:p<;>simp[ik,h]
theorem PF(t:Bool)(a b v:SV):ik t (if t=true then a else b) v=ik t a v:=by cases t<;>simp[ik]
theorem PE(t:Bool)(a b v:SV):ik t v (if t=false then a else b)=ik t v a:=by cases t<;>simp[ik]
theorem PH(t:Bool)(a b v:SV):ik (!t) (if t=false then a else b) v=ik (!t) a v:=by cases t<;>simp[ik]
theorem PG(t:Bool)(a b v:SV):ik (!t) v (if t=true then a else b)=ik (!t) v a:=by cases t<;>simp[ik]
theorem QQ(p q:Prop)[Decidable p][Decidable q]:(if p then decide q else false)=decide (p/\q):=by by_cases h:p<;>simp[h]
theorem xdk(p q:Prop)[Decidable p][Decidable q]:(if p then true else decide q)=decide (p\/q):=by by_cases h:p<;>simp[h]
theorem QS(v:SV):c.app d {val:=v}=c.put d v:=rfl
theorem QT(l:List (Nat×SV))(ob:List (Nat×aC))(t:t8)(o:aC)(v:SV):
 CSt.app ⟨l,ob,t⟩ (some k) {val:=v,new:=some o}=⟨jm (da (k+100) (k+101) l) k v,iK (bz (k+100) (k+101) ob) (k+100) (o.purge (k+100) (k+101)),co (k+100) (k+101) t⟩:=rfl
theorem xdm(l:List (Nat×SV))(ob:List (Nat×aC))(t:t8)(v:SV)(p:Nat×aC):CSt.app ⟨l,ob,t⟩ d {val:=v,wr:=[p]}=CSt.put ⟨l,iK ob p.1 p.2,t⟩ d v:=rfl
theorem Gn(l:List (Nat×SV))(ob:List (Nat×aC))(t:t8)(p:SV×Nat×aC):cpS ⟨l,ob,t⟩ d (some p)=some (CSt.put ⟨l,iK ob p.2.1 p.2.2,t⟩ d p.1):=rfl
theorem FL(z:t7)(p:Nat×Nat):mkS c k z (some p)=some (Cr c k (.arr z.length (au p.2 z)) (.psl (k+100) z.length 0 p.1 (some p.2))):=rfl
theorem De(p:Nat×Nat):xh7 c k (some p)=some (Cr c k (.bar (au p.2 0)) (.psl (k+100) 1 0 p.1 (some p.2))):=rfl
theorem xdE(x:Arg):cW c (.mov x)=some (c.ev x):=by simp only[cW];rw[xdQ]
theorem N4(z:t7)(h:List (Nat×Nat×Arg)):cW c (.build z h)=tw (iE z (psC c h)):=by simp only[cW];rw[y7]
theorem xdF(h:Nat)(z:List Arg):cW c (.lit h z)=Yf h (rows h (evL c z)):=by simp only[cW];rw[Rh]
theorem Z6(h:List Arg):cW c (.litB h)=D8 (toB (evL c h)):=by simp only[cW];rw[GC]
theorem Z5(n:Nat)(h:Bool)(a:Arg):cW c (.load n h a)=lU c n h (c.ev a):=by simp only[cW];rw[xah]
theorem ZZ(x:Arg):cW c (.nchk x)=D5 (c.ev x):=by simp only[cW];rw[xad]
theorem xdL(op:BinOp)(x y:Arg):cW c (.bin op x y)=Ep op (c.ev x) (c.ev y):=by simp only[cW];rw[xdV]
theorem xdM(h:Bool)(x y:Arg):cW c (.beq h x y)=YE h (c.ev x) (c.ev y):=by simp only[cW];rw[xdW]
theorem xdJ(z:Bool)(h:t8)(x y:Arg):cW c (.eqS z h x y)=Yy z h (c.ev x) (c.ev y):=by simp only[cW];rw[xdT]
theorem xiS(op:UnOp)(x:Arg):cW c (.un op x)=vh op (c.ev x):=by simp only[cW];rw[xiW]
theorem N2(q:IntKind)(x:Arg):cW c (.toInt q x)=g8 q (c.ev x):=by simp only[cW];rw[Ob]
theorem N1(x:Arg):cW c (.toStr x)=sV (c.ev x):=by simp only[cW];rw[Oa]
theorem Z8(h:Bool)(x:Arg):cW c (.isni h x)=Eb h (c.ev x):=by simp only[cW];rw[xaj]
theorem xdD(x:Arg):cW c (.s2b x)=Rr (c.ev x):=by simp only[cW];rw[xdP]
theorem xdN(x:Arg):cW c (.b2s x)=YF c (c.ev x):=by simp only[cW];rw[xdX]
theorem Z0(f:Nat)(a b:List Arg):cW c (.mkfn f a b)=some (.fn f (evL c a) (evL c b)):=by simp only[cW];rw[xae]
theorem ZV(x:Arg)(lo hi:Option Arg):cW c (.slcS x lo hi)=DT c lo hi (c.ev x):=by simp only[cW];rw[GB]
theorem ZW(z:Nat)(x:Arg)(lo hi h:Option Arg):cW c (.slcL z x lo hi h)=nF c z (c.ev x) lo hi h:=by simp only[cW];rw[xab]
theorem ZX(len z:Nat)(x:Arg)(lo hi h:Option Arg):cW c (.slcA len z x lo hi h)=DU c len z lo hi h (c.ev x):=by simp only[cW];rw[xac]
theorem N3(off:Nat)(x:Arg):cW c (.faddr off x)=tq off (c.ev x):=by simp only[cW];rw[Oc]
theorem xdH(off n:Nat)(h:Bool)(x:Arg):cW c (.fld off n h x)=Yo off n h (c.ev x):=by simp only[cW];rw[xdR]
theorem Ez(h:Nat)(x i:Arg):cW c (.iaddrL h x i)=oC h (c.ev x) (c.ev i).num:=by simp only[cW];rw[EE]
theorem EA(len h:Nat)(x i:Arg):cW c (.iaddrA len h x i)=mi c len h (c.ev x) (c.ev i).num:=by simp only[cW];rw[tY]
theorem xaa(len z:Nat)(h:Bool)(x i:Arg):cW c (.idxA len z h x i)=Ee len z h (c.ev x) (c.ev i).num:=by simp only[cW];rw[xal]
theorem Z9(x i:Arg):cW c (.idxS x i)=Ed (c.ev x) (c.ev i).num:=by simp only[cW];rw[xak]
theorem xdI(x:Arg)(i:Nat):cW c (.ext x i)=Yw i (c.ev x):=by simp only[cW];rw[xdS]
theorem xdG(b:Bool)(x:Arg):cW c (.len b x)=lenC (jF b (c.ev x)):=by simp only[cW];rw[Ri]
theorem Z7(n:Nat):cW c (.lenC n)=some (.int .i64 n):=by simp only[cW];rw[xai]
theorem xdK(x:Arg):cW c (.cap x)=YB (c.ev x):=by simp only[cW];rw[xdU]
theorem Z3(x y:Arg):cW c (.mini x y)=D6 (c.ev x) (c.ev y):=by simp only[cW];rw[xaf]
theorem Z4(x y:Arg):cW c (.maxi x y)=D7 (c.ev x) (c.ev y):=by simp only[cW];rw[xag]
theorem ZY(q a b:Arg):cW c (.pick q a b)=D2 (c.ev a) (c.ev b) (c.ev q):=by simp only[cW];cases c.ev q<;>rfl
theorem xjb(o:SOp):qv c ⟨d,none,o⟩=cW c o:=rfl
theorem xja(g:Nat)(b:Bool)(o:SOp):qv c ⟨d,some (g,b),o⟩=qg c o b (c.get g):=rfl
theorem xjd(b t:Bool)(o:SOp):qg c o b (.bool t)=if t=b then cW c o else some (.tup []):=rfl
theorem xjc(b:Bool)(o:SOp):qg c o b (.tup [])=some (.tup []):=rfl
def stG(call:cV)(sg:Nat->Sig)(c:CSt)(d:LAa)(o:SOp)(b:Bool):SV->LAe
 | .bool t=>if t=b then opC call sg c d o else some (c.put d (.tup []))
 | .tup []=>some (c.put d (.tup []))
 |_=>none
theorem xaw(g:Nat)(b:Bool)(o:SOp):dB call sg c ⟨d,some (g,b),o⟩=stG call sg c d o b (c.get g):=by unfold dB stG;rfl
theorem xd0(b t:Bool)(o:SOp):stG call sg c d o b (.bool t)=if t=b then opC call sg c d o else some (c.put d (.tup [])):=rfl
theorem xdZ(b:Bool)(o:SOp):stG call sg c d o b (.tup [])=some (c.put d (.tup [])):=rfl
theorem xcN(b:t8)(h:List FI):eX call sg b [] h c=some c:=by rw[eX]
theorem xjJ(b:t8)(n:Nat)(i:SI)(r h:List FI):eX call sg b (⟨n,true,i⟩::r) h c=uI call sg b r (⟨n,true,i⟩::h) c i.dst (qv c i):=by rw[eX]
theorem xjK(b:t8)(n:Nat)(i:SI)(r h:List FI):eX call sg b (⟨n,false,i⟩::r) h c=pT call sg b r h (b.getD n 0) (dB call sg c i):=by rw[eX]
theorem xjH(b:t8)(r h:List FI)(v:SV):uI call sg b r h c d (some v)=eX call sg b r h (c.put d v):=by rw[uI]
theorem xjI(b:t8)(r h:List FI)(m:Nat):pT call sg b r h m (some c)=pU call sg b r h (gdP (sj m c h) c):=by rw[pT]
theorem xjM(b:t8)(r h:List FI):pU call sg b r h (some c)=eX call sg b r h c:=by rw[pU]
theorem PO{α:Type}{p:Prop}(v:α)(h:p):gdP p v=some v:=by unfold gdP;exact if_pos h
theorem xgd(b:t8)(l:List FI)(p:t8):iW call sg b l [p] c=eX call sg b (iz l p) [] c:=by rw[iW]
theorem xgc(b:t8)(l:List FI)(p q:t8)(r:List t8):iW call sg b l (p::q::r) c=nz (eX call sg b (iz l p) [] c) (iW call sg b l (q::r) c):=by rw[iW]
theorem xkw(a h:CSt):nz (some a) (some h)=gdP (a=h) a:=rfl
theorem xcO(m:Nat):sj m c []=True:=rfl
theorem PT(m:Nat)(p:FI)(r:List FI):sj m c (p::r)=((m/2^p.n % 2=1\/qv c p.i=some (c.get (p.i.dst.getD 0)))/\sj m c r):=rfl
end Go.Sy
namespace Go.Sy
variable [bc]
theorem qP{n:Nat}:∀{l:List (Nat×SV)},(∀p∈l,p.1≠n)->eB l n= .undef
 |[],_=>rfl
 |p::r,h=>by simp only[eB];rw[if_neg (h p (ax ..))];exact qP fun q z=>h q (aq _ z)
theorem lW(n:Nat)(v:SV)(m:Nat):∀l:List (Nat×SV),eB (jm l n v) m=if m=n then v else eB l m
 |[]=>by simp only[jm,eB];by_cases h:n=m<;>simp[h,eq_comm]
 |p::r=>by
  simp only[jm];split
  ·simp only[eB]
   by_cases h:n=m
   ·simp[h]
   ·rw[if_neg h,if_neg (Ne.symm h)]
  ·split
   ·rename_i z B
    simp only[eB]
    by_cases h:n=m
    ·simp[h]
    ·rw[if_neg h,if_neg (Ne.symm h),if_neg (by omega)]
   ·rename_i z B
    simp only[eB,lW n v m r]
    by_cases h:p.1=m
    ·rw[if_pos h,if_pos h,if_neg (by omega)]
    ·rw[if_neg h,if_neg h]
theorem lS{n:Nat}{v:SV}{p:Nat×SV}:∀{l:List (Nat×SV)},p∈jm l n v->p=(n,v)\/p∈l
 |[],h=>by simpa[jm]using h
 |q::r,h=>by
  simp only[jm]at h;split at h
  ·rcases an.1 h with h|h
   ·exact .inl h
   ·exact .inr h
  ·split at h
   ·rcases an.1 h with h|h
    ·exact .inl h
    ·exact .inr (aq _ h)
   ·rcases an.1 h with h|h
    ·exact .inr (h ▸ ax ..)
    ·rcases lS h with h|h
     ·exact .inl h
     ·exact .inr (aq _ h)
theorem fT(lo hi n:Nat):∀l:List (Nat×SV),eB (da lo hi l) n=(eB l n).purge lo hi
 |[]=>by simp[da,eB,SV.purge]
 |p::r=>by
  simp only[da,eB];split
  ·rfl
  ·exact fT lo hi n r
theorem jp{lo hi:Nat}{p:Nat×SV}:∀{l:List (Nat×SV)},p∈da lo hi l->∃q∈l,p.1=q.1
 |q::r,h=>by
  simp only[da]at h;rcases an.1 h with h|h
  ·exact⟨q,ax ..,by rw[h]⟩
  ·obtain⟨u,z,B⟩:=jp h
   exact⟨u,aq _ z,B⟩
theorem o6{k:t8}{p:Nat×SV}:∀{l:List (Nat×SV)},p∈uU l k->p∈l
 |q::r,h=>by
  simp only[uU]at h;split at h
  ·exact aq _ (o6 h)
  ·rcases an.1 h with h|h
   ·exact h ▸ ax ..
   ·exact aq _ (o6 h)
theorem pj(k:t8)(n:Nat):∀l:List (Nat×SV),eB (uU l k) n=if k.contains n=true then .undef else eB l n
 |[]=>by simp[uU,eB]
 |p::r=>by
  simp only[uU,eB];split
  ·rename_i h
   rw[pj k n r]
   by_cases z:p.1=n
   ·subst z;rw[if_pos h,if_pos h]
   ·rw[if_neg z]
  ·rename_i h
   simp only[eB,pj k n r]
   by_cases z:p.1=n
   ·subst z;rw[if_pos rfl,if_neg h,if_pos rfl]
   ·rw[if_neg z,if_neg z]
theorem pk(n:Nat)(v:aC)(m:Nat):∀l:List (Nat×aC),iC (iK l n v) m=if m=n then some v else iC l m
 |[]=>by simp only[iK,iC];by_cases h:n=m<;>simp[h,eq_comm]
 |p::r=>by
  simp only[iK];split
  ·simp only[iC]
   by_cases h:n=m
   ·simp[h]
   ·rw[if_neg h,if_neg (Ne.symm h)]
  ·split
   ·rename_i z B
    simp only[iC]
    by_cases h:n=m
    ·simp[h]
    ·rw[if_neg h,if_neg (Ne.symm h),if_neg (by omega)]
   ·rename_i z B
    simp only[iC,pk n v m r]
    by_cases h:p.1=m
    ·rw[if_pos h,if_pos h,if_neg (by omega)]
    ·rw[if_neg h,if_neg h]
theorem kd{n:Nat}{v:aC}{p:Nat×aC}:∀{l:List (Nat×aC)},p∈iK l n v->p=(n,v)\/p∈l
 |[],h=>by simpa[iK]using h
 |q::r,h=>by
  simp only[iK]at h;split at h
  ·rcases an.1 h with h|h
   ·exact .inl h
   ·exact .inr h
  ·split at h
   ·rcases an.1 h with h|h
    ·exact .inl h
    ·exact .inr (aq _ h)
   ·rcases an.1 h with h|h
    ·exact .inr (h ▸ ax ..)
    ·rcases kd h with h|h
     ·exact .inl h
     ·exact .inr (aq _ h)
theorem sW{n:Nat}{v:aC}:∀{l:List (Nat×aC)},(l.map cB).Pairwise (· < ·)->((iK l n v).map cB).Pairwise (· < ·)
 |[],_=>by simp[iK]
 |p::r,h=>by
  have F:=h;simp only[aO,bA]at h;simp only[iK];split
  ·rename_i B
   rw[aO,bA];refine⟨fun k z=> ?_,F⟩;rw[aO]at z;rcases an.1 z with e|e
   ·omega
   ·have:=h.1 k e;omega
  ·split
   ·rename_i B H
    rw[aO,bA];exact⟨fun k z=>by have:=h.1 k z;omega,h.2⟩
   ·rename_i B H
    rw[aO,bA];refine⟨fun k z=> ?_,sW h.2⟩;obtain⟨q,E,rfl⟩:=aS.1 z;rcases kd E with e|e
    ·rw[e];show p.1<n;omega
    ·exact h.1 _ (ie e)
theorem jb{l:List (Nat×aC)}{n:Nat}{v:aC}(h:iC l n=some v):(n,v)∈l:=by
 induction l with
 |nil=>cases h
 |cons p r z=>
  simp only[iC]at h;split at h
  ·rename_i B
   cases h;subst B;exact ax ..
  ·exact aq _ (z h)
theorem i7:∀{l:List (Nat×aC)},(l.map cB).Nodup->∀{p:Nat×aC},p∈l->iC l p.1=some p.2
 |q::r,hn,p,h=>by
  simp only[aO,ed]at hn;simp only[iC];rcases an.1 h with e|e
  ·subst e;rw[if_pos rfl]
  ·rw[if_neg (fun z=>hn.1 (by rw[z];exact ie e))]
   exact i7 hn.2 e
theorem iY{l:List (Nat×aC)}(h:(l.map cB).Pairwise (· < ·)):(l.map cB).Nodup:=h.imp fun h=>Nat.ne_of_lt h
theorem iu(o:Nat):∀l:List (Nat×aC),l.lookup o=iC l o
 |[]=>rfl
 |p::r=>by
  simp only[List.lookup,iC]
  by_cases h:o=p.1
  ·rw[if_pos h.symm];simp[h]
  ·have:(o==p.1)=false:=by simpa using h
   rw[this,if_neg (Ne.symm h)];exact iu o r
theorem ju(lo hi o:Nat):∀l:List (Nat×aC),iC (bz lo hi l) o=if lo<=o/\o<hi then none else(iC l o).map (aC.purge lo hi)
 |[]=>by simp[bz,iC]
 |p::r=>by
  simp only[bz,iC];split
  ·rename_i z
   rw[ju lo hi o r]
   by_cases h:p.1=o
   ·subst h;rw[if_pos z,if_pos z]
   ·rw[if_neg h]
  ·rename_i z
   simp only[iC,ju lo hi o r]
   by_cases h:p.1=o
   ·subst h;rw[if_pos rfl,if_neg z,if_pos rfl];rfl
   ·rw[if_neg h,if_neg h]
theorem uc{lo hi:Nat}{l:List (Nat×aC)}(h:(l.map cB).Pairwise (· < ·)):((bz lo hi l).map cB).Pairwise (· < ·):=by rw[eI];exact h.filter _
theorem ke{n t:Nat}:∀{l:t8},t∈mb l n↔t=n\/t∈l
 |[]=>by simp[mb]
 |p::r=>by
  simp only[mb];split
  ·simp
  ·split
   ·rename_i h;subst h;simp
   ·simp only[an,ke]
    constructor
    ·rintro(h|h|h)
     ·exact .inr (.inl h)
     ·exact .inl h
     ·exact .inr (.inr h)
    ·rintro(h|h|h)
     ·exact .inr (.inl h)
     ·exact .inl h
     ·exact .inr (.inr h)
theorem oU{lo hi:Nat}{o:aC}(h:o.wf=true):(o.purge lo hi).wf=true:=by cases o<;>simpa[aC.purge,aC.wf]using h
def CSt.st(N:Nat)(c:CSt):St:=⟨(bS N).map c.get,c.ob,c.tk⟩
structure Inv(N:Nat)(c:CSt):Prop where
 dom:∀p∈c.tm,p.1<N
 so:(c.ob.map cB).Pairwise (· < ·)
 wf:∀p∈c.ob,p.2.wf=true
structure Sim(N:Nat)(c:CSt)(s:St):Prop where
 inv:Inv N c
 tm:s.tm=(bS N).map c.get
 look:∀o,s.look o=c.look o
 tk:∀t,t∈s.tk↔t∈c.tk
variable {N : Nat} {c : CSt} {s : St}
theorem Inv.get(h:Inv N c){n:Nat}(hn:N<=n):c.get n= .undef:=qP fun p z e=>by have:=h.dom p z;omega
theorem Sim.of(h:Inv N c):Sim N c (c.st N):=⟨h,rfl,fun o=>iu o c.ob,fun _=>Iff.rfl⟩
theorem Sim.get(h:Sim N c s)(n:Nat):s.get n=c.get n:=by
 unfold St.get;rw[h.tm,aa,aR];rcases bH n N with hn|hn
 ·rw[cM hn];rfl
 ·rw[jZ (by simpa using hn),h.inv.get hn];rfl
theorem Sim.ev(h:Sim N c s)(a:Arg):s.ev a=c.ev a:=by
 cases a with
 |t n=>exact h.get n
 |c v=>rfl
 |f g=>rfl
theorem Sim.evL(h:Sim N c s)(l:List Arg):Sy.evL c l=l.map s.ev:=by
 induction l with
 |nil=>rfl
 |cons a r z=>simp only[Sy.evL,aO,z,h.ev]
theorem Sim.lookmem(h:Sim N c s){o:Nat}{ob:aC}(z:c.look o=some ob):ob.wf=true:=h.inv.wf _ (jb z)
theorem Sim.rows(h:Sim N c s){o z:Nat}{B:f8}(E:c.look o=some (.arr z B)):∀x∈B,x.length=z:=by have:=h.lookmem E;simpa[aC.wf]using this
theorem Inv.put(h:Inv N c){d:LAa}(hd:∀k,d=some k->k<N)(v:SV):Inv N (c.put d v):=by
 cases d with
 |none=>exact h
 |some k=>
  refine⟨fun p z=> ?_,h.so,h.wf⟩;rcases lS z with e|e
  ·rw[e];exact hd k rfl
  ·exact h.dom p e
theorem gG(c:CSt)(k:Nat)(v:SV)(n:Nat):(c.put (some k) v).get n=if n=k then v else c.get n:=lW k v n c.tm
theorem Sim.put(h:Sim N c s){d:LAa}(hd:∀k,d=some k->k<N)(v:SV):Sim N (c.put d v) (s.put d v):=by
 cases d with
 |none=>exact h
 |some k=>
  refine⟨h.inv.put hd v, ?_,h.look,h.tk⟩;show s.tm.set k v=_;rw[h.tm];apply List.ext_getElem?;intro i;rw[eW,aR,aR];rcases bH i N with hi|hi
  ·rw[cM hi]
   simp only[bm,gG,aQ,List.length_range]
   by_cases z:k=i
   ·rw[if_pos z,if_pos (by omega),if_pos z.symm]
   ·rw[if_neg z,if_neg (Ne.symm z)]
  ·rw[jZ (l:=bS N) (by simpa using hi)]
   have:=hd k rfl;rw[if_neg (by omega)];rfl
theorem bJ{α:Type}{p:Prop}[Decidable p]{v u:α}(h:gd p v=some u):p/\v=u:=by
 unfold gd at h;split at h
 ·rename_i z;cases h;exact⟨z,rfl⟩
 ·cases h
theorem F4{op:BinOp}{k:IntKind}{a b:Int}{v:SV}(h:wq op k a b=some v)(z:mg op=false):∃p,PL op k a b=some (p,v)/\p:=by
 cases op<;>simp only[wq]at h<;>first
  |(cases z;done)
  |(obtain⟨B,rfl⟩:=bJ h;exact⟨_,rfl,B⟩)
  |(cases h;exact⟨True,rfl,trivial⟩)
theorem QP{op:BinOp}{a b v:SV}(h:Ep op a b=some v):∃p,wI op a b=some (p,v)/\p:=by
 unfold Ep at h;split at h
 ·rename_i k a H b
  split at h
  ·rename_i F
   by_cases E:mg op=true
   ·cases op<;>first
     |(cases E;done)
     |(simp only[wq]at h;obtain⟨z,rfl⟩:=bJ h;exact⟨_,rfl,z⟩)
   ·have B:mg op=false:=by simpa using E
    have I:k=H:=F.resolve_left E;obtain⟨p,z,J⟩:=F4 h B;refine⟨p, ?_,J⟩;subst I;cases op<;>first|(cases B;done)|(simp only[wI,if_true];exact z)
  ·cases h
 ·rename_i a k b
  show ∃p,Rl op a b=some (p,v)/\p
  cases op<;>simp only[M2]at h<;>first
   |(cases h;done)
   |(obtain⟨z,rfl⟩:=bJ h;exact⟨_,rfl,z⟩)
 ·rename_i a b
  show ∃p,DR op a b=some (p,v)/\p
  cases op<;>simp only[wW]at h<;>first
   |(cases h;done)
   |(obtain⟨z,rfl⟩:=bJ h;exact⟨_,rfl,z⟩)
   |(cases h;exact⟨True,rfl,trivial⟩)
 ·rename_i a b
  show ∃p,Rq op a b=some (p,v)/\p
  cases op<;>simp only[M5]at h<;>first
   |(cases h;done)
   |(obtain⟨z,rfl⟩:=bJ h;exact⟨_,rfl,z⟩)
   |(cases h;exact⟨True,rfl,trivial⟩)
 ·cases h
theorem uB(F:Sim N c s){n:Nat}{H:Bool}{u v:SV}(h:lU c n H u=some v):∃p,iB s n H u=some (p,v)/\p:=by
 cases u with
 |pp cs=>obtain⟨z,rfl⟩:=bJ h;exact⟨_,rfl,z⟩
 |ptr o off=>
  simp only[lU]at h;simp only[iB,F.look];split at h
  ·rename_i cs B;rw[B];obtain⟨z,rfl⟩:=bJ h;exact⟨_,rfl,z⟩
  ·rename_i I L B;rw[B];obtain⟨⟨z,E⟩,rfl⟩:=bJ h;subst z;exact⟨_,rfl,E,F.rows B⟩
  ·rename_i l B;rw[B];obtain⟨⟨z,E⟩,rfl⟩:=bJ h;subst z;exact⟨_,rfl,E⟩
  ·cases h
 |ap o I i j=>
  simp only[lU]at h;simp only[iB,F.look];split at h
  ·rename_i J L B
   rw[B];obtain⟨⟨z,E,O⟩,rfl⟩:=bJ h;refine⟨_,rfl,z,E,O, ?_⟩;rw[aa,af E,z];exact F.rows B _ (bo _)
  ·rename_i l B;rw[B];obtain⟨z,rfl⟩:=bJ h;exact⟨_,rfl,z⟩
  ·cases h
 |_=>cases h
theorem md(h:Sim N c s)(x:Option Arg)(n:Int):iA s x n=ka c x n:=by
 cases x with
 |none=>rfl
 |some a=>simp only[iA,ka,h.ev]
theorem zj(H:Sim N c s){J:Nat}{u v:SV}{lo hi L:Option Arg}(h:nF c J u lo hi L=some v):∃p,jl s J u lo hi L=some (p,v)/\p:=by
 cases u with
 |byt l t=>
  simp only[nF]at h;simp only[jl,md H];split at h<;>try (cases h;done)
  rename_i a b m E B F;rw[E,B,F];obtain⟨z,rfl⟩:=bJ h;exact⟨_,rfl,z⟩
 |lst I l t=>
  simp only[nF]at h;simp only[jl,md H];split at h<;>try (cases h;done)
  rename_i a b m E B F;rw[E,B,F];obtain⟨z,rfl⟩:=bJ h;exact⟨_,rfl,z⟩
 |psl o I off n cap=>
  cases cap with
  |none=>
   simp only[nF]at h;simp only[jl,md H];split at h<;>try (cases h;done)
   rename_i a b E B;rw[E,B];obtain⟨z,rfl⟩:=bJ h;exact⟨_,rfl,z⟩
  |some cap=>
   simp only[nF]at h;simp only[jl,md H];split at h<;>try (cases h;done)
   rename_i a b m E B F;rw[E,B,F];obtain⟨z,rfl⟩:=bJ h;exact⟨_,rfl,z⟩
 |_=>cases h
theorem iU(E:Sim N c s){u:SV}{l:t6}(h:dJ c u=some l):∃p,bytesOf s u=some (p,l)/\p:=by
 cases u with
 |byt l t=>cases h;exact⟨True,rfl,trivial⟩
 |str l=>cases h;exact⟨True,rfl,trivial⟩
 |psl o F off n cap=>
  simp only[dJ]at h;simp only[bytesOf,E.look];split at h
  ·rename_i H z;rw[z];obtain⟨B,rfl⟩:=bJ h;exact⟨_,rfl,B⟩
  ·cases h
 |_=>cases h
theorem j8(F:Sim N c s){u:SV}{I:Nat}{l:f8}(h:fB c I u=some l):∃p,gU s I u=some (p,l)/\p:=by
 cases u with
 |lst z l t=>obtain⟨B,rfl⟩:=bJ h;exact⟨_,rfl,B⟩
 |psl o z off n cap=>
  simp only[fB]at h;simp only[gU,F.look];split at h
  ·rename_i J O E
   rw[E];obtain⟨⟨B,H,L⟩,rfl⟩:=bJ h;exact⟨_,rfl,B,H,L,by rw[H];exact F.rows E⟩
  ·cases h
 |_=>cases h
theorem xbs(B:Sim N c s)(h:List (Nat×Nat×Arg)):psC c h=h.map fun(o,n,x)=>(o,n,s.ev x):=by
 induction h with
 |nil=>rfl
 |cons p r z=>obtain⟨o,n,x⟩:=p;simp only[psC,aO,z,B.ev]
theorem N9(E:Sim N c s){so:SOp}{v:SV}(h:cG c so=some v):∃p,val s so=some (p,v)/\p:=by
 cases so with
 |mov x=>cases h;exact⟨True,by simp only[val,E.ev],trivial⟩
 |build z ps=>simp only[cG,xbs E]at h;obtain⟨l,B,rfl⟩:=ai.1 h;exact⟨True,by simp only[val,B,bm],trivial⟩
 |lit J xs=>simp only[cG,E.evL]at h;obtain⟨l,B,rfl⟩:=ai.1 h;exact⟨True,by simp only[val,B,bm],trivial⟩
 |litB xs=>simp only[cG,E.evL]at h;obtain⟨l,B,rfl⟩:=ai.1 h;exact⟨True,by simp only[val,B,bm],trivial⟩
 |load n U a=>simp only[val,E.ev];exact uB E h
 |nchk x=>simp only[cG]at h;simp only[val,E.ev];cases H:c.ev x<;>rw[H]at h<;>first|(cases h;done)|(cases h;exact⟨True,rfl,trivial⟩)
 |bin op x y=>simp only[val,E.ev];exact QP h
 |beq W x y=>
  simp only[cG]at h;simp only[val,E.ev];split at h<;>try (cases h;done)
  rename_i a b B F;cases h;rw[B,F];exact⟨True,rfl,trivial⟩
 |eqS W ts x y=>
  simp only[cG]at h;simp only[val,E.ev];split at h<;>try (cases h;done)
  rename_i a b B F;obtain⟨l,h3,rfl⟩:=ai.1 h;rw[B,F];exact⟨True,by simp only[h3,bm],trivial⟩
 |un op x=>simp only[cG]at h;exact⟨True,by simp only[val,E.ev,h,bm],trivial⟩
 |toInt k x=>simp only[cG]at h;exact⟨True,by simp only[val,E.ev,h,bm],trivial⟩
 |toStr x=>
  simp only[cG]at h;simp only[val,E.ev];split at h<;>try (cases h;done)
  all_goals
   rename_i B;cases h;rw[B];exact⟨True,rfl,trivial⟩
 |slid x=>simp only[cG]at h;cases h
 |newB x=>simp only[cG]at h;cases h
 |isni W x=>
  simp only[cG]at h;simp only[val,E.ev];split at h<;>try (cases h;done)
  rename_i B;cases h;rw[B];exact⟨True,rfl,trivial⟩
 |s2b x=>
  simp only[cG]at h;simp only[val,E.ev];split at h<;>try (cases h;done)
  rename_i l B;cases h;rw[B];exact⟨True,rfl,trivial⟩
 |b2s x=>
  simp only[cG]at h;simp only[val,E.ev];cases H:c.ev x with
  |byt l t=>rw[H]at h;cases h;exact⟨True,rfl,trivial⟩
  |psl o J off n cap=>
   rw[H]at h;simp only[dJ]at h;simp only[wJ,E.look];obtain⟨l,B,rfl⟩:=ai.1 h;split at B
   ·rename_i l' L;rw[L];obtain⟨F,rfl⟩:=bJ B;exact⟨_,rfl,F⟩
   ·cases B
  |_=>rw[H]at h;cases h
 |mkfn f a b=>simp only[cG,E.evL]at h;cases h;exact⟨True,rfl,trivial⟩
 |slcS x lo hi=>
  simp only[cG]at h;simp only[val,E.ev];split at h<;>try (cases h;done)
  rename_i l H;rw[H];simp only[md E];split at h<;>try (cases h;done)
  rename_i a b B F;rw[B,F];obtain⟨I,rfl⟩:=bJ h;exact⟨_,rfl,I⟩
 |slcL J x lo hi mx=>simp only[val,E.ev];exact zj E h
 |slcA len J x lo hi mx=>
  simp only[cG]at h;simp only[val,E.ev];split at h<;>try (cases h;done)
  rename_i o off H;split at h<;>try (cases h;done)
  rename_i ho;subst ho;rw[H];exact zj E h
 |faddr off x=>simp only[cG]at h;simp only[val,E.ev];cases H:c.ev x<;>rw[H]at h<;>first|(cases h;done)|(cases h;exact⟨True,rfl,trivial⟩)
 |fld off n U x=>
  simp only[cG]at h;simp only[val,E.ev];split at h<;>try (cases h;done)
  rename_i cs H;rw[H];obtain⟨I,rfl⟩:=bJ h;exact⟨_,rfl,I⟩
 |iaddrL J x i=>
  simp only[cG]at h;simp only[val,E.ev];split at h<;>try (cases h;done)
  all_goals
   rename_i B F;rw[B,F];obtain⟨I,rfl⟩:=bJ h;exact⟨_,rfl,I⟩
 |iaddrA len J x i=>
  simp only[cG]at h;simp only[val,E.ev,E.look];split at h<;>try (cases h;done)
  ·rename_i o off n B F
   rw[B,F];simp only;split at h<;>try (cases h;done)
   ·rename_i cs L
    rw[L];obtain⟨I,rfl⟩:=bJ h;exact⟨_,rfl,I⟩
   ·rename_i ob O L
    rw[L];obtain⟨⟨I,Z⟩,rfl⟩:=bJ h;cases ob with
    |rc cs=>exact absurd rfl (O cs)
    |_=>simp only[I,if_true];exact⟨_,rfl,Z⟩
  ·rename_i cs n B F
   rw[B,F];obtain⟨I,rfl⟩:=bJ h;exact⟨_,rfl,I⟩
 |idxA len J U x i=>
  simp only[cG]at h;simp only[val,E.ev];split at h<;>try (cases h;done)
  rename_i B F;rw[B,F];obtain⟨I,rfl⟩:=bJ h;exact⟨_,rfl,I⟩
 |idxS x i=>
  simp only[cG]at h;simp only[val,E.ev];split at h<;>try (cases h;done)
  rename_i B F;rw[B,F];obtain⟨I,rfl⟩:=bJ h;exact⟨_,rfl,I⟩
 |ext x i=>
  simp only[cG]at h;simp only[val,E.ev];split at h<;>try (cases h;done)
  rename_i vs H;rw[H];obtain⟨I,rfl⟩:=bJ h;exact⟨_,rfl,I⟩
 |len b x=>simp only[cG]at h;obtain⟨n,B,rfl⟩:=ai.1 h;exact⟨True,by simp only[val,E.ev,B],trivial⟩
 |lenC n=>cases h;exact⟨True,rfl,trivial⟩
 |cap x=>
  simp only[cG]at h;simp only[val,E.ev];cases H:c.ev x with
  |psl o J off n m=>cases m<;>rw[H]at h<;>cases h;exact⟨True,rfl,trivial⟩
  |byt l t=>rw[H]at h;simp only at h;split at h<;>cases h;rename_i S;subst S;exact⟨True,rfl,trivial⟩
  |lst J l t=>rw[H]at h;simp only at h;split at h<;>cases h;rename_i S;subst S;exact⟨True,rfl,trivial⟩
  |_=>rw[H]at h;cases h
 |mini x y=>
  simp only[cG]at h;simp only[val,E.ev];split at h<;>try (cases h;done)
  rename_i B F;rw[B,F];simp only;split at h<;>cases h;rename_i Q;exact⟨True,by rw[if_pos Q],trivial⟩
 |maxi x y=>
  simp only[cG]at h;simp only[val,E.ev];split at h<;>try (cases h;done)
  rename_i B F;rw[B,F];simp only;split at h<;>cases h;rename_i Q;exact⟨True,by rw[if_pos Q],trivial⟩
 |_=>cases h
end Go.Sy
namespace Go.Sy
variable [bc]
variable {P : Program} {C : Ctx} {x : Sit} {a : Act} {w : World} {o : Oper} {so : SOp} {N : Nat} {c c' : CSt} {s : St} {d : Option Nat}
def M(C:Ctx)(N:Nat)(c:CSt):LBa:=Ei C (Sim N c)
theorem Sim.purge(h:Sim N c s)(lo hi:Nat):Sim N (c.purge lo hi) (s.purge lo hi):=by
 refine⟨⟨fun p z=> ?_,uc h.inv.so,fun p z=> ?_⟩, ?_,fun o=> ?_,fun t=> ?_⟩
 ·obtain⟨q,B,e⟩:=jp z
  rw[e];exact h.inv.dom q B
 ·obtain⟨_,ob,E,F⟩:=cm z
  rw[F];exact oU (h.inv.wf _ E)
 ·show SV.purgeL lo hi s.tm=_
  rw[h.tm,dm,List.map_map];apply List.map_congr_left;intro i _;exact(fT lo hi i c.tm).symm
 ·show(bz lo hi s.ob).lookup o=iC (bz lo hi c.ob) o
  have:=h.look o;unfold St.look CSt.look at this;rw[iu]at this ⊢;rw[ju,ju,this]
 ·show t∈co lo hi s.tk↔t∈co lo hi c.tk
  rw[bE,bE,h.tk]
theorem Sim.addO(h:Sim N c s)(k:Nat){ob:aC}(B:ob.wf=true):Sim N ⟨c.tm,iK c.ob k ob,c.tk⟩ (s.addO k ob):=by
 refine⟨⟨h.inv.dom,sW h.inv.so,fun p E=> ?_⟩,h.tm,fun o=> ?_,h.tk⟩
 ·rcases kd E with e|e
  ·rw[e];exact B
  ·exact h.inv.wf p e
 ·show((k,ob)::s.ob).lookup o=iC (iK c.ob k ob) o
  have:=h.look o;unfold St.look CSt.look at this;rw[pk];simp only[List.lookup]
  by_cases z:o=k
  ·subst z;simp
  ·have:(o==k)=false:=by simpa using z
   rw[this,if_neg z];exact h.look o
theorem ir(k:Nat)(ob:aC)(o:Nat):∀l:List (Nat×aC),(Sy.setO k ob l).lookup o=if o=k/\(l.lookup k).isSome=true then some ob else l.lookup o
 |[]=>by simp[Sy.setO]
 |p::r=>by
  simp only[Sy.setO]
  by_cases z:p.1=k
  ·rw[if_pos z]
   subst z;simp only[List.lookup]
   by_cases h:o=p.1
   ·subst h;simp
   ·have:(o==p.1)=false:=by simpa using h
    simp[this,h]
  ·rw[if_neg z]
   have B:(k==p.1)=false:=by simpa using Ne.symm z
   simp only[List.lookup,B,ir k ob o r]
   by_cases h:o=p.1
   ·subst h;simp[z]
   ·have:(o==p.1)=false:=by simpa using h
    simp[this]
theorem Sim.setO(h:Sim N c s){k:Nat}{ob:aC}(B:(c.look k).isSome=true)(H:ob.wf=true):Sim N ⟨c.tm,iK c.ob k ob,c.tk⟩ (s.setO k ob):=by
 refine⟨⟨h.inv.dom,sW h.inv.so,fun p E=> ?_⟩,h.tm,fun o=> ?_,h.tk⟩
 ·rcases kd E with e|e
  ·rw[e];exact H
  ·exact h.inv.wf p e
 ·show(Sy.setO k ob s.ob).lookup o=iC (iK c.ob k ob) o
  rw[pk,ir]
  have F:(s.ob.lookup k).isSome=true:=by have:=h.look k;unfold St.look at this;rw[this];exact B
  by_cases z:o=k
  ·rw[if_pos ⟨z,F⟩,if_pos z]
  ·rw[if_neg (fun e=>z e.1),if_neg z];exact h.look o
theorem Sim.tks(h:Sim N c s){l k:t8}(z:∀t,t∈l↔t∈k):Sim N ⟨c.tm,c.ob,k⟩ ⟨s.tm,s.ob,l⟩:=⟨⟨h.inv.dom,h.inv.so,h.inv.wf⟩,h.tm,h.look,z⟩
theorem FN{t:Tok}{l k:t8}(h:∀t,t∈l↔t∈k)(n:Nat):n∈t.eat l↔n∈t.eat k:=by
 cases t with
 |id t=>simp only[Tok.eat,bE,h]
 |_=>exact h n
structure Es(e:nK)(f:Eff):Prop where
 val:f.val=e.val
 wr:f.wr=e.wr
 new:f.new=e.new
 eat:f.eat=e.eat
 tok:f.tok=e.tok
structure Ew(c:CSt)(e:nK):Prop where
 new:∀ob,e.new=some ob->ob.wf=true
 wr:e.wr=[]\/∃k ob,e.wr=[(k,ob)]/\(c.look k).isSome=true/\ob.wf=true
theorem Sim.app(h:Sim N c s)(hd:∀k,d=some k->k<N){e:nK}{f:Eff}(z:Es e f)(E:Ew c e):Sim N (c.app d e) (s.app d f):=by
 unfold CSt.app St.app;rw[z.new,z.tok,z.val,z.wr,z.eat];cases hn:e.new with
 |some ob=>exact((h.purge _ _).addO _ (oU (E.new ob hn))).put hd _
 |none=>
  cases ht:e.tok with
  |true=>refine Sim.put (c:=⟨_,_,_⟩) ?_ hd _;refine((h.purge (d.getD 0+100) (d.getD 0+100+1)).tks (fun t=> ?_));rw[ke,an,bE,bE,FN h.tk]
  |false=>
   rcases E.wr with B|⟨k,ob,B,h1,h2⟩
   ·rw[B];exact h.put hd _
   ·rw[B];exact(h.setO h1 h2).put hd _
theorem Es.v(v:SV)(p:Prop):Es {val:=v} {pre:=p,val:=v}:=⟨rfl,rfl,rfl,rfl,rfl⟩
theorem Ew.v(v:SV):Ew c {val:=v}:=⟨fun ob h=>(by cases h),.inl rfl⟩
theorem ZT(n:Nat)(z:t7):(aC.arr z.length (au n z)).wf=true:=by simp only[aC.wf,aT,decide_eq_true_eq];intro y h;rw[(List.mem_replicate.1 h).2]
theorem fO{h:Nat}{z:f8}:(aC.arr h z).wf=true↔∀y∈z,y.length=h:=by simp only[aC.wf,aT,decide_eq_true_eq]
theorem uV(z:Nat):∀(m:Nat)(v:t7),v.length=m*z->∀y∈jw z m v,y.length=z
 |0,_,_,y,hy=>by cases hy
 |m+1,v,h,y,hy=>by
  rw[dH]at h;simp only[jw]at hy;rcases an.1 hy with rfl|hy
  ·rw[aD];omega
  ·exact uV z m (v.drop z) (by rw[aE];omega) y hy
theorem C0{B:Nat}{F:f8}{i j n:Nat}{v:t7}(h:∀y∈F,y.length=B)(hi:i<F.length)(J:j+n<=B)(H:v.length=n):∀y∈gS B F i j n v,y.length=B:=by
 intro y E;unfold gS at E;split at E
 ·rename_i I
  rcases List.mem_or_eq_of_mem_set E with z|z
  ·exact h y z
  ·rw[z,H];exact I.2
 ·rcases List.mem_or_eq_of_mem_set E with z|z
  ·exact h y z
  ·have:(F.getD i []).length=B:=by
    rw[aa,af hi];exact h _ (bo _)
   rw[z];simp only[ah,aD,aE,this,H];omega
theorem qw(h:Sim N c s){t:Tok}(z:t.readyC c=true):t.ready s=true:=by
 cases t with
 |no=>cases z
 |clip=>rfl
 |id t=>simp only[Tok.readyC,eQ,decide_eq_true_eq]at z;simp only[Tok.ready,eQ,decide_eq_true_eq];exact(h.tk t).2 z
theorem OA(z:aM C x s a w){y:Arg}(h:y.isT=true):Rep x (s.ev y) (match y with| .t n=>a.tmps.getD n undef|_=>undef):=by
 cases y with
 |t n=>exact z.slot n
 |_=>cases h
theorem Gi(h:Sim N c s){e:nK}(B:dM c d so=some e)(hp:∀q y z,so≠ .pick q y z)(hn:∀ne q,so≠ .isnil ne q)(a2:∀W q y,so≠ .cpy W q y):∃f,eff s d so=some f/\f.pre/\Es e f/\Ew c e:=by
 have S:∀{so:SOp},dM c d so=y5 (cG c so)->(eff s d so=match val s so with|some (p,v)=>some {pre:=p,val:=v}|none=>none)->dM c d so=some e->∃f,eff s d so=some f/\f.pre/\Es e f/\Ew c e:=by
  intro so E I J;rw[E]at J;cases U:cG c so with
  |none=>rw[U]at J;cases J
  |some v=>rw[U]at J;cases J;obtain⟨p,L,h5⟩:=N9 h U;exact⟨{pre:=p,val:=v},by rw[I,L],h5,Es.v v p,Ew.v v⟩
 cases so with
 |pick q y z=>exact absurd rfl (hp q y z)
 |isnil ne q=>exact absurd rfl (hn ne q)
 |call _ _=>cases B
 |newB _=>cases B
 |slid _=>cases B
 |new ob=>
  simp only[dM]at B;split at B<;>try (cases B;done)
  obtain⟨E,rfl⟩:=bJ B;exact⟨_,rfl,trivial,⟨rfl,rfl,rfl,rfl,rfl⟩,⟨fun ob' e=>(by cases e;exact E),.inl rfl⟩⟩
 |box q=>simp only[dM]at B;split at B<;>cases B;exact⟨_,rfl,trivial,⟨rfl,rfl,by simp only[h.ev],rfl,rfl⟩,⟨fun ob' e=>(by cases e;rfl),.inl rfl⟩⟩
 |mk z bytes n m=>
  simp only[dM]at B;simp only[eff,h.ev];split at B<;>try (cases B;done)
  rename_i E I;rw[E,I];obtain⟨E,rfl⟩:=bJ B;exact⟨_,rfl,E,⟨rfl,rfl,rfl,rfl,rfl⟩,⟨fun ob' e=>(by cases e;exact ZT _ z),.inl rfl⟩⟩
 |mkB n m=>
  simp only[dM]at B;simp only[eff,h.ev];split at B<;>try (cases B;done)
  rename_i E I;rw[E,I];obtain⟨E,rfl⟩:=bJ B;exact⟨_,rfl,E,⟨rfl,rfl,rfl,rfl,rfl⟩,⟨fun ob' e=>(by cases e;rfl),.inl rfl⟩⟩
 |store n q y=>
  simp only[dM]at B;simp only[eff,h.ev];split at B<;>try (cases B;done)
  rename_i a0;rw[a0];simp only;unfold kH at B;unfold pF;split at B
  ·rename_i o' off O
   rw[O];simp only[h.look];split at B<;>try (cases B;done)
   ·rename_i cs F
    rw[F];obtain⟨E,rfl⟩:=bJ B;exact⟨_,rfl,E,⟨rfl,rfl,rfl,rfl,rfl⟩,⟨fun ob' e=>(by cases e),.inr ⟨_,_,rfl,by rw[F];rfl,rfl⟩⟩⟩
   ·rename_i W xs F
    rw[F];obtain⟨⟨E,I,J,L⟩,rfl⟩:=bJ B
    exact⟨_,rfl,⟨E,I,J,L⟩,⟨rfl,rfl,rfl,rfl,rfl⟩,
     ⟨fun ob' e=>(by cases e),.inr ⟨_,_,rfl,by rw[F];rfl,fO.2 (uV W _ _ (by rw[aQ];omega))⟩⟩⟩
   ·rename_i l F
    rw[F];simp only at B ⊢;split at B<;>try (cases B;done)
    rename_i l' U;rw[U];obtain⟨E,rfl⟩:=bJ B;exact⟨_,rfl,E,⟨rfl,rfl,rfl,rfl,rfl⟩,⟨fun ob' e=>(by cases e),.inr ⟨_,_,rfl,by rw[F];rfl,rfl⟩⟩⟩
  ·rename_i o' W i j O
   rw[O];simp only[h.look];split at B<;>try (cases B;done)
   ·rename_i a1 xs F
    rw[F];obtain⟨⟨E,I,J,L,h5⟩,rfl⟩:=bJ B
    exact⟨_,rfl,⟨E,I,J,L,by rw[E];exact h.rows F,h5⟩,⟨rfl,rfl,rfl,rfl,rfl⟩,
     ⟨fun ob' e=>(by cases e),.inr ⟨_,_,rfl,by rw[F];rfl,fO.2 (by subst E;exact C0 (h.rows F) I J (by simpa using L))⟩⟩⟩
   ·rename_i l F
    rw[F];simp only at B ⊢;split at B<;>try (cases B;done)
    rename_i b U;rw[U];obtain⟨E,rfl⟩:=bJ B;exact⟨_,rfl,E,⟨rfl,rfl,rfl,rfl,rfl⟩,⟨fun ob' e=>(by cases e),.inr ⟨_,_,rfl,by rw[F];rfl,rfl⟩⟩⟩
  ·cases B
 |app z bytes q y=>
  simp only[dM]at B;simp only[eff,h.ev];split at B<;>try (cases B;done)
  split at B<;>try (cases B;done)
  ·rename_i l t O
   rw[O];obtain⟨l',E,I⟩:=Option.bind_eq_some_iff.1 B;obtain⟨p,J,L⟩:=iU h E;obtain⟨⟨g1,Z,g3,g4⟩,rfl⟩:=bJ I;simp only[J];exact⟨_,rfl,⟨L,g1,Z,qw h g3,g4⟩,⟨rfl,rfl,rfl,rfl,rfl⟩,⟨fun ob' e=>(by cases e),.inl rfl⟩⟩
  ·rename_i a1 l t O
   rw[O];obtain⟨l',E,I⟩:=Option.bind_eq_some_iff.1 B;obtain⟨p,J,L⟩:=j8 h E;obtain⟨⟨g1,g3,g4⟩,rfl⟩:=bJ I;simp only[J];exact⟨_,rfl,⟨L,g1,qw h g3,g4⟩,⟨rfl,rfl,rfl,rfl,rfl⟩,⟨fun ob' e=>(by cases e),.inl rfl⟩⟩
 |cpy W q y=>exact absurd rfl (a2 W q y)
 |appO z bytes q y=>cases B
 |clr z q=>
  simp only[dM]at B;simp only[eff,h.ev];split at B<;>try (cases B;done)
  rename_i o' a1 off n cap O;rw[O];simp only[h.look];split at B<;>try (cases B;done)
  rename_i a3 xs F;rw[F];obtain⟨⟨g0,g1,Z,g3⟩,rfl⟩:=bJ B;have H:=h.rows F;refine⟨_,rfl,⟨g0,g1,Z,g3,by rw[Z];exact H⟩,⟨rfl,rfl,rfl,rfl,rfl⟩,⟨fun ob' e=>(by cases e),.inr ⟨_,_,rfl,by rw[F];rfl,fO.2 ?_⟩⟩⟩;intro r Q;rcases ak.1 Q with Q|Q
  ·rcases ak.1 Q with Q|Q
   ·rw[Z];exact H r (bL Q)
   ·rw[(List.mem_replicate.1 Q).2]
  ·rw[Z];exact H r (dQ Q)
 |appM z bytes q y=>cases B
 |ovl q y=>cases B
 |_=>exact S (qY rfl) rfl B
theorem Qq(P:Program)(h:Sim N c s)(hM:aM C x s a w){e:nK}(F:dM c d so=some e)(hp:∀q y z,so≠ .pick q y z)(hn:∀ne q,so≠ .isnil ne q):∃f,eff s d so=some f/\f.pre/\Es e f/\Ew c e:=by
 by_cases J:∃O q y,so= .cpy O q y
 ·obtain⟨O,q,y,rfl⟩:=J
  simp only[dM]at F;simp only[eff,h.ev];split at F<;>try (cases F;done)
  rename_i o' a1 off n cap hq;rw[hq];simp only[h.look];split at F<;>try (cases F;done)
  ·rename_i l I
   rw[I];obtain⟨l',S,Z⟩:=Option.bind_eq_some_iff.1 F;obtain⟨p,Q,L⟩:=iU h S;obtain⟨⟨g1,H,W⟩,rfl⟩:=bJ Z;simp only[Q];exact⟨_,rfl,⟨L,g1,H,W⟩,⟨rfl,rfl,rfl,rfl,rfl⟩,⟨fun ob' e=>(by cases e),.inr ⟨_,_,rfl,by rw[I];rfl,rfl⟩⟩⟩
  ·rename_i a0 xs I
   rw[I];obtain⟨l',S,Z⟩:=Option.bind_eq_some_iff.1 F;obtain⟨p,Q,L⟩:=j8 h S;obtain⟨⟨g0,g1,H,W⟩,rfl⟩:=bJ Z;simp only[Q];have B:=h.rows I;obtain⟨_,U,_⟩:=oW (P:=P) hM (OA hM g0) (by rw[h.ev];exact Q) L;refine⟨_,rfl,⟨L,g1,H,W,by rw[H];exact B⟩,⟨rfl,rfl,rfl,rfl,rfl⟩,⟨fun ob' e=>(by cases e),.inr ⟨_,_,rfl,by rw[I];rfl,fO.2 ?_⟩⟩⟩;intro r E;rcases ak.1 E with E|E
   ·rcases ak.1 E with E|E
    ·rw[H];exact B r (bL E)
    ·exact U r (bL E)
   ·rw[H];exact B r (dQ E)
 ·exact Gi h F hp hn (fun O q y e=>J ⟨O,q,y,e⟩)
theorem xel(h:M C N c a w)(W:br P o=some so)(hd:∀k,o.dst=some k->k<N)(H:mW c o.dst (dM c o.dst so)=some c'){K:LBa}{Q:LAf}(S:∀a w,M C N c' a w->K a w):o.wp P a w K Q:=by
 obtain⟨x,s,O,E⟩:=h;cases he:dM c o.dst so with
 |none=>rw[he]at H;cases H
 |some e=>
  rw[he]at H;simp only[mW,aw.injEq]at H;subst H
  by_cases hp:∃q y z,so= .pick q y z
  ·obtain⟨q,y,z,rfl⟩:=hp
   simp only[dM]at he;split at he<;>cases he;rename_i t ht;have F:=DI O W (t:=t) (by rw[E.ev];exact ht);refine cR F (k:=Sim N (c.app o.dst {val:=ik t (c.ev y) (c.ev z)})) ?_ S;have:(if t=true then s.ev y else s.ev z)=ik t (c.ev y) (c.ev z):=by rw[E.ev,E.ev];rfl
   rw[this];exact E.put hd _
  ·by_cases hn:∃B q,so= .isnil B q
   ·obtain⟨B,q,rfl⟩:=hn
    have Z:∃b,b=B/\ce P C o a w (s.put o.dst (.bool b)):=by
     refine wD O W (K:=fun b=>b=B) ?_;rw[E.ev];simp only[dM]at he;split at he<;>try (cases he;done)
     ·rename_i l t J
      obtain⟨I,_⟩:=bJ he
      try rw[J]
      intro b U;cases b
      ·cases B<;>rfl
      ·exact absurd (U rfl) I
     ·rename_i sz l t J
      obtain⟨I,_⟩:=bJ he
      try rw[J]
      intro b U;cases b
      ·cases B<;>rfl
      ·exact absurd (U rfl) I
     ·rename_i J
      first
       |rw[J]
       |rfl
    obtain⟨b,rfl,F⟩:=Z;refine cR F (k:=Sim N (c.app o.dst e)) ?_ S
    have:e= {val:= .bool b}:=by
     simp only[dM]at he;split at he
     ·obtain⟨_,L⟩:=bJ he;exact L.symm
     ·obtain⟨_,L⟩:=bJ he;exact L.symm
     ·exact(aw.inj he).symm
     ·cases he
    rw[this];exact E.put hd _
   ·obtain⟨f,I,L,h3,h4⟩:=Qq P E O he (fun q y z e=>hp ⟨q,y,z,e⟩) (fun B q e=>hn ⟨B,q,e⟩)
    exact cR (Qo O W I L) (k:=Sim N (c.app o.dst e)) (E.app hd h3 h4) S
end Go.Sy
namespace Go.Sy
variable [bc]
variable {P : Program} {C : Ctx} {x : Sit} {a : Act} {w : World} {N : Nat} {c c' : CSt} {s : St}
theorem Sim.exact(h:Sim N c s)(z:aM C x s a w):aM C x (c.st N) a w:=
 ⟨by show cr x ((bS N).map c.get) _;rw[<-h.tm];exact z.tm,z.defers,z.heap.only (fun p H=>by have B:=i7 (iY h.inv.so) H;have E:s.look p.1=some p.2:=(h.look p.1).trans B;exact cP E) (iY h.inv.so) (fun t F=>(h.tk t).2 F)⟩
theorem M.slots(h:M C N c a w)(hi:Inv N c')(I:c'.ob=c.ob)(J:c'.tk=c.tk)(L:∀i,c'.get i=c.get i\/c'.get i= .undef):M C N c' a w:=by
 obtain⟨x,s,H,O⟩:=h;have B:=O.exact H;refine⟨x,c'.st N,⟨⟨?_,fun i z=> ?_⟩,H.defers, ?_⟩,Sim.of hi⟩
 ·have:=B.tm.1;simpa[CSt.st]using this
 ·have F:=B.tm.2 i (by simpa[CSt.st]using z)
  have E:i<N:=by simpa[CSt.st]using z
  simp only[CSt.st,aa,aR,cM E,bm,ba]at F ⊢;rcases L i with e|e
  ·rw[e];exact F
  ·rw[e];exact .undef _
 ·show cS C x c'.ob c'.tk w
  rw[I,J];exact B.heap
theorem Inv.kill(h:Inv N c)(l:t8):Inv N (c.kill l):=by
 cases l with
 |nil=>exact h
 |cons n r=>exact⟨fun p z=>h.dom p (o6 z),h.so,h.wf⟩
theorem M.kill(h:M C N c a w)(l:t8):M C N (c.kill l) a w:=by
 have hi:Inv N c:=by obtain⟨x,s,_,B⟩:=h;exact B.inv
 cases l with
 |nil=>exact h
 |cons n r=>
  refine h.slots (hi.kill _) rfl rfl fun i=> ?_
  have e:=pj (n::r) i c.tm
  by_cases z:(n::r).contains i=true
  ·exact .inr (e.trans (if_pos z))
  ·exact .inl (e.trans (if_neg z))
theorem M.purge(h:M C N c a w)(lo hi:Nat):M C N (c.purge lo hi) a w:=by obtain⟨x,s,B,z⟩:=h;exact⟨x,_,B.purge lo hi,z.purge lo hi⟩
theorem M.gc:∀{l:t8}{c:CSt},M C N c a w->M C N (gcC c l) a w
 |[],_,h=>h
 |o::r,c,h=>by show M C N (gcC (c.purge o (o+1)) r) a w;exact M.gc (h.purge o (o+1))
theorem lE{o:Nat}{obj:aC}(cs:t7):SV.pubL o obj cs=cs.map (SV.pub o obj):=by
 induction cs with
 |nil=>rfl
 |cons c r h=>simp only[SV.pubL,aO,h]
theorem Rep.pub{x x':Sit}{o:Nat}{obj:aC}(Z:x'.bk=x.bk)(hτ:x'.τ=x.τ)(hG:∀b i u,x.G b i=some u->x'.G b i=some u)
 (F:∀k,k<obj.size->∃u,x'.G ((x.bk o).1) k=some u/\cD x'.G (obj.cell k) u) (a0:obj.wf=true) {sv:SV} {v:Value} (h:Rep x sv v):Rep x' (sv.pub o obj) v:=by
 induction h with
 |undef v=>exact .undef v
 |dat s v h ht=>
  have:s.pub o obj=s:=by cases h<;>rfl
  rw[this];exact(Rep.dat s v h ht).grow hG Z hτ
 |ptr J off=>
  simp only[SV.pub];split
  ·exact .undef _
  ·rw[<-Z];exact .ptr J off
 |ap J sz i j=>
  simp only[SV.pub];split
  ·exact .undef _
  ·rw[<-Z];exact .ap J sz i j
 |psl J sz off n cap z B I hn H S=>
  simp only[SV.pub];split
  ·rename_i ho
   subst ho;cases obj with
   |rc cs=>exact .undef _
   |arr L xs=>
    simp only[vZ];split
    ·rename_i hc
     obtain⟨rfl,hb⟩:=hc;have Q:=fO.1 a0;have h1:=leP.psl (o:=J) (cap:=cap) hb Q x x' _ Z hτ hG (fun k hk=>F k hk) (.psl J L off n cap z B I hn H S);split
     ·rename_i E
      have O:=H _ E;obtain⟨b,cq,he,_,hD,_⟩:=h1.lst_inv;exact .dat _ _ (hD.tok (.lst L ((xs.drop off).take n) .clip) (.inr ⟨L,_,_,_,rfl,rfl⟩)) ⟨_,n,by rw[<-O]⟩
     ·exact h1
    ·exact .undef _
   |bar l=>
    simp only[vZ];split
    ·rename_i hc
     obtain⟨rfl,hb⟩:=hc;have W:((l.drop off).take n).length=n:=by simp;omega
     have hD:∀t,cD x'.G (.byt ((l.drop off).take n) t) (.slice (some ⟨(x.bk J).1,z,none⟩) n B):=by
      intro t;refine .byt _ t _ _ _ _ W.symm hn fun i hi=> ?_
      have U:z=off:=by omega
      obtain⟨u,hu,hr⟩:=F (off+i) (by simp only[aC.size];omega);rw[U,hu];simp only[aC.cell]at hr
      have e:((l.drop off).take n).getD i 0=l.getD (off+i) 0:=by simp only[aa,bv,if_pos hi,bf]
      rw[e];cases hr with
      |u8 b=>rfl
     split
     ·rename_i E
      have O:=H _ E;exact .dat _ _ (hD .clip) ⟨_,n,by rw[<-O]⟩
     ·exact .dat _ _ (hD .no) trivial
    ·exact .undef _
  ·rw[<-Z]at S ⊢;exact .psl J sz off n cap z B I hn H S
 |agg cs vs hl _ ih=>simp only[SV.pub,lE];exact .agg _ _ (by simpa using hl) fun i hi=>by rw[aV _ (by rfl)];exact ih i (by simpa using hi)
 |tup cs vs hl _ ih=>simp only[SV.pub,lE];exact .tup _ _ (by simpa using hl) fun i hi=>by rw[aV _ (by rfl)];exact ih i (by simpa using hi)
 |fn f c1 c2 v1 v2 a1 _ a4 _ a3 a2=>simp only[SV.pub,lE];exact .fn _ _ _ _ _ (by simpa using a1) (fun i hi=>by rw[aV _ (by rfl)];exact a3 i (by simpa using hi)) (by simpa using a4) (fun i hi=>by rw[aV _ (by rfl)];exact a2 i (by simpa using hi))
theorem kf{o:Nat}{obj:aC}{p:Nat×aC}:∀{l:List (Nat×aC)},p∈kN o obj l->p.1≠o/\∃q,(p.1,q)∈l/\p.2=nl o obj q
 |q::r,h=>by
  simp only[kN]at h;split at h
  ·obtain⟨z,u,B,E⟩:=kf h
   exact⟨z,u,aq _ B,E⟩
  ·rename_i F
   rcases an.1 h with e|e
   ·rw[e];exact⟨F,q.2,ax ..,rfl⟩
   ·obtain⟨z,u,B,E⟩:=kf e
    exact⟨z,u,aq _ B,E⟩
theorem pn{o:Nat}{obj:aC}:∀l:List (Nat×aC),(kN o obj l).map cB=(l.map cB).filter fun k=>decide (k≠o)
 |[]=>rfl
 |p::r=>by
  simp only[kN,aO,kE]
  by_cases h:p.1=o
  ·rw[if_pos h,pn r];simp[h]
  ·rw[if_neg h,aO,pn r];simp[h]
theorem o0{o:Nat}{obj:aC}{p:Nat×SV}:∀{l:List (Nat×SV)},p∈ln o obj l->∃q∈l,p.1=q.1
 |q::r,h=>by
  simp only[ln]at h;rcases an.1 h with e|e
  ·exact⟨q,ax ..,by rw[e]⟩
  ·obtain⟨u,z,B⟩:=o0 e
   exact⟨u,aq _ z,B⟩
theorem kg{o:Nat}{obj:aC}(n:Nat):∀l:List (Nat×SV),eB (ln o obj l) n=(eB l n).pub o obj
 |[]=>rfl
 |p::r=>by
  simp only[ln,eB];split
  ·rfl
  ·exact kg n r
theorem ZU{o:Nat}{obj q:aC}(h:q.wf=true):(nl o obj q).wf=true:=by cases q<;>simpa[nl,aC.wf]using h
theorem oh{o:Nat}{z obj:aC}(hl:c.look o=some z)(c3:∀cs,obj≠ .rc cs)(a5:∀cs,z≠ .rc cs)(b8:obj.size<=z.size)(b4:∀k,k<obj.size->obj.cell k=z.cell k)(b3:obj.wf=true)(hM:aM C x s a w)(H:Sim N c s):
 ∃x',(x'.bk=x.bk/\x'.τ=x.τ/\(∀b i u,x.G b i=some u->x'.G b i=some u)/\(∀i,obj.size<=i->x'.G ((x.bk o).1) i=none)/\(∀k,k<obj.size->∃u,x'.G ((x.bk o).1) k=some u/\cD x'.G (obj.cell k) u))/\(∀sv v,Rep x sv v->Rep x' (sv.pub o obj) v)/\∃s',aM C x' s' a w/\Sim N ⟨ln o obj c.tm,kN o obj c.ob,c.tk⟩ s'/\(∀p∈s'.ob,(x.bk o).1≠(x'.bk p.1).1):=by
 have S:s.look o=some z:=(H.look o).trans hl;obtain⟨cc,e,fl,fh,hO,c4,hr⟩:=eC hM S;have W:=hM.heap.obs _ (cP S)
 let x':Sit:= {x with G:=fun b i=>if b=(x.bk o).1/\i<obj.size then some (cc.getD i undef)else x.G b i}
 have hG:∀b i u,x.G b i=some u->x'.G b i=some u:=by intro b i u hu;show(if _ then _ else _)=_;rw[if_neg];exact hu;rintro⟨rfl,_⟩;have h0:=W.2.2 i;simp only at h0;rw[h0]at hu;cases hu
 have L:∀k,k<obj.size->∃u,x'.G ((x.bk o).1) k=some u/\cD x'.G (obj.cell k) u:=by
  intro k hk;refine⟨cc.getD k undef,if_pos ⟨rfl,hk⟩,cD.mono hG ?_⟩;have:=hr k (by omega);rw[b4 k hk];cases z with
  |rc cs=>exact absurd rfl (a5 cs)
  |arr sz xs=>exact this
  |bar l=>exact this
 have J:∀sv v,Rep x sv v->Rep x' (sv.pub o obj) v:=fun sv v h=>Rep.pub (x:=x) (x':=x') rfl rfl hG L b3 h
 have B:=hM.heap
 have U:Inv N ⟨ln o obj c.tm,kN o obj c.ob,c.tk⟩:=by
  refine⟨fun p F=> ?_, ?_,fun p F=> ?_⟩
  ·obtain⟨q,hq,e⟩:=o0 F;rw[e];exact H.inv.dom q hq
  ·show((kN o obj c.ob).map cB).Pairwise _
   rw[pn];exact H.inv.so.filter _
  ·obtain⟨_,q,O,h3⟩:=kf F;rw[h3];exact ZU (H.inv.wf _ O)
 have E:∀p∈kN o obj c.ob,p.1≠o/\∃q,(p.1,q)∈s.ob/\p.2=nl o obj q:=by intro p F;obtain⟨Q,q,O,h3⟩:=kf F;have h4:=i7 (iY H.inv.so) O;exact⟨Q,q,cP ((H.look p.1).trans h4),h3⟩
 have a2:∀p∈kN o obj c.ob,(x.bk p.1).1≠(x.bk o).1:=fun p F e=>by obtain⟨Q,q,O,_⟩:=E p F;exact Q (B.inj (p.1,q) O _ (cP S) e)
 refine⟨x',⟨rfl,rfl,hG,fun i hi=> ?_,L⟩,J,_,⟨⟨?_,fun i hi=> ?_⟩,hM.defers, ?_⟩,Sim.of U,fun p F=>(a2 p F).symm⟩
 ·show(if _ then _ else _)=_
  rw[if_neg (by rintro⟨_,h⟩;omega)];exact W.2.2 i
 ·have:=hM.tm.1;rw[H.tm]at this;simpa[CSt.st]using this
 ·have a4:i<N:=by simpa[CSt.st]using hi
  have Q:=hM.tm.2 i (by rw[H.tm];simpa using a4);rw[H.tm]at Q;simp only[CSt.st,aa,aR,cM a4,bm,ba]at Q ⊢;have:(CSt.mk (ln o obj c.tm) (kN o obj c.ob) c.tk).get i=(c.get i).pub o obj:=kg i c.tm;rw[this];exact J _ _ Q
 ·refine⟨
   ?_,fun b i v I=>hG _ _ _ (B.g0 b i v I), ?_,B.new, ?_,iY U.so, ?_, ?_,fun n hn p F=> ?_,fun n hn m hm=>B.tkd n ((H.tk n).2 hn) m ((H.tk m).2 hm),B.os,B.tape,B.output,B.size,B.ext,B.pin,B.lay⟩
  ·intro b i v I
   replace I:(if b=(x.bk o).1/\i<obj.size then some (cc.getD i undef)else x.G b i)=some v:=I;split at I
   ·rename_i a1
    obtain⟨rfl,hi⟩:=a1;cases I;rw[hO.cell,aW,cy (by omega)];rfl
   ·exact B.per b i v I
  ·intro b i v I
   replace I:(if b=(x.bk o).1/\i<obj.size then some (cc.getD i undef)else x.G b i)=some v:=I;split at I
   ·rename_i a1
    exact .inr (a1.1 ▸ W.2.1)
   ·exact B.gm b i v I
  ·intro p F
   obtain⟨Q,q,O,h3⟩:=E p F;obtain⟨g1,g2,g3⟩:=B.obs _ O;refine⟨?_,g2,fun off=> ?_⟩
   ·obtain⟨c',e',b2,a6,b7,Z,a0⟩:=g1
    rw[h3];refine⟨c',e',b2,a6,b7, ?_,fun k hk=> ?_⟩
    ·cases q<;>first|exact Z|exact⟨by simpa[nl,aC.size,lE]using Z.1,Z.2.1,fun h=>by cases h⟩
    ·cases q with
     |rc cs=>
      have b5:k<cs.length:=by simpa[nl,aC.size,lE]using hk
      have:=a0 k b5;simp only[nl,bW,lE]at this ⊢;rw[aV _ (by rfl)];exact J _ _ this
     |arr sz xs=>exact cD.mono hG (a0 k hk)
     |bar l=>exact cD.mono hG (a0 k hk)
   ·show(if _ then _ else _)=_
    rw[if_neg (fun h=>a2 p F h.1)];exact g3 off
  ·intro p F q hq a9
   obtain⟨_,p',a8,_⟩:=E p F;obtain⟨_,q',b6,_⟩:=E q hq;exact B.inj (p.1,p') a8 (q.1,q') b6 a9
  ·intro n a7
   have hn:=(H.tk n).2 a7;rcases B.tks n hn with h|⟨Q,O,h3⟩
   ·exact .inl h
   ·by_cases a3:(x.τ n).2.1=(x.τ n).2.2
    ·exact .inl a3
    ·refine .inr ⟨Q,O,fun off h4 h5=> ?_⟩
     show(if _ then _ else _)=_;rw[if_neg (fun h=>(B.tko n hn _ (cP S)).elim (fun hb=>hb h.1) a3)];exact h3 off h4 h5
  ·obtain⟨_,q,O,_⟩:=E p F
   exact B.tko n ((H.tk n).2 hn) (p.1,q) O
theorem oi{o:Nat}{obj:aC}(B:c.look o=some obj)(h:∀cs,obj≠ .rc cs)(I:aM C x s a w)(F:Sim N c s):
 ∃x',(x'.bk=x.bk/\x'.τ=x.τ)/\(∀sv v,Rep x sv v->Rep x' (sv.pub o obj) v)/\∃z,aM C x' z a w/\Sim N ⟨ln o obj c.tm,kN o obj c.ob,c.tk⟩ z:=by
 obtain⟨x',E,J,z,L,H,_⟩:=oh B h h (aI _) (fun _ _=>rfl) (F.lookmem B) I F;exact⟨x',⟨E.1,E.2.1⟩,J,z,L,H⟩
theorem C7{o:Nat}{obj:aC}(E:c.look o=some obj)(z:∀cs,obj≠ .rc cs)(H:aM C x s a w)(F:Sim N c s):
 ∃x',(∀sv v,Rep x sv v->Rep x' (sv.pub o obj) v)/\∃B,aM C x' B a w/\Sim N ⟨ln o obj c.tm,kN o obj c.ob,c.tk⟩ B:=by
 obtain⟨x',_,h⟩:=oi E z H F;exact⟨x',h⟩
theorem kM{vs:t7}{us:LAb}{o:Nat}(I:aM C x s a w)(H:Sim N c s)(E:cr x vs us):
 ∃x' h,aM C x' h a w/\Sim N (c.publish o vs).1 h/\cr x' (c.publish o vs).2 us:=by
 unfold CSt.publish
 have F:∀{obj:aC},c.look o=some obj->(∀cs,obj≠ .rc cs)->∃x' h,aM C x' h a w/\Sim N ⟨ln o obj c.tm,kN o obj c.ob,c.tk⟩ h/\cr x' (SV.pubL o obj vs) us:=by intro obj z B;obtain⟨x',L,h,O,J⟩:=C7 z B I H;refine⟨x',h,O,J, ?_⟩;rw[lE];refine⟨by simpa using E.1,fun i hi=> ?_⟩;rw[aV _ (by rfl)];exact L _ _ (E.2 i (by simpa using hi))
 split
 ·rename_i Q S z;exact F z (fun cs e=>by cases e)
 ·rename_i l z;exact F z (fun cs e=>by cases e)
 ·exact⟨x,s,I,H,E⟩
theorem jf{us:LAb}:∀{l:t8}{c:CSt}{s:St}{x:Sit}{vs:t7},aM C x s a w->Sim N c s->cr x vs us->
 ∃x' h,aM C x' h a w/\Sim N (eL c vs l).1 h/\cr x' (eL c vs l).2 us
 |[],_,_,_,_,hM,hS,hv=>⟨_,_,hM,hS,hv⟩
 |o::r,c,s,x,vs,hM,hS,hv=>by obtain⟨x1,s1,z,B,E⟩:=kM (o:=o) hM hS hv;simp only[eL];exact jf z B E
theorem M.pub(h:M C N c a w)(o:Nat):M C N (c.publish o []).1 a w:=by obtain⟨x,s,F,E⟩:=h;obtain⟨x',z,B,H,_⟩:=kM (o:=o) (vs:=[]) (us:=[]) F E ⟨rfl,fun i hi=>by simp at hi⟩;exact⟨x',z,B,H⟩
theorem Of(L:aM C x s a w)(O:Sim N c s)(id b lo hi:Nat)(S:lo=hi\/((∃c e fl fh,dS w b c e fl fh/\hi<=c.size)/\C.mine b/\∀o,lo<=o->o<hi->x.G b o=none))
 (I:∀p∈s.ob,b≠(x.bk p.1).1) (H:∀u∈s.tk,kV (b,lo,hi) (x.τ u)\/(x.τ u).2.1=(x.τ u).2.2) {n:Nat} (hn:n<N) {v:SV}
 (B:Rep (x.newT id b lo hi) v (a.tmps.toList.getD n undef)):
 M C N ⟨jm (da id (id+1) c.tm) n v,bz id (id+1) c.ob,mb (co id (id+1) c.tk) id⟩ a w:=by
 have F:cS C (x.newT id b lo hi) (bz id (id+1) s.ob) (id::co id (id+1) s.tk) w:=
  L.heap.addT id b lo hi S (.inr fun p Q _=>I p Q) (.inr fun u hu _=>H u hu)
 have z:aM C (x.newT id b lo hi) ⟨SV.purgeL id (id+1) s.tm,bz id (id+1) s.ob,id::co id (id+1) s.tk⟩ a w:=
  ⟨cr.mono (x:=x) (x':=x.newT id b lo hi) (lo:=id) (hi:=id+1) (fun _ _ _ h=>h) (fun _ _=>rfl) (Sit.newT_ne x id _ _ _) L.tm,L.defers,F⟩
 have J:Sim N ⟨da id (id+1) c.tm,bz id (id+1) c.ob,mb (co id (id+1) c.tk) id⟩ ⟨SV.purgeL id (id+1) s.tm,bz id (id+1) s.ob,id::co id (id+1) s.tk⟩:=
  (O.purge id (id+1)).tks (fun u=>by rw[ke,an,bE,bE,O.tk])
 refine⟨x.newT id b lo hi,_, ?_,J.put (d:=some n) (fun k e=>by cases e;exact hn) v⟩;refine⟨⟨?_,fun i hi=> ?_⟩,z.defers,z.heap⟩
 ·have:=z.tm.1;simpa[St.put]using this
 ·simp only[St.put,cw]at hi
  simp only[St.put,aa,eW]
  by_cases E:n=i
  ·subst E
   rw[if_pos rfl,if_pos hi];rw[<-aa];exact B
  ·rw[if_neg E]
   have:=z.tm.2 i hi;simp only[aa]at this;exact this
theorem vk(h:M C N c a w){n id o O off k cp:Nat}(hg:c.get n= .psl o O off k (some cp))(U:Oh c n id o O off k cp (c.look o)=some c')(hn:n<N):M C N c' a w:=by
 cases hl:c.look o with
 |none=>rw[hl]at U;cases U;exact h
 |some F=>
  rw[hl]at U
  have Z:∀(obj:aC)(v:SV),(∀cs,obj≠ .rc cs)->(∀cs,F≠ .rc cs)->obj.size=(off+k)*O->(off+cp)*O<=F.size->k<=cp->(∀k,k<obj.size->obj.cell k=F.cell k)->obj.wf=true->
   (∀(x':Sit)(z:Nat),(cp=0\/z=off*O)->(∀k,k<obj.size->∃u,x'.G ((x'.bk o).1) k=some u/\cD x'.G (obj.cell k) u)->cD x'.G v (.slice (some ⟨(x'.bk o).1,z,none⟩) k cp))->
   (∀x v',M3 x v v'=df x O (.id id) v')->
   M C N (D1 c n id o obj v) a w:=by
   intro obj v b6 a7 c3 b2 hk W b8 hD a8;obtain⟨x,s,hM,hS⟩:=h;have a6:obj.size<=F.size:=by rw[c3];exact pC (bB _ (by omega)) b2
   obtain⟨x',⟨hβ,hτ,hG,a2,E⟩,d7,s',b7,a5,b4⟩:=oh hl b6 a7 a6 W b8 hM hS;have a1:s.look o=some F:=(hS.look o).trans hl;obtain⟨cc,e,fl,fh,hO,d6,_⟩:=eC hM a1;have b5:=hM.heap.obs _ (cP a1);have S:=hM.slot n;rw[hS.get,hg]at S;obtain⟨d8,d9,d3,z,he,H⟩:=S.psl_inv;obtain rfl:=d3 _ rfl
   have a0:a.tmps.toList.getD n undef= .slice (some ⟨(x.bk o).1,z,none⟩) k cp:=by rw[<-he];simp[aW,aa]
   refine Of b7 a5 id ((x.bk o).1) ((off+k)*O) ((off+cp)*O) (.inr ⟨⟨cc,e,fl,fh,hO,by omega⟩,b5.2.1,fun i h1 h2=>a2 i (by omega)⟩) (fun p hp=>b4 p hp) (fun u hu=> ?_) hn ?_
   ·have c4:=(a5.tk u).1 hu
    have d4:=(hS.tk u).2 c4;rw[hτ];exact(hM.heap.tko u d4 _ (cP a1)).imp (fun h e=>h e.symm) (fun h=>h)
   ·rw[a0]
    have h1:=hD (x'.newT id ((x.bk o).1) ((off+k)*O) ((off+cp)*O)) z H (by show ∀k,k<obj.size->∃u,x'.G ((x'.bk o).1) k=some u/\cD x'.G (obj.cell k) u;rw[hβ];exact E)
    have e1:(x'.newT id ((x.bk o).1) ((off+k)*O) ((off+cp)*O)).bk o=x.bk o:=by show x'.bk o=_;rw[hβ]
    rw[e1]at h1;refine .dat _ _ h1 ?_;rw[a8];refine⟨_,k,cp,rfl, ?_⟩
    by_cases c6:cp=0
    ·exact .inl (by omega)
    ·refine .inr ⟨_,z,rfl, ?_⟩
     rw[Sit.newT_eq,H.resolve_left c6,bD,bD]
  cases F with
  |rc cs=>cases U;exact h
  |bar l=>
   simp only[Oh]at U;split at U<;>cases U
   ·rename_i I
    obtain⟨rfl,h2,h3⟩:=I;refine Z (.bar (l.take (off+k))) (.byt ((l.drop off).take k) (.id id)) (fun cs e=>by cases e) (fun cs e=>by cases e) (by simp only[aC.size,aD];omega) (by simp only[aC.size];omega) h3 (fun i hi=> ?_) rfl (fun x' z H E=> ?_) (fun _ _=>rfl)
    ·simp only[aC.size,aD]at hi
     simp only[aC.cell,aa,bv,if_pos (show i<off+k by omega)]
    ·have Q:((l.drop off).take k).length=k:=by simp;omega
     refine .byt _ _ _ _ _ _ Q.symm h3 fun i hi=> ?_
     have J:z=off:=by omega
     obtain⟨u,hu,hr⟩:=E (off+i) (by simp only[aC.size,aD];omega);rw[J,hu];simp only[aC.cell]at hr
     have e1:((l.drop off).take k).getD i 0=(l.take (off+k)).getD (off+i) 0:=by simp only[aa,bv,if_pos hi,bf,if_pos (show off+i<off+k by omega)]
     rw[e1];cases hr with
     |u8 b=>rfl
   ·exact h
  |arr B L=>
   simp only[Oh]at U;split at U<;>cases U
   ·rename_i I
    obtain⟨rfl,h2,h3⟩:=I;have a9:∀y∈L,y.length=B:=by obtain⟨x,s,hM,hS⟩:=h;exact fO.1 (hS.lookmem hl)
    have a4:∀y∈L.take (off+k),y.length=B:=fun y hy=>a9 y (bL hy)
    have d5:(L.drop off).take k=(L.take (off+k)).drop off:=by rw[List.drop_take,Nat.add_sub_cancel_left]
    refine Z (.arr B (L.take (off+k))) (.lst B ((L.drop off).take k) (.id id)) (fun cs e=>by cases e) (fun cs e=>by cases e) (by simp only[aC.size,aD];congr 1;omega) (by simp only[aC.size];exact bB _ h2) h3 (fun i hi=> ?_) (fO.2 a4) (fun x' z H E=> ?_) (fun _ _=>rfl)
    ·simp only[aC.size,aD]at hi
     simp only[aC.cell,aa,bv];have hd:i/B<off+k:=Nat.div_lt_of_lt_mul (by rw[dq];exact Nat.lt_of_lt_of_le hi (bB _ (Nat.min_le_left _ _)));rw[if_pos hd]
    ·have Q:((L.drop off).take k).length=k:=by simp;omega
     have a3:∀i,i<k->((L.drop off).take k).getD i []=(L.take (off+k)).getD (off+i) []:=fun i hi=>by simp only[aa,bv,if_pos hi,bf,if_pos (show off+i<off+k by omega)]
     have b3:∀i,i<k->((L.drop off).take k).getD i []∈L.take (off+k):=fun i hi=>by rw[a3 i hi,aa,af (show off+i<(L.take (off+k)).length by rw[aD];omega)];exact bo _
     have W:∀i j,i<k->j<B->∃u,x'.G ((x'.bk o).1) (z+i*B+j)=some u/\cD x'.G ((((L.drop off).take k).getD i []).getD j .undef) u:=by
      intro i j hi hj;have J:z=off*B:=H.resolve_left (by omega)
      have c7:(off+i)*B+j<(off+k)*B:=by have:=bB B (show off+i+1<=off+k by omega);rw[bD,Nat.one_mul]at this;omega
      obtain⟨u,hu,hr⟩:=E ((off+i)*B+j) (by simp only[aC.size,aD];rw[gK (by omega)];exact c7);refine⟨u,by rw[J,<-bD];exact hu, ?_⟩;simp only[aC.cell]at hr;have e1:((off+i)*B+j)/B=off+i:=by rw[dq,Nat.mul_add_div (by omega),Nat.div_eq_of_lt hj,fm]
      have e2:((off+i)*B+j) % B=j:=by rw[dq,Nat.mul_add_mod,iG hj]
      rw[e1,e2]at hr;rw[a3 i hi];exact hr
     refine .lst _ _ _ _ _ _ _ (fun i j=>(x'.G ((x'.bk o).1) (z+i*B+j)).getD undef) Q.symm h3 (fun i hi=>a4 _ (b3 i hi)) (fun i j hi hj=> ?_) (fun i j hi hj=> ?_)
     ·obtain⟨u,hu,_⟩:=W i j hi hj
      rw[hu];rfl
     ·obtain⟨u,hu,hr⟩:=W i j hi hj
      rw[hu];exact hr
   ·exact h
theorem kj(O:aM C x s a w)(B:Sim N c s)(id:Nat)(t:LAa)(W:∀k,t=some k->k∈c.tk){n:Nat}(hn:n<N){v:SV}
 (hv:∀u,Rep x (c.get n) u->Rep (x.newT id ((t.elim (0,0,0) x.τ)).1 ((t.elim (0,0,0) x.τ)).2.1 ((t.elim (0,0,0) x.τ)).2.2) v u):
 M C N ⟨jm (da id (id+1) c.tm) n v,bz id (id+1) c.ob,mb (co id (id+1) (t.elim c.tk fun k=>co k (k+1) c.tk)) id⟩ a w:=by
 generalize E:t.elim (0,0,0) x.τ=T at hv;generalize hL:(t.elim c.tk fun k=>co k (k+1) c.tk)=L;have Q:=O.heap
 have I:∀u∈L,u∈s.tk/\∀k,t=some k->u≠k:=by
  intro u hu;rw[<-hL]at hu;cases t with
  |none=>exact⟨(B.tk u).2 hu,fun k e=>by cases e⟩
  |some k=>obtain⟨Z,h2⟩:=bE.1 hu;exact⟨(B.tk u).2 Z,fun k' e=>by cases e;omega⟩
 have J:cS C (x.newT id T.1 T.2.1 T.2.2) (bz id (id+1) s.ob) (id::co id (id+1) L) w:=by
  refine(Q.sub (tk':=L) (m6.refl _) (fun u hu=>(I u hu).1)).addT id T.1 T.2.1 T.2.2 ?_ ?_ ?_
  ·cases t with
   |none=>subst E;exact .inl rfl
   |some k=>have:=Q.tks k ((B.tk k).2 (W k rfl));unfold gY at this;subst E;exact this
  ·cases t with
   |none=>subst E;exact .inl rfl
   |some k=>
    by_cases H:(x.τ k).2.1=(x.τ k).2.2
    ·subst E;exact .inl H
    ·subst E
     exact .inr fun p hp _=>(Q.tko k ((B.tk k).2 (W k rfl)) p hp).resolve_right H
  ·cases t with
   |none=>subst E;exact .inl rfl
   |some k=>
    by_cases H:(x.τ k).2.1=(x.τ k).2.2
    ·subst E;exact .inl H
    ·subst E
     refine .inr fun u hu _=> ?_
     obtain⟨Z,h2⟩:=I u hu;rcases Q.tkd k ((B.tk k).2 (W k rfl)) u Z (fun e=>h2 k rfl e.symm)with h|h|h
     ·exact .inl h
     ·exact absurd h H
     ·exact .inr h
 have z:aM C (x.newT id T.1 T.2.1 T.2.2) ⟨SV.purgeL id (id+1) s.tm,bz id (id+1) s.ob,id::co id (id+1) L⟩ a w:=
  ⟨cr.mono (x:=x) (x':=x.newT id T.1 T.2.1 T.2.2) (lo:=id) (hi:=id+1) (fun _ _ _ h=>h) (fun _ _=>rfl) (Sit.newT_ne x id _ _ _) O.tm,O.defers,J⟩
 have S:Sim N ⟨da id (id+1) c.tm,bz id (id+1) c.ob,mb (co id (id+1) L) id⟩ ⟨SV.purgeL id (id+1) s.tm,bz id (id+1) s.ob,id::co id (id+1) L⟩:=
  (B.purge id (id+1)).tks (fun u=>by rw[ke,an])
 refine⟨x.newT id T.1 T.2.1 T.2.2,_, ?_,S.put (d:=some n) (fun k e=>by cases e;exact hn) v⟩;have U:n<s.tm.length:=by rw[B.tm];simpa using hn
 refine⟨⟨?_,fun i hi=> ?_⟩,z.defers,z.heap⟩
 ·have:=z.tm.1;simpa[St.put]using this
 ·simp only[St.put,cw]at hi
  simp only[St.put,aa,eW]
  by_cases F:n=i
  ·subst F
   rw[if_pos rfl,if_pos hi];refine hv _ ?_;have:=O.tm.2 n U;have e:s.tm.getD n .undef=c.get n:=B.get n;rw[e]at this;rw[<-aa];exact this
  ·rw[if_neg F,<-aa,<-aa]
   exact z.tm.2 i hi
theorem vm(h:M C N c a w){n id:Nat}(z:Oi c n id (c.get n)=some c'):M C N c' a w:=by
 have J:c.get n≠ .undef->n<N:=by
  obtain⟨x,s,F,E⟩:=h;intro a0;rcases bH n N with O|O
  ·exact O
  ·exact absurd (E.inv.get O) a0
 cases hg:c.get n with
 |byt l t=>
  rw[hg]at z;have L:=J (by rw[hg];exact fun e=>by cases e);cases t with
  |no=>cases z;exact h
  |clip=>
   cases z;obtain⟨x,s,F,E⟩:=h;refine kj F E id none (fun k e=>by cases e) L fun u hu=> ?_
   rw[hg]at hu;exact leT.byt id l x u hu
  |id t=>
   simp only[Oi]at z;split at z
   ·cases z;exact h
   ·split at z<;>cases z
    rename_i O h2;obtain⟨x,s,F,E⟩:=h;refine kj F E id (some t) (fun k e=>by cases e;simpa using h2) L fun u hu=> ?_
    rw[hg]at hu;obtain⟨b,cap,he,_,hD,I⟩:=hu.byt_inv;refine .dat _ _ (hD.tok (.byt l (.id id)) (.inl ⟨l,_,_,rfl,rfl⟩)) ?_;obtain⟨Z,S,B,H,hh⟩:=I;refine⟨Z,S,B,H,hh.imp (fun h=>h) ?_⟩;rintro⟨b,off,h3,U⟩;exact⟨b,off,h3,by rw[Sit.newT_eq];exact U⟩
 |lst Q W t=>
  rw[hg]at z;have L:=J (by rw[hg];exact fun e=>by cases e);cases t with
  |no=>cases z;exact h
  |clip=>
   cases z;obtain⟨x,s,F,E⟩:=h;refine kj F E id none (fun k e=>by cases e) L fun u hu=> ?_
   rw[hg]at hu;exact leT.lst id Q W x u hu
  |id t=>
   simp only[Oi]at z;split at z
   ·cases z;exact h
   ·split at z<;>cases z
    rename_i O h2;obtain⟨x,s,F,E⟩:=h;refine kj F E id (some t) (fun k e=>by cases e;simpa using h2) L fun u hu=> ?_
    rw[hg]at hu;obtain⟨b,cap,he,_,hD,I⟩:=hu.lst_inv;refine .dat _ _ (hD.tok (.lst Q W (.id id)) (.inr ⟨Q,W,_,_,rfl,rfl⟩)) ?_;obtain⟨Z,S,B,H,hh⟩:=I;refine⟨Z,S,B,H,hh.imp (fun h=>h) ?_⟩;rintro⟨b,off,h3,U⟩;exact⟨b,off,h3,by rw[Sit.newT_eq];exact U⟩
 |psl o Q off k cp=>
  rw[hg]at z;have L:=J (by rw[hg];exact fun e=>by cases e);cases cp with
  |none=>cases z;exact h
  |some cp=>exact vk h hg z L
 |_=>rw[hg]at z;cases z;exact h
theorem aM.retag(B:aM C x s a w)(n:Nat){v:SV}(h:Rep x v (a.tmps.toList.getD n undef)):aM C x (s.put (some n) v) a w:=by
 refine⟨⟨?_,fun i hi=> ?_⟩,B.defers,B.heap⟩
 ·have:=B.tm.1;simpa[St.put]using this
 ·simp only[St.put,cw]at hi
  simp only[St.put,aa,eW]
  by_cases z:n=i
  ·subst z
   rw[if_pos rfl,if_pos hi];rw[<-aa];exact h
  ·rw[if_neg z]
   have:=B.tm.2 i hi;simp only[aa]at this;exact this
theorem cS.move{ob:List (Nat×aC)}{tk:t8}(h:cS C x ob tk w){o d:Nat}(a1:100<=d){obj:aC}(ho:(o,obj)∈ob)(a2:∀cs,obj≠ .rc cs):
 cS C (x.newO d (x.bk o).1 (x.bk o).2) ((d,obj)::bz d (d+1) (bz o (o+1) ob)) (co d (d+1) (co o (o+1) tk)) w:=by
 have hβ:=Sit.newO_ne x d (x.bk o).1 (k:=(x.bk o).2);obtain⟨⟨c,e,fl,fh,hO,hs,hr⟩,hm,hg⟩:=h.obs _ ho;have z:(x.newO d (x.bk o).1 (x.bk o).2).bk d=x.bk o:=if_pos rfl
 have F:∀p∈bz d (d+1) (bz o (o+1) ob),(x.newO d (x.bk o).1 (x.bk o).2).bk p.1=x.bk p.1/\∃q,(p.1,q)∈ob/\p.1≠o/\¬(d<=p.1/\p.1<d+1)/\p.2=(q.purge o (o+1)).purge d (d+1):=by intro p B;obtain⟨H,q,L,h3⟩:=cm B;obtain⟨h4,S,W,Z⟩:=cm L;simp only at h4 W Z;exact⟨hβ _ H,S,W,by omega,H,by rw[h3,Z]⟩
 have I:∀t∈co d (d+1) (co o (o+1) tk),t∈tk:=fun t O=>(bE.1 (bE.1 O).1).1
 refine⟨h.per,h.g0,h.gm,h.new, ?_, ?_, ?_,fun t O=>h.tks t (I t O), ?_,fun t O u hu=>h.tkd t (I t O) u (I u hu),h.os,h.tape,h.output,h.size,h.ext,fun i hi=>by rw[hβ i (by omega)];exact h.pin i hi,h.lay⟩
 ·intro p B
  rcases an.1 B with rfl|B
  ·refine⟨⟨c,e,fl,fh,by rw[z];exact hO,by rw[z];exact hs,fun k hk=> ?_⟩,by rw[z];exact hm,fun off=>by rw[z];exact hg off⟩
   have:=hr k hk;cases obj with
   |rc cs=>exact absurd rfl (a2 cs)
   |arr sz xs=>exact this
   |bar l=>exact this
  ·obtain⟨J,q,H,L,h3,h4⟩:=F p B
   obtain⟨W,Z,h7⟩:=h.obs _ H;refine⟨?_,by rw[J];exact Z,fun off=>by rw[J];exact h7 off⟩;have e1:=W.of_heap (x':=x) (w':=w) (lo:=o) (hi:=o+1) rfl (fun _ _ _ h=>h) (fun _ _=>rfl) (fun _ _=>rfl) (by omega);have e2:=e1.of_heap (x':=x.newO d (x.bk o).1 (x.bk o).2) (w':=w) (lo:=d) (hi:=d+1) rfl (fun _ _ _ h=>h) hβ (fun _ _=>rfl) h3;rw[h4];exact e2
 ·rw[aO,ed,eI,eI]
  refine⟨fun Q=> ?_,(h.nd.filter _).filter _⟩;have:=(List.mem_filter.1 Q).2;simp at this
 ·intro p B q U E
  rcases an.1 B with rfl|B<;>rcases an.1 U with rfl|U
  ·rfl
  ·obtain⟨J,S,H,L,_⟩:=F q U
   rw[z,J]at E;exact absurd (h.inj (o,obj) ho (q.1,S) H E).symm L
  ·obtain⟨J,S,H,L,_⟩:=F p B
   rw[z,J]at E;exact absurd (h.inj (p.1,S) H (o,obj) ho E) L
  ·obtain⟨J,q1,H,_⟩:=F p B
   obtain⟨a0,q2,L,_⟩:=F q U;rw[J,a0]at E;exact h.inj (p.1,q1) H (q.1,q2) L E
 ·intro t O p B
  rcases an.1 B with rfl|B
  ·show(x.τ t).1≠((x.newO d (x.bk o).1 (x.bk o).2).bk d).1\/_
   rw[z];exact h.tko t (I t O) (o,obj) ho
  ·obtain⟨J,q,H,_⟩:=F p B
   show(x.τ t).1≠((x.newO d (x.bk o).1 (x.bk o).2).bk p.1).1\/_;rw[J];exact h.tko t (I t O) (p.1,q) H
theorem aM.move(E:aM C x s a w){o d:Nat}(z:100<=d){obj:aC}(F:s.look o=some obj)(B:∀cs,obj≠ .rc cs):
 aM C (x.newO d (x.bk o).1 (x.bk o).2) (((s.purge o (o+1)).purge d (d+1)).addO d obj) a w:=
 ⟨cr.mono (x:=x) (x':=x.newO d (x.bk o).1 (x.bk o).2) (lo:=d) (hi:=d+1) (fun _ _ _ h=>h) (Sit.newO_ne x d _) (fun _ _=>rfl) (E.purge o (o+1)).tm,E.defers,E.heap.move z (cP F) B⟩
theorem uv{n id o E off k:Nat}{cap:LAa}{obj:aC}(Q:aM C x s a w)(z:Sim N c s)(hn:n<N)(I:100<=id)(hg:c.get n= .psl o E off k cap)(O:c.look o=some obj)(J:∀cs,obj≠ .rc cs):
 M C N (mvC c n id o E off k cap obj) a w:=by
 have L:=Q.move I (by rw[z.look];exact O) J;have H:=(((z.purge o (o+1)).purge id (id+1)).addO id (z.lookmem O)).put (d:=some n) (fun k e=>by cases e;exact hn) (.psl id E off k cap);refine⟨x.newO id (x.bk o).1 (x.bk o).2,_, ?_,H⟩
 have Z:Rep x (.psl o E off k cap) (a.tmps.toList.getD n undef):=by have:=Q.tm.2 n (by rw[z.tm];simpa using hn);rw[show s.tm.getD n .undef=c.get n from z.get n,hg]at this;exact this
 obtain⟨F,h1,U,h,he,W,S⟩:=Z.psl_invA;refine L.retag n ?_;rw[he];have B:(x.newO id (x.bk o).1 (x.bk o).2).bk id=x.bk o:=if_pos rfl;have:=Rep.psl (x:=x.newO id (x.bk o).1 (x.bk o).2) id E off k cap h F W h1 U (by rw[B];exact S);rw[B]at this;exact this
theorem wg(h:M C N c a w){n id:Nat}(F:100<=id)(z:Yc c n id (c.get n)=some c'):M C N c' a w:=by
 obtain⟨x,s,E,B⟩:=h;cases hg:c.get n with
 |psl o I off k cap=>
  rw[hg]at z
  have hn:n<N:=by
   rcases bH n N with h|h
   ·exact h
   ·rw[B.inv.get h]at hg;cases hg
  simp only[Yc]at z;split at z
  ·cases z;exact⟨x,s,E,B⟩
  ·cases hl:c.look o with
   |none=>rw[hl]at z;cases z;exact⟨x,s,E,B⟩
   |some obj=>
    rw[hl]at z;cases obj with
    |rc cs=>cases z;exact⟨x,s,E,B⟩
    |arr H J=>cases z;exact uv E B hn F hg hl (fun cs e=>by cases e)
    |bar l=>cases z;exact uv E B hn F hg hl (fun cs e=>by cases e)
 |_=>rw[hg]at z;cases z;exact⟨x,s,E,B⟩
theorem oI(h:M C N c a w){q:Dir}(z:pY c q=some c'):M C N c' a w:=by
 cases q with
 |kill l=>cases z;exact h.kill l
 |gc l=>cases z;exact h.gc
 |gcr lo hi=>cases z;exact h.purge lo hi
 |pubo o=>cases z;exact h.pub _
 |pub n=>
  simp only[pY]at z;split at z<;>cases z
  ·exact h.pub _
  ·exact h
 |tok n id=>
  simp only[pY]at z;split at z
  ·cases z
  ·exact vm h z
 |obj n id=>
  simp only[pY]at z;split at z
  ·cases z
  ·exact wg h (by omega) z
theorem jW:∀{l:List Dir}{c:CSt},M C N c a w->iw c l=some c'->M C N c' a w
 |[],_,h,hc=>by cases hc;exact h
 |q::r,c,h,hc=>by
  simp only[iw]at hc;split at hc
  ·rename_i c1 z;exact jW (oI h z) hc
  ·cases hc
end Go.Sy
namespace Go.Sy
variable [bc]
variable {P : Program} {C : Ctx} {x : Sit} {a : Act} {w : World} {N : Nat} {c c' : CSt} {s : St}
def jI(P:Program)(f:Nat)(args:t7)(os:List aC)(k:Nat)(R:dY->Prop):Prop:=
 ec P f=true/\∀(C:Ctx)(x:Sit)(w:World)(vs:LAb),C.w0=w->C.G0=x.G->
  (∀b,C.mine b->w.heap.size<=b\/(∃i,i<os.length/\(x.bk i).1=b)\/(∃t,50<=t/\t<50+k/\(x.τ t).2.1≠(x.τ t).2.2/\(x.τ t).1=b))->os.length<=40->
  (∀o∈os,o.wf=true)->cS C x (idx os) (tks 50 k) w->cr x args vs->
  Calls P f ⟨vs⟩ w fun e w'=>∃v x' q,e= .returned v/\R q/\Rep x' q.r v/\cS C x' q.os q.tk w'/\(∀p∈q.os,p.2.wf=true)/\∀i,i<os.length->x'.bk i=x.bk i
theorem ki(cs:t7):SV.bareL cs=cs.map SV.bare:=by
 induction cs with
 |nil=>rfl
 |cons c r h=>simp only[SV.bareL,aO,h]
theorem Rep.bare{x x':Sit}(Z:x'.G=x.G)(J:x'.bk=x.bk){sv:SV}{v:Value}(h:Rep x sv v):Rep x' sv.bare v:=by
 induction h with
 |undef v=>exact .undef v
 |dat s v h ht=>
  have z:=h.toData;rw[<-Z]at z;cases s with
  |byt l t=>exact .dat _ _ z trivial
  |lst B xs t=>exact .dat _ _ z trivial
  |undef=>exact .undef v
  |bool b=>exact .dat _ _ z trivial
  |int k n=>exact .dat _ _ z trivial
  |u8 b=>exact .dat _ _ z trivial
  |str l=>exact .dat _ _ z trivial
  |nilp=>exact .dat _ _ z trivial
  |nili=>exact .dat _ _ z trivial
  |pp cs=>exact .dat _ _ z trivial
  |ptr o off=>cases h
  |ap o B i j=>cases h
  |psl o B off n cap=>cases h
  |agg cs=>cases h
  |tup cs=>cases h
  |fn f a b=>cases h
 |ptr o off=>simp only[SV.bare];rw[<-J];exact .ptr o off
 |ap o B i j=>simp only[SV.bare];rw[<-J];exact .ap o B i j
 |psl o B off n cap F E h hn W U=>simp only[SV.bare];rw[<-J]at U ⊢;exact .psl o B off n cap F E h hn W U
 |agg cs vs L _ I=>simp only[SV.bare,ki];exact .agg _ _ (by simpa using L) fun i hi=>by rw[aV _ (by rfl)];exact I i (by simpa using hi)
 |tup cs vs L _ I=>simp only[SV.bare,ki];exact .tup _ _ (by simpa using L) fun i hi=>by rw[aV _ (by rfl)];exact I i (by simpa using hi)
 |fn f c1 c2 v1 v2 H _ S _ Q O=>simp only[SV.bare,ki];exact .fn _ _ _ _ _ (by simpa using H) (fun i hi=>by rw[aV _ (by rfl)];exact Q i (by simpa using hi)) (by simpa using S) (fun i hi=>by rw[aV _ (by rfl)];exact O i (by simpa using hi))
def M4(x:Sit):LAa->Nat×Nat×Nat
 |none=>(0,0,0)
 |some t=>x.τ t
def nJ(x x1:Sit)(j:Nat)(l:List LAa):Prop:=∀k,k<l.length->x1.τ (j+k)=M4 x (l.getD k none)
theorem nJ.left{x x1:Sit}{j:Nat}{l r:List LAa}(h:nJ x x1 j (l++r)):nJ x x1 j l:=fun k z=>by have:=h k (by simp;omega);rwa[aa,aY z,<-aa]at this
theorem nJ.right{x x1:Sit}{j:Nat}{l r:List LAa}(h:nJ x x1 j (l++r)):nJ x x1 (j+l.length) r:=fun k z=>by have:=h (l.length+k) (by simp;omega);rw[aa,bj (by omega),<-aa]at this;rw[cH,this];congr 2;omega
theorem kt{t:Nat}:∀{l:List LAa},t∈cn l↔some t∈l
 |[]=>by simp[cn]
 |none::r=>by simp[cn,kt]
 |some u::r=>by simp[cn,kt]
theorem fv(l r:List LAa):cn (l++r)=cn l++cn r:=by
 induction l with
 |nil=>rfl
 |cons o l h=>cases o<;>simp[cn,h]
theorem Dl{x x1:Sit}(I:x1.G=x.G)(Q:x1.bk=x.bk){v:SV}{u:Value}(h:Rep x v u):Rep x1 v.kclip u:=by
 have E:=h.bare I Q;cases v with
 |lst S L t=>
  cases t with
  |no=>exact E
  |id u=>exact E
  |clip=>
   cases L with
   |cons y r=>exact E
   |nil=>obtain⟨b,cap,O,_,F,B⟩:=h.lst_inv;obtain⟨J,H,z⟩:=B;rw[<-I]at F;exact .dat _ _ (F.tok (.lst _ [] .clip) (.inr ⟨_,[],_,_,rfl,rfl⟩)) ⟨J,H,z⟩
 |byt l t=>
  cases t with
  |no=>exact E
  |id u=>exact E
  |clip=>
   cases l with
   |cons y r=>exact E
   |nil=>obtain⟨b,cap,O,_,F,B⟩:=h.byt_inv;obtain⟨J,H,z⟩:=B;rw[<-I]at F;exact .dat _ _ (F.tok (.byt [] .clip) (.inl ⟨[],_,_,rfl,rfl⟩)) ⟨J,H,z⟩
 |_=>exact E
theorem wm{x x1:Sit}(E:x1.G=x.G)(F:x1.bk=x.bk){cs:t7}{u:Value}(h:Rep x (.agg cs) u):Rep x1 (.agg (cs.map SV.kclip)) u:=by
 cases h with
 |dat _ _ h _=>cases h
 |agg _ vs B h=>
  refine .agg _ vs (by rw[aQ];exact B) fun i hi=> ?_
  rw[aQ]at hi;have z:=Dl E F (h i hi);rw[aa,af hi,ba]at z;rw[aa,aR,af hi,bm,ba];exact z
theorem j6{x x1:Sit}(L:x1.G=x.G)(hβ:x1.bk=x.bk){tk:t8}{j:Nat}{v:SV}{u:Value}(h:Rep x v u)(W:nJ x x1 j (jM tk j v).2):Rep x1 (jM tk j v).1 u:=by
 have O:=h.bare L hβ;cases v with
 |byt l t=>
  cases t with
  |no=>exact O
  |clip=>have e:=W 0 (by simp[jM]);obtain⟨b,cap,Z,_,E,B⟩:=h.byt_inv;obtain⟨J,H,z⟩:=B;rw[<-L]at E;exact .dat _ _ (E.tok (.byt l (.id j)) (.inl ⟨l,_,_,rfl,rfl⟩)) ⟨J,H,H,z,.inl rfl⟩
  |id t=>
   by_cases I:tk.contains t=true
   ·have e:=W 0 (by simp only[jM,I,if_true,av];omega)
    simp only[jM,I,if_true]at e ⊢;obtain⟨b,cap,Z,_,E,B⟩:=h.byt_inv;obtain⟨J,H,F,z,hh⟩:=B;rw[<-L]at E;refine .dat _ _ (E.tok (.byt l (.id j)) (.inl ⟨l,_,_,rfl,rfl⟩)) ⟨J,H,F,z,hh.imp id ?_⟩;rintro⟨b,off,h1,U⟩;exact⟨b,off,h1,by rw[fm]at e;rw[e];exact U⟩
   ·simp only[jM,I,if_false];exact O
 |lst Q S t=>
  cases t with
  |no=>exact O
  |clip=>obtain⟨b,cap,Z,_,E,B⟩:=h.lst_inv;obtain⟨J,H,z⟩:=B;rw[<-L]at E;exact .dat _ _ (E.tok (.lst Q S (.id j)) (.inr ⟨Q,S,_,_,rfl,rfl⟩)) ⟨J,H,H,z,.inl rfl⟩
  |id t=>
   by_cases I:tk.contains t=true
   ·have e:=W 0 (by simp only[jM,I,if_true,av];omega)
    simp only[jM,I,if_true]at e ⊢;obtain⟨b,cap,Z,_,E,B⟩:=h.lst_inv;obtain⟨J,H,F,z,hh⟩:=B;rw[<-L]at E;refine .dat _ _ (E.tok (.lst Q S (.id j)) (.inr ⟨Q,S,_,_,rfl,rfl⟩)) ⟨J,H,F,z,hh.imp id ?_⟩;rintro⟨b,off,h1,U⟩;exact⟨b,off,h1,by rw[fm]at e;rw[e];exact U⟩
   ·simp only[jM,I,if_false];exact O
 |agg cs=>exact wm L hβ h
 |_=>exact O
theorem nO{tk:t8}{j:Nat}{v:SV}:∀t∈cn (jM tk j v).2,t∈tk:=by
 intro t h;cases v with
 |byt l q=>
  cases q with
  |id u=>
   by_cases z:tk.contains u=true
   ·simp only[jM,z,if_true,cn,aN]at h;subst h;simpa using z
   ·simp only[jM,z,if_false,cn]at h;cases h
  |_=>cases h
 |lst B E q=>
  cases q with
  |id u=>
   by_cases z:tk.contains u=true
   ·simp only[jM,z,if_true,cn,aN]at h;subst h;simpa using z
   ·simp only[jM,z,if_false,cn]at h;cases h
  |_=>cases h
 |_=>cases h
theorem fW{x:Sit}{v:SV}{u:Value}{cs:t7}{us:LAb}:cr x (v::cs) (u::us)↔Rep x v u/\cr x cs us:=by
 constructor
 ·intro h
  exact⟨h.2 0 (by simp),by simpa using h.1,fun i hi=>by simpa using h.2 (i+1) (by simpa using hi)⟩
 ·rintro⟨B,z⟩
  exact⟨by simp[z.1],fun i hi=>by
   cases i with
   |zero=>exact B
   |succ i=>simpa using z.2 i (by simpa using hi)⟩
theorem EG{x x1:Sit}(z:x1.G=x.G)(E:x1.bk=x.bk){tk:t8}{j:Nat}{v:SV}{u:Value}(h:Rep x v u)(B:nJ x x1 j (qp tk j v).2):Rep x1 (qp tk j v).1 u:=by
 cases v with
 |lst J I t=>
  cases t with
  |clip=>
   cases hx:I.isEmpty with
   |true=>simp only[qp,sT,hx,sU];obtain⟨b,cap,L,_,H,F⟩:=h.lst_inv;rw[<-z]at H;exact .dat _ _ H F
   |false=>simp only[qp,sT,hx,sU]at B ⊢;exact j6 (tk:=tk) z E h B
  |no=>exact j6 z E h B
  |id t=>exact j6 z E h B
 |_=>exact j6 z E h B
theorem Og{tk:t8}{j:Nat}{v:SV}:∀t∈cn (qp tk j v).2,t∈tk:=by
 cases v with
 |lst B z t=>
  cases t with
  |clip=>
   cases hx:z.isEmpty with
   |true=>intro t h;simp[qp,sT,hx,sU,cn]at h
   |false=>intro t h;simp[qp,sT,hx,sU,cn]at h
  |no=>exact nO
  |id t=>exact nO
 |_=>exact nO
theorem lI{x x1:Sit}(z:x1.G=x.G)(B:x1.bk=x.bk){tk own:t8}:∀{cs:t7}{us:LAb}{j i:Nat},cr x cs us->nJ x x1 j (jN tk own j i cs).2->cr x1 (jN tk own j i cs).1 us
 |[],[],_,_,_,_=>⟨rfl,fun i hi=>by simp[jN]at hi⟩
 |[],_::_,_,_,h,_=>absurd h.1 (by simp)
 |_::_,[],_,_,h,_=>absurd h.1 (by simp)
 |v::r,u::us,j,i,h,ht=>by
  obtain⟨H,F⟩:=fW.1 h;simp only[jN]at ht ⊢;split
  ·rename_i E
   rw[if_pos E]at ht;exact fW.2 ⟨EG z B H ht.left,lI z B F ht.right⟩
  ·rename_i E
   rw[if_neg E]at ht;exact fW.2 ⟨H.bare z B,lI z B F ht⟩
theorem nP{tk own:t8}:∀{cs:t7}{j i:Nat},∀t∈cn (jN tk own j i cs).2,t∈tk
 |[],_,_,t,ht=>by cases ht
 |v::r,j,i,t,ht=>by
  simp only[jN]at ht;split at ht
  ·rw[fv,ak]at ht
   exact ht.elim (Og t) (nP t)
  ·exact nP t ht
theorem tZ{x x1:Sit}(B:x1.G=x.G)(E:x1.bk=x.bk){tk:t8}:∀{cs:t7}{j:Nat}{f:Nat->Value},(∀k,k<cs.length->Rep x (cs.getD k .undef) (f k))->nJ x x1 j (rG tk j cs).2->
 (rG tk j cs).1.length=cs.length/\∀k,k<cs.length->Rep x1 ((rG tk j cs).1.getD k .undef) (f k)
 |[],_,_,_,_=>⟨rfl,fun i hi=>by simp at hi⟩
 |v::r,j,f,h,ht=>by
  simp only[rG]at ht ⊢;obtain⟨H,F⟩:=tZ (f:=fun k=>f (k+1)) B E (fun k z=>by simpa using h (k+1) (by simpa using z)) ht.right;refine⟨by simp[H],fun k z=> ?_⟩;cases k with
  |zero=>exact j6 B E (h 0 (by simp)) ht.left
  |succ k=>simpa using F k (by simpa using z)
theorem y8{tk:t8}:∀{cs:t7}{j:Nat},∀t∈cn (rG tk j cs).2,t∈tk
 |[],_,t,ht=>by cases ht
 |v::r,j,t,ht=>by simp only[rG]at ht;rw[fv,ak]at ht;exact ht.elim (nO t) (y8 t)
theorem CF{x x1:Sit}(I:x1.G=x.G)(z:x1.bk=x.bk){tk:t8}{j o:Nat}{ob:aC}(h:dA x w o ob)(Q:nJ x x1 j (jB tk j ob).2):dA x1 w o (jB tk j ob).1:=by
 obtain⟨F,e,fl,fh,J,E,H⟩:=h;cases ob with
 |rc cs=>obtain⟨L,O⟩:=tZ (f:=fun k=>F.getD k undef) I z H Q;exact⟨F,e,fl,fh,by rw[z];exact J,by rw[z];simp only[jB,aC.size,L]at E ⊢;exact E,fun k B=>O k (by simpa only[jB,aC.size,L]using B)⟩
 |arr S U=>exact⟨F,e,fl,fh,by rw[z];exact J,by rw[z];exact E,fun k B=>by have:=H k B;simp only[jB,bW]at this ⊢;rw[I];exact this⟩
 |bar l=>exact⟨F,e,fl,fh,by rw[z];exact J,by rw[z];exact E,fun k B=>by have:=H k B;simp only[jB,bW]at this ⊢;rw[I];exact this⟩
theorem EH{tk:t8}{j:Nat}{ob:aC}(h:ob.wf=true):(jB tk j ob).1.wf=true:=by cases ob<;>first|rfl|exact h
theorem EI{tk:t8}{j:Nat}{ob:aC}:∀t∈cn (jB tk j ob).2,t∈tk:=by
 intro t h;cases ob with
 |rc cs=>exact y8 t h
 |_=>cases h
theorem kX{x x1:Sit}(B:x1.G=x.G)(E:x1.bk=x.bk){tk:t8}:∀{obs:List aC}{j:Nat}{f:Nat->Nat},(∀k,k<obs.length->dA x w (f k) (obs.getD k (.rc [])))->nJ x x1 j (dV tk j obs).2->
 (dV tk j obs).1.length=obs.length/\∀k,k<obs.length->dA x1 w (f k) ((dV tk j obs).1.getD k (.rc []))
 |[],_,_,_,_=>⟨rfl,fun i hi=>by simp at hi⟩
 |v::r,j,f,h,ht=>by
  simp only[dV]at ht ⊢;obtain⟨H,F⟩:=kX (f:=fun k=>f (k+1)) B E (fun k z=>by simpa using h (k+1) (by simpa using z)) ht.right;refine⟨by simp[H],fun k z=> ?_⟩;cases k with
  |zero=>exact CF B E (h 0 (by simp)) ht.left
  |succ k=>simpa using F k (by simpa using z)
theorem my{tk:t8}:∀{obs:List aC}{j:Nat},∀t∈cn (dV tk j obs).2,t∈tk
 |[],_,t,ht=>by cases ht
 |v::r,j,t,ht=>by simp only[dV]at ht;rw[fv,ak]at ht;exact ht.elim (EI t) (my t)
theorem mw{tk:t8}:∀{obs:List aC}{j:Nat},(∀o∈obs,o.wf=true)->∀o∈(dV tk j obs).1,o.wf=true
 |[],_,_,o,ho=>by cases ho
 |v::r,j,h,o,ho=>by
  simp only[dV]at ho;rcases an.1 ho with e|e
  ·rw[e];exact EH (h v (ax ..))
  ·exact mw (fun o z=>h o (aq _ z)) o e
theorem mf{m:t8}{o:Nat}(h:o∈m):gD m o<m.length/\m.getD (gD m o) 0=o:=by
 induction m with
 |nil=>cases h
 |cons p r E=>
  simp only[gD];split
  ·rename_i z;subst z;simp
  ·rename_i z
   obtain⟨B,F⟩:=E ((an.1 h).resolve_left (Ne.symm z));exact⟨by simpa using B,by simpa using F⟩
theorem jo{l:t8}(h:dt l=true):l.Nodup:=by
 induction l with
 |nil=>exact List.nodup_nil
 |cons p r z=>simp only[dt,aA,dv,eQ,decide_eq_false_iff_not]at h;exact ed.2 ⟨h.1,z h.2⟩
theorem ua{l r:t8}(h:nR l r=true):∀o∈l,o∈r:=by intro o z;simp only[nR,aT,eQ,decide_eq_true_eq]at h;exact h o z
theorem o8:∀{m:t8}{os:List aC},gv c m=some os->os.length=m.length/\∀i,i<m.length->c.look (m.getD i 0)=some (os.getD i (.rc []))
 |[],os,h=>by cases h;exact⟨rfl,fun i hi=>by simp at hi⟩
 |o::r,os,h=>by
  simp only[gv]at h;split at h<;>cases h;rename_i ob l B F;obtain⟨z,E⟩:=o8 F;refine⟨by simp[z],fun i hi=> ?_⟩;cases i with
  |zero=>exact B
  |succ i=>simpa using E i (by simpa using hi)
theorem fX(mo mt:Nat->Nat)(l:List aC):ee mo mt l=l.map fun o=>o.ren mo mt:=by
 induction l with
 |nil=>rfl
 |cons p r h=>simp only[ee,aO,h]
theorem ov{l:List aC}{o:aC}(h:o∈l):∀k∈o.ids,k∈fy l:=by
 induction l with
 |nil=>cases h
 |cons p r B=>
  intro k z;simp only[fy,ak];rcases an.1 h with e|e
  ·subst e;exact .inl z
  ·exact .inr (B e k z)
theorem mT{l:List LAa}(h:(cn l).Nodup):∀{i j:Nat}{t u:Nat},i≠j->l.getD i none=some t->l.getD j none=some u->t≠u:=by
 have F:∀{l:List LAa},(cn l).Nodup->∀{i j:Nat}{t u:Nat},i<j->l.getD i none=some t->l.getD j none=some u->t≠u:=by
  intro l;induction l with
  |nil=>intro _ i j t u _ B;simp at B
  |cons o r J=>
   intro hn i j t u E B z
   have I:(cn r).Nodup:=by cases o with
    |none=>exact hn
    |some q=>exact(ed.1 hn).2
   cases j with
   |zero=>omega
   |succ j=>
    rw[bF]at z;cases i with
    |zero=>
     rw[bp]at B;subst B
     have H:some u∈r:=by
      rw[aa]at z;cases hj:r[j]? with
      |none=>rw[hj]at z;cases z
      |some q=>rw[hj]at z;cases z;exact List.mem_of_getElem? hj
     intro e;subst e;exact(ed.1 hn).1 (kt.2 H)
    |succ i=>rw[bF]at B;exact J I (by omega) B z
 intro i j t u E B z;rcases Nat.lt_or_gt_of_ne E with H|H
 ·exact F h H B z
 ·exact(F h H z B).symm
theorem jz{b n t:Nat}:t∈tks b n↔b<=t/\t<b+n:=by
 unfold tks
 have:∀n k,k∈j0 n↔k<n:=by
  intro n;induction n with
  |zero=>intro k;simp[j0]
  |succ n z=>intro k;simp only[j0,ak,z,aN];omega
 simp only[aS,this];constructor
 ·rintro⟨k,h,rfl⟩;omega
 ·rintro⟨B,E⟩;exact⟨t-b,by omega,by omega⟩
structure Er(x x2:Sit)(c:CSt)(m:List Nat)(mt:List (Option Nat)):Prop where
 G:x2.G=x.G
 bk:∀i,i<m.length->x2.bk i=x.bk (m.getD i 0)
 τ:nJ x x2 50 mt
 nd:m.Nodup
 ob:∀i,i<m.length->∃ob,(m.getD i 0,ob)∈c.ob
 tnd:(cn mt).Nodup
 tk:∀t∈cn mt,t∈c.tk
def Ctx.took(x2:Sit)(w:World)(n k:Nat):Ctx:=
 ⟨w,x2.G,fun b=>w.heap.size<=b\/(∃i,i<n/\(x2.bk i).1=b)\/(∃t,50<=t/\t<50+k/\(x2.τ t).2.1≠(x2.τ t).2.2/\(x2.τ t).1=b),x2.bk⟩
theorem fE{m:t8}{i:Nat}(h:i<m.length):m.getD i 0∈m:=by rw[aa,af h];exact bo _
theorem lc{m:t8}(h:m.Nodup){i j:Nat}(hi:i<m.length)(z:j<m.length)(e:m.getD i 0=m.getD j 0):i=j:=by rw[aa,aa,af hi,af z]at e;exact qB h hi z e
theorem iD{l:List LAa}{i t:Nat}(h:l.getD i none=some t):t∈cn l:=by
 rw[aa]at h;cases hj:l[i]? with
 |none=>rw[hj]at h;cases h
 |some q=>rw[hj]at h;cases h;exact kt.2 (List.mem_of_getElem? hj)
theorem Er.tok{x2:Sit}{m:t8}{mt:List LAa}(h:Er x x2 c m mt){t:Nat}(z:50<=t)(B:t<50+mt.length):
 (x2.τ t).2.1=(x2.τ t).2.2\/∃u,mt.getD (t-50) none=some u/\x2.τ t=x.τ u/\u∈c.tk/\u∈cn mt:=by
 have e:=h.τ (t-50) (by omega);rw[show 50+(t-50)=t by omega]at e;cases hu:mt.getD (t-50) none with
 |none=>rw[hu]at e;rw[e];exact .inl rfl
 |some u=>rw[hu]at e;exact .inr ⟨u,rfl,e,h.tk u (iD hu),iD hu⟩
theorem qm{x2:Sit}{m:t8}{mt:List LAa}(H:cS C x c.ob c.tk w)(h:Er x x2 c m mt){B:List aC}(hl:B.length=m.length)
 (ho:∀i,i<m.length->dA x2 w i (B.getD i (.rc []))):cS (Ctx.took x2 w m.length mt.length) x2 (idx B) (tks 50 mt.length) w:=by
 refine⟨fun b o v L=>H.per b o v (by rw[<-h.G];exact L),fun _ _ _ L=>L,fun _ _ _ L=> .inl L,fun b hb=> .inl hb, ?_,mB B, ?_, ?_, ?_, ?_,rfl,rfl,rfl,aI _,fun _ _=>rfl,fun _ _=>rfl,H.lay.mono (fun b o v L=>by show x2.G b o=some v;rw[h.G];exact H.g0 b o v L)⟩
 ·intro p Q
  obtain⟨z,E⟩:=iM.1 Q;rw[hl]at z;obtain⟨ob,O⟩:=h.ob p.1 z;refine⟨by rw[E];exact ho p.1 z,.inr (.inl ⟨p.1,z,rfl⟩),fun off=> ?_⟩;rw[h.G,h.bk _ z];exact(H.obs _ O).2.2 off
 ·intro p Q q hq S
  obtain⟨z,_⟩:=iM.1 Q;obtain⟨E,_⟩:=iM.1 hq;rw[hl]at z E;rw[h.bk _ z,h.bk _ E]at S;obtain⟨o1,J⟩:=h.ob _ z;obtain⟨o2,W⟩:=h.ob _ E;exact lc h.nd z E (H.inj _ J _ W S)
 ·intro t U
  obtain⟨z,E⟩:=jz.1 U;rcases h.tok z E with O|⟨u,_,I,h5,_⟩
  ·exact .inl O
  ·by_cases F:(x2.τ t).2.1=(x2.τ t).2.2
   ·exact .inl F
   ·have:=H.tks u h5
    unfold gY at this ⊢;rw[I]at F ⊢;rcases this with g|⟨J,W,g3⟩
    ·exact absurd g F
    ·exact .inr ⟨J,.inr (.inr ⟨t,z,E,by rw[I];exact F,by rw[I]⟩),by rw[h.G];exact g3⟩
 ·intro t U p Q
  obtain⟨z,E⟩:=jz.1 U;obtain⟨Z,_⟩:=iM.1 Q;rw[hl]at Z;rcases h.tok z E with O|⟨u,_,I,h5,_⟩
  ·exact .inr O
  ·obtain⟨o1,J⟩:=h.ob _ Z
   rw[I,h.bk _ Z];exact H.tko u h5 _ J
 ·intro t U u hu a0
  obtain⟨z,E⟩:=jz.1 U;obtain⟨O,I⟩:=jz.1 hu;rcases h.tok z E with g|⟨t',J,W,g3,_⟩
  ·exact .inr (.inl g)
  ·rcases h.tok O I with k|⟨u',k1,k2,k3,_⟩
   ·exact .inr (.inr k)
   ·rw[W,k2]
    exact H.tkd t' g3 u' k3 (mT h.tnd (by omega) J k1)
end Go.Sy
namespace Go.Sy
variable [bc]
variable {P : Program} {C : Ctx} {x : Sit} {a : Act} {w : World} {N : Nat} {c c' : CSt} {s : St}
theorem Fl(d:Nat)(l:t8):p8 d l=l.map (jy d):=by
 induction l with
 |nil=>rfl
 |cons p r h=>simp only[p8,aO,h]
theorem mE{k:t8}{t:Nat}:∀{l:t8},t∈l4 k l↔t∈l/\t∉k
 |[]=>by simp[l4]
 |p::r=>by
  simp only[l4];split
  ·rename_i B
   have E:p∈k:=by simpa using B
   rw[mE,an];constructor
   ·rintro⟨h,z⟩;exact⟨.inr h,z⟩
   ·rintro⟨h|h,z⟩
    ·exact absurd (h ▸ E) z
    ·exact⟨h,z⟩
  ·rename_i B
   have E:p∉k:=by simpa using B
   rw[an,mE,an];constructor
   ·rintro(h|⟨h,z⟩)
    ·exact⟨.inl h,h ▸ E⟩
    ·exact⟨.inr h,z⟩
   ·rintro⟨h|h,z⟩
    ·exact .inl h
    ·exact .inr ⟨h,z⟩
theorem qD{t:Nat}:∀{r l:t8},t∈qd l r↔t∈r\/t∈l
 |[],l=>by simp[qd]
 |p::r,l=>by
  simp only[qd];rw[qD,ke,an];constructor
  ·rintro(h|h|h)
   ·exact .inl (.inr h)
   ·exact .inl (.inl h)
   ·exact .inr h
  ·rintro((h|h)|h)
   ·exact .inr (.inl h)
   ·exact .inl h
   ·exact .inr (.inr h)
theorem mC{p:Nat×aC}:∀{r l:List (Nat×aC)},p∈qc l r->p∈r\/p∈l
 |[],l,h=> .inr h
 |q::r,l,h=>by
  simp only[qc]at h;rcases mC h with e|e
  ·exact .inl (aq _ e)
  ·rcases kd e with e|e
   ·exact .inl (e ▸ ax ..)
   ·exact .inr e
theorem zh:∀{r l:List (Nat×aC)},(l.map cB).Pairwise (· < ·)->((qc l r).map cB).Pairwise (· < ·)
 |[],_,h=>h
 |_::r,_,h=>zh (r:=r) (sW h)
theorem xb{mo mt:Nat->Nat}{o:aC}(h:o.wf=true):(o.ren mo mt).wf=true:=by cases o<;>first|rfl|exact h
theorem vi{x2:Sit}{m:t8}{mt:List LAa}(B:cS C x c.ob c.tk w)(h:Er x x2 c m mt){x':Sit}{w':World}{q:dY}(hH:cS (Ctx.took x2 w m.length mt.length) x' q.os q.tk w'){D:Nat}
 (hm:∀o∈m,inR D o=false) (a0:∀p∈q.os,p.1<1000/\(∀k∈p.2.ids,k<1000)/\∀k∈p.2.toks,k<1000) (a6:∀t∈q.tk,t<1000) (hg:∀i,i<m.length->x'.bk i=x2.bk i):
 ∃x3:Sit,x3.G=x'.G/\(∀b o v,x.G b o=some v->x3.G b o=some v)/\(∀k,k<1000->x3.bk (ij D m k)=x'.bk k)/\(∀k,k<1000->x3.τ (jy D k)=x'.τ k)/\
  (∀k,¬((D+1)*1000<=k/\k<(D+2)*1000)->x3.bk k=x.bk k)/\(∀k,¬((D+1)*1000<=k/\k<(D+2)*1000)->x3.τ k=x.τ k)/\
  cS C x3 (nZ D m q.os++fb m (bz ((D+1)*1000) ((D+2)*1000) c.ob)) (p8 D q.tk++l4 (cn mt) (co ((D+1)*1000) ((D+2)*1000) c.tk)) w':=by
 let lo:=(D+1)*1000
 let hi:=(D+2)*1000
 have e3:lo=(D+1)*1000:=rfl;have e1:hi=(D+2)*1000:=rfl
 let β2:Nat->Nat×Nat:=fun k=>if inR D k then x'.bk (k-lo)else x.bk k
 let τ2:Nat->Nat×Nat×Nat:=fun k=>if inR D k then x'.τ (k-lo)else x.τ k
 have d4:∀k,k<1000->inR D (lo+k)=true:=by intro k hk;simp only[inR,aA,decide_eq_true_eq];omega
 have b4:∀k,¬(lo<=k/\k<hi)->inR D k=false:=by intro k hk;rw[Bool.eq_false_iff];intro h;simp only[inR,aA,decide_eq_true_eq]at h;exact hk h
 have a2:∀k,¬(lo<=k/\k<hi)->β2 k=x.bk k:=fun k hk=>by simp only[β2];rw[b4 k hk];rfl
 have a4:∀k,¬(lo<=k/\k<hi)->τ2 k=x.τ k:=fun k hk=>by simp only[τ2];rw[b4 k hk];rfl
 have E:∀k,k<1000->β2 (ij D m k)=x'.bk k:=by
  intro k hk
  by_cases a8:k<m.length
  ·have z:ij D m k=m.getD k 0:=if_pos a8
   simp only[β2];rw[z,hm _ (fE a8),hg k a8,h.bk k a8];rfl
  ·have z:ij D m k=lo+k:=if_neg a8
   simp only[β2];rw[z,d4 k hk,if_pos rfl];congr 1;omega
 have F:∀k,k<1000->τ2 (jy D k)=x'.τ k:=by intro k hk;have z:jy D k=lo+k:=rfl;simp only[τ2];rw[z,d4 k hk,if_pos rfl];congr 1;omega
 have hG:∀b o v,x.G b o=some v->x'.G b o=some v:=fun b o v hv=>hH.g0 b o v (by show x2.G b o=_;rw[h.G];exact hv)
 refine⟨⟨x'.G,β2,τ2⟩,rfl,hG,E,F,a2,a4, ?_⟩;rw[uj,Fl]
 have a3:∀b,(Ctx.took x2 w m.length mt.length).mine b->C.mine b:=by
  rintro b (z|⟨i,hi,rfl⟩|⟨t,z,I,H,rfl⟩)
  ·exact B.new b (pC B.size z)
  ·obtain⟨ob,c3⟩:=h.ob i hi
   rw[h.bk i hi];exact(B.obs _ c3).2.1
  ·rcases h.tok z I with g|⟨u,_,g1,g2,_⟩
   ·exact absurd g H
   ·rw[g1]at H ⊢
    rcases B.tks u g2 with k|⟨_,k,_⟩
    ·exact absurd k H
    ·exact k
 have a7:∀b,b<w.heap.size->(∀i,i<m.length->(x.bk (m.getD i 0)).1≠b)->(∀u∈cn mt,(x.τ u).2.1=(x.τ u).2.2\/(x.τ u).1≠b)->w'.heap[b]? =w.heap[b]? /\((∀off,x.G b off=none)->∀off,x'.G b off=none)/\
  (∀off,x.G b off=none->x'.G b off=none):=by
  intro b hb b7 b8
  have b3:¬(Ctx.took x2 w m.length mt.length).mine b:=by
   rintro(z|⟨i,hi,z⟩|⟨t,z,I,H,h4⟩)
   ·omega
   ·rw[h.bk i hi]at z;exact b7 i hi z
   ·rcases h.tok z I with g|⟨u,_,g1,_,g3⟩
    ·exact H g
    ·rw[g1]at H h4
     rcases b8 u g3 with k|k
     ·exact H k
     ·exact k h4
  have one:∀off,x.G b off=none->x'.G b off=none:=by
   intro off ho;cases hg:x'.G b off with
   |none=>rfl
   |some v=>
    rcases hH.gm b off v hg with z|z
    ·change x2.G b off=some v at z;rw[h.G,ho]at z;cases z
    ·exact absurd z b3
  exact⟨hH.ext b b3,fun h off=>one off (h off),one⟩
 have W:∀p∈fb m (bz lo hi c.ob),∃ob,(p.1,ob)∈c.ob/\p.2=ob.purge lo hi/\¬(lo<=p.1/\p.1<hi)/\p.1∉m/\(∀i,i<m.length->(x.bk (m.getD i 0)).1≠(x.bk p.1).1)/\(∀u∈cn mt,(x.τ u).2.1=(x.τ u).2.2\/(x.τ u).1≠(x.bk p.1).1)/\(x.bk p.1).1<w.heap.size:=by
  intro p O;obtain⟨z,I⟩:=jq.1 O;obtain⟨H,ob,h4,h5⟩:=cm z;refine⟨ob,h4,h5,H,I,fun i hi e=> ?_,fun u hu=> ?_, ?_⟩
  ·obtain⟨ob',d3⟩:=h.ob i hi
   have:=B.inj _ d3 _ h4 e;simp only at this;apply I;rw[<-this];exact fE hi
  ·exact(B.tko u (h.tk u hu) _ h4).symm
  ·obtain⟨⟨c,e,fl,fh,hO,_⟩,_⟩:=B.obs _ h4
   exact hO.lt
 have Z:∀p∈q.os.map (fun p=>(ij D m p.1,p.2.ren (ij D m) (jy D))),∃r∈q.os,p=(ij D m r.1,r.2.ren (ij D m) (jy D))/\β2 p.1=x'.bk r.1:=by intro p O;obtain⟨r,Q,rfl⟩:=aS.1 O;exact⟨r,Q,rfl,E _ (a0 r Q).1⟩
 have U:∀r∈q.os,w.heap.size<=(x'.bk r.1).1\/(∃i,i<m.length/\(x.bk (m.getD i 0)).1=(x'.bk r.1).1)\/(∃u∈cn mt,(x.τ u).2.1≠(x.τ u).2.2/\(x.τ u).1=(x'.bk r.1).1):=by
  intro r Q;rcases (hH.obs r Q).2.1 with z|⟨i,hi,z⟩|⟨t,z,I,H,h4⟩
  ·exact .inl z
  ·exact .inr (.inl ⟨i,hi,by rw[<-h.bk i hi];exact z⟩)
  ·rcases h.tok z I with g|⟨u,_,g1,_,g3⟩
   ·exact absurd g H
   ·rw[g1]at H h4;exact .inr (.inr ⟨u,g3,H,h4⟩)
 have a5:∀t∈q.tk,(x'.τ t).2.1=(x'.τ t).2.2\/w.heap.size<=(x'.τ t).1\/(∃i,i<m.length/\(x.bk (m.getD i 0)).1=(x'.τ t).1)\/(∃u∈cn mt,(x.τ u).2.1≠(x.τ u).2.2/\(x.τ u).1=(x'.τ t).1):=by
  intro t L;rcases hH.tks t L with k|⟨_,k,_⟩
  ·exact .inl k
  ·right
   rcases k with z|⟨i,hi,z⟩|⟨t',z,I,H,h4⟩
   ·exact .inl z
   ·exact .inr (.inl ⟨i,hi,by rw[<-h.bk i hi];exact z⟩)
   ·rcases h.tok z I with g|⟨u,_,g1,_,g3⟩
    ·exact absurd g H
    ·rw[g1]at H h4;exact .inr (.inr ⟨u,g3,H,h4⟩)
 have J:∀t∈l4 (cn mt) (co lo hi c.tk),t∈c.tk/\¬(lo<=t/\t<hi)/\t∉cn mt:=fun t L=>by obtain⟨z,I⟩:=mE.1 L;obtain⟨H,h4⟩:=bE.1 z;exact⟨H,h4,I⟩
 have S:∀t∈c.tk,t∉cn mt->(x.τ t).2.1=(x.τ t).2.2\/((x.τ t).1<w.heap.size/\(∀i,i<m.length->(x.bk (m.getD i 0)).1≠(x.τ t).1)/\(∀u∈cn mt,(x.τ u).2.1=(x.τ u).2.2\/(x.τ u).1≠(x.τ t).1)):=by
  intro t L b8;rcases B.tks t L with z|⟨⟨c,e,fl,fh,hO,_⟩,_⟩
  ·exact .inl z
  ·by_cases he:(x.τ t).2.1=(x.τ t).2.2
   ·exact .inl he
   ·refine .inr ⟨hO.lt,fun i hi e'=> ?_,fun u hu=> ?_⟩
    ·obtain⟨ob,c3⟩:=h.ob i hi
     rcases B.tko t L _ c3 with z|z
     ·exact z e'.symm
     ·exact he z
    ·rcases B.tkd u (h.tk u hu) t L (fun e=>b8 (e ▸ hu))with k|k|k
     ·exact .inr k
     ·exact .inl k
     ·exact absurd k he
 refine⟨hH.per,fun b o v hv=>hG _ _ _ (B.g0 b o v hv), ?_,B.new, ?_, ?_, ?_, ?_, ?_, ?_,hH.os.trans B.os,hH.tape.trans B.tape,hH.output.trans B.output,pC B.size hH.size, ?_,fun i hi=>(a2 i (by omega)).trans (B.pin i hi),B.lay⟩
 ·intro b o v hv
  rcases hH.gm b o v hv with z|z
  ·exact B.gm b o v (by rw[<-h.G];exact z)
  ·exact .inr (a3 b z)
 ·intro p O
  rcases ak.1 O with O|O
  ·obtain⟨r,Q,rfl,hb⟩:=Z p O
   obtain⟨z,I,H⟩:=hH.obs r Q;refine⟨z.renF (x2:=⟨x'.G,β2,τ2⟩) (fun _ _ _ h=>h) (E _ (a0 r Q).1) (fun k hk=>E k ((a0 r Q).2.1 k hk)) (fun t L=>F t ((a0 r Q).2.2 t L)), ?_,fun off=> ?_⟩
   ·show C.mine (β2 (ij D m r.1)).1;rw[E _ (a0 r Q).1];exact a3 _ I
   ·show x'.G (β2 (ij D m r.1)).1 off=none;rw[E _ (a0 r Q).1];exact H off
  ·obtain⟨ob,z,I,H,h4,h5,h6,h7⟩:=W p O
   obtain⟨g1,g2,g3⟩:=B.obs _ z;obtain⟨k1,k2,_⟩:=a7 _ h7 h5 h6;have hb:β2 p.1=x.bk p.1:=a2 _ H;refine⟨?_,by show C.mine (β2 p.1).1;rw[hb];exact g2,fun off=>by show x'.G (β2 p.1).1 off=none;rw[hb];exact k2 g3 off⟩;rw[I];exact dA.of_heap (x':=⟨x'.G,β2,τ2⟩) g1 k1 hG a2 a4 H
 ·rw[dh,List.nodup_append]
  refine⟨?_, ?_, ?_⟩
  ·rw[List.map_map]
   have c7:=gu.1 hH.nd;refine gu.2 (iI.imp_of_mem (fun{p r} O Q b7=> ?_) c7);intro e;simp only[Function.comp]at e;have:(x'.bk p.1).1=(x'.bk r.1).1:=by rw[<-E _ (a0 p O).1,<-E _ (a0 r Q).1,e]
   exact b7 (hH.inj p O r Q this)
  ·have z:(fb m (bz lo hi c.ob)).Sublist (bz lo hi c.ob):=gR _ _
   refine vg.sublist (z.map cB) ?_;rw[eI];exact B.nd.filter _
  ·intro o1 z o2 I e
   subst e;obtain⟨p,O,rfl⟩:=aS.1 z;obtain⟨r,Q,b5⟩:=aS.1 I;obtain⟨u,hu,rfl⟩:=aS.1 O;obtain⟨ob,k1,k2,k3,k4,_⟩:=W r Q;simp only at b5
   by_cases c4:u.1<m.length
   ·apply k4;rw[b5];show ij D m u.1∈m;unfold ij;rw[if_pos c4];exact fE c4
   ·apply k3;rw[b5];show lo<=ij D m u.1/\ij D m u.1<hi
    unfold ij;rw[if_neg c4];have:=(a0 u hu).1;omega
 ·intro p O r Q a1
  change (β2 p.1).1=(β2 r.1).1 at a1;rcases ak.1 O with O|O<;>rcases ak.1 Q with Q|Q
  ·obtain⟨p',b6,rfl,hb⟩:=Z p O
   obtain⟨r',c6,rfl,d8⟩:=Z r Q;rw[hb,d8]at a1;have:=hH.inj p' b6 r' c6 a1;simp only;rw[this]
  ·obtain⟨p',b6,rfl,hb⟩:=Z p O
   obtain⟨ob,k1,k2,k3,k4,k5,k6,k7⟩:=W r Q;rw[hb,a2 _ k3]at a1;rcases U p' b6 with z|⟨i,hi,z⟩|⟨u,hu,z,I⟩
   ·omega
   ·exact absurd (z.trans a1) (k5 i hi)
   ·rcases k6 u hu with g|g
    ·exact absurd g z
    ·exact absurd (I.trans a1) g
  ·obtain⟨r',c6,rfl,hb⟩:=Z r Q
   obtain⟨ob,k1,k2,k3,k4,k5,k6,k7⟩:=W p O;rw[hb,a2 _ k3]at a1;rcases U r' c6 with z|⟨i,hi,z⟩|⟨u,hu,z,I⟩
   ·omega
   ·exact absurd (z.trans a1.symm) (k5 i hi)
   ·rcases k6 u hu with g|g
    ·exact absurd g z
    ·exact absurd (I.trans a1.symm) g
  ·obtain⟨ob,k1,k2,k3,_⟩:=W p O
   obtain⟨ob',d9,e2,e0,_⟩:=W r Q;rw[a2 _ k3,a2 _ e0]at a1;exact B.inj (p.1,ob) k1 (r.1,ob') d9 a1
 ·intro t L
  rcases ak.1 L with L|L
  ·obtain⟨u,hu,rfl⟩:=aS.1 L
   have:=hH.tks u hu;unfold gY at this ⊢;simp only[F u (a6 u hu)];exact this.imp id fun⟨z,I,H⟩=>⟨z,a3 _ I,H⟩
  ·obtain⟨z,I,H⟩:=J t L
   have:=B.tks t z;unfold gY at this ⊢;simp only[a4 t I];rcases this with g|⟨⟨c,e,fl,fh,hO,hc⟩,h4,h5⟩
   ·exact .inl g
   ·rcases S t z H with g|⟨k1,k2,k3⟩
    ·exact .inl g
    ·obtain⟨g1,_,g2⟩:=a7 _ k1 k2 k3
     exact .inr ⟨⟨c,e,fl,fh,hO.of_heap g1,hc⟩,h4,fun o d7 d6=>g2 o (h5 o d7 d6)⟩
 ·intro t L p O
  rcases ak.1 L with L|L<;>rcases ak.1 O with O|O
  ·obtain⟨u,hu,rfl⟩:=aS.1 L
   obtain⟨r,Q,rfl,hb⟩:=Z p O;show(τ2 (jy D u)).1≠(β2 (ij D m r.1)).1\/(τ2 (jy D u)).2.1=(τ2 (jy D u)).2.2;rw[F u (a6 u hu),E _ (a0 r Q).1];exact hH.tko u hu r Q
  ·obtain⟨u,hu,rfl⟩:=aS.1 L
   obtain⟨ob,k1,k2,k3,k4,k5,k6,k7⟩:=W p O;show(τ2 (jy D u)).1≠(β2 p.1).1\/(τ2 (jy D u)).2.1=(τ2 (jy D u)).2.2;rw[F u (a6 u hu),a2 _ k3];rcases a5 u hu with g|g|⟨i,hi,g⟩|⟨v,hv,g1,g2⟩
   ·exact .inr g
   ·left;intro e;omega
   ·left;intro e;exact k5 i hi (g.trans e)
   ·left;intro e
    rcases k6 v hv with k|k
    ·exact g1 k
    ·exact k (g2.trans e)
  ·obtain⟨z,I,H⟩:=J t L
   obtain⟨r,Q,rfl,hb⟩:=Z p O;show(τ2 t).1≠(β2 (ij D m r.1)).1\/(τ2 t).2.1=(τ2 t).2.2;rw[a4 t I,E _ (a0 r Q).1];rcases S t z H with g|⟨k1,k2,k3⟩
   ·exact .inr g
   ·left;intro e
    rcases U r Q with g|⟨i,hi,g⟩|⟨v,hv,g1,g2⟩
    ·omega
    ·exact k2 i hi (g.trans e.symm)
    ·rcases k3 v hv with k|k
     ·exact g1 k
     ·exact k (g2.trans e.symm)
  ·obtain⟨z,I,H⟩:=J t L
   obtain⟨ob,k1,k2,k3,_⟩:=W p O;show(τ2 t).1≠(β2 p.1).1\/(τ2 t).2.1=(τ2 t).2.2;rw[a4 t I,a2 _ k3];exact B.tko t z (p.1,ob) k1
 ·intro t L u hu d5
  show kV (τ2 t) (τ2 u)\/(τ2 t).2.1=(τ2 t).2.2\/(τ2 u).2.1=(τ2 u).2.2;rcases ak.1 L with L|L<;>rcases ak.1 hu with hu|hu
  ·obtain⟨t',a9,rfl⟩:=aS.1 L
   obtain⟨u',b2,rfl⟩:=aS.1 hu;rw[F t' (a6 t' a9),F u' (a6 u' b2)];exact hH.tkd t' a9 u' b2 (fun e=>d5 (by rw[e]))
  ·obtain⟨t',a9,rfl⟩:=aS.1 L
   obtain⟨z,I,H⟩:=J u hu;rw[F t' (a6 t' a9),a4 u I];rcases S u z H with k|⟨k1,k2,k3⟩
   ·exact .inr (.inr k)
   ·rcases a5 t' a9 with g|g|⟨i,hi,g⟩|⟨v,hv,g1,g2⟩
    ·exact .inr (.inl g)
    ·exact .inl fun e=>by omega
    ·exact .inl fun e=>k2 i hi (g.trans e)
    ·refine .inl fun e=> ?_
     rcases k3 v hv with k|k
     ·exact g1 k
     ·exact k (g2.trans e)
  ·obtain⟨u',b2,rfl⟩:=aS.1 hu
   obtain⟨z,I,H⟩:=J t L;rw[F u' (a6 u' b2),a4 t I];rcases S t z H with k|⟨k1,k2,k3⟩
   ·exact .inr (.inl k)
   ·rcases a5 u' b2 with g|g|⟨i,hi,g⟩|⟨v,hv,g1,g2⟩
    ·exact .inr (.inr g)
    ·exact .inl fun e=>by omega
    ·exact .inl fun e=>k2 i hi (g.trans e.symm)
    ·refine .inl fun e=> ?_
     rcases k3 v hv with k|k
     ·exact g1 k
     ·exact k (g2.trans e.symm)
  ·obtain⟨z,I,_⟩:=J t L
   obtain⟨H,h4,_⟩:=J u hu;rw[a4 t I,a4 u h4];exact B.tkd t z u H d5
 ·intro b hb
  have b3:¬(Ctx.took x2 w m.length mt.length).mine b:=fun h=>hb (a3 b h)
  exact(hH.ext b b3).trans (B.ext b hb)
end Go.Sy
namespace Go.Sy
variable [bc]
variable {P : Program} {C : Ctx} {x : Sit} {a : Act} {w : World} {N : Nat} {c c' : CSt} {s : St}
theorem vj(t:Tok):t.ren (fun k=>k)=t:=by cases t<;>rfl
theorem xaG(sv:SV):sv.ren (fun k=>k) (fun k=>k)=sv:=by
 refine SV.rec (motive_1:=fun sv=>sv.ren (fun k=>k) (fun k=>k)=sv) (motive_2:=fun _=>True) (motive_3:=fun l=>SV.renL (fun k=>k) (fun k=>k) l=l)
  ?_ ?_ ?_ ?_ ?_ ?_ ?_ ?_ ?_ ?_ ?_ ?_ ?_ ?_ ?_ ?_ ?_ ?_ ?_ ?_ sv
 all_goals intros
 all_goals first
  |trivial
  |rfl
  |(simp only[SV.ren,SV.renL,vj];done)
  |(simp only[SV.ren,SV.renL, *])
theorem xat{q:dY}(h:q.small=true):(∀p∈q.os,p.1<1000/\(∀k∈p.2.ids,k<1000)/\∀k∈p.2.toks,k<1000)/\(∀k∈q.r.ids,k<1000)/\(∀k∈q.r.toks,k<1000)/\∀k∈q.tk,k<1000:=by simp only[dY.small,aA,aT,decide_eq_true_eq]at h;obtain⟨⟨⟨B,F⟩,H⟩,E⟩:=h;exact⟨fun p z=>⟨(B p z).1.1,(B p z).1.2,(B p z).2⟩,F,H,E⟩
theorem mY{d:LAa}{m:t8}{mt:List LAa}{q:dY}{x2 x':Sit}{w':World}{v:Value}(U:aM C x s a w)(H:Sim N c s)(hd:∀k,d=some k->k<N)(h:Er x x2 c m mt)
 (hH:cS (Ctx.took x2 w m.length mt.length) x' q.os q.tk w') (B:Rep x' q.r v) (L:∀p∈q.os,p.2.wf=true) (hg:∀i,i<m.length->x'.bk i=x2.bk i) (hm:∀o∈m,inR (d.getD 0) o=false) (Z:q.small=true):
 M C N (jH c d m (cn mt) q) (a.put d v) w':=by
 obtain⟨s1,s2,s3,s4⟩:=xat Z;have J:=H.exact U;obtain⟨I,g1,g2,g3,g4,g5,g6,g7⟩:=vi J.heap h hH hm s1 s4 hg
 let O:CSt:=⟨da ((d.getD 0+1)*1000) ((d.getD 0+2)*1000) c.tm,qc (fb m (bz ((d.getD 0+1)*1000) ((d.getD 0+2)*1000) c.ob)) (nZ (d.getD 0) m q.os),
  qd (l4 (cn mt) (co ((d.getD 0+1)*1000) ((d.getD 0+2)*1000) c.tk)) (p8 (d.getD 0) q.tk)⟩
 have W:Inv N O:=by
  refine⟨fun p z=> ?_,zh ?_,fun p z=> ?_⟩
  ·obtain⟨r,B,e⟩:=jp z
   rw[e];exact H.inv.dom r B
  ·exact iI.sublist ((gR _ _).map cB) (uc H.inv.so)
  ·rcases mC z with e|e
   ·rw[uj]at e
    obtain⟨r,B,rfl⟩:=aS.1 e;exact xb (L r B)
   ·obtain⟨_,ob,F,h2⟩:=cm (jq.1 e).1
    rw[h2];exact oU (H.inv.wf _ F)
 have Q:aM C I (O.st N) a w':=by
  refine⟨⟨?_,fun i hi=> ?_⟩,U.defers,g7.only (fun p z=> ?_) (iY W.so) (fun t S=> ?_)⟩
  ·have:=J.tm.1;simpa[CSt.st]using this
  ·have E:i<N:=by simpa[CSt.st]using hi
   have F:=J.tm.2 i (by simpa[CSt.st]using E);simp only[CSt.st,aa,aR,cM E,bm,ba]at F ⊢;have e:O.get i=(c.get i).purge ((d.getD 0+1)*1000) ((d.getD 0+2)*1000):=fT _ _ i c.tm;rw[e];exact F.mono (x':=I) g2 g5 g6
  ·rcases mC z with e|e
   ·exact ak.2 (.inl e)
   ·exact ak.2 (.inr e)
  ·rcases qD.1 S with e|e
   ·exact ak.2 (.inl e)
   ·exact ak.2 (.inr e)
 refine⟨I,_,Q.put d (c:=q.r.ren (ij (d.getD 0) m) (jy (d.getD 0))) ?_,(Sim.of W).put hd _⟩;exact Rep.renF (x:=x') (x2:=I) (fun b o v hv=>by rw[g1];exact hv) B (fun k hk=>g3 k (s2 k hk)) (fun t S=>g4 t (s3 t S))
theorem wx{call:cV}{g:Nat}{d:LAa}{a_:t7}{vs:LAb}(I:aM C x s a w)(hS:Sim N c s)(hd:∀k,d=some k->k<N)(U:∀a_ os k q,call g a_ os k=some q->jI P g a_ os k (· =q))
 (E:lY c d (call g (SV.bareL a_) [] 0)=some c') (Q:cr x a_ vs):Calls P g ⟨vs⟩ w fun en w'=>∃v,en= .returned v/\M C N c' (a.put d v) w':=by
 cases hq:call g (SV.bareL a_) [] 0 with
 |none=>rw[hq]at E;cases E
 |some q=>
  rw[hq]at E
  have hb:cr x (SV.bareL a_) vs:=by rw[ki];refine⟨by simpa using Q.1,fun i hi=> ?_⟩;rw[aV _ (by rfl)];exact(Q.2 i (by simpa using hi)).bare rfl rfl
  obtain⟨_,L⟩:=U _ _ _ _ hq
  by_cases z:q.bare=true
  ·simp only[lY,z,nq,aw.injEq]at E
   subst E;have O:=tU (m:=[]) (os:=[]) (mo:=fun k=>k) (mt:=fun k=>k) I (fun i hi=>by simp at hi) rfl (by simp) (fun i hi=>by simp at hi);refine(L (Ctx.callee x w [] (x.back (fun k=>k) (fun k=>k)).bk) x w vs rfl rfl ?_ (by simp) (by simp) O hb).mono ?_
   ·rintro b (h|⟨i,hi,_⟩)
    ·exact .inl h
    ·simp at hi
   ·rintro en w' ⟨v,x',q',rfl,H,hr,W,J,_⟩
    subst H;simp only[dY.bare,aA,List.isEmpty_iff]at z;obtain⟨⟨⟨b1,b2⟩,b3⟩,b4⟩:=z
    obtain⟨hG,hA⟩:=wt (m:=[]) (os:=[]) (mo:=fun k=>k) (mt:=fun k=>k) (lo:=0) (hi:=0) (β2:=x.bk) (τ2:=x.τ) I rfl (fun i hi=>by simp at hi) W (fun i hi=>by simp at hi) (fun i hi=>by omega) (fun _ _=>rfl) (fun _ _=>rfl)
     (fun p B=>by rw[b1]at B;cases B) (fun p B=>by rw[b1]at B;cases B) (fun p B=>by rw[b1]at B;cases B) (fun p B=>by rw[b1]at B;cases B) (fun t F=>by rw[b2]at F;cases F)
    have a0:cS C ⟨x'.G,x.bk,x.τ⟩ s.ob s.tk w':=by
     refine hA.only (fun p B=> ?_) I.heap.nd (fun t F=> ?_)
     ·exact ak.2 (.inr (jq.2 ⟨by rw[Ft];exact B,by simp⟩))
     ·exact ak.2 (.inr (bE.2 ⟨F,by omega⟩))
    refine⟨v,rfl,⟨x'.G,x.bk,x.τ⟩,_, ?_,hS.put hd q'.r⟩;refine aM.put ⟨cr.grow (x:=x) (x':=⟨x'.G,x.bk,x.τ⟩) hG rfl rfl I.tm,I.defers,a0⟩ d ?_;have:=Rep.renF (x:=x') (x2:=⟨x'.G,x.bk,x.τ⟩) (mo:=fun k=>k) (mt:=fun k=>k) (fun _ _ _ h=>h) hr (fun k S=>by rw[b3]at S;cases S) (fun t F=>by rw[b4]at F;cases F);rwa[xaG]at this
  ·have Z:q.bare=false:=by simpa using z
   simp only[lY,Z,nq]at E;cases hsm:q.small with
   |false=>rw[hsm]at E;cases E
   |true=>
    rw[hsm]at E;simp only[wz,aw.injEq]at E;subst E;have hE:=hS.exact I;have hT:Er x x c [] []:=⟨rfl,fun i hi=>by simp at hi,fun k S=>by simp at S,by simp,fun i hi=>by simp at hi,by simp[cn],fun t F=>by simp[cn]at F⟩;refine(L (Ctx.took x w 0 0) x w vs rfl rfl ?_ (by simp) (by simp) (qm hE.heap hT rfl (fun i hi=>by simp at hi)) hb).mono ?_
    ·rintro b h;exact h
    ·rintro en w' ⟨v,x',q',rfl,H,hr,W,J,_⟩
     subst H;exact⟨v,rfl,mY I hS hd hT W hr J (fun i hi=>by simp at hi) (fun o ho=>by simp at ho) hsm⟩
theorem vu{call:cV}{sg:Sig}{g:Nat}{d:LAa}{a_:t7}{vs:LAb}(hM:aM C x s a w)(hS:Sim N c s)(hd:∀k,d=some k->k<N)(b7:∀a_ os k q,call g a_ os k=some q->jI P g a_ os k (· =q))
 (E:jC call sg d g (c,a_)=some c') (b4:cr x a_ vs):Calls P g ⟨vs⟩ w fun en w'=>∃v,en= .returned v/\M C N c' (a.put d v) w':=by
 simp only[jC]at E;generalize hz:jN c.tk sg.own 50 0 a_=z at E;obtain⟨H,B⟩:=z;simp only[ng]at E;generalize dC c 60 [] (SV.idsL H)=m at E;cases ho:gv c m with
 |none=>rw[ho]at E;cases E
 |some I=>
  rw[ho]at E;simp only[kY]at E;generalize Q:dV c.tk (50+B.length) I=z2 at E;obtain⟨os,F⟩:=z2;simp only[nf]at E;cases hb:(nR (SV.idsL H++fy os) m&&dt m&&dt (cn (B++F))&&decide (m.length<=40)&&m.all fun o=> !inR (d.getD 0) o)with
  |false=>rw[hb]at E;cases E
  |true=>
   rw[hb]at E;simp only[nb]at E;simp only[aA,decide_eq_true_eq,aT,dv]at hb;obtain⟨⟨⟨⟨a3,a9⟩,c3⟩,c6⟩,b3⟩:=hb;cases hq:call g (SV.renL (gD m) id H) (ee (gD m) id os) (B.length+F.length)with
   |none=>rw[hq]at E;cases E
   |some q=>
    rw[hq]at E;simp only[nW]at E;cases hsm:q.small with
    |false=>rw[hsm]at E;cases E
    |true=>
     rw[hsm]at E;simp only[vw,aw.injEq]at E;subst E;have hE:=hS.exact hM;obtain⟨c7,b8⟩:=o8 ho
     let τ2:Nat->Nat×Nat×Nat:=fun t=>if 50<=t/\t<50+(B++F).length then M4 x ((B++F).getD (t-50) none)else(0,0,0)
     let x1:Sit:=⟨x.G,x.bk,τ2⟩
     let x2:Sit:=⟨x.G,fun i=>x.bk (m.getD i 0),τ2⟩
     have hτ:∀y:Sit,y.τ=τ2->nJ x y 50 (B++F):=by
      intro y hy k hk;rw[hy];show(if _ then _ else _)=_;rw[if_pos ⟨by omega,by omega⟩]
      congr 2;omega
     have O:∀i,i<m.length->(m.getD i 0,I.getD i (.rc []))∈c.ob:=fun i hi=>jb (b8 i hi)
     have L:=ua a3;have Z:=jo a9
     have hT:Er x x2 c m (B++F):=by
      refine⟨rfl,fun _ _=>rfl,hτ x2 rfl,Z,fun i hi=>⟨_,O i hi⟩,jo c3,fun t ht=> ?_⟩;rw[fv,ak]at ht;rcases ht with ht|ht
      ·have:=nP (tk:=c.tk) (own:=sg.own) (cs:=a_) (j:=50) (i:=0) t (by rw[hz];exact ht)
       exact this
      ·have:=my (tk:=c.tk) (obs:=I) (j:=50+B.length) t (by rw[Q];exact ht)
       exact this
     have W:=hτ x1 rfl
     have a5:cr x1 H vs:=by have:=lI (x:=x) (x1:=x1) rfl rfl (tk:=c.tk) (own:=sg.own) (j:=50) (i:=0) b4 (by rw[hz];exact W.left);rwa[hz]at this
     have hβ:∀o∈m,x2.bk (gD m o)=x.bk o:=fun o ho=>by show x.bk (m.getD (gD m o) 0)=_;rw[(mf ho).2]
     have b5:cr x2 (SV.renL (gD m) id H) vs:=by
      rw[fa];refine⟨by simpa using a5.1,fun i hi=> ?_⟩;have a7:i<H.length:=by simpa using hi
      rw[aV _ (by rfl)];exact Rep.renF (x:=x1) (x2:=x2) (fun _ _ _ h=>h) (a5.2 i a7) (fun k hk=>hβ k (L k (ak.2 (.inl (kQ a7 k hk))))) (fun t _=>rfl)
     obtain⟨U,J⟩:=kX (x:=x) (x1:=x1) (w:=w) rfl rfl (tk:=c.tk) (obs:=I) (j:=50+B.length) (f:=fun i=>m.getD i 0)
      (fun i hi=>(hE.heap.obs _ (O i (by omega))).1) (by rw[Q];exact W.right)
     rw[Q]at U J;simp only at U J
     have a8:∀i,i<m.length->dA x2 w i ((ee (gD m) id os).getD i (.rc [])):=by
      intro i hi;have h1:=J i (by omega);have a4:i<os.length:=by omega
      have e:(ee (gD m) id os).getD i (.rc [])=(os.getD i (.rc [])).ren (gD m) id:=by rw[fX,aa,aa,aR,af a4];rfl
      rw[e];have a0:=fE (m:=m) hi;have b2:os.getD i (.rc [])∈os:=by rw[aa,af a4];exact bo _
      have h2:=h1.renF (x2:=x2) (mo:=gD m) (mt:=id) (fun _ _ _ h=>h) (hβ _ a0) (fun k hk=>hβ k (L k (ak.2 (.inr (ov b2 k hk))))) (fun t _=>rfl);have e2:gD m (m.getD i 0)=i:=lc Z (mf a0).1 hi (mf a0).2;rwa[e2]at h2
     have a1:(ee (gD m) id os).length=m.length:=by rw[fX,aQ];omega
     obtain⟨_,a6⟩:=b7 _ _ _ _ hq;have a2:B.length+F.length=(B++F).length:=by simp
     rw[a2]at a6;refine(a6 (Ctx.took x2 w m.length (B++F).length) x2 w vs rfl rfl ?_ (by omega) ?_ (qm hE.heap hT a1 a8) b5).mono ?_
     ·rintro b h;rw[a1];exact h
     ·intro o S
      rw[fX]at S;obtain⟨r,hr,rfl⟩:=aS.1 S;refine xb ?_
      have:=mw (tk:=c.tk) (obs:=I) (j:=50+B.length) (fun o h'=>by obtain⟨i,hi,rfl⟩:=bl h';have:=hS.inv.wf _ (O i (by omega));simpa[aa,af hi]using this) r (by rw[Q];exact hr)
      exact this
     ·rintro en w' ⟨v,x',q',rfl,c4,hr,hH,b6,hg⟩
      subst c4;exact⟨v,rfl,mY hM hS hd hT hH hr b6 (fun i hi=>hg i (by omega)) (fun o S=>b3 o S) hsm⟩
theorem tW{call:cV}{sg:Sig}{g:Nat}{d:LAa}{a_:t7}{vs:LAb}(F:aM C x s a w)(E:Sim N c s)(hd:∀k,d=some k->k<N)(h:∀a_ os k q,call g a_ os k=some q->jI P g a_ os k (· =q))
 (z:ib call sg c d g a_=some c') (B:cr x a_ vs):Calls P g ⟨vs⟩ w fun en w'=>∃v,en= .returned v/\M C N c' (a.put d v) w':=by
 unfold ib at z;generalize ((SV.idsL a_).isEmpty&&sg.own.isEmpty)=b at z;cases b with
 |true=>exact wx F E hd h z B
 |false=>simp only[jG]at z;obtain⟨x1,s1,J,H,I⟩:=jf (l:=iP sg.raw 0 a_) F E B;exact vu J H hd h z I
end Go.Sy
namespace Go.Sy
variable [bc]
variable {P : Program} {C : Ctx} {x : Sit} {a : Act} {w : World} {N : Nat} {c c' : CSt} {s : St} {call : cV} {sg : Nat -> Sig}
def fU(P:Program)(call:cV):Prop:=∀g a_ os k q,call g a_ os k=some q->jI P g a_ os k (· =q)
theorem wF{sg:Sig}{d:LAa}{g:Nat}{a_:t7}(h:ib call sg c d g a_=some c'):∃J os k q,call g J os k=some q:=by
 unfold ib at h;generalize ((SV.idsL a_).isEmpty&&sg.own.isEmpty)=b at h;cases b with
 |true=>
  simp only[jG]at h;cases hq:call g (SV.bareL a_) [] 0 with
  |none=>rw[hq]at h;cases h
  |some q=>exact⟨_,_,_,q,hq⟩
 |false=>
  simp only[jG]at h;generalize eL c a_ (iP sg.raw 0 a_)=z at h;obtain⟨c1,H⟩:=z;simp only[jC]at h;generalize jN c1.tk sg.own 50 0 H=z at h;obtain⟨B,E⟩:=z;simp only[ng]at h;cases ho:gv c1 (dC c1 60 [] (SV.idsL B))with
  |none=>rw[ho]at h;cases h
  |some I=>
   rw[ho]at h;simp only[kY]at h;generalize dV c1.tk (50+E.length) I=z at h;obtain⟨os,F⟩:=z;simp only[nf]at h;generalize (nR (SV.idsL B++fy os) (dC c1 60 [] (SV.idsL B))&&dt (dC c1 60 [] (SV.idsL B))&&dt (cn (E++F))&&decide ((dC c1 60 [] (SV.idsL B)).length<=40)&&(dC c1 60 [] (SV.idsL B)).all fun o=> !inR (d.getD 0) o)=b at h;cases b with
   |false=>cases h
   |true=>
    simp only[nb]at h;cases hq:call g (SV.renL (gD (dC c1 60 [] (SV.idsL B))) id B) (ee (gD (dC c1 60 [] (SV.idsL B))) id os) (E.length+F.length)with
    |none=>rw[hq]at h;cases h
    |some q=>exact⟨_,_,_,q,hq⟩
theorem cS.freeze{ob:List (Nat×aC)}{tk:t8}(h:cS C x ob tk w){b:Nat}(hb:C.mine b)(W:∀p∈ob,(x.bk p.1).1≠b)(ht:∀t∈tk,(x.τ t).1≠b\/(x.τ t).2.1=(x.τ t).2.2)(off n:Nat):
 cS C x ob tk (w.freeze ⟨b,off,none⟩ n):=by
 have B:∀z,z≠b->(w.freeze ⟨b,off,none⟩ n).heap[z]? =w.heap[z]? :=by
  intro z J;unfold World.freeze;split
  ·rfl
  ·simp only[Array.getElem?_modify,if_neg (Ne.symm J)]
 have F:∀z i,(w.freeze ⟨b,off,none⟩ n).cell? ⟨z,i,none⟩=w.cell? ⟨z,i,none⟩:=by
  intro z i
  by_cases J:z=b
  ·subst J
   unfold World.freeze;split
   ·rfl
   ·simp only[World.cell?,Array.getElem?_modify,if_true]
    cases hw:w.heap[z]? with
    |none=>rfl
    |some q=>cases q<;>rfl
  ·exact de (B z J)
 have L:(w.freeze ⟨b,off,none⟩ n).heap.size=w.heap.size:=by unfold World.freeze;split<;>simp
 have E:(w.freeze ⟨b,off,none⟩ n).os=w.os/\(w.freeze ⟨b,off,none⟩ n).tape=w.tape/\(w.freeze ⟨b,off,none⟩ n).output=w.output:=by unfold World.freeze;split<;>exact⟨rfl,rfl,rfl⟩
 refine⟨fun z i v Z=>by rw[F];exact h.per z i v Z,h.g0,h.gm,h.new,fun p U=> ?_,h.nd,h.inj,fun t I=> ?_,h.tko,h.tkd,E.1.trans h.os,E.2.1.trans h.tape,E.2.2.trans h.output,by rw[L];exact h.size,fun z H=> ?_,h.pin,h.lay⟩
 ·obtain⟨⟨S,e,fl,fh,Q,r⟩,q⟩:=h.obs p U
  exact⟨⟨S,e,fl,fh,Q.of_heap (B _ (W p U)),r⟩,q⟩
 ·rcases h.tks t I with h1|⟨⟨S,e,fl,fh,Q,h2⟩,h3⟩
  ·exact .inl h1
  ·rcases ht t I with O|O
   ·exact .inr ⟨⟨S,e,fl,fh,Q.of_heap (B _ O),h2⟩,h3⟩
   ·exact .inl O
 ·rw[B z (fun e=>H (e ▸ hb))];exact h.ext z H
theorem OB{o:Oper}{q:Arg}(z:br P o=some (.slid q)):∃B X e,o.op= .convert B B X/\P.underlying B=some (.slice e)/\lv P e=true/\bq P B X=some q:=by
 cases ho:o.op with
 |convert B dst X=>
  simp only[br,ho]at z;split at z<;>try (cases z;done)
  ·split at z<;>cases z
  ·split at z<;>cases z
  ·rename_i e I H hd hX
   split at z<;>try (cases z;done)
   rename_i E;simp only[aA,decide_eq_true_eq]at E;obtain⟨rfl,F⟩:=E;cases z;exact⟨B,X,e,rfl,hd,F,hX⟩
 |_=>exfalso;exact absurd z (by
  intro z;simp only[br,ho]at z
  first
   |(cases z;done)
   |(obtain⟨_,_,h⟩:=ai.1 z;cases h;done)
   |(repeat' split at z)<;>first|(cases z;done)|contradiction|(obtain⟨_,_,h⟩:=ai.1 z;first|(cases h;done)|(split at h<;>cases h;done)))
theorem Fh{o:Oper}{E:List Arg}(z:br P o=some (.newB E)):False:=by
 cases ho:o.op with
 |buildSlice t len B=>
  simp only[br,ho]at z;split at z<;>try (cases z;done)
  split at z<;>try (cases z;done)
  split at z<;>try (cases z;done)
  obtain⟨_,_,h⟩:=ai.1 z;split at h<;>cases h
 |_=>
  simp only[br,ho]at z
  first
   |(cases z;done)
   |(obtain⟨_,_,h⟩:=ai.1 z;cases h;done)
   |(repeat' split at z)<;>first|(cases z;done)|contradiction|(obtain⟨_,_,h⟩:=ai.1 z;first|(cases h;done)|(split at h<;>cases h;done))
theorem C4{o:Oper}{z:t7}{b:Nat}{q y:Arg}(B:br P o=some (.appO z b q y)):False:=by
 cases ho:o.op with
 |buildSlice t len E=>
  simp only[br,ho]at B;split at B<;>try (cases B;done)
  split at B<;>try (cases B;done)
  split at B<;>try (cases B;done)
  obtain⟨_,_,h⟩:=ai.1 B;split at h<;>cases h
 |_=>
  simp only[br,ho]at B
  first
   |(cases B;done)
   |(obtain⟨_,_,h⟩:=ai.1 B;cases h;done)
   |(repeat' split at B)<;>first|(cases B;done)|contradiction|(obtain⟨_,_,h⟩:=ai.1 B;first|(cases h;done)|(split at h<;>cases h;done))
theorem xf6{ops:Array Oper}{o:Oper}{i:SI}(h:fR P ops o=some i):i.er=i:=by
 obtain⟨B,_,_⟩:=kq h;obtain⟨d,g,op⟩:=i
 have:op.er=op:=by
  cases op with
  |appO z b q y=>
   rcases B with B|⟨xs,e,_⟩
   ·exact(C4 B).elim
   ·cases e
  |_=>rfl
 show SI.mk d g op.er=_;rw[this]
theorem vz{o:Oper}{q:Arg}(h:M C N c a w)(hr:br P o=some (.slid q))(hd:∀k,o.dst=some k->k<N)(F:p7 c o.dst (c.ev q)=some c'){K:LBa}{Q:LAf}(hK:∀a w,M C N c' a w->K a w):o.wp P a w K Q:=by
 obtain⟨x,s,O,L⟩:=h;unfold p7 at F;split at F<;>try (cases F;done)
 rename_i z off n cap hq;unfold nX at F;split at F<;>try (cases F;done)
 rename_i l hl;split at F<;>try (cases F;done)
 rename_i I;obtain⟨hb,rfl⟩:=I;cases F;obtain⟨a7,X,e,ho,hu,h8,hX⟩:=OB hr;have hv:=aK O hX;rw[L.ev,hq]at hv;obtain⟨cp,a4,a6,S,U,a3⟩:=hv.psl_inv;have E:s.look z=some (.bar l):=(L.look z).trans hl;obtain⟨cc,e',fl,fh,hO,a5,_⟩:=eC O E;have a2:=O.heap.obs _ (cP E);obtain⟨x',⟨hβ,hτ⟩,hp,Z,B,J⟩:=oi hl (fun cs e=>by cases e) O L
 have H:Rep x' (.byt ((l.drop off).take n) .clip) (a.eval X):=by have:=hp _ _ hv;simpa only[SV.pub,if_true,vZ,true_and,if_pos hb]using this
 have h1:∀p∈Z.ob,(x'.bk p.1).1≠(x.bk z).1:=by intro p a1 e;rw[hβ]at e;have h2:Z.look p.1=some p.2:=wi B.heap.nd a1;rw[J.look]at h2;obtain⟨h3,q',h4,_⟩:=kf (jb h2);have h5:=i7 (iY L.inv.so) h4;exact h3 (O.heap.inj (p.1,q') (cP ((L.look p.1).trans h5)) _ (cP E) e)
 have h2:∀t∈Z.tk,(x'.τ t).1≠(x.bk z).1\/(x'.τ t).2.1=(x'.τ t).2.2:=by intro t ht;rw[hτ];exact O.heap.tko t ((L.tk t).2 ((J.tk t).1 ht)) _ (cP E)
 have a0:aM C x' Z a (w.freeze ⟨(x.bk z).1,cc.size,none⟩ 1):=⟨B.tm,B.defers,B.heap.freeze a2.2.1 h1 h2 _ _⟩
 have W:(execOp a.eval o).run P w= .ok (.value (a.eval X)) (w.freeze ⟨(x.bk z).1,cc.size,none⟩ 1):=by have hm:(markStringish ⟨(x.bk z).1,S,none⟩).run P w= .ok () (w.freeze ⟨(x.bk z).1,cc.size,none⟩ 1):=ep (e:=e') (by simp only[World.shape?,hO.1]);simp only[execOp,ho,U,convert,aB,run_underlying hu,am,beq_self_eq_true,run_underlying (ja h8),hm,aF]
 refine cR ⟨a.eval X,_,x',_,W,.inl rfl,a0.put o.dst H⟩ (k:=Sim N _) ?_ hK;have e1:(c.publish z []).1=⟨ln z (.bar l) c.tm,kN z (.bar l) c.ob,c.tk⟩:=by unfold CSt.publish;rw[hl]
 rw[e1];exact J.put hd _
theorem ow{o:Oper}{O:List Arg}(h:M C N c a w)(J:br P o=some (.litB O))(hd:∀k,o.dst=some k->k<N)(E:nm c o.dst (toB (evL c O))=some c'){K:LBa}{Q:LAf}(U:∀a w,M C N c' a w->K a w):o.wp P a w K Q:=by
 obtain⟨x,s,S,L⟩:=h;rw[L.evL]at E;unfold nm at E;split at E<;>try (cases E;done)
 rename_i k l Z W;cases E;obtain⟨t,len,I,ho⟩:=Py J;obtain⟨r,e,B,H,z⟩:=vK S ho J W
 have F:=S.newObj (d:=k+100) o.dst (by omega) (.bar l) (val:= .psl (k+100) 1 0 l.length (some l.length)) (u:= .slice (some ⟨w.heap.size,0,none⟩) l.length l.length) (t:=e) H (fun i hi=>by
  show cD x.G (.u8 (l.getD i 0)) _;rw[z i hi];exact .u8 _) (by
  have:=Rep.psl (x:=x.newO (k+100) w.heap.size) (k+100) 1 0 l.length (some l.length) 0 l.length (.inr rfl) (aI _) (fun _ e=>by cases e;rfl) (fun e=>by cases e);rwa[i6]at this)
 refine cR ⟨_,_,_,_,B,.inl rfl,F⟩ (k:=Sim N _) ?_ U;have:=L.app hd (e:= {val:= .psl (k+100) 1 0 l.length (some l.length),new:=some (.bar l)}) (f:= {pre:=True,val:= .psl (k+100) 1 0 l.length (some l.length),new:=some (.bar l)}) ⟨rfl,rfl,rfl,rfl,rfl⟩ ⟨fun ob he=>by cases he;rfl,.inl rfl⟩;rw[Z]at this ⊢;exact this
theorem F8(B:aM C x s a w)(z:Sim N c s){g:Nat}{t:Bool}(h:c.get g= .bool t):a.tmps[g]? =some (.bool t):=(Gb B (by rw[z.get];exact h)).2.1
theorem tH{ops:Array Oper}{o:Oper}{j g:Nat}{b:Bool}(h:o.guard=some (j,b))(E:(ops[j]?).bind (·.dst)=some g)(B:∀t,a.tmps[g]? ≠some (.bool t)):Region.wanted o (yielded ops a.tmps)=false:=by
 have z:yielded ops a.tmps j=none:=by
  unfold yielded;rw[E,cQ];cases hv:a.tmps[g]? with
  |none=>rfl
  |some v=>
   cases v with
   |bool t=>exact absurd hv (B t)
   |_=>rfl
 simp only[Region.wanted,h,z];rfl
theorem ui{x:Sit}:Rep x (.tup []) undef:= .tup [] [] rfl fun i hi=>by simp at hi
theorem Ga(F:aM C x s a w)(E:Sim N c s){g:Nat}(h:c.get g= .tup []):∀t,a.tmps[g]? ≠some (.bool t):=by
 intro t B;have z:=F.slot g;rw[E.get,h]at z
 have H:a.tmps.getD g undef= .bool t:=by rw[aW,B];rfl
 replace z:Rep x (.tup []) (a.tmps.getD g undef):=z;rw[H]at z;cases z with
 |dat _ _ h _=>cases h
theorem GH{o:Oper}{q:Arg}(z:br P o=some (.s2b q)):∃B dst X e,o.op= .convert B dst X/\P.underlying B=some .string/\P.underlying dst=some (.slice e)/\lv P e=true/\bq P B X=some q:=by
 cases ho:o.op with
 |convert B dst X=>
  simp only[br,ho]at z;split at z<;>try (cases z;done)
  ·split at z<;>cases z
  ·rename_i e H E hd hX
   split at z<;>try (cases z;done)
   rename_i F;cases z;exact⟨B,dst,X,e,rfl,E,hd,F,hX⟩
  ·split at z<;>cases z
 |_=>exfalso;exact absurd z (by
  intro z;simp only[br,ho]at z
  first
   |(cases z;done)
   |(obtain⟨_,_,h⟩:=ai.1 z;cases h;done)
   |(repeat' split at z)<;>first|(cases z;done)|contradiction|(obtain⟨_,_,h⟩:=ai.1 z;first|(cases h;done)|(split at h<;>cases h;done)))
theorem xdn{o:Oper}{z:t7}{b:Nat}{q r:Arg}(B:br P o=some (.app z b q r)):∃E,o.op= .call E/\E.callee= .builtin .append:=by
 cases ho:o.op with
 |call E=>
  refine⟨E,rfl, ?_⟩;cases hb:E.callee with
  |builtin F=>
   cases F with
   |append=>rfl
   |_=>
    exfalso;simp only[br,ho,hb]at B
    first
     |(cases B;done)
     |(repeat' split at B)<;>first|(cases B;done)|contradiction
  |_=>
   exfalso;simp only[br,ho,hb]at B
   first
    |(cases B;done)
    |(repeat' split at B)<;>first|(cases B;done)|contradiction
 |_=>exfalso;exact absurd B (by
  intro B;simp only[br,ho]at B
  first
   |(cases B;done)
   |(obtain⟨_,_,h⟩:=ai.1 B;cases h;done)
   |(repeat' split at B)<;>first|(cases B;done)|contradiction|(obtain⟨_,_,h⟩:=ai.1 B;first|(cases h;done)|(split at h<;>cases h;done)))
theorem aM.newObjF(F:aM C x s a w){d:Nat}(B:LAa)(z:100<=d){cv:LAc}{t:TypeId}{fl fh:Nat}(obj:aC){val:SV}{u:Value}(Q:∀i,i<cv.size->¬(fl<=i/\i<fh))(H:obj.size<=cv.size)(I:∀k,k<obj.size->bW x obj k (cv.getD k undef))
 (E:obj.arrB=true->¬(fl<=cv.size/\cv.size<fh)) (S:Rep (x.newO d w.heap.size cv.size) val u) {w':World} (J:w'.heap=(w.alloc (.cells cv t (fl,fh))).heap) (U:w'.os=w.os) (L:w'.tape=w.tape) (O:w'.output=w.output):
 aM C (x.newO d w.heap.size cv.size) (((s.purge d (d+1)).addO d (obj.purge d (d+1))).put B val) (a.put B u) w':=by
 refine aM.put ⟨?_,F.defers, ?_⟩ B S
 ·exact cr.mono (x:=x) (x':=x.newO d w.heap.size cv.size) (lo:=d) (hi:=d+1) (fun _ _ _ h=>h) (Sit.newO_ne x d _) (fun _ _=>rfl) F.tm
 ·exact cS.congr (w:=w.alloc (.cells cv t (fl,fh))) (F.heap.allocO d z obj Q H I (aI _) E) J U L O
theorem aM.drew(h:aM C x s a w):aM C x s a w.drew:=⟨h.tm,h.defers,h.heap.drew⟩
theorem wb{o:Oper}{q:Arg}(h:M C N c a w)(hr:br P o=some (.s2b q))(hd:∀k,o.dst=some k->k<N)(F:Pg c o.dst (c.ev q)=some c'){K:LBa}{Q:LAf}(hK:∀a w,M C N c' a w->K a w):o.wp P a w K Q:=by
 obtain⟨x,s,Z,W⟩:=h;unfold Pg at F;split at F<;>try (cases F;done)
 rename_i k l hk hl;cases F;obtain⟨a0,dst,X,e,ho,hs,L,h8,hX⟩:=GH hr;have S:=ja h8;have U:=aK Z hX;rw[W.ev,hl]at U;have hf:(Question.appendCap (ByteArray.mk ⟨l⟩).size 0 e).forced=false:=rfl
 obtain⟨cp,O,I⟩:∃cp,(Question.appendCap (ByteArray.mk ⟨l⟩).size 0 e).cut (w.tape w.drawn (Question.appendCap (ByteArray.mk ⟨l⟩).size 0 e))=cp/\l.length<=cp:=by
  refine⟨_,rfl, ?_⟩;simp only[Question.cut];have:(ByteArray.mk ⟨l⟩).size=l.length:=by simp[ByteArray.size]
  omega
 let cs:LAc:=(ByteArray.mk ⟨l⟩).data.map (fun b=> .int .u8 b.toNat)++dT (cp-(ByteArray.mk ⟨l⟩).size) (.int .u8 0)
 have z:(ByteArray.mk ⟨l⟩).size=l.length:=by simp[ByteArray.size]
 have J:cs.size=cp:=by simp[cs,z];omega
 have E:∀i,i<l.length->cs[i]? =some (.int .u8 (l.getD i 0).toNat):=by intro i hi;simp only[cs];rw[fV (by simpa using hi)];simp[hi,aa]
 have B:(execOp a.eval o).run P w= .ok (.value (.slice (some ⟨w.heap.size,0,none⟩) l.length cp)) ((w.drew.alloc (.cells cs e (0,0))).freeze ⟨w.heap.size,cs.size,none⟩ 1):=by simp only[execOp,ho,U.str_inv,convert,aB,run_underlying hs,run_underlying L,am,run_underlying S,Conv.stringToBytes,run_choose_drew,hf,aJ,if_false,O,newRow,run_newObj_alloc,aF];rw[ep (e:=e) (n:=cs.size) (by simp only[World.shape?];rw[cL])];simp only[am,z];rfl
 have H:=Z.drew.newObjF (d:=k+100) o.dst (by omega) (.bar l) (cv:=cs) (t:=e) (fl:=cs.size) (fh:=cs.size+1) (val:= .psl (k+100) 1 0 l.length none) (u:= .slice (some ⟨w.heap.size,0,none⟩) l.length cp) (fun i hi h=>by omega) (by simp only[aC.size];omega) (fun i hi=>by
  simp only[aC.size]at hi;show cD x.G (.u8 (l.getD i 0)) _;have:cs.getD i undef= .int .u8 (l.getD i 0).toNat:=by rw[aW,E i hi];rfl
  rw[this];exact .u8 _) (fun h=>by cases h) (by
  have:=Rep.psl (x:=x.newO (k+100) w.drew.heap.size cs.size) (k+100) 1 0 l.length none 0 cp (.inr rfl) I (fun _ e=>by cases e) (fun _=> .inr (by rw[hJ,J];omega));rw[i6]at this;exact this) (gw w.drew cs e) rfl rfl rfl
 refine cR ⟨_,_,_,_,B,.inl rfl,H⟩ (k:=Sim N _) ?_ hK;have:=W.app hd (e:= {val:= .psl (k+100) 1 0 l.length none,new:=some (.bar l)}) (f:= {pre:=True,val:= .psl (k+100) 1 0 l.length none,new:=some (.bar l)}) ⟨rfl,rfl,rfl,rfl,rfl⟩ ⟨fun ob S=>by cases S;rfl,.inl rfl⟩;rw[hk]at this ⊢;exact this
theorem vo{o:Oper}{q:Arg}(h:M C N c a w)(hr:br P o=some (.s2b q))(hd:∀k,o.dst=some k->k<N)(J:Ol c o.dst (c.ev q)=some c'){K:LBa}{Q:LAf}(hK:∀a w,M C N c' a w->K a w):o.wp P a w K Q:=by
 obtain⟨x,s,z,hS⟩:=h;unfold Ol at J;split at J<;>try (cases J;done)
 rename_i k l hk hl;cases J;obtain⟨a4,dst,X,e,ho,hs,a0,h8,hX⟩:=GH hr;have he:=ja h8;have W:=aK z hX;rw[hS.ev,hl]at W;have hf:(Question.appendCap (ByteArray.mk ⟨l⟩).size 0 e).forced=false:=rfl
 obtain⟨cp,a1,Z⟩:∃cp,(Question.appendCap (ByteArray.mk ⟨l⟩).size 0 e).cut (w.tape w.drawn (Question.appendCap (ByteArray.mk ⟨l⟩).size 0 e))=cp/\l.length<=cp:=by
  refine⟨_,rfl, ?_⟩;simp only[Question.cut];have:(ByteArray.mk ⟨l⟩).size=l.length:=by simp[ByteArray.size]
  omega
 let cs:LAc:=(ByteArray.mk ⟨l⟩).data.map (fun b=> .int .u8 b.toNat)++dT (cp-(ByteArray.mk ⟨l⟩).size) (.int .u8 0)
 have E:(ByteArray.mk ⟨l⟩).size=l.length:=by simp[ByteArray.size]
 have a3:cs.size=cp:=by simp[cs,E];omega
 have I:∀i,i<l.length->cs[i]? =some (.int .u8 (l.getD i 0).toNat):=by intro i hi;simp only[cs];rw[fV (by simpa using hi)];simp[hi,aa]
 have F:(execOp a.eval o).run P w= .ok (.value (.slice (some ⟨w.heap.size,0,none⟩) l.length cp)) ((w.drew.alloc (.cells cs e (0,0))).freeze ⟨w.heap.size,cs.size,none⟩ 1):=by simp only[execOp,ho,W.str_inv,convert,aB,run_underlying hs,run_underlying a0,am,run_underlying he,Conv.stringToBytes,run_choose_drew,hf,aJ,if_false,a1,newRow,run_newObj_alloc,aF];rw[ep (e:=e) (n:=cs.size) (by simp only[World.shape?];rw[cL])];simp only[am,E];rfl
 have hG:∀o,x.G w.heap.size o=none:=by
  intro o;cases hg:x.G w.heap.size o with
  |none=>rfl
  |some v=>exact absurd (z.heap.ltG hg) (by omega)
 have O:=z.heap.newD_le cs l.length;have hH:cS C (x.newD w.heap.size cs l.length) s.ob s.tk (w.drew.alloc (.cells cs e (cs.size,cs.size+1))):=z.heap.drew.allocD l.length;have H:dS (w.drew.alloc (.cells cs e (cs.size,cs.size+1))) w.heap.size cs e cs.size (cs.size+1):=⟨cL (w:=w.drew),fun i _ h=>by omega⟩
 have S:cS C ((x.newD w.heap.size cs l.length).newT (k+100) w.heap.size l.length cp) (bz (k+100) (k+100+1) s.ob) ((k+100)::co (k+100) (k+100+1) s.tk) (w.drew.alloc (.cells cs e (cs.size,cs.size+1))):=by
  refine hH.addT (k+100) w.heap.size _ _ (.inr ⟨⟨cs,e,_,_,H,by omega⟩,z.heap.new _ z.heap.size,fun o W h2=> ?_⟩) (.inr fun p hp _=> ?_) (.inr fun u hu _=> ?_)
  ·simp only[Sit.newD];rw[if_neg (by omega)];exact hG o
  ·obtain⟨⟨c2,e2,a2,U,B,_⟩,_⟩:=z.heap.obs p hp
   have:=B.lt;show w.heap.size≠(x.bk p.1).1;omega
  ·rcases z.heap.tks u hu with h|⟨⟨c2,e2,a2,U,B,_⟩,_⟩
   ·exact .inr h
   ·have:=B.lt
    exact .inl (by show w.heap.size≠(x.τ u).1;omega)
 have L:aM C ((x.newD w.heap.size cs l.length).newT (k+100) w.heap.size l.length cp) ((s.grew .no (k+100)).put o.dst (.byt l (.id (k+100)))) (a.put o.dst (.slice (some ⟨w.heap.size,0,none⟩) l.length cp)) ((w.drew.alloc (.cells cs e (0,0))).freeze ⟨w.heap.size,cs.size,none⟩ 1):=by
  refine aM.put ⟨?_,z.defers, ?_⟩ o.dst ?_
  ·exact cr.mono (x:=x) (x':=(x.newD w.heap.size cs l.length).newT (k+100) w.heap.size l.length cp) (lo:=k+100) (hi:=k+100+1) O (fun _ _=>rfl) (Sit.newT_ne (x.newD w.heap.size cs l.length) (k+100) _ _ _) z.tm
  ·exact cS.congr (w:=w.drew.alloc (.cells cs e (cs.size,cs.size+1))) S (gw w.drew cs e) rfl rfl rfl
  ·refine .dat _ _ (.byt l _ w.heap.size 0 cp l.length rfl Z fun i hi=> ?_) ⟨_,l.length,cp,rfl,.inr ⟨w.heap.size,0,rfl, ?_⟩⟩
   ·show(x.newD w.heap.size cs l.length).G w.heap.size (0+i)=_
    simp only[Sit.newD];rw[if_pos ⟨trivial,by omega⟩,bC];exact I i hi
   ·rw[Sit.newT_eq,iF,iF,bC,bC]
 refine cR ⟨_,_,_,_,F,.inl rfl,L⟩ (k:=Sim N _) ?_ hK;have:=hS.app hd (e:= {val:= .byt l (.id (k+100)),tok:=true}) (f:= {pre:=True,val:= .byt l (.id (k+100)),tok:=true}) ⟨rfl,rfl,rfl,rfl,rfl⟩ ⟨fun ob he=>(by cases he),.inl rfl⟩;rw[hk]at this ⊢;exact this
theorem ri(hM:aM C x s a w){t u J:TypeId}{d2:TypeDesc}{n H:Nat}{zs:LAb}(hd:P.underlying t=some (.slice J))(hu:P.underlying u=some d2)(b4:(∃e',d2= .slice e')\/d2= .string)(hn:fj P J=some n)(hb:sm P J=some H)
 (hz:fN P J=some zs) (hb0:H≠0) (hzl:zs.length=n) {ty:TypeId} {X Y:Value} {fl h:t7} {ns:LAb} {len m cap:Nat} (hX:Ct x.G n fl X len cap)
 (U:∀w',w'.heap=w.heap->(Builtin.lenOf Y).run P w'= .ok m w') (F:∀w',w'.heap=w.heap->(Builtin.firstCells n m Y).run P w'= .ok ns.toArray w') (a7:ns.length=m*n) (B:New x ns h) (I:(len+m)*H<=140737488355328) (hc:¬len+m<=cap):
 ∃L cv,len+m<=L/\(Builtin.append_ #[t,u] ty #[X,Y]).run P w= .ok (.slice (some ⟨w.heap.size,0,none⟩) (len+m) L) (w.drew.alloc (.cells cv J (0,0)))/\((fl++h).length<=cv.size/\L*n<=cv.size)/\∀k,k<(fl++h).length->cD x.G ((fl++h).getD k .undef) (cv.getD k undef):=by
 obtain⟨Z,b7,W⟩:=hX;obtain⟨z,b5,a6⟩:=cC hz
 obtain⟨i,hi,a9⟩:∃i,P.info? J=some i/\i.bytes=H:=by
  unfold sm at hb;cases hi:P.info? J with
  |none=>simp[hi]at hb
  |some i=>simp[hi]at hb;exact⟨i,rfl,hb⟩
 obtain⟨bs,a5⟩:∃bs,X= .slice bs len cap:=by
  rcases W with⟨b,off,rfl,_⟩|⟨⟨a,rfl⟩,rfl,rfl⟩
  ·exact⟨_,rfl⟩
  ·exact⟨_,rfl⟩
 subst a5;have b6:h.length=m*n:=by rw[B.len,a7]
 obtain⟨os,a3,E,a1⟩:∃os:LAb,(∀w',w'.heap=w.heap->(Builtin.firstCells n len (.slice bs len cap)).run P w'= .ok os.toArray w')/\os.length=fl.length/\∀k,k<fl.length->cD x.G (fl.getD k .undef) (os.getD k undef):=by
  rcases W with⟨b,off,O,hr⟩|⟨O,h1,h2⟩
  ·simp only[Value.slice.injEq]at O
   obtain⟨rfl,_⟩:=O;refine⟨(bS (len*n)).map fun k=>(w.cell? ⟨b,off+k,none⟩).getD undef,fun w' b2=> ?_,by simp[Z],fun k S=> ?_⟩
   ·simp only[Builtin.firstCells]
    refine run_loadCells w' _ _ _ fun j hj=> ?_
    rw[cU,de (w:=w) (by rw[b2])];obtain⟨v,hv,_⟩:=hr j (by omega);rw[hM.heap.per _ _ _ hv];rfl
   ·obtain⟨v,hv,a2⟩:=hr k S
    have:((bS (len*n)).map fun k=>(w.cell? ⟨b,off+k,none⟩).getD undef).getD k undef=v:=by rw[aa];simp[show k<len*n from by omega,hM.heap.per _ _ _ hv]
    rw[this];exact a2
  ·obtain⟨a,O⟩:=O
   simp only[Value.slice.injEq]at O;obtain⟨rfl,rfl,_⟩:=O;have:fl=[]:=bP.1 (by rw[<-Z,h1,pB]);subst this;exact⟨[],fun w' _=>by cases bs<;>simp only[Builtin.firstCells,pB]<;>rfl,rfl,fun k S=>by simp at S⟩
 obtain⟨L,a4,a0⟩:=ip (t:=t) (u:=u) (ty:=ty) (Y:=Y) hd hu b4 hn hi a9 hb0 a6 U F a3 hc I;refine⟨L,_,a4,a0, ?_,fun k S=> ?_⟩
 ·have b3:z.cells.size=n:=by rw[<-aP,b5];exact hzl
  have e3:len*n+m*n+(L-(len+m))*n=L*n:=by rw[<-bD,<-bD];congr 1;omega
  simp only[ah,m9,gq,E,<-B.len,dz,b3];omega
 ·have a8:k<os.length+ns.length:=by rw[E,<-B.len,<-ah];exact S
  rw[aW,ix os ns _ k a8]
  by_cases Q:k<fl.length
  ·have e1:(fl++h).getD k .undef=fl.getD k .undef:=by simp only[aa,aY Q]
   have e2:((os++ns)[k]?).getD undef=os.getD k undef:=by simp only[aa,aY (show k<os.length by omega)]
   rw[e1,e2];exact a1 k Q
  ·have e1:(fl++h).getD k .undef=h.getD (k-fl.length) .undef:=by simp only[aa,bj (Nat.le_of_not_lt Q)]
   have e2:((os++ns)[k]?).getD undef=ns.getD (k-fl.length) undef:=by simp only[aa,bj (show os.length<=k by omega),E]
   rw[e1,e2];exact B.rep _ (by rw[ah]at S;omega)
theorem kv{n:Nat}{fl:t7}{X:Value}{len cap:Nat}(hX:Ct x.G n fl X len cap)(B:df x n .clip X):cap=len:=by
 obtain⟨a,k,E⟩:=B;obtain⟨_,_,z⟩:=hX;rcases z with⟨b,off,h,_⟩|⟨h,h1,h2⟩
 ·rw[h]at E;simp only[Value.slice.injEq]at E;omega
 ·omega
theorem jU(o:Nat)(obj:aC):∀l:List (Nat×aC),bz o (o+1) (setO o obj l)=bz o (o+1) l
 |[]=>rfl
 |p::r=>by
  simp only[setO]
  by_cases h:p.1=o
  ·rw[if_pos h]
   simp only[bz];rw[if_pos (by omega),if_pos (by omega)]
  ·rw[if_neg h]
   simp only[bz];rw[if_neg (by omega),if_neg (by omega),jU o obj r]
theorem v8{o:Oper}{z:t7}{h6 E sz n:Nat}{r q:Arg}(h:M C N c a w)(hr:br P o=some (.app z h6 r q))(hd:∀k,o.dst=some k->k<N)(hx:c.ev r= .psl E sz 0 n none)
 (hc:ME c z h6 E sz n o.dst (fB c z.length (.psl E sz 0 n none)) (fB c z.length (c.ev q)) (dJ c (.psl E sz 0 n none)) (dJ c (c.ev q))=some c') {K:LBa} {Q:LAf} (hK:∀a w,M C N c' a w->K a w):o.wp P a w K Q:=by
 obtain⟨x,s,hM,hS⟩:=h;obtain⟨X,Y,t,u,el,d2,zs,I,b8,_⟩:=QU hr (.inl rfl) a;have b8:=b8 rfl;have h1:=aK hM I.hX;have h2:=aK hM I.hY;rw[hS.ev,hx]at h1;unfold ME at hc;split at hc<;>try (cases hc;done)
 ·rename_i k J B hk W f1
  rw[aG]at hc;obtain⟨⟨rfl,H,b2⟩,hc⟩:=hc;obtain⟨p0,d4,f5⟩:=j8 hS W;obtain⟨p1,a3,d8⟩:=j8 hS f1;rw[<-hS.ev]at a3;obtain⟨os,g0,n0,s0⟩:=oW (P:=P) hM h1 d4 f5;obtain⟨ns,g1,n1,s1⟩:=oW (P:=P) hM h2 a3 d8
  obtain⟨S,hl,g5,b4⟩:∃S,c.look E=some (.arr z.length S)/\n<=S.length/\J=S.take n:=by
   simp only[fB]at W;split at W
   ·rename_i i3 S hl
    obtain⟨⟨_,e1,e2⟩,e3⟩:=bJ W;exact⟨S,by rw[hl,<-e1],by omega,by rw[<-e3];rfl⟩
   ·cases W
  obtain⟨cp,h8,L,d5,a6,c4⟩:=h1.psl_invK;have a4:ns.length=B.length*z.length:=by rw[<-n1.len,bG g1]
  have b6:os.length=n*z.length:=by rw[<-n0.len,bG g0,H]
  have a9:s.look E=some (.arr z.length S):=(hS.look E).trans hl;obtain⟨cc,e,fl,fh,hO,⟨g7,c7,h9⟩,a2⟩:=eC hM a9;have a8:∀y∈J++B,y.length=z.length:=fun y hy=>(ak.1 hy).elim (g0 y) (g1 y)
  have i2:∀y∈S,y.length=z.length:=hS.rows hl;have hN:=n0.append n1;rw[<-bY]at hN;have F:(aC.arr z.length (J++B)).size=(n+B.length)*z.length:=by simp only[aC.size,ah,H]
  have O:=(hS.purge E (E+1)).app (d:=o.dst) hd (e:= {val:= .psl (k+100) z.length 0 (n+B.length) none,new:=some (.arr z.length (J++B))}) (f:= {pre:=True,val:= .psl (k+100) z.length 0 (n+B.length) none,new:=some (.arr z.length (J++B))}) ⟨rfl,rfl,rfl,rfl,rfl⟩ ⟨fun ob he=>by cases he;exact fO.2 a8,.inl rfl⟩;have f7:=aw.inj hc;subst f7;have a7:=I.ex;rw[d5]at a7;have e5:(n+B.length)*z.length=n*z.length+B.length*z.length:=bD _ _ _
  by_cases U:n+B.length<=cp
  ·have b3:n*z.length+ns.length<=cc.size:=by
    rcases c4 with h0|h0
    ·have h3:n=0:=by omega
     have h4:B.length=0:=by omega
     rw[a4,h3,h4];omega
    ·have h3:(n+B.length)*z.length<=cp*z.length:=bB _ U
     rw[a4];omega
   obtain⟨q1,q2,q3,q4,q5⟩:=cT ((x.bk E).1) ns w (n*z.length);obtain⟨c2,g3,b7,e4⟩:=cK ns w (n*z.length) cc hO b3
   have d7:aM C x (s.setO E (.arr z.length (J++B))) a (bM w ((x.bk E).1) (n*z.length) ns):=
    ⟨hM.tm,hM.defers,hM.heap.block (cP a9) q1 q2 q3 q4 q5 ⟨c2,e,fl,fh,g3,⟨by rw[F,b7];omega,by rw[b7];exact c7,fun h=>by rw[b7];exact h9 rfl⟩,fun i hi=>by
     rw[F]at hi;rw[e4 i];have i0:i<(J++B).length*z.length:=by rw[ah,H];exact hi
     show cD x.G ((((J++B)).getD (i/z.length) []).getD (i % z.length) .undef) _;rw[<-cE _ a8 i i0,bY];have g4:J.flatten.length=n*z.length:=by rw[bG g0,H]
     by_cases b5:n*z.length<=i
     ·rw[if_pos ⟨b5,by omega⟩]
      have:=n1.rep (i-n*z.length) (by rw[bG g1];omega);rw[aa,bj (by omega),g4,<-aa];exact this
     ·rw[if_neg (fun h=>b5 h.1)]
      have i4:n*z.length<=S.length*z.length:=bB _ g5;have h3:=a2 i (by simp only[aC.size];omega);change cD x.G ((S.getD (i/z.length) []).getD (i % z.length) .undef) _ at h3;rw[<-cE S i2 i (by omega)]at h3;rw[aa,aY (by omega),b4]
      have e6:S.flatten[i]? =(S.take n).flatten[i]? :=by
       have:S.flatten=(S.take n).flatten++(S.drop n).flatten:=by rw[<-bY,fZ]
       rw[this,aY (by rw[<-b4];omega)]
      rw[<-e6,<-aa];exact h3⟩⟩
   have c6:=d7.move (d:=k+100) (by omega) (obj:= .arr z.length (J++B)) (by show(setO E _ s.ob).lookup E=_;have h3:s.ob.lookup E=some (.arr z.length S):=a9;rw[ir,if_pos ⟨rfl,by rw[h3];rfl⟩]) (fun cs e=>by cases e)
   have d6:(s.setO E (.arr z.length (J++B))).purge E (E+1)=s.purge E (E+1):=by simp only[St.purge,St.setO,jU]
   rw[d6]at c6;have d3:(x.newO (k+100) (x.bk E).1 (x.bk E).2).bk (k+100)=x.bk E:=if_pos rfl
   have hv:Rep (x.newO (k+100) (x.bk E).1 (x.bk E).2) (.psl (k+100) z.length 0 (n+B.length) none) (.slice (some ⟨(x.bk E).1,L,none⟩) (n+B.length) cp):=by have:=Rep.psl (x:=x.newO (k+100) (x.bk E).1 (x.bk E).2) (k+100) z.length 0 (n+B.length) none L cp a6 U (fun _ e=>by cases e) (fun _=>by rw[d3];exact c4);rw[d3]at this;exact this
   have f4:=c6.put o.dst hv
   have Z:=fQ (P:=P) (t:=t) (u:=u) (ty:=o.type) (Y:=a.eval Y) (bs:=some ⟨(x.bk E).1,L,none⟩) (len:=n) (m:=B.length) (cap:=cp) (w1:=bM w ((x.bk E).1) (n*z.length) ns) I.hd I.hu b8 I.hn (s1.len w rfl) (s1.cells w rfl) U (by
    simp only[cU]
    by_cases f6:cp=0
    ·have:ns=[]:=bP.1 (by
      rw[a4];have:B.length=0:=by omega
      rw[this,pB])
     rw[this];simp[storeCells,bM]
    ·rw[a6.resolve_left f6,pB,bC]
     exact eF (n*z.length) ns w cc 0 hO (by omega) n1.one)
   refine cR ⟨_,_,_,.value _, ?_,.inl rfl,f4⟩ (k:=Sim N _) ?_ hK
   ·rw[a7];simp only[aB,Z,am,aF]
   ·rw[hk]at O ⊢
    exact O
  ·obtain⟨i,hi,f3⟩:=rh I.hby
   obtain⟨zv,e9,e0⟩:=cC I.hz
   obtain⟨nc,c3,Z⟩:=ip (P:=P) (t:=t) (u:=u) (ty:=o.type) (Y:=a.eval Y) (bs:=some ⟨(x.bk E).1,L,none⟩) (len:=n) (m:=B.length) (cap:=cp) (os:=os) (ns:=ns) I.hd I.hu b8 I.hn hi f3 I.hb0 e0 s1.len s1.cells (by have:=s0.cells;rw[d5,H]at this;exact this) U b2
   have e8:zv.cells.size=z.length:=by rw[<-aP,e9];exact I.hzl.symm
   have a5:(os.toArray++ns.toArray++Builtin.zeroCells zv.cells (nc-(n+B.length))).size=nc*z.length:=by simp only[m9,gq,dz,e8,b6,a4];rw[<-bD,<-bD];congr 1;omega
   have d9:=(hM.purge E (E+1)).drew.newObjF (d:=k+100) o.dst (by omega) (.arr z.length (J++B)) (cv:=os.toArray++ns.toArray++Builtin.zeroCells zv.cells (nc-(n+B.length))) (t:=el) (fl:=0) (fh:=0) (val:= .psl (k+100) z.length 0 (n+B.length) none) (u:= .slice (some ⟨w.heap.size,0,none⟩) (n+B.length) nc) (fun i hi h=>by omega) (by
    rw[F,a5];exact bB _ c3) (fun i hi=>by
    rw[F]at hi;have h3:=DM a8 hN i (by rw[ah,H];exact hi)
    have e7:(os.toArray++ns.toArray++Builtin.zeroCells zv.cells (nc-(n+B.length))).getD i undef=(⟨os++ns⟩:LAc).getD i undef:=by rw[aW,ix os ns _ i (by rw[b6,a4];omega),aW];simp
    rw[e7];exact h3) (fun _ h=>by omega) (by
    have:=Rep.psl (x:=x.newO (k+100) w.drew.heap.size (os.toArray++ns.toArray++Builtin.zeroCells zv.cells (nc-(n+B.length))).size) (k+100) z.length 0 (n+B.length) none 0 nc (.inr (by omega)) c3 (fun _ e=>by cases e) (fun _=> .inr (by rw[hJ,a5];omega));rw[i6]at this;exact this) (w':=w.drew.alloc (.cells (os.toArray++ns.toArray++Builtin.zeroCells zv.cells (nc-(n+B.length))) el (0,0))) rfl rfl rfl rfl
   refine cR ⟨_,_,_,.value _, ?_,.inl rfl,d9⟩ (k:=Sim N _) ?_ hK
   ·rw[a7];simp only[aB,Z,am,aF]
   ·rw[hk]at O ⊢
    exact O
 ·rename_i k J B hk _ W f1
  rw[aG]at hc;obtain⟨⟨h5,rfl,H,b2⟩,hc⟩:=hc;obtain⟨p0,d4,f5⟩:=iU hS W;obtain⟨p1,a3,d8⟩:=iU hS f1;rw[<-hS.ev]at a3;obtain⟨a0,b0⟩:=fc (P:=P) hM h1 d4 f5;obtain⟨a1,b1⟩:=fc (P:=P) hM h2 a3 d8
  obtain⟨S,hl,g5,b4⟩:∃S,c.look E=some (.bar S)/\n<=S.length/\J=S.take n:=by
   simp only[dJ]at W;split at W
   ·rename_i S hl
    obtain⟨⟨_,e2⟩,e3⟩:=bJ W;exact⟨S,hl,by omega,by rw[<-e3];rfl⟩
   ·cases W
  obtain⟨cp,h8,L,d5,a6,c4⟩:=h1.psl_invK;have g2:=kr (x:=x) B;have i1:=kr (x:=x) J;have a4:(B.map fun b=>Value.int .u8 b.toNat).length=B.length:=aQ ..;have b6:(J.map fun b=>Value.int .u8 b.toNat).length=n:=by rw[aQ,H]
  have g6:∀w':World,w'.heap=w.heap->(Builtin.firstCells 1 n (a.eval X)).run P w'= .ok (J.map fun b=>Value.int .u8 b.toNat).toArray w':=fun w' f2=>by have:=b0 n (by omega) w' f2;rwa[cg (by omega)]at this
  have h7:∀w':World,w'.heap=w.heap->(Builtin.firstCells 1 B.length (a.eval Y)).run P w'= .ok (B.map fun b=>Value.int .u8 b.toNat).toArray w':=fun w' f2=>by have:=b1 B.length (aI _) w' f2;rwa[bt]at this
  generalize (B.map fun b=>Value.int .u8 b.toNat)=ns at*;generalize (J.map fun b=>Value.int .u8 b.toNat)=os at*;have a9:s.look E=some (.bar S):=(hS.look E).trans hl;obtain⟨cc,e,fl,fh,hO,⟨g7,c7, -⟩,a2⟩:=eC hM a9;simp only[aC.size]at g7 a2;have F:(aC.bar (J++B)).size=n+B.length:=by simp only[aC.size,ah,H]
  have O:=(hS.purge E (E+1)).app (d:=o.dst) hd (e:= {val:= .psl (k+100) 1 0 (n+B.length) none,new:=some (.bar (J++B))}) (f:= {pre:=True,val:= .psl (k+100) 1 0 (n+B.length) none,new:=some (.bar (J++B))}) ⟨rfl,rfl,rfl,rfl,rfl⟩ ⟨fun ob he=>by cases he;rfl,.inl rfl⟩;have f7:=aw.inj hc;subst f7;have a7:=I.ex;rw[d5]at a7 g6;have f0:=I.hn;rw[h5]at f0
  by_cases U:n+B.length<=cp
  ·have b3:n+ns.length<=cc.size:=by
    rcases c4 with h0|h0
    ·omega
    ·omega
   obtain⟨q1,q2,q3,q4,q5⟩:=cT ((x.bk E).1) ns w n;obtain⟨c2,g3,b7,e4⟩:=cK ns w n cc hO b3
   have d7:aM C x (s.setO E (.bar (J++B))) a (bM w ((x.bk E).1) n ns):=
    ⟨hM.tm,hM.defers,hM.heap.block (cP a9) q1 q2 q3 q4 q5 ⟨c2,e,fl,fh,g3,⟨by rw[F,b7];omega,by rw[b7];exact c7,fun h=>by cases h⟩,fun i hi=>by
     rw[F]at hi;rw[e4 i];show cD x.G (.u8 ((J++B).getD i 0)) _
     by_cases b5:n<=i
     ·rw[if_pos ⟨b5,by omega⟩]
      have:=g2.rep (i-n) (by rw[aQ];omega);rw[eH _ _ (by omega:i-n<B.length)]at this;rw[aa,bj (by omega),H,<-aa];exact this
     ·rw[if_neg (fun h=>b5 h.1)]
      have h3:=a2 i (by omega);change cD x.G (.u8 (S.getD i 0)) _ at h3;rw[aa,aY (by omega),b4,bv,if_pos (by omega),<-aa];exact h3⟩⟩
   have c6:=d7.move (d:=k+100) (by omega) (obj:= .bar (J++B)) (by show(setO E _ s.ob).lookup E=_;have h3:s.ob.lookup E=some (.bar S):=a9;rw[ir,if_pos ⟨rfl,by rw[h3];rfl⟩]) (fun cs e=>by cases e)
   have d6:(s.setO E (.bar (J++B))).purge E (E+1)=s.purge E (E+1):=by simp only[St.purge,St.setO,jU]
   rw[d6]at c6;have d3:(x.newO (k+100) (x.bk E).1 (x.bk E).2).bk (k+100)=x.bk E:=if_pos rfl
   have hv:Rep (x.newO (k+100) (x.bk E).1 (x.bk E).2) (.psl (k+100) 1 0 (n+B.length) none) (.slice (some ⟨(x.bk E).1,L,none⟩) (n+B.length) cp):=by have:=Rep.psl (x:=x.newO (k+100) (x.bk E).1 (x.bk E).2) (k+100) 1 0 (n+B.length) none L cp a6 U (fun _ e=>by cases e) (fun _=>by rw[d3];exact c4);rw[d3]at this;exact this
   have f4:=c6.put o.dst hv
   have Z:=fQ (P:=P) (t:=t) (u:=u) (ty:=o.type) (Y:=a.eval Y) (bs:=some ⟨(x.bk E).1,L,none⟩) (len:=n) (m:=B.length) (cap:=cp) (w1:=bM w ((x.bk E).1) n ns) I.hd I.hu b8 f0 (a1 w rfl) (h7 w rfl) U (by
    simp only[cU]
    by_cases f6:cp=0
    ·have:ns=[]:=bP.1 (by omega)
     rw[this];simp[storeCells,bM]
    ·rw[a6.resolve_left f6,pB,bC,iF]
     exact eF n ns w cc 0 hO (by omega) g2.one)
   refine cR ⟨_,_,_,.value _, ?_,.inl rfl,f4⟩ (k:=Sim N _) ?_ hK
   ·rw[a7];simp only[aB,Z,am,aF]
   ·rw[hk]at O ⊢
    exact O
  ·obtain⟨i,hi,f3⟩:=rh I.hby
   obtain⟨zv,e9,e0⟩:=cC I.hz;obtain⟨nc,c3,Z⟩:=ip (P:=P) (t:=t) (u:=u) (ty:=o.type) (Y:=a.eval Y) (bs:=some ⟨(x.bk E).1,L,none⟩) (len:=n) (m:=B.length) (cap:=cp) (os:=os) (ns:=ns) I.hd I.hu b8 f0 hi f3 I.hb0 e0 a1 h7 g6 U b2;have e8:zv.cells.size=1:=by rw[<-aP,e9,<-h5];exact I.hzl.symm
   have a5:(os.toArray++ns.toArray++Builtin.zeroCells zv.cells (nc-(n+B.length))).size=nc:=by simp only[m9,gq,dz,e8,b6,a4];omega
   have d9:=(hM.purge E (E+1)).drew.newObjF (d:=k+100) o.dst (by omega) (.bar (J++B)) (cv:=os.toArray++ns.toArray++Builtin.zeroCells zv.cells (nc-(n+B.length))) (t:=el) (fl:=0) (fh:=0) (val:= .psl (k+100) 1 0 (n+B.length) none) (u:= .slice (some ⟨w.heap.size,0,none⟩) (n+B.length) nc) (fun i hi h=>by omega) (by
    rw[F,a5];exact c3) (fun i hi=>by
    rw[F]at hi;show cD x.G (.u8 ((J++B).getD i 0)) _;rw[aW,ix os ns _ i (by rw[b6,a4];omega)]
    by_cases b5:i<n
    ·rw[aY (by omega),<-aa]
     have:=i1.rep i (by rw[aQ];omega);rw[eH _ _ (by omega:i<J.length)]at this;rw[aa (l:=J++B),aY (by omega),<-aa];exact this
    ·rw[bj (by omega),b6,<-aa]
     have:=g2.rep (i-n) (by rw[aQ];omega);rw[eH _ _ (by omega:i-n<B.length)]at this;rw[aa (l:=J++B),bj (by omega),H,<-aa];exact this) (fun h _=>by cases h) (by
    have:=Rep.psl (x:=x.newO (k+100) w.drew.heap.size (os.toArray++ns.toArray++Builtin.zeroCells zv.cells (nc-(n+B.length))).size) (k+100) 1 0 (n+B.length) none 0 nc (.inr (by omega)) c3 (fun _ e=>by cases e) (fun _=> .inr (by rw[hJ,a5];omega));rw[i6]at this;exact this) (w':=w.drew.alloc (.cells (os.toArray++ns.toArray++Builtin.zeroCells zv.cells (nc-(n+B.length))) el (0,0))) rfl rfl rfl rfl
   refine cR ⟨_,_,_,.value _, ?_,.inl rfl,d9⟩ (k:=Sim N _) ?_ hK
   ·rw[a7];simp only[aB,Z,am,aF]
   ·rw[hk]at O ⊢
    exact O
theorem ot{o:Oper}{z:t7}{b5:Nat}{r q:Arg}(h:M C N c a w)(J:br P o=some (.app z b5 r q))(hd:∀k,o.dst=some k->k<N)(E:qz c o.dst z b5 q (c.ev r)=some c'){K:LBa}{Q:LAf}(hK:∀a w,M C N c' a w->K a w):o.wp P a w K Q:=by
 by_cases a9:∃o' W n,c.ev r= .psl o' W 0 n none
 ·obtain⟨o',W,n,hx⟩:=a9
  rw[hx]at E;exact v8 h J hd hx E hK
 obtain⟨x,s,hM,hS⟩:=h;obtain⟨cl,ho,hb⟩:=xdn J;simp only[br,ho,hb]at J;split at J<;>try (cases J;done)
 rename_i X Y t u hX ht;split at J<;>try (cases J;done)
 rename_i el d2 r' q' a6 hu d6 e0;split at J<;>try (cases J;done)
 rename_i n d5 z' hn hby hz
 rw[aG]at J;obtain⟨a2,J⟩:=J;simp only[aA,decide_eq_true_eq]at a2;obtain⟨⟨hb0,hn0⟩,c3⟩:=a2;obtain⟨zs,d3,e2,_⟩:=jg hz;have hzl:zs.length=n:=by omega
 obtain⟨a7,rfl,rfl,rfl,rfl⟩:((∃e',d2= .slice e')\/d2= .string)/\z'=z/\d5=b5/\r'=r/\q'=q:=by
  split at J<;>try (cases J;done)
  ·cases J;exact⟨.inl ⟨_,rfl⟩,rfl,rfl,rfl,rfl⟩
  ·rw[aG]at J
   obtain⟨_,J⟩:=J;cases J;exact⟨.inr rfl,rfl,rfl,rfl,rfl⟩
 have S:=aK hM d6;have h2:=aK hM e0;have ea:cl.args= #[X,Y]:=by apply dL;simpa using hX
 have et:cl.argTypes= #[t,u]:=by apply dL;simpa using ht
 have b2:=fz (a:=a) ho hb _ rfl;rw[ea,et]at b2;have em: #[X,Y].map a.eval= #[a.eval X,a.eval Y]:=by simp
 rw[em]at b2
 have L:∀{v w'},(Builtin.append_ #[t,u] o.type #[a.eval X,a.eval Y]).run P w= .ok v w'->(execOp a.eval o).run P w= .ok (.value v) w':=by intro v w' B;rw[b2];simp[B]
 rw[hS.ev]at S
 have fin:∀{k nc cv}(obj:aC)(W m:Nat),o.dst=some k->m<=nc->(Builtin.append_ #[t,u] o.type #[a.eval X,a.eval Y]).run P w= .ok (.slice (some ⟨w.heap.size,0,none⟩) m nc) (w.drew.alloc (.cells cv el (0,0)))->
  obj.size<=cv.size->nc*W<=cv.size->(∀i,i<obj.size->bW x obj i (cv.getD i undef))->obj.wf=true->c'=c.app (some k) {val:= .psl (k+100) W 0 m none,new:=some obj}->o.wp P a w K Q:=by
  intro k nc cv obj W m hk a1 B a0 e1 F d8 d9;subst d9
  have d7:=hM.drew.newObjF (d:=k+100) o.dst (by omega) obj (cv:=cv) (t:=el) (fl:=0) (fh:=0) (val:= .psl (k+100) W 0 m none) (u:= .slice (some ⟨w.heap.size,0,none⟩) m nc) (fun i hi h=>by omega) a0 F (fun _ h=>by omega) (by have:=Rep.psl (x:=x.newO (k+100) w.drew.heap.size cv.size) (k+100) W 0 m none 0 nc (.inr (by omega)) a1 (fun _ e=>by cases e) (fun _=> .inr (by rw[hJ];omega));rw[i6]at this;exact this) (w':=w.drew.alloc (.cells cv el (0,0))) rfl rfl rfl rfl
  refine cR ⟨_,_,_,_,L B,.inl rfl,d7⟩ (k:=Sim N _) ?_ hK;have:=hS.app hd (e:= {val:= .psl (k+100) W 0 m none,new:=some obj}) (f:= {pre:=True,val:= .psl (k+100) W 0 m none,new:=some obj}) ⟨rfl,rfl,rfl,rfl,rfl⟩ ⟨fun ob he=>by cases he;exact d8,.inl rfl⟩;rw[hk]at this ⊢;exact this
 unfold qz at E;split at E<;>try (cases E;done)
 ·rename_i l tk hl
  rw[aG]at E;obtain⟨rfl,E⟩:=E;unfold Pe at E;split at E<;>try (cases E;done)
  rename_i k Z hk b3;split at E<;>try (cases E;done)
  rename_i c7;have c7:z'.length=1:=Classical.not_not.1 c7;obtain rfl:n=1:=by omega
  obtain⟨p,O,b7⟩:=iU hS b3;rw[<-hS.ev]at O;rw[hl]at S;obtain⟨g1,g2⟩:=fc (P:=P) hM h2 O b7;obtain⟨_,_,_,_,_,a4⟩:=S.byt_inv;obtain⟨cap,hF,_⟩:=uJ (S.data rfl)
  by_cases I:Z=[]
  ·rw[if_pos I]at E
   cases E;subst I
   obtain⟨bs,b8⟩:∃bs,a.eval X= .slice bs l.length cap:=by
    rcases hF.2.2 with⟨b,off,h,_⟩|⟨h,S,h2⟩
    ·exact⟨_,h⟩
    ·exact⟨_,by rw[h.choose_spec,S,h2]⟩
   have a3:=kv hF a4;rw[b8]at S L
   have B:=fQ (P:=P) (t:=t) (u:=u) (ty:=o.type) (Y:=a.eval Y) (ns:=[]) (w:=w) (w1:=w) (m:=0) (bs:=bs) (len:=l.length) (cap:=cap) a6 hu a7 hn (g1 w rfl) (by have:=g2 0 (aI _) w rfl;simpa using this) (by omega) (by cases bs<;>rfl)
   refine cR ⟨_,_,_,_,L B,.inl rfl,hM.put o.dst S⟩ (k:=Sim N _) ?_ hK;have:=hS.put hd (.byt l .clip);rw[hk]at this ⊢;exact this
  ·rw[if_neg I]at E
   rw[aG]at E;obtain⟨⟨rfl,a5⟩,E⟩:=E;have a3:=kv hF a4;have c6:0<Z.length:=ig.2 I
   obtain⟨nc,cv,a1,B,a0,F⟩:=ri (ty:=o.type) hM a6 hu a7 hn hby d3 hb0 hzl hF g1 (fun w' b6=>by have:=g2 Z.length (aI _) w' b6;rwa[bt]at this) (by simp) (kr Z) (by omega) (by omega)
   refine fin (.bar (l++Z)) 1 _ hk a1 B (by simp only[aC.size];simpa using a0.1) a0.2 (fun i hi=> ?_) rfl (aw.inj E).symm;simp only[aC.size]at hi;have:=F i (by simpa using hi);rw[<-dh,eH _ _ hi]at this;exact this
 ·rename_i W l tk hl
  rw[aG]at E;obtain⟨rfl,E⟩:=E;unfold Pd at E;split at E<;>try (cases E;done)
  rename_i k Z hk b3;obtain⟨p,O,b7⟩:=j8 hS b3;rw[<-hS.ev]at O;rw[hl]at S;obtain⟨U,g1,ns,a8,g2⟩:=gM (P:=P) hM h2 O b7;obtain⟨_,_,_,_,_,a4⟩:=S.lst_inv;obtain⟨cap,hF,_,b4⟩:=po (S.data rfl)
  by_cases I:Z=[]
  ·rw[if_pos I]at E
   cases E;subst I
   obtain⟨bs,b8⟩:∃bs,a.eval X= .slice bs l.length cap:=by
    rcases hF.2.2 with⟨b,off,h,_⟩|⟨h,S,h2⟩
    ·exact⟨_,h⟩
    ·exact⟨_,by rw[h.choose_spec,S,h2]⟩
   have a3:=kv hF a4;rw[b8]at S L
   have B:=fQ (P:=P) (t:=t) (u:=u) (ty:=o.type) (Y:=a.eval Y) (ns:=[]) (w:=w) (w1:=w) (m:=0) (bs:=bs) (len:=l.length) (cap:=cap) a6 hu a7 hn (g1 w rfl) (by have:=g2 0 (aI _) w rfl;rw[c3]at this;simpa using this) (by omega) (by cases bs<;>rfl)
   refine cR ⟨_,_,_,_,L B,.inl rfl,hM.put o.dst S⟩ (k:=Sim N _) ?_ hK;have:=hS.put hd (.lst W l .clip);rw[hk]at this ⊢;exact this
  ·rw[if_neg I]at E
   rw[aG]at E;obtain⟨⟨rfl,a5⟩,E⟩:=E;obtain rfl:n=z'.length:=by omega
   have a3:=kv hF a4;have c6:0<Z.length:=ig.2 I;have c4:ns.length=Z.length*z'.length:=by rw[<-a8.len,bG U]
   obtain⟨nc,cv,a1,B,a0,F⟩:=ri (ty:=o.type) hM a6 hu a7 hn hby d3 hb0 hzl hF g1 (fun w' b6=>by have:=g2 Z.length (aI _) w' b6;rwa[<-c4,bt]at this) c4 a8 a5 (by omega)
   have H:∀y∈l++Z,y.length=z'.length:=fun y hy=>(ak.1 hy).elim (b4 y) (U y)
   have d4:(l++Z).length*z'.length=(l.flatten++Z.flatten).length:=by rw[<-bY,bG H]
   refine fin (.arr z'.length (l++Z)) z'.length _ hk a1 B (by simp only[aC.size];omega) a0.2 (fun i hi=> ?_) (fO.2 H) (aw.inj E).symm;simp only[aC.size]at hi;have:=F i (by omega);rw[<-bY,cE _ H i hi]at this;exact this
 ·rename_i o' W n hl
  exact absurd ⟨o',W,n,hl⟩ a9
theorem qA(H:fU P call){o:Oper}{so:SOp}(h:M C N c a w)(B:qj P o so.er)(hd:∀k,o.dst=some k->k<N)(E:opC call sg c o.dst so=some c'){K:LBa}{Q:LAf}(U:∀a w,M C N c' a w->K a w):o.wp P a w K Q:=by
 by_cases O:∃z b q y,so= .appO z b q y
 ·obtain⟨z,b,q,y,rfl⟩:=O
  exact ot h (B.old (by intro I e;cases e)) hd E U
 have a1:so.er=so:=by cases so<;>first|rfl|exact absurd ⟨_,_,_,_,rfl⟩ O
 rw[a1]at B
 by_cases L:∃I,so= .newB I
 ·obtain⟨I,rfl⟩:=L
  rcases B with J|⟨ys,e,J⟩
  ·exact(Fh J).elim
  ·cases e
   exact ow h J hd E U
 have J:=B.old fun I e=>L ⟨I,e⟩
 by_cases S:∃q,so= .slid q
 ·obtain⟨q,rfl⟩:=S
  exact vz h J hd E U
 by_cases W:∃f a_,so= .call f a_
 ·obtain⟨f,a_,rfl⟩:=W
  simp only[opC]at E;split at E<;>try (cases E;done)
  rename_i g c1 c2 hg;obtain⟨x,s,hM,hS⟩:=h;obtain⟨cl,F,ho,hb,h1,h2,h3⟩:=Gs J;obtain⟨a5,a4,k',q',a3⟩:=wF E;have a2:ec P g=true:=(H _ _ _ _ _ a3).1;obtain⟨vs,Z,a0⟩:=DB hM ho hb h1 h2 h3 (by rw[hS.ev];exact hg) a2;rw[<-hS.evL]at a0;exact tF Z (tW hM hS hd (H g) E a0) U
 ·refine xel h J hd ?_ U
  cases so with
  |call f a_=>exact absurd ⟨f,a_,rfl⟩ W
  |newB I=>exact absurd ⟨I,rfl⟩ L
  |slid q=>exact absurd ⟨q,rfl⟩ S
  |appO z b q y=>exact absurd ⟨_,_,_,_,rfl⟩ O
  |_=>exact E
theorem wa{o:Oper}{B:Nat}{S:List Arg}(h:M C N c a w)(E:br P o=some (.lit B S))(hd:∀k,o.dst=some k->k<N)(I:Pc c B o.dst (rows B (evL c S))=some c'){K:LBa}{Q:LAf}(Z:∀a w,M C N c' a w->K a w):o.wp P a w K Q:=by
 obtain⟨x,s,W,U⟩:=h;rw[U.evL]at I;unfold Pc at I;split at I<;>try (cases I;done)
 rename_i k l hk hl;cases I
 obtain⟨t,len,z,O⟩:∃t len z,o.op= .buildSlice t len z:=by
  cases O:o.op with
  |buildSlice t len z=>exact⟨t,len,z,rfl⟩
  |_=>exfalso;exact absurd E (by
   intro E;simp only[br,O]at E
   first
    |(cases E;done)
    |(obtain⟨_,_,h⟩:=ai.1 E;cases h;done)
    |(repeat' split at E)<;>first|(cases E;done)|contradiction|(obtain⟨_,_,h⟩:=ai.1 E;first|(cases h;done)|(split at h<;>cases h;done)))
 obtain⟨r,e,J,a0,F,H⟩:=vJ W O E hl
 have L:=W.newObj (d:=k+100) o.dst (by omega) (.arr B l) (val:= .psl (k+100) B 0 l.length (some l.length)) (u:= .slice (some ⟨w.heap.size,0,none⟩) l.length l.length) (t:=e) (by simp only[aC.size];omega) (fun i hi=>H i hi) (by have:=Rep.psl (x:=x.newO (k+100) w.heap.size) (k+100) B 0 l.length (some l.length) 0 l.length (.inr (by omega)) (aI _) (fun _ e=>by cases e;rfl) (fun e=>by cases e);rwa[i6]at this)
 refine cR ⟨_,_,_,_,J,.inl rfl,L⟩ (k:=Sim N _) ?_ Z;have:=U.app hd (e:= {val:= .psl (k+100) B 0 l.length (some l.length),new:=some (.arr B l)}) (f:= {pre:=True,val:= .psl (k+100) B 0 l.length (some l.length),new:=some (.arr B l)}) ⟨rfl,rfl,rfl,rfl,rfl⟩ ⟨fun ob he=>by cases he;exact fO.2 F,.inl rfl⟩;rw[hk]at this ⊢;exact this
theorem v6{ops:Array Oper}{n:Nat}{o:Oper}{i:SI}(h:M C N c a w)(hi:i.ok N=true)(W:ops[n]? =some o)(O:fR P ops o=some i)(E:rV c i=some c'){K:LBa}{Q:LAf}
 (H:∀a w,M C N c' a w->K a w):wpOp P ops Q n K a w:=by
 obtain⟨I,U,h3⟩:=kq O
 have hd:∀k,i.dst=some k->k<N:=by intro k S;unfold SI.ok at hi;rw[S]at hi;simpa using hi
 unfold wpOp;rw[W];simp only;unfold rV at E;split at E<;>try (cases E;done)
 rename_i Z;rcases h3 with⟨_,J⟩|⟨j,b,g,hg',_⟩
 ·rw[jR J,if_pos rfl]
  rw[U]at E hd;left;unfold xh5 at E;split at E<;>try (cases E;done)
  ·rename_i sz F B
   exact wa h (I.old (fun F e=>by rw[e]at B;cases B)|>fun e=>by rw[B]at e;exact e) hd E H
  ·rename_i F B
   exact ow h (I.old (fun F e=>by rw[e]at B;cases B)|>fun e=>by rw[B]at e;exact e) hd E H
  ·rename_i q B
   exact wb h (I.old (fun F e=>by rw[e]at B;cases B)|>fun e=>by rw[B]at e;exact e) hd E H
  ·rename_i z L q y B
   exact ot h (I.old (fun F e=>by rw[e]at B;cases B)|>fun e=>by rw[B]at e;exact e) hd E H
 ·rw[Z]at hg';cases hg'
theorem vn{ops:Array Oper}{n:Nat}{o:Oper}{i:SI}(h:M C N c a w)(hi:i.ok N=true)(L:ops[n]? =some o)(H:fR P ops o=some i)(z:y9 c i=some c'){K:LBa}{Q:LAf}
 (F:∀a w,M C N c' a w->K a w):wpOp P ops Q n K a w:=by
 obtain⟨O,J,U⟩:=kq H
 have hd:∀k,i.dst=some k->k<N:=by intro k I;unfold SI.ok at hi;rw[I]at hi;simpa using hi
 unfold wpOp;rw[L];simp only;unfold y9 at z;split at z<;>try (cases z;done)
 rename_i S;rcases U with⟨_,E⟩|⟨j,b,g,hg',_⟩
 ·rw[jR E,if_pos rfl]
  rw[J]at z hd;left;unfold xhc at z;split at z<;>try (cases z;done)
  ·rename_i q B
   exact vo h (O.old (fun W e=>by rw[e]at B;cases B)|>fun e=>by rw[B]at e;exact e) hd z F
 ·rw[S]at hg';cases hg'
theorem gk(E:fU P call){ops:Array Oper}{n:Nat}{o:Oper}{i:SI}(h:M C N c a w)(hi:i.ok N=true)(ho:ops[n]? =some o)(hr:fR P ops o=some i.er)(z:dB call sg c i=some c'){K:LBa}{Q:LAf}
 (I:∀a w,M C N c' a w->K a w):wpOp P ops Q n K a w:=by
 obtain⟨O,F,W⟩:=kq hr;change qj P o i.op.er at O;change i.dst=o.dst at F;change (i.g=none/\o.guard=none\/∃j b g,i.g=some (g,b)/\o.guard=some (j,b)/\(ops[j]?).bind (·.dst)=some g)at W
 have hd:∀k,i.dst=some k->k<N:=by intro k Z;unfold SI.ok at hi;rw[Z]at hi;simpa using hi
 unfold wpOp;rw[ho];simp only;unfold dB at z;rcases W with⟨U,B⟩|⟨j,b,g,U,B,hdg⟩
 ·rw[U]at z
  rw[jR B,if_pos rfl];rw[F]at z hd;exact .inl (qA E h O hd z I)
 ·rw[U]at z
  simp only at z;split at z<;>try (cases z;done)
  rotate_left
  ·rename_i S
   cases z;obtain⟨x,s,L,J⟩:=h;rw[tH B hdg (Ga L J S),if_neg (by simp)];rw[F]at hd;rw[F]at I;exact I _ _ ⟨x,_,L.put o.dst ui,J.put hd _⟩
  rename_i t S;have hv:a.tmps[g]? =some (.bool t):=by obtain⟨x,s,L,J⟩:=h;exact F8 L J S
  rw[tG B hdg hv];split at z
  ·rename_i H
   subst H;rw[if_pos (by simp)];rw[F]at z hd;exact .inl (qA E h O hd z I)
  ·rename_i H
   cases z;rw[if_neg (by simpa using H)];obtain⟨x,s,L,J⟩:=h;rw[F]at hd;rw[F]at I;exact I _ _ ⟨x,_,L.put o.dst ui,J.put hd _⟩
theorem je(z:fU P call){ops:Array Oper}{n:Nat}{o:Oper}{i:SI}(h:M C N c a w)(hi:i.ok N=true)(H:ops[n]? =some o)(B:fR P ops o=some i)(F:dB call sg c i=some c'){K:LBa}{Q:LAf}
 (E:∀a w,M C N c' a w->K a w):wpOp P ops Q n K a w:=gk z h hi H (by rw[xf6 B];exact B) F E
theorem gC{d:LAa}{g:Nat}{t:Bool}{v:SV}(hd:d≠some g)(h:c.get g= .bool t):(c.put d v).get g= .bool t:=by
 cases d with
 |none=>exact h
 |some k=>rw[gG,if_neg (fun e=>hd (by rw[e]))];exact h
theorem Di{d:LAa}{g:Nat}{u v:SV}(hd:d≠some g)(h:c.get g=u):(c.put d v).get g=u:=by
 cases d with
 |none=>exact h
 |some k=>rw[gG,if_neg (fun e=>hd (by rw[e]))];exact h
theorem hU{g lo hi:Nat}{t:Bool}{l:List (Nat×SV)}(h:eB l g= .bool t):eB (da lo hi l) g= .bool t:=by rw[fT,h];rfl
theorem i9{d:LAa}{g:Nat}{t:Bool}{e:nK}(hd:d≠some g)(h:c.get g= .bool t):(c.app d e).get g= .bool t:=by
 have wr:∀(l:List (Nat×aC))(c:CSt),(c.wr l).tm=c.tm:=by
  intro l;induction l with
  |nil=>intro c;rfl
  |cons p r z=>intro c;simp only[CSt.wr];rw[z]
 unfold CSt.app;split
 ·exact gC (c:=⟨_,_,_⟩) hd (hU h)
 ·exact gC (c:=⟨_,_,_⟩) hd (hU h)
 ·refine gC hd ?_
  show eB (c.wr e.wr).tm g=_;rw[wr];exact h
theorem oz{d:LAa}{g:Nat}{t:Bool}{m mt:t8}{q:dY}(hd:d≠some g)(h:c.get g= .bool t):(jH c d m mt q).get g= .bool t:=gC (c:=⟨_,_,_⟩) hd (hU h)
theorem lu{g o:Nat}{t:Bool}{vs:t7}(h:c.get g= .bool t):(c.publish o vs).1.get g= .bool t:=by
 have k:∀obj,eB (ln o obj c.tm) g= .bool t:=fun obj=>by rw[kg];have:eB c.tm g= .bool t:=h;rw[this];rfl
 unfold CSt.publish;split
 ·exact k _
 ·exact k _
 ·exact h
theorem mU{g:Nat}{t:Bool}:∀{l:t8}{c:CSt}{vs:t7},c.get g= .bool t->(eL c vs l).1.get g= .bool t
 |[],_,_,h=>h
 |o::r,c,vs,h=>by show(eL (c.publish o vs).1 (c.publish o vs).2 r).1.get g=_;exact mU (lu h)
theorem Dk{sg:Sig}{d:LAa}{g n:Nat}{a_:t7}{t:Bool}(B:ib call sg c d n a_=some c')(hd:d≠some g)(h:c.get g= .bool t):c'.get g= .bool t:=by
 unfold ib at B;generalize ((SV.idsL a_).isEmpty&&sg.own.isEmpty)=b at B;cases b with
 |true=>
  simp only[jG]at B;cases hq:call n (SV.bareL a_) [] 0 with
  |none=>rw[hq]at B;cases B
  |some q=>
   rw[hq]at B;simp only[lY]at B;cases hb:q.bare with
   |true=>rw[hb]at B;cases B;exact gC hd h
   |false=>
    rw[hb]at B;simp only[nq]at B;cases hs:q.small with
    |true=>rw[hs]at B;cases B;exact oz hd h
    |false=>rw[hs]at B;cases B
 |false=>
  simp only[jG]at B;have L:=mU (l:=iP sg.raw 0 a_) (vs:=a_) h;generalize eL c a_ (iP sg.raw 0 a_)=z at B L;obtain⟨c1,I⟩:=z;simp only[jC]at B;generalize jN c1.tk sg.own 50 0 I=z at B;obtain⟨E,F⟩:=z;simp only[ng]at B;generalize dC c1 60 [] (SV.idsL E)=m at B;cases ho:gv c1 m with
  |none=>rw[ho]at B;cases B
  |some J=>
   rw[ho]at B;simp only[kY]at B;generalize dV c1.tk (50+F.length) J=z at B;obtain⟨os,H⟩:=z;simp only[nf]at B;generalize (nR (SV.idsL E++fy os) m&&dt m&&dt (cn (F++H))&&decide (m.length<=40)&&m.all fun o=> !inR (d.getD 0) o)=b at B;cases b with
   |false=>cases B
   |true=>
    simp only[nb]at B;cases hq:call n (SV.renL (gD m) id E) (ee (gD m) id os) (F.length+H.length)with
    |none=>rw[hq]at B;cases B
    |some q=>
     rw[hq]at B;simp only[nW]at B;cases hs:q.small with
     |true=>rw[hs]at B;cases B;exact oz hd L
     |false=>rw[hs]at B;cases B
theorem Dj{d:LAa}{g:Nat}{z:t7}{b:Nat}{y:Arg}{v:SV}{t:Bool}(B:qz c d z b y v=some c')(hd:d≠some g)(h:c.get g= .bool t):c'.get g= .bool t:=by
 unfold qz at B;split at B<;>try (cases B;done)
 ·split at B<;>try (cases B;done)
  unfold Pe at B;split at B<;>try (cases B;done)
  split at B<;>try (cases B;done)
  split at B
  ·cases B;exact gC hd h
  ·split at B<;>try (cases B;done)
   cases B;exact i9 hd h
 ·split at B<;>try (cases B;done)
  unfold Pd at B;split at B<;>try (cases B;done)
  split at B
  ·cases B;exact gC hd h
  ·split at B<;>try (cases B;done)
   cases B;exact i9 hd h
 ·unfold ME at B
  split at B<;>try (cases B;done)
  ·split at B<;>try (cases B;done)
   cases B;exact i9 hd (hU h)
  ·split at B<;>try (cases B;done)
   cases B;exact i9 hd (hU h)
theorem Pz{d:LAa}{g:Nat}{o:SOp}{t:Bool}(B:opC call sg c d o=some c')(hd:d≠some g)(h:c.get g= .bool t):c'.get g= .bool t:=by
 have e:mW c d (dM c d o)=some c'->c'.get g= .bool t:=by
  intro B;cases he:dM c d o with
  |none=>rw[he]at B;cases B
  |some e=>rw[he]at B;cases B;exact i9 hd h
 cases o with
 |call f a_=>
  simp only[opC]at B;split at B<;>try (cases B;done)
  exact Dk B hd h
 |appO z b q y=>exact Dj B hd h
 |newB E=>
  simp only[opC]at B;unfold nm at B;split at B<;>try (cases B;done)
  cases B;exact i9 hd h
 |slid q=>
  simp only[opC]at B;unfold p7 at B;split at B<;>try (cases B;done)
  unfold nX at B;split at B<;>try (cases B;done)
  split at B<;>try (cases B;done)
  cases B;exact gC hd (lu h)
 |_=>exact e B
theorem uu{g:Nat}{b:Bool}{i:SI}(h:i.okG N g b=true):(∀k,i.dst=some k->k<N)/\i.g=some (g,b)/\i.dst≠some g:=by
 simp only[SI.okG,aA,decide_eq_true_eq]at h;obtain⟨⟨B,z⟩,H⟩:=h;refine⟨fun k F=> ?_, ?_,H⟩
 ·unfold SI.ok at B;rw[F]at B;simpa using B
 ·split at z
  ·rename_i J I E
   simp only[aA,decide_eq_true_eq,beq_iff_eq]at z;rw[E,z.1,z.2]
  ·cases z
theorem C9(L:fU P call){ops:Array Oper}{z E:LAd}(hl:jr (fR P ops) ops.toList=some z){Q:LAf}{g:Nat}{b:Bool}{c1:CSt}
 (fin:∀(m n:Nat),n+m=ops.size->E=z.drop n->∀a w,M C N c1 a w->wpOps P ops Q (List.range' n m) a w):
 ∀(l:LAd)(m n:Nat)(c:CSt)(a:Act)(w:World),n+m=ops.size->l++E=z.drop n->(∀i∈l,i.okG N g b=true)->M C N c a w->c.get g= .bool b->plC call sg l c=some c1->wpOps P ops Q (List.range' n m) a w:=by
 obtain⟨I,S⟩:=eN hl;intro l;induction l with
 |nil=>intro m n c a w hn H _ hM _ B;rw[MC]at B;cases B;exact fin m n hn H a w hM
 |cons i l a2=>
  intro m n c a w hn H O hM ht B;obtain⟨g1,g2,g3⟩:=uu (O i (ax ..));simp only[bU]at H
  have F:n<z.length:=by
   rcases bH n z.length with h|h
   ·exact h
   ·rw[bO h]at H;cases H
  rw[aU F]at H;obtain⟨Z,a1⟩:=io.inj H;have J:n<ops.toList.length:=by omega
  obtain⟨W,rfl⟩:∃W,m=W+1:=⟨m-1,by rw[I,aP]at F;omega⟩;simp only[List.range'_succ];rw[wpOps_cons];rw[plC]at B;cases h1:opC call sg c i.dst i.op with
  |none=>rw[h1,BS]at B;cases B
  |some c2=>
   rw[h1,BR]at B;have a3:dB call sg c i=some c2:=by unfold dB;rw[g2];simp only[ht,if_true];exact h1
   have a0:i.ok N=true:=by
    unfold SI.ok;cases hdd:i.dst with
    |none=>rfl
    |some k=>simpa using g1 k hdd
   refine je L hM a0 (o:=ops.toList[n]) (by rw[<-cY,af J]) (by rw[Z];exact S n J F) a3 ?_;intro a' w' U;exact a2 W (n+1) c2 a' w' (by omega) a1 (fun j hj=>O j (aq _ hj)) U (Pz h1 g3 ht) B
theorem ql(J:fU P call){ops:Array Oper}{z B:LAd}(hl:jr (fR P ops) ops.toList=some z){Q:LAf}{g:Nat}{b:Bool}{v:SV}(a0:v= .tup []\/∃t,v= .bool t/\t≠b){c1:CSt}
 (fin:∀(m n:Nat),n+m=ops.size->B=z.drop n->∀a w,M C N c1 a w->wpOps P ops Q (List.range' n m) a w):
 ∀(l:LAd)(m n:Nat)(c:CSt)(a:Act)(w:World),n+m=ops.size->l++B=z.drop n->(∀i∈l,i.okG N g b=true)->M C N c a w->c.get g=v->unL c l=c1->wpOps P ops Q (List.range' n m) a w:=by
 obtain⟨H,O⟩:=eN hl;intro l;induction l with
 |nil=>intro m n c a w hn F _ hM _ S;cases S;exact fin m n hn F a w hM
 |cons i l a3=>
  intro m n c a w hn F L hM ht S;obtain⟨g1,g2,g3⟩:=uu (L i (ax ..));simp only[bU]at F
  have E:n<z.length:=by
   rcases bH n z.length with h|h
   ·exact h
   ·rw[bO h]at F;cases F
  rw[aU E]at F;obtain⟨Z,a2⟩:=io.inj F;have I:n<ops.toList.length:=by omega
  obtain⟨W,rfl⟩:∃W,m=W+1:=⟨m-1,by rw[H,aP]at E;omega⟩;simp only[List.range'_succ];rw[wpOps_cons]
  have a4:dB call (fun _=> {}) c i=some (c.put i.dst (.tup [])):=by
   unfold dB;rw[g2];simp only[ht];rcases a0 with rfl|⟨t,rfl,htb⟩
   ·rfl
   ·simp only[htb,if_false]
  have a1:i.ok N=true:=by
   unfold SI.ok;cases hdd:i.dst with
   |none=>rfl
   |some k=>simpa using g1 k hdd
  refine je J hM a1 (o:=ops.toList[n]) (by rw[<-cY,af I]) (by rw[Z];exact O n I E) a4 ?_;intro a' w' U;exact a3 W (n+1) _ a' w' (by omega) a2 (fun j hj=>L j (aq _ hj)) U (Di g3 ht) S
theorem we(W:fU P call){ops:Array Oper}{z:LAd}(hl:jr (fR P ops) ops.toList=some z){Q:LAf}:
 ∀(l:List RI)(m n:Nat),n+m=ops.size->erL l=z.drop n->l.all (RI.ok N)=true->∀{c:CSt}{a:Act}{w:World},M C N c a w->fA call sg l c=some c'->(∀a w,M C N c' a w->Q .normal a w)->wpOps P ops Q (List.range' n m) a w:=by
 obtain⟨U,a2⟩:=eN hl;intro l;induction l with
 |nil=>
  intro m n hn E _ c a w hM B hQ;have h1:z.length<=n:=List.drop_eq_nil_iff.1 E.symm;rw[U,aP]at h1;have:m=0:=by omega
  subst this;simp only[List.range'_zero,wpOps];rw[BM]at B;cases B;exact hQ _ _ hM
 |cons q r ih=>
  intro m n hn E a4 c a w hM B hQ;rw[iH,aA]at a4;obtain⟨S,I⟩:=a4;cases q with
  |dir q=>
   rw[BO]at B;cases hd:pY c q with
   |none=>rw[hd,kP]at B;cases B
   |some c1=>rw[hd,kO,o9]at B;exact ih m n hn E I (oI hM hd) B hQ
  |own i F=>
   rw[BL]at B;simp only[erL]at E
   have H:n<z.length:=by
    rcases bH n z.length with h|h
    ·exact h
    ·rw[bO h]at E;cases E
   rw[aU H]at E;obtain⟨a0,a1⟩:=io.inj E;have O:n<ops.toList.length:=by omega
   obtain⟨Z,rfl⟩:∃Z,m=Z+1:=⟨m-1,by rw[U,aP]at H;omega⟩;simp only[List.range'_succ];rw[wpOps_cons];cases hs:rV c i with
   |none=>rw[hs,kP]at B;cases B
   |some c1=>rw[hs,kO]at B;refine v6 hM S (o:=ops.toList[n]) (by rw[<-cY,af O]) (by rw[a0];exact a2 n O H) hs ?_;intro a' w' J;exact ih Z (n+1) (by omega) a1 I (J.kill F) B hQ
  |tks i F=>
   rw[BK]at B;simp only[erL]at E
   have H:n<z.length:=by
    rcases bH n z.length with h|h
    ·exact h
    ·rw[bO h]at E;cases E
   rw[aU H]at E;obtain⟨a0,a1⟩:=io.inj E;have O:n<ops.toList.length:=by omega
   obtain⟨Z,rfl⟩:∃Z,m=Z+1:=⟨m-1,by rw[U,aP]at H;omega⟩;simp only[List.range'_succ];rw[wpOps_cons];cases hs:y9 c i with
   |none=>rw[hs,kP]at B;cases B
   |some c1=>rw[hs,kO]at B;refine vn hM S (o:=ops.toList[n]) (by rw[<-cY,af O]) (by rw[a0];exact a2 n O H) hs ?_;intro a' w' J;exact ih Z (n+1) (by omega) a1 I (J.kill F) B hQ
  |op i F=>
   rw[MF]at B;simp only[erL]at E
   have H:n<z.length:=by
    rcases bH n z.length with h|h
    ·exact h
    ·rw[bO h]at E;cases E
   rw[aU H]at E;obtain⟨a0,a1⟩:=io.inj E;have O:n<ops.toList.length:=by omega
   obtain⟨Z,rfl⟩:∃Z,m=Z+1:=⟨m-1,by rw[U,aP]at H;omega⟩;simp only[List.range'_succ];rw[wpOps_cons];cases hs:dB call sg c i with
   |none=>rw[hs,kP]at B;cases B
   |some c1=>rw[hs,kO]at B;refine je W hM S (o:=ops.toList[n]) (by rw[<-cY,af O]) (by rw[a0];exact a2 n O H) hs ?_;intro a' w' J;exact ih Z (n+1) (by omega) a1 I (J.kill F) B hQ
  |grp g b l F=>
   rw[BN]at B;cases hs:oD call sg b l c (c.get g)with
   |none=>rw[hs,kP]at B;cases B
   |some c1=>
    rw[hs,kO]at B;unfold oD at hs;have a5:=hs;split at hs<;>try (cases hs;done)
    rotate_left
    ·rename_i ht
     have L:∀i∈l,i.okG N g b=true:=by simpa[RI.ok]using S
     have fin:∀(m n:Nat),n+m=ops.size->erL r=z.drop n->∀a w,M C N c1 a w->wpOps P ops Q (List.range' n m) a w:=fun m n hn E a w J=>ih m n hn E I (J.kill F) B hQ
     simp only[erL]at E;cases hs;exact ql W hl (.inl rfl) fin l m n c a w hn E L hM ht rfl
    rename_i t ht;have L:∀i∈l,i.okG N g b=true:=by simpa[RI.ok]using S
    have fin:∀(m n:Nat),n+m=ops.size->erL r=z.drop n->∀a w,M C N c1 a w->wpOps P ops Q (List.range' n m) a w:=fun m n hn E a w J=>ih m n hn E I (J.kill F) B hQ
    simp only[erL]at E;split at hs
    ·rename_i a3
     exact C9 W hl fin l m n c a w hn E L hM (by rw[ht,a3]) hs
    ·rename_i a3
     cases hs;exact ql W hl (.inr ⟨t,rfl,a3⟩) fin l m n c a w hn E L hM ht rfl
end Go.Sy
