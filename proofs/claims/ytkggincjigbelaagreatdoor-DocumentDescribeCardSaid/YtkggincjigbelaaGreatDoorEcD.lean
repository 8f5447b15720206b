/- An engine that steps through Go code with symbolic values: sound by proof. No condition. -/
import Derived.Test.YtkggincjigbelaaGreatDoorEbD
import Derived.LoopN
open Array renaming getD_eq_getD_getElem? -> bg, getElem?_eq_getElem -> fY
open Bool renaming and_eq_true -> aA, not_eq_true' -> dn
open List renaming Nodup -> uN, Pairwise -> gY, Sublist -> mf, all_eq_true -> aU, contains_eq_mem -> ep, drop_take -> Dv, filter_cons -> j9, getD_eq_getElem?_getD -> aa, getElem?_append_left -> bv, getElem?_append_right -> bB, getElem?_drop -> br, getElem?_eq_getElem -> ab, getElem?_eq_none -> dV, getElem?_map -> aO, getElem?_range -> bW, getElem?_set -> fJ, getElem?_take -> bK, getElem_mem -> bi, getElem_of_mem -> bM, length_append -> ac, length_cons -> ai, length_drop -> aQ, length_map -> aN, length_set -> cZ, length_take -> ax, map_append -> cE, map_cons -> aC, mem_append -> al, mem_cons -> an, mem_cons_of_mem -> ao, mem_cons_self -> ay, mem_map -> aR, mem_map_of_mem -> gG, mem_of_mem_drop -> CW, mem_of_mem_take -> b8, mem_singleton -> aY, nodup_cons -> du, pairwise_cons -> bE, pairwise_map -> fI, range -> bD, replicate -> aD
open Nat renaming add_assoc -> eM, add_mul -> bz, add_zero -> fN, le_refl -> aH, le_trans -> oH, lt_or_ge -> bL, min_eq_left -> ge, mod_eq_of_lt -> cx, mul_comm -> cy, mul_le_mul_right -> bt, succ_mul -> df
open Option renaming bind_some -> cJ, getD_some -> aX, map_eq_some_iff -> ae, map_some -> bn, some -> aq
open Prod renaming fst -> cB
set_option linter.unusedVariables false
set_option linter.unusedSimpArgs false
set_option linter.unnecessarySimpa false
set_option linter.unusedSectionVars false
namespace Go.Sy
variable [bd]
variable {call : cN} {sg : Nat -> Sig} {c : CSt} {d : Option Nat} {k : Nat}
theorem xcr{α:Type}{p:Prop}[Decidable p]{v:α}(h:p):gd p v=some v:=if_pos h
def eV(c:CSt)(d:Option Nat):Option SV->Option CSt
 |some v=>some (c.put d v)
 |none=>none
theorem Ce(v:SV):eV c d (some v)=some (c.put d v):=rfl
theorem Cf:eV c d none=none:=rfl
theorem Es(l:List (Nat×SV))(o:List (Nat×aE))(t:List Nat)(v:SV):CSt.put ⟨l,o,t⟩ (some k) v=⟨iO l k v,o,t⟩:=rfl
theorem Et(v:SV):CSt.put c none v=c:=rfl
theorem xcq(l:List (Nat×SV))(o:List (Nat×aE))(t:List Nat)(n:Nat):CSt.get ⟨l,o,t⟩ n=dS l n:=rfl
theorem PA(l:List (Nat×SV))(o:List (Nat×aE))(t:List Nat)(n:Nat):CSt.look ⟨l,o,t⟩ n=gU o n:=rfl
theorem xlZ(n:Nat):c.ev (.t n)=c.get n:=rfl
theorem xl1(v:SV):c.ev (.c v)=v:=rfl
theorem xl0(g:Nat):c.ev (.f g)= .fn g [] []:=rfl
theorem oq:c.kill []=c:=rfl
theorem Cq(l:List (Nat×SV))(o:List (Nat×aE))(t:List Nat)(n:Nat)(r:List Nat):CSt.kill ⟨l,o,t⟩ (n::r)=⟨uF l (n::r),o,t⟩:=rfl
def yQ:Option SV->Option mL
 |some v=>some {val:=v}
 |none=>none
theorem BA(v:SV):yQ (some v)=some {val:=v}:=rfl
theorem BB:yQ none=none:=rfl
theorem oC{so:SOp}{o:Option SV}(h:dD c d so=yQ o):ma c d (dD c d so)=eV c d o:=by rw[h];cases o<;>rfl
theorem Oa(o:Option SV):(match o with|some v=>some {val:=v}|none=>none:Option mL)=yQ o:=by cases o<;>rfl
def Dd:SV->Option SV
 | .ptr o off=>some (.ptr o off)
 | .ap o sz i j=>some (.ap o sz i j)
 | .pp cs=>some (.pp cs)
 | .fn f a b=>some (.fn f a b)
 |_=>none
def XB(ne:Bool):SV->SV->Option SV
 | .bool a,.bool b=>some (.bool (if ne then decide (a≠b)else decide (a=b)))
 |_,_=>none
def Xw(ne:Bool)(ts:List Nat):SV->SV->Option SV
 | .agg cs,.agg ds=>(fU ts cs ds).map fun b=> .bool (if ne then !b else b)
 |_,_=>none
def sj:SV->Option SV
 | .str l=>some (.str l)
 |_=>none
def Di(ne:Bool):SV->Option SV
 | .nili=>some (.bool (!ne))
 |_=>none
def Rz:SV->Option SV
 | .str l=>some (.byt l .no)
 |_=>none
def XC(c:CSt):SV->Option SV
 | .str _=>none
 |v=>(dY c v).map .str
def FT(l:List UInt8):Option Int->Option Int->Option SV
 |some a,some b=>gd (0<=a/\a<=b/\b<=l.length) (.str ((l.take b.toNat).drop a.toNat))
 |_,_=>none
def C0(c:CSt)(lo hi:Option Arg):SV->Option SV
 | .str l=>FT l (jL c lo 0) (jL c hi l.length)
 |_=>none
def C1(c:CSt)(len sz:Nat)(lo hi mx:Option Arg):SV->Option SV
 | .ptr o off=>if off=0 then mE c sz (.psl o sz 0 len (some len)) lo hi mx else none
 |_=>none
def sN(off:Nat):SV->Option SV
 | .ptr o k=>some (.ptr o (k+off))
 | .ap o sz i j=>some (.ap o sz i (j+off))
 | .pp cs=>some (.pp (cs.drop off))
 |_=>none
def Xo(off n:Nat)(ag:Bool):SV->Option SV
 | .agg cs=>gd (off+n<=cs.length) (dj ag n (cs.drop off))
 |_=>none
def nE(sz:Nat):SV->Option Int->Option SV
 | .byt l _,some n=>gd (0<=n/\n<l.length/\sz=1) (.pp [.u8 (l.getD n.toNat 0)])
 | .lst sz' xs _,some n=>gd (0<=n/\n<xs.length/\sz=sz') (.pp (xs.getD n.toNat []))
 | .psl o sz' off k _,some n=>gd (0<=n/\n<k/\sz=sz') (.ap o sz (off+n.toNat) 0)
 |_,_=>none
def ou(len sz o off:Nat)(n:Int):Option aE->Option SV
 |some (.rc _)=>gd (0<=n/\n<len) (.ptr o (off+n.toNat*sz))
 |some _=>gd (off=0/\0<=n/\n<len) (.ap o sz n.toNat 0)
 |none=>none
def lB(c:CSt)(len sz:Nat):SV->Option Int->Option SV
 | .ptr o off,some n=>ou len sz o off n (c.look o)
 | .pp cs,some n=>gd (0<=n/\n<len/\cs.length=len*sz) (.pp (cs.drop (n.toNat*sz)))
 |_,_=>none
def Dm(len sz:Nat)(ag:Bool):SV->Option Int->Option SV
 | .agg cs,some n=>gd (0<=n/\n<len/\cs.length=len*sz) (dj ag sz (cs.drop (n.toNat*sz)))
 |_,_=>none
def Dl:SV->Option Int->Option SV
 | .str l,some n=>gd (0<=n/\n<l.length) (.u8 (l.getD n.toNat 0))
 |_,_=>none
def Xv(i:Nat):SV->Option SV
 | .tup vs=>gd (i<vs.length) (vs.getD i .undef)
 |_=>none
def lenC:Option Nat->Option SV
 |some n=>some (.int .i64 (n:Nat))
 |none=>none
def Xz:SV->Option SV
 | .psl _ _ _ _ (some m)=>some (.int .i64 m)
 | .byt l t=>if t= .clip then some (.int .i64 l.length)else none
 | .lst _ xs t=>if t= .clip then some (.int .i64 xs.length)else none
 |_=>none
def Df:SV->SV->Option SV
 | .int k a,.int k' b=>if k=k' then some (.int k (if b<a then b else a))else none
 |_,_=>none
def Dg:SV->SV->Option SV
 | .int k a,.int k' b=>if k=k' then some (.int k (if a<b then b else a))else none
 |_,_=>none
def sQ:Option (List SV)->Option SV
 |some l=>some (.agg l)
 |none=>none
def Xf(sz:Nat):Option (List (List SV))->Option SV
 |some r=>some (.lst sz r .clip)
 |none=>none
def Dh:Option (List UInt8)->Option SV
 |some r=>some (.byt r .clip)
 |none=>none
theorem xdy(x:Arg):cA c (.mov x)=some (c.ev x):=rfl
theorem yS(z:List SV)(ps:List (Nat×Nat×Arg)):cA c (.build z ps)=sQ (gW z (psC c ps)):=by simp only[cA];cases gW z (psC c ps)<;>rfl
theorem Rr(sz:Nat)(xs:List Arg):cA c (.lit sz xs)=Xf sz (rows sz (evL c xs)):=by simp only[cA];cases rows sz (evL c xs)<;>rfl
theorem FR(xs:List Arg):cA c (.litB xs)=Dh (toB (evL c xs)):=by simp only[cA];cases toB (evL c xs)<;>rfl
theorem ZM(n:Nat)(ag:Bool)(a:Arg):cA c (.load n ag a)=ld c n ag (c.ev a):=rfl
theorem ZI(x:Arg):cA c (.nchk x)=Dd (c.ev x):=rfl
theorem xdD(op:BinOp)(x y:Arg):cA c (.bin op x y)=DD op (c.ev x) (c.ev y):=rfl
theorem xdE(ne:Bool)(x y:Arg):cA c (.beq ne x y)=XB ne (c.ev x) (c.ev y):=rfl
theorem xdB(ne:Bool)(ts:List Nat)(x y:Arg):cA c (.eqS ne ts x y)=Xw ne ts (c.ev x) (c.ev y):=rfl
theorem xjV(op:UnOp)(x:Arg):cA c (.un op x)=uO op (c.ev x):=rfl
theorem Od(q:IntKind)(x:Arg):cA c (.toInt q x)=gr q (c.ev x):=rfl
theorem Oc(x:Arg):cA c (.toStr x)=sj (c.ev x):=rfl
theorem ZO(ne:Bool)(x:Arg):cA c (.isni ne x)=Di ne (c.ev x):=rfl
theorem xdx(x:Arg):cA c (.s2b x)=Rz (c.ev x):=rfl
theorem xdF(x:Arg):cA c (.b2s x)=XC c (c.ev x):=rfl
theorem ZJ(f:Nat)(a b:List Arg):cA c (.mkfn f a b)=some (.fn f (evL c a) (evL c b)):=rfl
theorem FQ(x:Arg)(lo hi:Option Arg):cA c (.slcS x lo hi)=C0 c lo hi (c.ev x):=by simp only[cA];cases c.ev x<;>rfl
theorem ZG(sz:Nat)(x:Arg)(lo hi mx:Option Arg):cA c (.slcL sz x lo hi mx)=mE c sz (c.ev x) lo hi mx:=rfl
theorem ZH(len sz:Nat)(x:Arg)(lo hi mx:Option Arg):cA c (.slcA len sz x lo hi mx)=C1 c len sz lo hi mx (c.ev x):=rfl
theorem Oe(off:Nat)(x:Arg):cA c (.faddr off x)=sN off (c.ev x):=rfl
theorem xdz(off n:Nat)(ag:Bool)(x:Arg):cA c (.fld off n ag x)=Xo off n ag (c.ev x):=rfl
theorem DQ(sz:Nat)(x i:Arg):cA c (.iaddrL sz x i)=nE sz (c.ev x) (c.ev i).num:=rfl
theorem tp(len sz:Nat)(x i:Arg):cA c (.iaddrA len sz x i)=lB c len sz (c.ev x) (c.ev i).num:=by simp only[cA];unfold lB ou;rfl
theorem ZQ(len sz:Nat)(ag:Bool)(x i:Arg):cA c (.idxA len sz ag x i)=Dm len sz ag (c.ev x) (c.ev i).num:=rfl
theorem ZP(x i:Arg):cA c (.idxS x i)=Dl (c.ev x) (c.ev i).num:=rfl
theorem xdA(x:Arg)(i:Nat):cA c (.ext x i)=Xv i (c.ev x):=rfl
theorem Rt(b:Bool)(x:Arg):cA c (.len b x)=lenC (jm b (c.ev x)):=by simp only[cA];cases jm b (c.ev x)<;>rfl
theorem ZN(n:Nat):cA c (.lenC n)=some (.int .i64 n):=rfl
theorem xdC(x:Arg):cA c (.cap x)=Xz (c.ev x):=rfl
theorem ZK(x y:Arg):cA c (.mini x y)=Df (c.ev x) (c.ev y):=rfl
theorem ZL(x y:Arg):cA c (.maxi x y)=Dg (c.ev x) (c.ev y):=rfl
def SOp.pure:SOp->Bool
 | .new _| .box _| .mk _ _ _ _| .mkB _ _| .store _ _ _| .app _ _ _ _| .cpy _ _ _| .pick _ _ _| .call _ _| .isnil _ _| .newB _| .slid _| .appO _ _ _ _| .clr _ _=>false
 |_=>true
theorem qh{so:SOp}(h:so.pure=true):dD c d so=yQ (cA c so):=by
 cases so<;>first|cases h;done|rfl|exact Oa _
theorem bT{so:SOp}(h:so.pure=true):opC call sg c d so=eV c d (cA c so):=by
 have h1:opC call sg c d so=ma c d (dD c d so):=by cases so<;>first|rfl|cases h
 rw[h1];exact oC (qh h)
theorem xfh(x:Arg):opC call sg c d (.mov x)=eV c d (some (c.ev x)):=bT rfl
theorem Pu(z:List SV)(ps:List (Nat×Nat×Arg)):opC call sg c d (.build z ps)=eV c d (sQ (gW z (psC c ps))):=(bT rfl).trans (by rw[yS])
theorem xfj(sz:Nat)(xs:List Arg):opC call sg c d (.lit sz xs)=eV c d (Xf sz (rows sz (evL c xs))):=(bT rfl).trans (by rw[Rr])
theorem xb8(xs:List Arg):opC call sg c d (.litB xs)=eV c d (Dh (toB (evL c xs))):=(bT rfl).trans (by rw[FR])
theorem xb7(n:Nat)(ag:Bool)(a:Arg):opC call sg c d (.load n ag a)=eV c d (ld c n ag (c.ev a)):=bT rfl
theorem xb3(x:Arg):opC call sg c d (.nchk x)=eV c d (Dd (c.ev x)):=bT rfl
theorem xfs(op:BinOp)(x y:Arg):opC call sg c d (.bin op x y)=eV c d (DD op (c.ev x) (c.ev y)):=bT rfl
theorem xft(ne:Bool)(x y:Arg):opC call sg c d (.beq ne x y)=eV c d (XB ne (c.ev x) (c.ev y)):=bT rfl
theorem xfn(ne:Bool)(ts:List Nat)(x y:Arg):opC call sg c d (.eqS ne ts x y)=eV c d (Xw ne ts (c.ev x) (c.ev y)):=bT rfl
theorem xki(op:UnOp)(x:Arg):opC call sg c d (.un op x)=eV c d (uO op (c.ev x)):=bT rfl
theorem Po(q:IntKind)(x:Arg):opC call sg c d (.toInt q x)=eV c d (gr q (c.ev x)):=bT rfl
theorem Pn(x:Arg):opC call sg c d (.toStr x)=eV c d (sj (c.ev x)):=bT rfl
theorem xb2(xs:List Arg):opC call sg c d (.newB xs)=mu c d (toB (evL c xs)):=rfl
theorem xbX(x:Arg):opC call sg c d (.slid x)=pm c d (c.ev x):=rfl
theorem vJ(k:Nat)(l:List UInt8):mu c (some k) (some l)=some (CSt.app c (some k) {val:= .psl (k+100) 1 0 l.length (some l.length),new:=some (.bar l)}):=rfl
theorem BJ(o off n:Nat)(cap:Option Nat):pm c d (.psl o 1 off n cap)=m6 c d o off n cap (c.look o):=rfl
theorem BK(o off n:Nat)(cap:Option Nat)(l:List UInt8):m6 c d o off n cap (some (.bar l))=if off+n<=l.length/\cap=some n then some (((c.publish o []).1).put d (.byt ((l.drop off).take n) .clip))else none:=rfl
theorem xca(ne:Bool)(x:Arg):opC call sg c d (.isni ne x)=eV c d (Di ne (c.ev x)):=bT rfl
theorem xff(x:Arg):opC call sg c d (.s2b x)=eV c d (Rz (c.ev x)):=bT rfl
theorem xfu(x:Arg):opC call sg c d (.b2s x)=eV c d (XC c (c.ev x)):=bT rfl
theorem xb4(f:Nat)(a b:List Arg):opC call sg c d (.mkfn f a b)=eV c d (some (.fn f (evL c a) (evL c b))):=bT rfl
theorem xbY(x:Arg)(lo hi:Option Arg):opC call sg c d (.slcS x lo hi)=eV c d (C0 c lo hi (c.ev x)):=(bT rfl).trans (by rw[FQ])
theorem xbZ(sz:Nat)(x:Arg)(lo hi mx:Option Arg):opC call sg c d (.slcL sz x lo hi mx)=eV c d (mE c sz (c.ev x) lo hi mx):=bT rfl
theorem xb0(len sz:Nat)(x:Arg)(lo hi mx:Option Arg):opC call sg c d (.slcA len sz x lo hi mx)=eV c d (C1 c len sz lo hi mx (c.ev x)):=bT rfl
theorem Ps(off:Nat)(x:Arg):opC call sg c d (.faddr off x)=eV c d (sN off (c.ev x)):=bT rfl
theorem xfl(off n:Nat)(ag:Bool)(x:Arg):opC call sg c d (.fld off n ag x)=eV c d (Xo off n ag (c.ev x)):=bT rfl
theorem EG(sz:Nat)(x i:Arg):opC call sg c d (.iaddrL sz x i)=eV c d (nE sz (c.ev x) (c.ev i).num):=bT rfl
theorem EH(len sz:Nat)(x i:Arg):opC call sg c d (.iaddrA len sz x i)=eV c d (lB c len sz (c.ev x) (c.ev i).num):=(bT rfl).trans (by rw[tp])
theorem xcc(len sz:Nat)(ag:Bool)(x i:Arg):opC call sg c d (.idxA len sz ag x i)=eV c d (Dm len sz ag (c.ev x) (c.ev i).num):=bT rfl
theorem xcb(x i:Arg):opC call sg c d (.idxS x i)=eV c d (Dl (c.ev x) (c.ev i).num):=bT rfl
theorem xfm(x:Arg)(i:Nat):opC call sg c d (.ext x i)=eV c d (Xv i (c.ev x)):=bT rfl
theorem xfk(b:Bool)(x:Arg):opC call sg c d (.len b x)=eV c d (lenC (jm b (c.ev x))):=(bT rfl).trans (by rw[Rt])
theorem xb9(n:Nat):opC call sg c d (.lenC n)=eV c d (some (.int .i64 n)):=bT rfl
theorem xfq(x:Arg):opC call sg c d (.cap x)=eV c d (Xz (c.ev x)):=bT rfl
theorem xb5(x y:Arg):opC call sg c d (.mini x y)=eV c d (Df (c.ev x) (c.ev y)):=bT rfl
theorem xb6(x y:Arg):opC call sg c d (.maxi x y)=eV c d (Dg (c.ev x) (c.ev y)):=bT rfl
def Dc(a b:SV):SV->Option SV
 | .bool t=>some (gI t a b)
 |_=>none
theorem xcJ(q a b:Arg):dD c d (.pick q a b)=yQ (Dc (c.ev a) (c.ev b) (c.ev q)):=by simp only[dD];cases c.ev q<;>rfl
theorem xb1(q a b:Arg):opC call sg c d (.pick q a b)=eV c d (Dc (c.ev a) (c.ev b) (c.ev q)):=oC (xcJ q a b)
def sL(ne:Bool):SV->Option SV
 | .byt l _=>gd (l≠ []) (.bool ne)
 | .lst _ xs _=>gd (xs≠ []) (.bool ne)
 | .psl _ _ _ _ _=>some (.bool ne)
 |_=>none
theorem Qz(ne:Bool)(x:Arg):dD c d (.isnil ne x)=yQ (sL ne (c.ev x)):=by simp only[dD];cases c.ev x<;>first|rfl|(simp only[sL];unfold gd;split<;>rfl)
theorem Pq(ne:Bool)(x:Arg):opC call sg c d (.isnil ne x)=eV c d (sL ne (c.ev x)):=oC (Qz ne x)
def Bo(c:CSt)(k:Nat)(o:aE)(v:SV):CSt:=CSt.app c (some k) {val:=v,new:=some o}
theorem QY(l:List (Nat×SV))(ob:List (Nat×aE))(t:List Nat)(o:aE)(v:SV):
 Bo ⟨l,ob,t⟩ k o v=⟨iO (cV (k+100) (k+101) l) k v,hU (bw (k+100) (k+101) ob) (k+100) (o.purge (k+100) (k+101)),cf (k+100) (k+101) t⟩:=rfl
def ik(c:CSt)(k:Nat)(v:SV):Option aE->Option CSt
 |some o=>some (Bo c k o v)
 |none=>none
theorem CV(v:SV)(o:aE):ik c k v (some o)=some (Bo c k o v):=rfl
theorem xfg(o:aE):opC call sg c (some k) (.new o)=ik c k (.ptr (k+100) 0) (gd (o.wf=true) o):=by show ma c (some k) (gd _ _)=_;unfold gd;split<;>rfl
theorem xfr(x:Arg):opC call sg c (some k) (.box x)=some (Bo c k (.rc (c.ev x).cells) (.ptr (k+100) 0)):=rfl
def mkE(bytes:Nat):SV->SV->Option (Nat×Nat)
 | .int _ n,.int _ m=>gd (0<=n/\n<=m/\bytes*m<=140737488355328/\m<=9223372036854775807) (n.toNat,m.toNat)
 |_,_=>none
def mkS(c:CSt)(k:Nat)(z:List SV):Option (Nat×Nat)->Option CSt
 |some p=>some (Bo c k (.arr z.length (aD p.2 z)) (.psl (k+100) z.length 0 p.1 (some p.2)))
 |none=>none
theorem xkj(z:List SV)(bytes:Nat)(n m:Arg):opC call sg c (some k) (.mk z bytes n m)=mkS c k z (mkE bytes (c.ev n) (c.ev m)):=by show ma c (some k) (dD c (some k) (.mk z bytes n m))=_;simp only[dD];cases h1:c.ev n<;>cases h2:c.ev m<;>first|rfl|(simp only[mkE];unfold gd;split<;>rfl)
def xcW:SV->SV->Option (Nat×Nat)
 | .int _ n,.int _ m=>gd (0<=n/\n<=m/\m<=140737488355328) (n.toNat,m.toNat)
 |_,_=>none
def xi3(c:CSt)(k:Nat):Option (Nat×Nat)->Option CSt
 |some p=>some (Bo c k (.bar (aD p.2 0)) (.psl (k+100) 1 0 p.1 (some p.2)))
 |none=>none
theorem xfi(n m:Arg):opC call sg c (some k) (.mkB n m)=xi3 c k (xcW (c.ev n) (c.ev m)):=by show ma c (some k) (dD c (some k) (.mkB n m))=_;simp only[dD];cases h1:c.ev n<;>cases h2:c.ev m<;>first|rfl|(simp only[xcW];unfold gd;split<;>rfl)
def stC(c:CSt)(n:Nat)(v:List SV):SV->Option (Nat×aE)
 | .ptr o off=>match c.look o with
  |some (.rc cs)=>gd (off+n<=cs.length/\v.length=n/\v.all SV.one=true) (o,.rc (fO cs off v))
  |some (.arr sz xs)=>gd (off=0/\n=xs.length*sz/\v.length=n/\v.all SV.isData=true) (o,.arr sz (i5 sz xs.length (v.map SV.data)))
  |some (.bar l)=>match toB v with
   |some l'=>gd (off=0/\n=l.length/\l'.length=n) (o,.bar l')
   |none=>none
  |_=>none
 | .ap o sz i j=>match c.look o with
  |some (.arr sz' xs)=>gd (sz=sz'/\i<xs.length/\j+n<=sz/\v.length=n/\v.all SV.isData=true) (o,.arr sz' (iB sz xs i j n (v.map SV.data)))
  |some (.bar l)=>match v with
   |[.u8 b]=>gd (sz=1/\j=0/\n=1/\i<l.length) (o,.bar (l.set i b))
   |_=>none
  |_=>none
 |_=>none
def stS(c:CSt):Option (Nat×aE)->Option CSt
 |some p=>some ⟨c.tm,hU c.ob p.1 p.2,c.tk⟩
 |none=>none
theorem DW(l:List (Nat×SV))(ob:List (Nat×aE))(t:List Nat)(p:Nat×aE):stS ⟨l,ob,t⟩ (some p)=some ⟨l,hU ob p.1 p.2,t⟩:=rfl
theorem BG(n:Nat)(v:List SV)(a:SV):ke c n v a=(stC c n v a).map fun p=> {val:= .undef,wr:=[p]}:=by
 cases a with
 |ptr o off=>
  simp only[ke,stC];cases c.look o with
  |none=>rfl
  |some ob=>
   cases ob with
   |rc cs=>simp only;unfold gd;split<;>rfl
   |arr sz' xs=>simp only;unfold gd;split<;>rfl
   |bar l=>simp only;cases toB v<;>first|rfl|(simp only;unfold gd;split<;>rfl)
 |ap o sz i j=>
  simp only[ke,stC];cases c.look o with
  |none=>rfl
  |some ob=>
   cases ob with
   |rc cs=>rfl
   |arr sz' xs=>simp only;unfold gd;split<;>rfl
   |bar l=>
    rcases v with _|⟨u,_|⟨u2,r⟩⟩
    ·rfl
    ·cases u<;>first|rfl|(simp only;unfold gd;split<;>rfl)
    ·cases u<;>rfl
 |_=>rfl
theorem Pp(n:Nat)(a x:Arg):opC call sg c none (.store n a x)=if(c.ev x).isDef=true then stS c (stC c n (c.ev x).cells (c.ev a))else none:=by
 show ma c none (dD c none (.store n a x))=_;simp only[dD];split
 ·rw[BG];cases stC c n (c.ev x).cells (c.ev a)<;>rfl
 ·rfl
def apB(c:CSt)(k:Nat)(l:List UInt8)(t:Tok)(z:List SV)(bytes:Nat):Option (List UInt8)->Option CSt
 |some l'=>if z.length=1/\bytes=1/\t.readyC c=true/\l.length+l'.length<=140737488355328 then some (CSt.app c (some k) {val:= .byt (l++l') (.id (k+100)),eat:=t,tok:=true})else none
 |none=>none
def apL(c:CSt)(k:Nat)(sz':Nat)(l:List (List SV))(t:Tok)(z:List SV)(bytes:Nat):Option (List (List SV))->Option CSt
 |some l'=>if z.length=sz'/\t.readyC c=true/\(l.length+l'.length)*bytes<=140737488355328 then some (CSt.app c (some k) {val:= .lst z.length (l++l') (.id (k+100)),eat:=t,tok:=true})else none
 |none=>none
theorem QW(l:List (Nat×SV))(ob:List (Nat×aE))(t:List Nat)(v:SV)(e:Tok):
 CSt.app ⟨l,ob,t⟩ (some k) {val:=v,eat:=e,tok:=true}=⟨iO (cV (k+100) (k+101) l) k v,bw (k+100) (k+101) ob,lu (cf (k+100) (k+101) (e.eat t)) (k+100)⟩:=rfl
def apS(c:CSt)(k:Nat)(z:List SV)(bytes:Nat)(y:SV):SV->Option CSt
 | .byt l t=>apB c k l t z bytes (dY c y)
 | .lst sz' l t=>apL c k sz' l t z bytes (fb c z.length y)
 |_=>none
theorem xfv(z:List SV)(bytes:Nat)(x y:Arg):opC call sg c (some k) (.app z bytes x y)=apS c k z bytes (c.ev y) (c.ev x):=by
 show ma c (some k) (dD c (some k) (.app z bytes x y))=_;simp only[dD];cases c.ev x<;>try rfl
 ·simp only[apS]
  cases dY c (c.ev y)with
  |none=>rfl
  |some l'=>simp only[cJ,apB];unfold gd;split<;>rfl
 ·simp only[apS]
  cases fb c z.length (c.ev y)with
  |none=>rfl
  |some l'=>simp only[cJ,apL];unfold gd;split<;>rfl
def cpB(o off n:Nat)(sz sz':Nat)(l:List UInt8):Option (List UInt8)->Option (SV×Nat×aE)
 |some l'=>gd (sz=1/\sz'=1/\off+n<=l.length) (.int .i64 (min l'.length n:Nat),o,.bar (l.take off++l'.take n++l.drop (off+(l'.take n).length)))
 |none=>none
def cpL(b:Bool)(o off n:Nat)(sz sz' sz'':Nat)(xs:List (List SV)):Option (List (List SV))->Option (SV×Nat×aE)
 |some l'=>gd (b=true/\sz=sz'/\sz=sz''/\off+n<=xs.length) (.int .i64 (min l'.length n:Nat),o,.arr sz (xs.take off++l'.take n++xs.drop (off+(l'.take n).length)))
 |none=>none
def cp2(b:Bool)(c:CSt)(sz o sz' off n:Nat)(y:SV):Option aE->Option (SV×Nat×aE)
 |some (.bar l)=>cpB o off n sz sz' l (dY c y)
 |some (.arr sz'' xs)=>cpL b o off n sz sz' sz'' xs (fb c sz y)
 |_=>none
def cpC(b:Bool)(c:CSt)(sz:Nat)(y:SV):SV->Option (SV×Nat×aE)
 | .psl o sz' off n _=>cp2 b c sz o sz' off n y (c.look o)
 |_=>none
def cpS(c:CSt)(d:Option Nat):Option (SV×Nat×aE)->Option CSt
 |some p=>some (CSt.put ⟨c.tm,hU c.ob p.2.1 p.2.2,c.tk⟩ d p.1)
 |none=>none
theorem xce(z:List SV)(b:Nat)(x y:Arg):opC call sg c d (.appO z b x y)=pL c d z b y (c.ev x):=rfl
def clA(o off n:Nat)(z:List SV)(sz' sz'':Nat)(xs:List (List SV)):Option (SV×Nat×aE):=gd (0<n/\z.length=sz'/\z.length=sz''/\off+n<=xs.length) (.tup [],o,.arr z.length (xs.take off++aD n z++xs.drop (off+n)))
def cl2(z:List SV)(o sz' off n:Nat):Option aE->Option (SV×Nat×aE)
 |some (.arr sz'' xs)=>clA o off n z sz' sz'' xs
 |_=>none
def clC(c:CSt)(z:List SV):SV->Option (SV×Nat×aE)
 | .psl o sz' off n _=>cl2 z o sz' off n (c.look o)
 |_=>none
theorem xfp(z:List SV)(x:Arg):opC call sg c d (.clr z x)=cpS c d (clC c z (c.ev x)):=by
 show ma c d (dD c d (.clr z x))=_;simp only[dD];cases c.ev x<;>try rfl
 rename_i o sz' off n cap;simp only[clC];cases c.look o with
 |none=>rfl
 |some ob=>
  cases ob with
  |rc cs=>rfl
  |bar l=>rfl
  |arr sz'' xs=>simp only[cl2,clA];unfold gd;split<;>rfl
theorem xfo(sz:Nat)(x y:Arg):opC call sg c d (.cpy sz x y)=cpS c d (cpC y.isT c sz (c.ev y) (c.ev x)):=by
 show ma c d (dD c d (.cpy sz x y))=_;simp only[dD];cases c.ev x<;>try rfl
 rename_i o sz' off n cap;simp only[cpC];cases c.look o with
 |none=>rfl
 |some ob=>
  cases ob with
  |rc cs=>rfl
  |bar l=>
   simp only[cp2];cases dY c (c.ev y)with
   |none=>rfl
   |some l'=>simp only[cJ,cpB];unfold gd;split<;>rfl
  |arr sz'' xs=>
   simp only[cp2];cases fb c sz (c.ev y)with
   |none=>rfl
   |some l'=>simp only[cJ,cpL];unfold gd;split<;>rfl
def Nw(call:cN)(sg:Nat->Sig)(c:CSt)(d:Option Nat)(as:List SV):SV->Option CSt
 | .fn g a b=>gC call (sg g) c d g (a++as++b)
 |_=>none
theorem xcd(f:Arg)(as:List Arg):opC call sg c d (.call f as)=Nw call sg c d (evL c as) (c.ev f):=by simp only[opC];unfold Nw;rfl
theorem Z0(o:SOp):dw call sg c ⟨d,none,o⟩=opC call sg c d o:=rfl
theorem xaM(g:Option (Nat×Bool))(o:SOp)(r:List SI):plC call sg (⟨d,g,o⟩::r) c=nxP call sg r (opC call sg c d o):=by rw[plC]
theorem AK:fa call sg [] c=some c:=by rw[fa]
theorem Mp(i:SI)(dead:List Nat)(r:List RI):fa call sg (.op i dead::r) c=nxC call sg dead r (dw call sg c i):=by rw[fa]
theorem AL(g:Nat)(b:Bool)(l:List SI)(dead:List Nat)(r:List RI):fa call sg (.grp g b l dead::r) c=nxC call sg dead r (nG call sg b l c (c.get g)):=by rw[fa]
theorem AI(i:SI)(dead:List Nat)(r:List RI):fa call sg (.tks i dead::r) c=nxC call sg dead r (yU c i):=by rw[fa]
theorem Om(d:Option Nat)(x:Arg):yU c ⟨d,none,.s2b x⟩=On c d (c.ev x):=rfl
theorem ZT(k:Nat)(l:List UInt8):On c (some k) (.str l)=some (CSt.app c (some k) {val:= .byt l (.id (k+100)),tok:=true}):=rfl
theorem AJ(i:SI)(dead:List Nat)(r:List RI):fa call sg (.own i dead::r) c=nxC call sg dead r (ri c i):=by rw[fa]
theorem Pc(d:Option Nat)(x:Arg):ri c ⟨d,none,.s2b x⟩=Pj c d (c.ev x):=rfl
theorem Pd(d:Option Nat)(sz:Nat)(xs:List Arg):ri c ⟨d,none,.lit sz xs⟩=Pg c sz d (rows sz (evL c xs)):=rfl
theorem EE(d:Option Nat)(xs:List Arg):ri c ⟨d,none,.litB xs⟩=mu c d (toB (evL c xs)):=rfl
theorem Pe(d:Option Nat)(z:List SV)(b:Nat)(x y:Arg):ri c ⟨d,none,.app z b x y⟩=pL c d z b y (c.ev x):=rfl
theorem AM(q:Dir)(r:List RI):fa call sg (.dir q::r) c=nxC call sg [] r (pe c q):=by rw[fa]
theorem kj(dead:List Nat)(r:List RI):nxC call sg dead r (some c)=fa call sg r (c.kill dead):=by rw[nxC]
theorem km(dead:List Nat)(r:List RI):nxC call sg dead r none=none:=by rw[nxC]
theorem Mm:plC call sg [] c=some c:=by rw[plC]
theorem AO(r:List SI):nxP call sg r (some c)=plC call sg r c:=by rw[nxP]
theorem AP(r:List SI):nxP call sg r none=none:=by rw[nxP]
theorem ZR:unL c []=c:=rfl
theorem Of(g:Option (Nat×Bool))(o:SOp)(r:List SI):unL c (⟨d,g,o⟩::r)=unL (c.put d (.tup [])) r:=rfl
theorem xfP(b:Bool)(l:List SI):nG call sg b l c (.tup [])=some (unL c l):=rfl
theorem xfQ(b t:Bool)(l:List SI):nG call sg b l c (.bool t)=if t=b then plC call sg l c else some (unL c l):=rfl
theorem xcf(dead:List Nat)(r:List RI)(p:Prop)[Decidable p](a b:Option CSt):nxC call sg dead r (if p then a else b)=if p then nxC call sg dead r a else nxC call sg dead r b:=by split<;>rfl
theorem xcl(p:Prop)[Decidable p](l l':List (Nat×SV))(o:List (Nat×aE))(t:List Nat):(if p then some (CSt.mk l o t)else some (CSt.mk l' o t))=some (CSt.mk (if p then l else l') o t):=by split<;>rfl
theorem xck(p:Prop)[Decidable p](n:Nat)(v w:SV)(l l':List (Nat×SV)):(if p then(n,v)::l else(n,w)::l')=(n,if p then v else w)::(if p then l else l'):=by split<;>rfl
theorem PI(p:Prop)[Decidable p]:(if p then([]:List (Nat×SV))else [])=[]:=by split<;>rfl
theorem EZ{α:Type}(p:Prop)[Decidable p](a:α):(if p then a else a)=a:=by split<;>rfl
theorem EY(p:Prop)[Decidable p](q:IntKind)(a b:Int):(if p then SV.int q a else SV.int q b)= .int q (if p then a else b):=by split<;>rfl
theorem Cv(p:Prop)[Decidable p](a b:Bool):(if p then SV.bool a else SV.bool b)= .bool (if p then a else b):=by split<;>rfl
theorem PH(p:Prop)[Decidable p](a b:UInt8):(if p then SV.u8 a else SV.u8 b)= .u8 (if p then a else b):=by split<;>rfl
theorem Cx(t a b:Bool):gI t (.bool a) (.bool b)= .bool (if t=true then a else b):=by cases t<;>rfl
theorem E0(t:Bool)(q:IntKind)(a b:Int):gI t (.int q a) (.int q b)= .int q (if t=true then a else b):=by cases t<;>rfl
theorem PJ(t:Bool)(a b:UInt8):gI t (.u8 a) (.u8 b)= .u8 (if t=true then a else b):=by cases t<;>rfl
theorem Cw(a b:SV):gI true a b=a:=rfl
theorem vO(a b:SV):gI false a b=b:=rfl
variable {rn : RC -> CSt -> fX}
theorem EI(dead:List Nat):nrm dead (some c)=some (.n,c.kill dead):=rfl
theorem EJ(dead:List Nat):nrm dead none=none:=rfl
theorem Pv(dead:List Nat)(p:Prop)[Decidable p](a b:Option CSt):nrm dead (if p then a else b)=if p then nrm dead a else nrm dead b:=by split<;>rfl
theorem xj2(b:RC):sq rn b (some (.n,c))=rn b c:=rfl
theorem xj0(b:RC)(id:Nat):sq rn b (some (.x id,c))=some (.x id,c):=rfl
theorem xj1(b:RC):sq rn b (some (.r,c))=some (.r,c):=rfl
theorem Ou(b:RC):sq rn b none=none:=rfl
theorem ZU(b:RC)(p:Prop)[Decidable p](x y:fX):sq rn b (if p then x else y)=if p then sq rn b x else sq rn b y:=by split<;>rfl
theorem xgc(a b:RC)(t:Bool):cnd rn a b c (.bool t)=if t=true then rn a c else rn b c:=rfl
theorem xgf(id:Nat):blk id (some (.n,c))=some (.n,c):=rfl
theorem xge(id:Nat):blk id (some (.r,c))=some (.r,c):=rfl
theorem xgd(id id':Nat):blk id (some (.x id',c))=if id'=id then some (.n,c)else some (.x id',c):=rfl
theorem FJ(id:Nat):blk id none=none:=rfl
theorem QN(id:Nat)(p:Prop)[Decidable p](x y:fX):blk id (if p then x else y)=if p then blk id x else blk id y:=by split<;>rfl
theorem xkp(b:RC):lp rn b (some (.n,c))=rn (.loop b) c:=rfl
theorem xkn(b:RC)(id:Nat):lp rn b (some (.x id,c))=some (.x id,c):=rfl
theorem xko(b:RC):lp rn b (some (.r,c))=some (.r,c):=rfl
theorem Pz(b:RC):lp rn b none=none:=rfl
theorem xch(b:RC)(p:Prop)[Decidable p](x y:fX):lp rn b (if p then x else y)=if p then lp rn b x else lp rn b y:=by split<;>rfl
theorem Ez(a:RC):prD rn a (some c)=rn a c:=rfl
theorem xd7(ds:List Dir):psD ds (some (.n,c))=prD (fun _ c=>some (.n,c)) .skip (gN c ds):=by simp only[psD];cases gN c ds<;>rfl
theorem xd5(ds:List Dir)(id:Nat):psD ds (some (.x id,c))=some (.x id,c):=rfl
theorem xd6(ds:List Dir):psD ds (some (.r,c))=some (.r,c):=rfl
theorem Ey(ds:List Dir):psD ds none=none:=rfl
theorem Pa(ds:List Dir)(p:Prop)[Decidable p](x y:fX):psD ds (if p then x else y)=if p then psD ds x else psD ds y:=by split<;>rfl
theorem Fp:gN c []=some c:=rfl
def xjn(ds:List Dir):Option CSt->Option CSt
 |some c=>gN c ds
 |none=>none
theorem CO(q:Dir)(ds:List Dir):gN c (q::ds)=xjn ds (pe c q):=by simp only[gN];cases pe c q<;>rfl
theorem CP(ds:List Dir):xjn ds (some c)=gN c ds:=rfl
theorem xfX(F:FnC)(n:Nat):DA F n (some (.n,c))=MI F.keep F.raw n c (pJ c F.rs):=rfl
theorem xfW(F:FnC)(n:Nat):DA F n (some (.r,c))=MI F.keep F.raw n c (pJ c F.rs):=rfl
theorem PZ(F:FnC)(n:Nat)(p:Prop)[Decidable p](x y:fX):DA F n (if p then x else y)=if p then DA F n x else DA F n y:=by split<;>rfl
theorem FD(sg:Sig)(g:Nat)(as:List SV):gC call sg c d g as=jo call sg c d g as ((SV.idsL as).isEmpty&&sg.own.isEmpty):=rfl
theorem QK(sg:Sig)(g:Nat)(as:List SV):jo call sg c d g as true=lh c d (call g (SV.bareL as) [] 0):=rfl
theorem QL(sg:Sig)(g:Nat)(as:List SV):jo call sg c d g as false=jg call sg d g (eh c as (il sg.raw 0 as)):=rfl
theorem P4(q:dE):lh c d (some q)=my c d q q.bare:=rfl
theorem P6(q:dE):my c d q true=some (c.put d q.r):=rfl
theorem P7(q:dE):my c d q false=vY c d q q.small:=rfl
theorem P5(q:dE):vY c d q true=some (jp c d [] [] q):=rfl
theorem QQ(r:SV)(os:List (Nat×aE))(tk:List Nat):(dE.mk r os tk).bare=(os.isEmpty&&tk.isEmpty&&r.ids.isEmpty&&r.toks.isEmpty):=rfl
theorem DZ(r:SV)(os:List (Nat×aE))(tk:List Nat):(dE.mk r os tk).small=(os.all (fun p=>decide (p.1<1000)&&p.2.ids.all (fun k=>decide (k<1000))&&p.2.toks.all (fun k=>decide (k<1000)))&&r.ids.all (fun k=>decide (k<1000))&&r.toks.all (fun k=>decide (k<1000))&&tk.all (fun k=>decide (k<1000))):=rfl
theorem Ow(sg:Sig)(g:Nat)(as:List SV):jg call sg d g (c,as)=mj call c d g (js c.tk sg.own 50 0 as):=rfl
theorem OC(g:Nat)(as:List SV)(mt1:List (Option Nat)):mj call c d g (as,mt1)=kz call c d g as mt1 (dx c 60 [] (SV.idsL as)) (fK c (dx c 60 [] (SV.idsL as))):=rfl
theorem OB(g:Nat)(as:List SV)(mt1:List (Option Nat))(m:List Nat)(os:List aE):kz call c d g as mt1 m (some os)=mi call c d g as mt1 m (dI c.tk (50+mt1.length) os):=rfl
theorem OA(g:Nat)(as:List SV)(mt1:List (Option Nat))(m:List Nat)(os:List aE)(mt2:List (Option Nat)):mi call c d g as mt1 m (os,mt2)=
 mh call c d g as mt1 m os mt2 (mU (SV.idsL as++eX os) m&&di m&&di (ce (mt1++mt2))&&decide (m.length<=40)&&m.all fun o=> !inR (d.getD 0) o):=rfl
theorem Oz(g:Nat)(as:List SV)(mt1:List (Option Nat))(m:List Nat)(os:List aE)(mt2:List (Option Nat)):mh call c d g as mt1 m os mt2 true=
 m5 c d m (ce (mt1++mt2)) (call g (SV.renL (fS m) id as) (dO (fS m) id os) (mt1.length+mt2.length)):=rfl
theorem Oy(m mt:List Nat)(q:dE):m5 c d m mt (some q)=vd c d m mt q q.small:=rfl
theorem Ox(m mt:List Nat)(q:dE):vd c d m mt q true=some (jp c d m mt q):=rfl
theorem xcB(keep raw:List Nat)(vs:List SV):MI keep raw k c (some vs)=P3 keep k (eh c vs (il raw 0 vs)):=rfl
theorem xcu(keep:List Nat)(vs:List SV):P3 keep k (c,vs)=MH keep k c vs (decide (k=0)&&(SV.idsL vs).isEmpty&&keep.isEmpty):=rfl
theorem xcz(keep:List Nat)(vs:List SV):MH keep k c vs true=some ⟨iP (SV.bareL vs),[],[]⟩:=rfl
theorem xcA(keep:List Nat)(vs:List SV):MH keep k c vs false=Xs k c (js c.tk keep 60 0 vs):=rfl
theorem xcy(vs:List SV)(mt1:List (Option Nat)):Xs k c (vs,mt1)=Xr k c vs mt1 (dx c 60 [] (kb k++SV.idsL vs)) (fK c (dx c 60 [] (kb k++SV.idsL vs))):=rfl
theorem xcx(vs:List SV)(mt1:List (Option Nat))(m:List Nat)(os:List aE):Xr k c vs mt1 m (some os)=Xq k vs mt1 m (dI c.tk (60+mt1.length) os):=rfl
theorem xcw(vs:List SV)(mt1:List (Option Nat))(m:List Nat)(os:List aE)(mt2:List (Option Nat)):Xq k vs mt1 m (os,mt2)=
 Xp k vs mt1 m os mt2 (mU (SV.idsL vs++eX os) m&&di m&&di (ce (mt1++mt2))&&decide (m.take k=kb k)&&(m.drop k).all fun o=>decide (k<=o)):=rfl
theorem xcv(vs:List SV)(mt1:List (Option Nat))(m:List Nat)(os:List aE)(mt2:List (Option Nat)):Xp k vs mt1 m os mt2 true=
 some ⟨(iP vs).ren (gj k m) id,(fk 0 (dO (gj k m) id (os.take k)))++(fk (100+k) (dO (gj k m) id (os.drop k))),tks 60 (mt1.length+mt2.length)⟩:=rfl
theorem Pl(v:SV):iP [v]=v:=rfl
theorem Pk(v w:SV)(r:List SV):iP (v::w::r)= .tup (v::w::r):=rfl
theorem Pm:iP []= .tup []:=rfl
theorem D6(raw:List Nat)(i:Nat)(q:IntKind)(n:Int):lr raw i (.int q n)=[]:=rfl
theorem BN(raw:List Nat)(i:Nat)(b:Bool):lr raw i (.bool b)=[]:=rfl
theorem OF(raw:List Nat)(i:Nat)(b:UInt8):lr raw i (.u8 b)=[]:=rfl
theorem D2(raw:List Nat)(i:Nat)(l:List UInt8):lr raw i (.str l)=[]:=rfl
theorem D7(raw:List Nat)(i:Nat)(l:List UInt8)(t:Tok):lr raw i (.byt l t)=[]:=rfl
theorem D5(raw:List Nat)(i sz:Nat)(l:List (List SV))(t:Tok):lr raw i (.lst sz l t)=[]:=rfl
theorem BL(raw:List Nat)(i:Nat):lr raw i .nilp=[]:=rfl
theorem BM(raw:List Nat)(i:Nat):lr raw i .nili=[]:=rfl
theorem vi(raw:List Nat)(i:Nat):lr raw i .undef=[]:=rfl
theorem OG(raw:List Nat)(i:Nat)(l:List SV):lr raw i (.pp l)=[]:=rfl
theorem D3(raw:List Nat)(i o off:Nat):lr raw i (.ptr o off)=[]:=rfl
theorem OI(raw:List Nat)(i o sz a b:Nat):lr raw i (.ap o sz a b)=[]:=rfl
theorem D8(raw:List Nat)(i:Nat)(l:List SV):lr raw i (.agg l)=if raw.contains i=true then []else sn l:=rfl
theorem BW:sn []=[]:=rfl
theorem vo(v:SV)(r:List SV):sn (v::r)=gh v++sn r:=rfl
theorem BT(q:IntKind)(n:Int):gh (.int q n)=[]:=rfl
theorem vn(b:Bool):gh (.bool b)=[]:=rfl
theorem D9(b:UInt8):gh (.u8 b)=[]:=rfl
theorem BP(l:List UInt8):gh (.str l)=[]:=rfl
theorem BU(l:List UInt8)(t:Tok):gh (.byt l t)=[]:=rfl
theorem BS(sz:Nat)(l:List (List SV))(t:Tok):gh (.lst sz l t)=[]:=rfl
theorem vj:gh .nilp=[]:=rfl
theorem vk:gh .nili=[]:=rfl
theorem s6:gh .undef=[]:=rfl
theorem Ea(l:List SV):gh (.pp l)=[]:=rfl
theorem BQ(o off:Nat):gh (.ptr o off)=[]:=rfl
theorem Ec(o sz a b:Nat):gh (.ap o sz a b)=[]:=rfl
theorem BV(l:List SV):gh (.agg l)=[]:=rfl
theorem BO(l:List SV):gh (.tup l)=[]:=rfl
theorem Eb(f:Nat)(a b:List SV):gh (.fn f a b)=[]:=rfl
theorem BR(o sz off n:Nat)(m:Option Nat):gh (.psl o sz off n m)=[o]:=rfl
theorem D1(raw:List Nat)(i:Nat)(l:List SV):lr raw i (.tup l)=[]:=rfl
theorem OH(raw:List Nat)(i f:Nat)(a b:List SV):lr raw i (.fn f a b)=[]:=rfl
theorem D4(raw:List Nat)(i o sz off n:Nat)(m:Option Nat):lr raw i (.psl o sz off n m)=if raw.contains i=true then []else [o]:=rfl
theorem PP(p:Prop)[Decidable p](a b v:SV):gI (decide p) (if p then a else b) v=gI (decide p) a v:=by by_cases h:p<;>simp[gI,h]
theorem PO(p:Prop)[Decidable p](a b v:SV):gI (decide p) v (if ¬p then a else b)=gI (decide p) v a:=by by_cases h:p<;>simp[gI,h]
theorem PL(t:Bool)(a b v:SV):gI t (if t=true then a else b) v=gI t a v:=by cases t<;>simp[gI]
theorem PK(t:Bool)(a b v:SV):gI t v (if t=false then a else b)=gI t v a:=by cases t<;>simp[gI]
theorem PN(t:Bool)(a b v:SV):gI (!t) (if t=false then a else b) v=gI (!t) a v:=by cases t<;>simp[gI]
theorem PM(t:Bool)(a b v:SV):gI (!t) v (if t=true then a else b)=gI (!t) v a:=by cases t<;>simp[gI]
theorem QP(p q:Prop)[Decidable p][Decidable q]:(if p then decide q else false)=decide (p/\q):=by by_cases h:p<;>simp[h]
theorem xcP(p q:Prop)[Decidable p][Decidable q]:(if p then true else decide q)=decide (p\/q):=by by_cases h:p<;>simp[h]
theorem QT(v:SV):c.app d {val:=v}=c.put d v:=rfl
theorem QU(l:List (Nat×SV))(ob:List (Nat×aE))(t:List Nat)(o:aE)(v:SV):
 CSt.app ⟨l,ob,t⟩ (some k) {val:=v,new:=some o}=⟨iO (cV (k+100) (k+101) l) k v,hU (bw (k+100) (k+101) ob) (k+100) (o.purge (k+100) (k+101)),cf (k+100) (k+101) t⟩:=rfl
theorem xcS(l:List (Nat×SV))(ob:List (Nat×aE))(t:List Nat)(v:SV)(p:Nat×aE):CSt.app ⟨l,ob,t⟩ d {val:=v,wr:=[p]}=CSt.put ⟨l,hU ob p.1 p.2,t⟩ d v:=rfl
theorem Fu(l:List (Nat×SV))(ob:List (Nat×aE))(t:List Nat)(p:SV×Nat×aE):cpS ⟨l,ob,t⟩ d (some p)=some (CSt.put ⟨l,hU ob p.2.1 p.2.2,t⟩ d p.1):=rfl
theorem EL(z:List SV)(p:Nat×Nat):mkS c k z (some p)=some (Bo c k (.arr z.length (aD p.2 z)) (.psl (k+100) z.length 0 p.1 (some p.2))):=rfl
theorem Cn(p:Nat×Nat):xi3 c k (some p)=some (Bo c k (.bar (aD p.2 0)) (.psl (k+100) 1 0 p.1 (some p.2))):=rfl
theorem xdn(x:Arg):cO c (.mov x)=some (c.ev x):=by simp only[cO];rw[xdy]
theorem N6(z:List SV)(ps:List (Nat×Nat×Arg)):cO c (.build z ps)=sQ (gW z (psC c ps)):=by simp only[cO];rw[yS]
theorem xdo(sz:Nat)(xs:List Arg):cO c (.lit sz xs)=Xf sz (rows sz (evL c xs)):=by simp only[cO];rw[Rr]
theorem ZA(xs:List Arg):cO c (.litB xs)=Dh (toB (evL c xs)):=by simp only[cO];rw[FR]
theorem Zz(n:Nat)(ag:Bool)(a:Arg):cO c (.load n ag a)=ld c n ag (c.ev a):=by simp only[cO];rw[ZM]
theorem Zv(x:Arg):cO c (.nchk x)=Dd (c.ev x):=by simp only[cO];rw[ZI]
theorem xdu(op:BinOp)(x y:Arg):cO c (.bin op x y)=DD op (c.ev x) (c.ev y):=by simp only[cO];rw[xdD]
theorem xdv(ne:Bool)(x y:Arg):cO c (.beq ne x y)=XB ne (c.ev x) (c.ev y):=by simp only[cO];rw[xdE]
theorem xds(ne:Bool)(ts:List Nat)(x y:Arg):cO c (.eqS ne ts x y)=Xw ne ts (c.ev x) (c.ev y):=by simp only[cO];rw[xdB]
theorem xjQ(op:UnOp)(x:Arg):cO c (.un op x)=uO op (c.ev x):=by simp only[cO];rw[xjV]
theorem N4(q:IntKind)(x:Arg):cO c (.toInt q x)=gr q (c.ev x):=by simp only[cO];rw[Od]
theorem N3(x:Arg):cO c (.toStr x)=sj (c.ev x):=by simp only[cO];rw[Oc]
theorem ZC(ne:Bool)(x:Arg):cO c (.isni ne x)=Di ne (c.ev x):=by simp only[cO];rw[ZO]
theorem xdm(x:Arg):cO c (.s2b x)=Rz (c.ev x):=by simp only[cO];rw[xdx]
theorem xdw(x:Arg):cO c (.b2s x)=XC c (c.ev x):=by simp only[cO];rw[xdF]
theorem Zw(f:Nat)(a b:List Arg):cO c (.mkfn f a b)=some (.fn f (evL c a) (evL c b)):=by simp only[cO];rw[ZJ]
theorem Zr(x:Arg)(lo hi:Option Arg):cO c (.slcS x lo hi)=C0 c lo hi (c.ev x):=by simp only[cO];rw[FQ]
theorem Zs(sz:Nat)(x:Arg)(lo hi mx:Option Arg):cO c (.slcL sz x lo hi mx)=mE c sz (c.ev x) lo hi mx:=by simp only[cO];rw[ZG]
theorem Zt(len sz:Nat)(x:Arg)(lo hi mx:Option Arg):cO c (.slcA len sz x lo hi mx)=C1 c len sz lo hi mx (c.ev x):=by simp only[cO];rw[ZH]
theorem N5(off:Nat)(x:Arg):cO c (.faddr off x)=sN off (c.ev x):=by simp only[cO];rw[Oe]
theorem xdq(off n:Nat)(ag:Bool)(x:Arg):cO c (.fld off n ag x)=Xo off n ag (c.ev x):=by simp only[cO];rw[xdz]
theorem DM(sz:Nat)(x i:Arg):cO c (.iaddrL sz x i)=nE sz (c.ev x) (c.ev i).num:=by simp only[cO];rw[DQ]
theorem DN(len sz:Nat)(x i:Arg):cO c (.iaddrA len sz x i)=lB c len sz (c.ev x) (c.ev i).num:=by simp only[cO];rw[tp]
theorem ZE(len sz:Nat)(ag:Bool)(x i:Arg):cO c (.idxA len sz ag x i)=Dm len sz ag (c.ev x) (c.ev i).num:=by simp only[cO];rw[ZQ]
theorem ZD(x i:Arg):cO c (.idxS x i)=Dl (c.ev x) (c.ev i).num:=by simp only[cO];rw[ZP]
theorem xdr(x:Arg)(i:Nat):cO c (.ext x i)=Xv i (c.ev x):=by simp only[cO];rw[xdA]
theorem xdp(b:Bool)(x:Arg):cO c (.len b x)=lenC (jm b (c.ev x)):=by simp only[cO];rw[Rt]
theorem ZB(n:Nat):cO c (.lenC n)=some (.int .i64 n):=by simp only[cO];rw[ZN]
theorem xdt(x:Arg):cO c (.cap x)=Xz (c.ev x):=by simp only[cO];rw[xdC]
theorem Zx(x y:Arg):cO c (.mini x y)=Df (c.ev x) (c.ev y):=by simp only[cO];rw[ZK]
theorem Zy(x y:Arg):cO c (.maxi x y)=Dg (c.ev x) (c.ev y):=by simp only[cO];rw[ZL]
theorem Zu(q a b:Arg):cO c (.pick q a b)=Dc (c.ev a) (c.ev b) (c.ev q):=by simp only[cO];cases c.ev q<;>rfl
theorem xke(o:SOp):qv c ⟨d,none,o⟩=cO c o:=rfl
theorem xkd(g:Nat)(b:Bool)(o:SOp):qv c ⟨d,some (g,b),o⟩=qg c o b (c.get g):=rfl
theorem xkg(b t:Bool)(o:SOp):qg c o b (.bool t)=if t=b then cO c o else some (.tup []):=rfl
theorem xkf(b:Bool)(o:SOp):qg c o b (.tup [])=some (.tup []):=rfl
def stG(call:cN)(sg:Nat->Sig)(c:CSt)(d:Option Nat)(o:SOp)(b:Bool):SV->Option CSt
 | .bool t=>if t=b then opC call sg c d o else some (c.put d (.tup []))
 | .tup []=>some (c.put d (.tup []))
 |_=>none
theorem ZZ(g:Nat)(b:Bool)(o:SOp):dw call sg c ⟨d,some (g,b),o⟩=stG call sg c d o b (c.get g):=by unfold dw stG;rfl
theorem xdK(b t:Bool)(o:SOp):stG call sg c d o b (.bool t)=if t=b then opC call sg c d o else some (c.put d (.tup [])):=rfl
theorem xdJ(b:Bool)(o:SOp):stG call sg c d o b (.tup [])=some (c.put d (.tup [])):=rfl
theorem xcs(b:List Nat)(ps:List FI):eD call sg b [] ps c=some c:=by rw[eD]
theorem xkW(b:List Nat)(n:Nat)(i:SI)(r ps:List FI):eD call sg b (⟨n,true,i⟩::r) ps c=ut call sg b r (⟨n,true,i⟩::ps) c i.dst (qv c i):=by rw[eD]
theorem xkX(b:List Nat)(n:Nat)(i:SI)(r ps:List FI):eD call sg b (⟨n,false,i⟩::r) ps c=o6 call sg b r ps (b.getD n 0) (dw call sg c i):=by rw[eD]
theorem xkU(b:List Nat)(r ps:List FI)(v:SV):ut call sg b r ps c d (some v)=eD call sg b r ps (c.put d v):=by rw[ut]
theorem xkV(b:List Nat)(r ps:List FI)(m:Nat):o6 call sg b r ps m (some c)=o7 call sg b r ps (gdP (rE m c ps) c):=by rw[o6]
theorem xkY(b:List Nat)(r ps:List FI):o7 call sg b r ps (some c)=eD call sg b r ps c:=by rw[o7]
theorem PS{α:Type}{p:Prop}(v:α)(h:p):gdP p v=some v:=by unfold gdP;exact if_pos h
theorem xgj(b:List Nat)(l:List FI)(p:List Nat):iy call sg b l [p] c=eD call sg b (gQ l p) [] c:=by rw[iy]
theorem xgi(b:List Nat)(l:List FI)(p q:List Nat)(r:List (List Nat)):iy call sg b l (p::q::r) c=mz (eD call sg b (gQ l p) [] c) (iy call sg b l (q::r) c):=by rw[iy]
theorem xl6(a a':CSt):mz (some a) (some a')=gdP (a=a') a:=rfl
theorem xct(m:Nat):rE m c []=True:=rfl
theorem PY(m:Nat)(p:FI)(r:List FI):rE m c (p::r)=((m/2^p.n % 2=1\/qv c p.i=some (c.get (p.i.dst.getD 0)))/\rE m c r):=rfl
end Go.Sy
namespace Go.Sy
variable [bd]
theorem p5{n:Nat}:∀{l:List (Nat×SV)},(∀p∈l,p.1≠n)->dS l n= .undef
 |[],_=>rfl
 |p::r,h=>by simp only[dS];rw[if_neg (h p (ay ..))];exact p5 fun q hq=>h q (ao _ hq)
theorem lg(n:Nat)(v:SV)(m:Nat):∀l:List (Nat×SV),dS (iO l n v) m=if m=n then v else dS l m
 |[]=>by simp only[iO,dS];by_cases h:n=m<;>simp[h,eq_comm]
 |p::r=>by
  simp only[iO];split
  ·simp only[dS]
   by_cases h:n=m
   ·simp[h]
   ·rw[if_neg h,if_neg (Ne.symm h)]
  ·split
   ·rename_i h1 h2
    simp only[dS]
    by_cases h:n=m
    ·simp[h]
    ·rw[if_neg h,if_neg (Ne.symm h),if_neg (by omega)]
   ·rename_i h1 h2
    simp only[dS,lg n v m r]
    by_cases h:p.1=m
    ·rw[if_pos h,if_pos h,if_neg (by omega)]
    ·rw[if_neg h,if_neg h]
theorem lc{n:Nat}{v:SV}{p:Nat×SV}:∀{l:List (Nat×SV)},p∈iO l n v->p=(n,v)\/p∈l
 |[],h=>by simpa[iO]using h
 |q::r,h=>by
  simp only[iO]at h;split at h
  ·rcases an.1 h with h|h
   ·exact .inl h
   ·exact .inr h
  ·split at h
   ·rcases an.1 h with h|h
    ·exact .inl h
    ·exact .inr (ao _ h)
   ·rcases an.1 h with h|h
    ·exact .inr (h ▸ ay ..)
    ·rcases lc h with h|h
     ·exact .inl h
     ·exact .inr (ao _ h)
theorem fx(lo hi n:Nat):∀l:List (Nat×SV),dS (cV lo hi l) n=(dS l n).purge lo hi
 |[]=>by simp[cV,dS,SV.purge]
 |p::r=>by
  simp only[cV,dS];split
  ·rfl
  ·exact fx lo hi n r
theorem iS{lo hi:Nat}{p:Nat×SV}:∀{l:List (Nat×SV)},p∈cV lo hi l->∃q∈l,p.1=q.1
 |q::r,h=>by
  simp only[cV]at h;rcases an.1 h with h|h
  ·exact⟨q,ay ..,by rw[h]⟩
  ·obtain⟨u,h1,h2⟩:=iS h
   exact⟨u,ao _ h1,h2⟩
theorem oh{k:List Nat}{p:Nat×SV}:∀{l:List (Nat×SV)},p∈uF l k->p∈l
 |q::r,h=>by
  simp only[uF]at h;split at h
  ·exact ao _ (oh h)
  ·rcases an.1 h with h|h
   ·exact h ▸ ay ..
   ·exact ao _ (oh h)
theorem ov(k:List Nat)(n:Nat):∀l:List (Nat×SV),dS (uF l k) n=if k.contains n=true then .undef else dS l n
 |[]=>by simp[uF,dS]
 |p::r=>by
  simp only[uF,dS];split
  ·rename_i h
   rw[ov k n r]
   by_cases hp:p.1=n
   ·subst hp;rw[if_pos h,if_pos h]
   ·rw[if_neg hp]
  ·rename_i h
   simp only[dS,ov k n r]
   by_cases hp:p.1=n
   ·subst hp;rw[if_pos rfl,if_neg h,if_pos rfl]
   ·rw[if_neg hp,if_neg hp]
theorem ow(n:Nat)(v:aE)(m:Nat):∀l:List (Nat×aE),gU (hU l n v) m=if m=n then some v else gU l m
 |[]=>by simp only[hU,gU];by_cases h:n=m<;>simp[h,eq_comm]
 |p::r=>by
  simp only[hU];split
  ·simp only[gU]
   by_cases h:n=m
   ·simp[h]
   ·rw[if_neg h,if_neg (Ne.symm h)]
  ·split
   ·rename_i h1 h2
    simp only[gU]
    by_cases h:n=m
    ·simp[h]
    ·rw[if_neg h,if_neg (Ne.symm h),if_neg (by omega)]
   ·rename_i h1 h2
    simp only[gU,ow n v m r]
    by_cases h:p.1=m
    ·rw[if_pos h,if_pos h,if_neg (by omega)]
    ·rw[if_neg h,if_neg h]
theorem jM{n:Nat}{v:aE}{p:Nat×aE}:∀{l:List (Nat×aE)},p∈hU l n v->p=(n,v)\/p∈l
 |[],h=>by simpa[hU]using h
 |q::r,h=>by
  simp only[hU]at h;split at h
  ·rcases an.1 h with h|h
   ·exact .inl h
   ·exact .inr h
  ·split at h
   ·rcases an.1 h with h|h
    ·exact .inl h
    ·exact .inr (ao _ h)
   ·rcases an.1 h with h|h
    ·exact .inr (h ▸ ay ..)
    ·rcases jM h with h|h
     ·exact .inl h
     ·exact .inr (ao _ h)
theorem sk{n:Nat}{v:aE}:∀{l:List (Nat×aE)},(l.map cB).Pairwise (· < ·)->((hU l n v).map cB).Pairwise (· < ·)
 |[],_=>by simp[hU]
 |p::r,h=>by
  have h0:=h;simp only[aC,bE]at h;simp only[hU];split
  ·rename_i h1
   rw[aC,bE];refine⟨fun k hk=> ?_,h0⟩;rw[aC]at hk;rcases an.1 hk with e|e
   ·omega
   ·have:=h.1 k e;omega
  ·split
   ·rename_i h1 h2
    rw[aC,bE];exact⟨fun k hk=>by have:=h.1 k hk;omega,h.2⟩
   ·rename_i h1 h2
    rw[aC,bE];refine⟨fun k hk=> ?_,sk h.2⟩;obtain⟨q,hq,rfl⟩:=aR.1 hk;rcases jM hq with e|e
    ·rw[e];show p.1<n;omega
    ·exact h.1 _ (gG e)
theorem iG{l:List (Nat×aE)}{n:Nat}{v:aE}(h:gU l n=some v):(n,v)∈l:=by
 induction l with
 |nil=>cases h
 |cons p r ih=>
  simp only[gU]at h;split at h
  ·rename_i hp
   cases h;subst hp;exact ay ..
  ·exact ao _ (ih h)
theorem iE:∀{l:List (Nat×aE)},(l.map cB).Nodup->∀{p:Nat×aE},p∈l->gU l p.1=some p.2
 |q::r,hn,p,h=>by
  simp only[aC,du]at hn;simp only[gU];rcases an.1 h with e|e
  ·subst e;rw[if_pos rfl]
  ·rw[if_neg (fun e2=>hn.1 (by rw[e2];exact gG e))]
   exact iE hn.2 e
theorem iA{l:List (Nat×aE)}(h:(l.map cB).Pairwise (· < ·)):(l.map cB).Nodup:=h.imp fun h=>Nat.ne_of_lt h
theorem gL(o:Nat):∀l:List (Nat×aE),l.lookup o=gU l o
 |[]=>rfl
 |p::r=>by
  simp only[List.lookup,gU]
  by_cases h:o=p.1
  ·rw[if_pos h.symm];simp[h]
  ·have:(o==p.1)=false:=by simpa using h
   rw[this,if_neg (Ne.symm h)];exact gL o r
theorem iY(lo hi o:Nat):∀l:List (Nat×aE),gU (bw lo hi l) o=if lo<=o/\o<hi then none else(gU l o).map (aE.purge lo hi)
 |[]=>by simp[bw,gU]
 |p::r=>by
  simp only[bw,gU];split
  ·rename_i hp
   rw[iY lo hi o r]
   by_cases h:p.1=o
   ·subst h;rw[if_pos hp,if_pos hp]
   ·rw[if_neg h]
  ·rename_i hp
   simp only[gU,iY lo hi o r]
   by_cases h:p.1=o
   ·subst h;rw[if_pos rfl,if_neg hp,if_pos rfl];rfl
   ·rw[if_neg h,if_neg h]
theorem tx{lo hi:Nat}{l:List (Nat×aE)}(h:(l.map cB).Pairwise (· < ·)):((bw lo hi l).map cB).Pairwise (· < ·):=by rw[ee];exact h.filter _
theorem jN{n t:Nat}:∀{l:List Nat},t∈lu l n↔t=n\/t∈l
 |[]=>by simp[lu]
 |p::r=>by
  simp only[lu];split
  ·simp
  ·split
   ·rename_i h;subst h;simp
   ·simp only[an,jN]
    constructor
    ·rintro(h|h|h)
     ·exact .inr (.inl h)
     ·exact .inl h
     ·exact .inr (.inr h)
    ·rintro(h|h|h)
     ·exact .inr (.inl h)
     ·exact .inl h
     ·exact .inr (.inr h)
theorem nX{lo hi:Nat}{o:aE}(h:o.wf=true):(o.purge lo hi).wf=true:=by cases o<;>simpa[aE.purge,aE.wf]using h
def CSt.st(N:Nat)(c:CSt):St:=⟨(bD N).map c.get,c.ob,c.tk⟩
structure Inv(N:Nat)(c:CSt):Prop where
 dom:∀p∈c.tm,p.1<N
 so:(c.ob.map cB).Pairwise (· < ·)
 wf:∀p∈c.ob,p.2.wf=true
structure Sim(N:Nat)(c:CSt)(s:St):Prop where
 inv:Inv N c
 tm:s.tm=(bD N).map c.get
 look:∀o,s.look o=c.look o
 tk:∀t,t∈s.tk↔t∈c.tk
variable {N : Nat} {c : CSt} {s : St}
theorem Inv.get(h:Inv N c){n:Nat}(hn:N<=n):c.get n= .undef:=p5 fun p hp e=>by have:=h.dom p hp;omega
theorem Sim.of(h:Inv N c):Sim N c (c.st N):=⟨h,rfl,fun o=>gL o c.ob,fun _=>Iff.rfl⟩
theorem Sim.get(h:Sim N c s)(n:Nat):s.get n=c.get n:=by
 unfold St.get;rw[h.tm,aa,aO];rcases bL n N with hn|hn
 ·rw[bW hn];rfl
 ·rw[dV (by simpa using hn),h.inv.get hn];rfl
theorem Sim.ev(h:Sim N c s)(a:Arg):s.ev a=c.ev a:=by
 cases a with
 |t n=>exact h.get n
 |c v=>rfl
 |f g=>rfl
theorem Sim.evL(h:Sim N c s)(l:List Arg):Sy.evL c l=l.map s.ev:=by
 induction l with
 |nil=>rfl
 |cons a r ih=>simp only[Sy.evL,aC,ih,h.ev]
theorem Sim.lookmem(h:Sim N c s){o:Nat}{ob:aE}(hl:c.look o=some ob):ob.wf=true:=h.inv.wf _ (iG hl)
theorem Sim.rows(h:Sim N c s){o sz:Nat}{xs:List (List SV)}(hl:c.look o=some (.arr sz xs)):∀x∈xs,x.length=sz:=by have:=h.lookmem hl;simpa[aE.wf]using this
theorem Inv.put(h:Inv N c){d:Option Nat}(hd:∀k,d=some k->k<N)(v:SV):Inv N (c.put d v):=by
 cases d with
 |none=>exact h
 |some k=>
  refine⟨fun p hp=> ?_,h.so,h.wf⟩;rcases lc hp with e|e
  ·rw[e];exact hd k rfl
  ·exact h.dom p e
theorem fV(c:CSt)(k:Nat)(v:SV)(n:Nat):(c.put (some k) v).get n=if n=k then v else c.get n:=lg k v n c.tm
theorem Sim.put(h:Sim N c s){d:Option Nat}(hd:∀k,d=some k->k<N)(v:SV):Sim N (c.put d v) (s.put d v):=by
 cases d with
 |none=>exact h
 |some k=>
  refine⟨h.inv.put hd v, ?_,h.look,h.tk⟩;show s.tm.set k v=_;rw[h.tm];apply List.ext_getElem?;intro i;rw[fJ,aO,aO];rcases bL i N with hi|hi
  ·rw[bW hi]
   simp only[bn,fV,aN,List.length_range]
   by_cases hk:k=i
   ·rw[if_pos hk,if_pos (by omega),if_pos hk.symm]
   ·rw[if_neg hk,if_neg (Ne.symm hk)]
  ·rw[dV (l:=bD N) (by simpa using hi)]
   have:=hd k rfl;rw[if_neg (by omega)];rfl
theorem bC{α:Type}{p:Prop}[Decidable p]{v u:α}(h:gd p v=some u):p/\v=u:=by
 unfold gd at h;split at h
 ·rename_i hp;cases h;exact⟨hp,rfl⟩
 ·cases h
theorem E3{op:BinOp}{k:IntKind}{a b:Int}{v:SV}(h:vQ op k a b=some v)(hs:lA op=false):∃p,PQ op k a b=some (p,v)/\p:=by
 cases op<;>simp only[vQ]at h<;>first
  |(cases hs;done)
  |(obtain⟨h1,rfl⟩:=bC h;exact⟨_,rfl,h1⟩)
  |(cases h;exact⟨True,rfl,trivial⟩)
theorem QO{op:BinOp}{a b v:SV}(h:DD op a b=some v):∃p,wj op a b=some (p,v)/\p:=by
 unfold DD at h;split at h
 ·rename_i k a k' b
  split at h
  ·rename_i hc
   by_cases hs:lA op=true
   ·cases op<;>first
     |(cases hs;done)
     |(simp only[vQ]at h;obtain⟨h1,rfl⟩:=bC h;exact⟨_,rfl,h1⟩)
   ·have hs':lA op=false:=by simpa using hs
    have hk:k=k':=hc.resolve_left hs;obtain⟨p,h1,h2⟩:=E3 h hs';refine⟨p, ?_,h2⟩;subst hk;cases op<;>first|(cases hs';done)|(simp only[wj,if_true];exact h1)
  ·cases h
 ·rename_i a k b
  show ∃p,Rv op a b=some (p,v)/\p
  cases op<;>simp only[MZ]at h<;>first
   |(cases h;done)
   |(obtain⟨h1,rfl⟩:=bC h;exact⟨_,rfl,h1⟩)
 ·rename_i a b
  show ∃p,CY op a b=some (p,v)/\p
  cases op<;>simp only[wH]at h<;>first
   |(cases h;done)
   |(obtain⟨h1,rfl⟩:=bC h;exact⟨_,rfl,h1⟩)
   |(cases h;exact⟨True,rfl,trivial⟩)
 ·rename_i a b
  show ∃p,Ry op a b=some (p,v)/\p
  cases op<;>simp only[M3]at h<;>first
   |(cases h;done)
   |(obtain⟨h1,rfl⟩:=bC h;exact⟨_,rfl,h1⟩)
   |(cases h;exact⟨True,rfl,trivial⟩)
 ·cases h
theorem ue(hS:Sim N c s){n:Nat}{ag:Bool}{u v:SV}(h:ld c n ag u=some v):∃p,gT s n ag u=some (p,v)/\p:=by
 cases u with
 |pp cs=>obtain⟨h1,rfl⟩:=bC h;exact⟨_,rfl,h1⟩
 |ptr o off=>
  simp only[ld]at h;simp only[gT,hS.look];split at h
  ·rename_i cs hl;rw[hl];obtain⟨h1,rfl⟩:=bC h;exact⟨_,rfl,h1⟩
  ·rename_i sz xs hl;rw[hl];obtain⟨⟨h1,h2⟩,rfl⟩:=bC h;subst h1;exact⟨_,rfl,h2,hS.rows hl⟩
  ·rename_i l hl;rw[hl];obtain⟨⟨h1,h2⟩,rfl⟩:=bC h;subst h1;exact⟨_,rfl,h2⟩
  ·cases h
 |ap o sz i j=>
  simp only[ld]at h;simp only[gT,hS.look];split at h
  ·rename_i sz' xs hl
   rw[hl];obtain⟨⟨h1,h2,h3⟩,rfl⟩:=bC h;refine⟨_,rfl,h1,h2,h3, ?_⟩;rw[aa,ab h2,h1];exact hS.rows hl _ (bi _)
  ·rename_i l hl;rw[hl];obtain⟨h1,rfl⟩:=bC h;exact⟨_,rfl,h1⟩
  ·cases h
 |_=>cases h
theorem lw(hS:Sim N c s)(x:Option Arg)(n:Int):gR s x n=jL c x n:=by
 cases x with
 |none=>rfl
 |some a=>simp only[gR,jL,hS.ev]
theorem y7(hS:Sim N c s){sz:Nat}{u v:SV}{lo hi mx:Option Arg}(h:mE c sz u lo hi mx=some v):∃p,iN s sz u lo hi mx=some (p,v)/\p:=by
 cases u with
 |byt l t=>
  simp only[mE]at h;simp only[iN,lw hS];split at h<;>try (cases h;done)
  rename_i a b m h1 h2 h3;rw[h1,h2,h3];obtain⟨h4,rfl⟩:=bC h;exact⟨_,rfl,h4⟩
 |lst sz' l t=>
  simp only[mE]at h;simp only[iN,lw hS];split at h<;>try (cases h;done)
  rename_i a b m h1 h2 h3;rw[h1,h2,h3];obtain⟨h4,rfl⟩:=bC h;exact⟨_,rfl,h4⟩
 |psl o sz' off n cap=>
  cases cap with
  |none=>
   simp only[mE]at h;simp only[iN,lw hS];split at h<;>try (cases h;done)
   rename_i a b h1 h2;rw[h1,h2];obtain⟨h4,rfl⟩:=bC h;exact⟨_,rfl,h4⟩
  |some cap=>
   simp only[mE]at h;simp only[iN,lw hS];split at h<;>try (cases h;done)
   rename_i a b m h1 h2 h3;rw[h1,h2,h3];obtain⟨h4,rfl⟩:=bC h;exact⟨_,rfl,h4⟩
 |_=>cases h
theorem lW(hS:Sim N c s){u:SV}{l:List UInt8}(h:dY c u=some l):∃p,bytesOf s u=some (p,l)/\p:=by
 cases u with
 |byt l t=>cases h;exact⟨True,rfl,trivial⟩
 |str l=>cases h;exact⟨True,rfl,trivial⟩
 |psl o sz off n cap=>
  simp only[dY]at h;simp only[bytesOf,hS.look];split at h
  ·rename_i l' hl;rw[hl];obtain⟨h1,rfl⟩:=bC h;exact⟨_,rfl,h1⟩
  ·cases h
 |_=>cases h
theorem jI(hS:Sim N c s){u:SV}{sz:Nat}{l:List (List SV)}(h:fb c sz u=some l):∃p,ji s sz u=some (p,l)/\p:=by
 cases u with
 |lst sz' l t=>obtain⟨h1,rfl⟩:=bC h;exact⟨_,rfl,h1⟩
 |psl o sz' off n cap=>
  simp only[fb]at h;simp only[ji,hS.look];split at h
  ·rename_i sz'' xs hl
   rw[hl];obtain⟨⟨h1,h2,h3⟩,rfl⟩:=bC h;exact⟨_,rfl,h1,h2,h3,by rw[h2];exact hS.rows hl⟩
  ·cases h
 |_=>cases h
theorem xaL(hS:Sim N c s)(ps:List (Nat×Nat×Arg)):psC c ps=ps.map fun(o,n,x)=>(o,n,s.ev x):=by
 induction ps with
 |nil=>rfl
 |cons p r ih=>obtain⟨o,n,x⟩:=p;simp only[psC,aC,ih,hS.ev]
theorem Ob(hS:Sim N c s){so:SOp}{v:SV}(h:cA c so=some v):∃p,val s so=some (p,v)/\p:=by
 cases so with
 |mov x=>cases h;exact⟨True,by simp only[val,hS.ev],trivial⟩
 |build z ps=>simp only[cA,xaL hS]at h;obtain⟨l,h1,rfl⟩:=ae.1 h;exact⟨True,by simp only[val,h1,bn],trivial⟩
 |lit sz xs=>simp only[cA,hS.evL]at h;obtain⟨l,h1,rfl⟩:=ae.1 h;exact⟨True,by simp only[val,h1,bn],trivial⟩
 |litB xs=>simp only[cA,hS.evL]at h;obtain⟨l,h1,rfl⟩:=ae.1 h;exact⟨True,by simp only[val,h1,bn],trivial⟩
 |load n ag a=>simp only[val,hS.ev];exact ue hS h
 |nchk x=>simp only[cA]at h;simp only[val,hS.ev];cases hx:c.ev x<;>rw[hx]at h<;>first|(cases h;done)|(cases h;exact⟨True,rfl,trivial⟩)
 |bin op x y=>simp only[val,hS.ev];exact QO h
 |beq ne x y=>
  simp only[cA]at h;simp only[val,hS.ev];split at h<;>try (cases h;done)
  rename_i a b h1 h2;cases h;rw[h1,h2];exact⟨True,rfl,trivial⟩
 |eqS ne ts x y=>
  simp only[cA]at h;simp only[val,hS.ev];split at h<;>try (cases h;done)
  rename_i a b h1 h2;obtain⟨l,h3,rfl⟩:=ae.1 h;rw[h1,h2];exact⟨True,by simp only[h3,bn],trivial⟩
 |un op x=>simp only[cA]at h;exact⟨True,by simp only[val,hS.ev,h,bn],trivial⟩
 |toInt k x=>simp only[cA]at h;exact⟨True,by simp only[val,hS.ev,h,bn],trivial⟩
 |toStr x=>
  simp only[cA]at h;simp only[val,hS.ev];split at h<;>try (cases h;done)
  all_goals
   rename_i h1;cases h;rw[h1];exact⟨True,rfl,trivial⟩
 |slid x=>simp only[cA]at h;cases h
 |newB x=>simp only[cA]at h;cases h
 |isni ne x=>
  simp only[cA]at h;simp only[val,hS.ev];split at h<;>try (cases h;done)
  rename_i h1;cases h;rw[h1];exact⟨True,rfl,trivial⟩
 |s2b x=>
  simp only[cA]at h;simp only[val,hS.ev];split at h<;>try (cases h;done)
  rename_i l h1;cases h;rw[h1];exact⟨True,rfl,trivial⟩
 |b2s x=>
  simp only[cA]at h;simp only[val,hS.ev];cases hx:c.ev x with
  |byt l t=>rw[hx]at h;cases h;exact⟨True,rfl,trivial⟩
  |psl o sz off n cap=>
   rw[hx]at h;simp only[dY]at h;simp only[wq,hS.look];obtain⟨l,h1,rfl⟩:=ae.1 h;split at h1
   ·rename_i l' hl;rw[hl];obtain⟨h2,rfl⟩:=bC h1;exact⟨_,rfl,h2⟩
   ·cases h1
  |_=>rw[hx]at h;cases h
 |mkfn f a b=>simp only[cA,hS.evL]at h;cases h;exact⟨True,rfl,trivial⟩
 |slcS x lo hi=>
  simp only[cA]at h;simp only[val,hS.ev];split at h<;>try (cases h;done)
  rename_i l hx;rw[hx];simp only[lw hS];split at h<;>try (cases h;done)
  rename_i a b h1 h2;rw[h1,h2];obtain⟨h4,rfl⟩:=bC h;exact⟨_,rfl,h4⟩
 |slcL sz x lo hi mx=>simp only[val,hS.ev];exact y7 hS h
 |slcA len sz x lo hi mx=>
  simp only[cA]at h;simp only[val,hS.ev];split at h<;>try (cases h;done)
  rename_i o off hx;split at h<;>try (cases h;done)
  rename_i ho;subst ho;rw[hx];exact y7 hS h
 |faddr off x=>simp only[cA]at h;simp only[val,hS.ev];cases hx:c.ev x<;>rw[hx]at h<;>first|(cases h;done)|(cases h;exact⟨True,rfl,trivial⟩)
 |fld off n ag x=>
  simp only[cA]at h;simp only[val,hS.ev];split at h<;>try (cases h;done)
  rename_i cs hx;rw[hx];obtain⟨h4,rfl⟩:=bC h;exact⟨_,rfl,h4⟩
 |iaddrL sz x i=>
  simp only[cA]at h;simp only[val,hS.ev];split at h<;>try (cases h;done)
  all_goals
   rename_i h1 h2;rw[h1,h2];obtain⟨h4,rfl⟩:=bC h;exact⟨_,rfl,h4⟩
 |iaddrA len sz x i=>
  simp only[cA]at h;simp only[val,hS.ev,hS.look];split at h<;>try (cases h;done)
  ·rename_i o off n h1 h2
   rw[h1,h2];simp only;split at h<;>try (cases h;done)
   ·rename_i cs hl
    rw[hl];obtain⟨h4,rfl⟩:=bC h;exact⟨_,rfl,h4⟩
   ·rename_i ob hno hl
    rw[hl];obtain⟨⟨h4,h5⟩,rfl⟩:=bC h;cases ob with
    |rc cs=>exact absurd rfl (hno cs)
    |_=>simp only[h4,if_true];exact⟨_,rfl,h5⟩
  ·rename_i cs n h1 h2
   rw[h1,h2];obtain⟨h4,rfl⟩:=bC h;exact⟨_,rfl,h4⟩
 |idxA len sz ag x i=>
  simp only[cA]at h;simp only[val,hS.ev];split at h<;>try (cases h;done)
  rename_i h1 h2;rw[h1,h2];obtain⟨h4,rfl⟩:=bC h;exact⟨_,rfl,h4⟩
 |idxS x i=>
  simp only[cA]at h;simp only[val,hS.ev];split at h<;>try (cases h;done)
  rename_i h1 h2;rw[h1,h2];obtain⟨h4,rfl⟩:=bC h;exact⟨_,rfl,h4⟩
 |ext x i=>
  simp only[cA]at h;simp only[val,hS.ev];split at h<;>try (cases h;done)
  rename_i vs hx;rw[hx];obtain⟨h4,rfl⟩:=bC h;exact⟨_,rfl,h4⟩
 |len b x=>simp only[cA]at h;obtain⟨n,h1,rfl⟩:=ae.1 h;exact⟨True,by simp only[val,hS.ev,h1],trivial⟩
 |lenC n=>cases h;exact⟨True,rfl,trivial⟩
 |cap x=>
  simp only[cA]at h;simp only[val,hS.ev];cases hx:c.ev x with
  |psl o sz off n m=>cases m<;>rw[hx]at h<;>cases h;exact⟨True,rfl,trivial⟩
  |byt l t=>rw[hx]at h;simp only at h;split at h<;>cases h;rename_i ht;subst ht;exact⟨True,rfl,trivial⟩
  |lst sz l t=>rw[hx]at h;simp only at h;split at h<;>cases h;rename_i ht;subst ht;exact⟨True,rfl,trivial⟩
  |_=>rw[hx]at h;cases h
 |mini x y=>
  simp only[cA]at h;simp only[val,hS.ev];split at h<;>try (cases h;done)
  rename_i h1 h2;rw[h1,h2];simp only;split at h<;>cases h;rename_i hk;exact⟨True,by rw[if_pos hk],trivial⟩
 |maxi x y=>
  simp only[cA]at h;simp only[val,hS.ev];split at h<;>try (cases h;done)
  rename_i h1 h2;rw[h1,h2];simp only;split at h<;>cases h;rename_i hk;exact⟨True,by rw[if_pos hk],trivial⟩
 |_=>cases h
end Go.Sy
namespace Go.Sy
variable [bd]
variable {P : Program} {C : Ctx} {x : Sit} {a : Act} {w : World} {o : Oper} {so : SOp} {N : Nat} {c c' : CSt} {s : St} {d : Option Nat}
def M(C:Ctx)(N:Nat)(c:CSt):Act->World->Prop:=Dt C (Sim N c)
theorem Sim.purge(h:Sim N c s)(lo hi:Nat):Sim N (c.purge lo hi) (s.purge lo hi):=by
 refine⟨⟨fun p hp=> ?_,tx h.inv.so,fun p hp=> ?_⟩, ?_,fun o=> ?_,fun t=> ?_⟩
 ·obtain⟨q,hq,e⟩:=iS hp
  rw[e];exact h.inv.dom q hq
 ·obtain⟨_,ob,h1,h2⟩:=b9 hp
  rw[h2];exact nX (h.inv.wf _ h1)
 ·show SV.purgeL lo hi s.tm=_
  rw[h.tm,dd,List.map_map];apply List.map_congr_left;intro i _;exact(fx lo hi i c.tm).symm
 ·show(bw lo hi s.ob).lookup o=gU (bw lo hi c.ob) o
  have:=h.look o;unfold St.look CSt.look at this;rw[gL]at this ⊢;rw[iY,iY,this]
 ·show t∈cf lo hi s.tk↔t∈cf lo hi c.tk
  rw[bA,bA,h.tk]
theorem Sim.addO(h:Sim N c s)(k:Nat){ob:aE}(hw:ob.wf=true):Sim N ⟨c.tm,hU c.ob k ob,c.tk⟩ (s.addO k ob):=by
 refine⟨⟨h.inv.dom,sk h.inv.so,fun p hp=> ?_⟩,h.tm,fun o=> ?_,h.tk⟩
 ·rcases jM hp with e|e
  ·rw[e];exact hw
  ·exact h.inv.wf p e
 ·show((k,ob)::s.ob).lookup o=gU (hU c.ob k ob) o
  have:=h.look o;unfold St.look CSt.look at this;rw[ow];simp only[List.lookup]
  by_cases he:o=k
  ·subst he;simp
  ·have:(o==k)=false:=by simpa using he
   rw[this,if_neg he];exact h.look o
theorem jA(k:Nat)(ob:aE)(o:Nat):∀l:List (Nat×aE),(Sy.setO k ob l).lookup o=if o=k/\(l.lookup k).isSome=true then some ob else l.lookup o
 |[]=>by simp[Sy.setO]
 |p::r=>by
  simp only[Sy.setO]
  by_cases hp:p.1=k
  ·rw[if_pos hp]
   subst hp;simp only[List.lookup]
   by_cases ho:o=p.1
   ·subst ho;simp
   ·have:(o==p.1)=false:=by simpa using ho
    simp[this,ho]
  ·rw[if_neg hp]
   have h1:(k==p.1)=false:=by simpa using Ne.symm hp
   simp only[List.lookup,h1,jA k ob o r]
   by_cases ho:o=p.1
   ·subst ho;simp[hp]
   ·have:(o==p.1)=false:=by simpa using ho
    simp[this]
theorem Sim.setO(h:Sim N c s){k:Nat}{ob:aE}(hl:(c.look k).isSome=true)(hw:ob.wf=true):Sim N ⟨c.tm,hU c.ob k ob,c.tk⟩ (s.setO k ob):=by
 refine⟨⟨h.inv.dom,sk h.inv.so,fun p hp=> ?_⟩,h.tm,fun o=> ?_,h.tk⟩
 ·rcases jM hp with e|e
  ·rw[e];exact hw
  ·exact h.inv.wf p e
 ·show(Sy.setO k ob s.ob).lookup o=gU (hU c.ob k ob) o
  rw[ow,jA]
  have h1:(s.ob.lookup k).isSome=true:=by have:=h.look k;unfold St.look at this;rw[this];exact hl
  by_cases he:o=k
  ·rw[if_pos ⟨he,h1⟩,if_pos he]
  ·rw[if_neg (fun e=>he e.1),if_neg he];exact h.look o
theorem Sim.tks(h:Sim N c s){l k:List Nat}(hlk:∀t,t∈l↔t∈k):Sim N ⟨c.tm,c.ob,k⟩ ⟨s.tm,s.ob,l⟩:=⟨⟨h.inv.dom,h.inv.so,h.inv.wf⟩,h.tm,h.look,hlk⟩
theorem EN{t:Tok}{l k:List Nat}(h:∀t,t∈l↔t∈k)(n:Nat):n∈t.eat l↔n∈t.eat k:=by
 cases t with
 |id t=>simp only[Tok.eat,bA,h]
 |_=>exact h n
structure DG(e:mL)(f:Eff):Prop where
 val:f.val=e.val
 wr:f.wr=e.wr
 new:f.new=e.new
 eat:f.eat=e.eat
 tok:f.tok=e.tok
structure DK(c:CSt)(e:mL):Prop where
 new:∀ob,e.new=some ob->ob.wf=true
 wr:e.wr=[]\/∃k ob,e.wr=[(k,ob)]/\(c.look k).isSome=true/\ob.wf=true
theorem Sim.app(h:Sim N c s)(hd:∀k,d=some k->k<N){e:mL}{f:Eff}(hs:DG e f)(hg:DK c e):Sim N (c.app d e) (s.app d f):=by
 unfold CSt.app St.app;rw[hs.new,hs.tok,hs.val,hs.wr,hs.eat];cases hn:e.new with
 |some ob=>exact((h.purge _ _).addO _ (nX (hg.new ob hn))).put hd _
 |none=>
  cases ht:e.tok with
  |true=>refine Sim.put (c:=⟨_,_,_⟩) ?_ hd _;refine((h.purge (d.getD 0+100) (d.getD 0+100+1)).tks (fun t=> ?_));rw[jN,an,bA,bA,EN h.tk]
  |false=>
   rcases hg.wr with hw|⟨k,ob,hw,h1,h2⟩
   ·rw[hw];exact h.put hd _
   ·rw[hw];exact(h.setO h1 h2).put hd _
theorem DG.v(v:SV)(p:Prop):DG {val:=v} {pre:=p,val:=v}:=⟨rfl,rfl,rfl,rfl,rfl⟩
theorem DK.v(v:SV):DK c {val:=v}:=⟨fun ob h=>(by cases h),.inl rfl⟩
theorem Zp(n:Nat)(z:List SV):(aE.arr z.length (aD n z)).wf=true:=by simp only[aE.wf,aU,decide_eq_true_eq];intro y hy;rw[(List.mem_replicate.1 hy).2]
theorem iz{sz:Nat}{xs:List (List SV)}:(aE.arr sz xs).wf=true↔∀y∈xs,y.length=sz:=by simp only[aE.wf,aU,decide_eq_true_eq]
theorem uI(sz:Nat):∀(m:Nat)(v:List SV),v.length=m*sz->∀y∈i5 sz m v,y.length=sz
 |0,_,_,y,hy=>by cases hy
 |m+1,v,h,y,hy=>by
  rw[df]at h;simp only[i5]at hy;rcases an.1 hy with rfl|hy
  ·rw[ax];omega
  ·exact uI sz m (v.drop sz) (by rw[aQ];omega) y hy
theorem BY{sz:Nat}{xs:List (List SV)}{i j n:Nat}{v:List SV}(h:∀y∈xs,y.length=sz)(hi:i<xs.length)(hj:j+n<=sz)(hv:v.length=n):∀y∈iB sz xs i j n v,y.length=sz:=by
 intro y hy;unfold iB at hy;split at hy
 ·rename_i hc
  rcases List.mem_or_eq_of_mem_set hy with h1|h1
  ·exact h y h1
  ·rw[h1,hv];exact hc.2
 ·rcases List.mem_or_eq_of_mem_set hy with h1|h1
  ·exact h y h1
  ·have:(xs.getD i []).length=sz:=by
    rw[aa,ab hi];exact h _ (bi _)
   rw[h1];simp only[ac,ax,aQ,this,hv];omega
theorem pK(h:Sim N c s){t:Tok}(hr:t.readyC c=true):t.ready s=true:=by
 cases t with
 |no=>cases hr
 |clip=>rfl
 |id t=>simp only[Tok.readyC,ep,decide_eq_true_eq]at hr;simp only[Tok.ready,ep,decide_eq_true_eq];exact(h.tk t).2 hr
theorem OD(hM:aM C x s a w){y:Arg}(hy:y.isT=true):Rep x (s.ev y) (match y with| .t n=>a.tmps.getD n Go.undef|_=>Go.undef):=by
 cases y with
 |t n=>exact hM.slot n
 |_=>cases hy
theorem Fj(h:Sim N c s){e:mL}(he:dD c d so=some e)(hp:∀q y z,so≠ .pick q y z)(hn:∀ne q,so≠ .isnil ne q)(hcp:∀sz q y,so≠ .cpy sz q y):∃f,eff s d so=some f/\f.pre/\DG e f/\DK c e:=by
 have plain:∀{so:SOp},dD c d so=yQ (cA c so)->(eff s d so=match val s so with|some (p,v)=>some {pre:=p,val:=v}|none=>none)->dD c d so=some e->∃f,eff s d so=some f/\f.pre/\DG e f/\DK c e:=by
  intro so h1 h2 h3;rw[h1]at h3;cases hv:cA c so with
  |none=>rw[hv]at h3;cases h3
  |some v=>rw[hv]at h3;cases h3;obtain⟨p,h4,h5⟩:=Ob h hv;exact⟨{pre:=p,val:=v},by rw[h2,h4],h5,DG.v v p,DK.v v⟩
 cases so with
 |pick q y z=>exact absurd rfl (hp q y z)
 |isnil ne q=>exact absurd rfl (hn ne q)
 |call _ _=>cases he
 |newB _=>cases he
 |slid _=>cases he
 |new ob=>
  simp only[dD]at he;split at he<;>try (cases he;done)
  obtain⟨h1,rfl⟩:=bC he;exact⟨_,rfl,trivial,⟨rfl,rfl,rfl,rfl,rfl⟩,⟨fun ob' e=>(by cases e;exact h1),.inl rfl⟩⟩
 |box q=>simp only[dD]at he;split at he<;>cases he;exact⟨_,rfl,trivial,⟨rfl,rfl,by simp only[h.ev],rfl,rfl⟩,⟨fun ob' e=>(by cases e;rfl),.inl rfl⟩⟩
 |mk z bytes n m=>
  simp only[dD]at he;simp only[eff,h.ev];split at he<;>try (cases he;done)
  rename_i h1 h2;rw[h1,h2];obtain⟨h1,rfl⟩:=bC he;exact⟨_,rfl,h1,⟨rfl,rfl,rfl,rfl,rfl⟩,⟨fun ob' e=>(by cases e;exact Zp _ z),.inl rfl⟩⟩
 |mkB n m=>
  simp only[dD]at he;simp only[eff,h.ev];split at he<;>try (cases he;done)
  rename_i h1 h2;rw[h1,h2];obtain⟨h1,rfl⟩:=bC he;exact⟨_,rfl,h1,⟨rfl,rfl,rfl,rfl,rfl⟩,⟨fun ob' e=>(by cases e;rfl),.inl rfl⟩⟩
 |store n q y=>
  simp only[dD]at he;simp only[eff,h.ev];split at he<;>try (cases he;done)
  rename_i hdef;rw[hdef];simp only;unfold ke at he;unfold oL;split at he
  ·rename_i o' off hq
   rw[hq];simp only[h.look];split at he<;>try (cases he;done)
   ·rename_i cs hl
    rw[hl];obtain⟨h1,rfl⟩:=bC he;exact⟨_,rfl,h1,⟨rfl,rfl,rfl,rfl,rfl⟩,⟨fun ob' e=>(by cases e),.inr ⟨_,_,rfl,by rw[hl];rfl,rfl⟩⟩⟩
   ·rename_i sz xs hl
    rw[hl];obtain⟨⟨h1,h2,h3,h4⟩,rfl⟩:=bC he
    exact⟨_,rfl,⟨h1,h2,h3,h4⟩,⟨rfl,rfl,rfl,rfl,rfl⟩,
     ⟨fun ob' e=>(by cases e),.inr ⟨_,_,rfl,by rw[hl];rfl,iz.2 (uI sz _ _ (by rw[aN];omega))⟩⟩⟩
   ·rename_i l hl
    rw[hl];simp only at he ⊢;split at he<;>try (cases he;done)
    rename_i l' hv;rw[hv];obtain⟨h1,rfl⟩:=bC he;exact⟨_,rfl,h1,⟨rfl,rfl,rfl,rfl,rfl⟩,⟨fun ob' e=>(by cases e),.inr ⟨_,_,rfl,by rw[hl];rfl,rfl⟩⟩⟩
  ·rename_i o' sz i j hq
   rw[hq];simp only[h.look];split at he<;>try (cases he;done)
   ·rename_i sz' xs hl
    rw[hl];obtain⟨⟨h1,h2,h3,h4,h5⟩,rfl⟩:=bC he
    exact⟨_,rfl,⟨h1,h2,h3,h4,by rw[h1];exact h.rows hl,h5⟩,⟨rfl,rfl,rfl,rfl,rfl⟩,
     ⟨fun ob' e=>(by cases e),.inr ⟨_,_,rfl,by rw[hl];rfl,iz.2 (by subst h1;exact BY (h.rows hl) h2 h3 (by simpa using h4))⟩⟩⟩
   ·rename_i l hl
    rw[hl];simp only at he ⊢;split at he<;>try (cases he;done)
    rename_i b hv;rw[hv];obtain⟨h1,rfl⟩:=bC he;exact⟨_,rfl,h1,⟨rfl,rfl,rfl,rfl,rfl⟩,⟨fun ob' e=>(by cases e),.inr ⟨_,_,rfl,by rw[hl];rfl,rfl⟩⟩⟩
  ·cases he
 |app z bytes q y=>
  simp only[dD]at he;simp only[eff,h.ev];split at he<;>try (cases he;done)
  split at he<;>try (cases he;done)
  ·rename_i l t hq
   rw[hq];obtain⟨l',h1,h2⟩:=Option.bind_eq_some_iff.1 he;obtain⟨p,h3,h4⟩:=lW h h1;obtain⟨⟨g1,g2,g3,g4⟩,rfl⟩:=bC h2;simp only[h3];exact⟨_,rfl,⟨h4,g1,g2,pK h g3,g4⟩,⟨rfl,rfl,rfl,rfl,rfl⟩,⟨fun ob' e=>(by cases e),.inl rfl⟩⟩
  ·rename_i sz' l t hq
   rw[hq];obtain⟨l',h1,h2⟩:=Option.bind_eq_some_iff.1 he;obtain⟨p,h3,h4⟩:=jI h h1;obtain⟨⟨g1,g3,g4⟩,rfl⟩:=bC h2;simp only[h3];exact⟨_,rfl,⟨h4,g1,pK h g3,g4⟩,⟨rfl,rfl,rfl,rfl,rfl⟩,⟨fun ob' e=>(by cases e),.inl rfl⟩⟩
 |cpy sz q y=>exact absurd rfl (hcp sz q y)
 |appO z bytes q y=>cases he
 |clr z q=>
  simp only[dD]at he;simp only[eff,h.ev];split at he<;>try (cases he;done)
  rename_i o' sz' off n cap hq;rw[hq];simp only[h.look];split at he<;>try (cases he;done)
  rename_i sz'' xs hl;rw[hl];obtain⟨⟨g0,g1,g2,g3⟩,rfl⟩:=bC he;have hrows:=h.rows hl;refine⟨_,rfl,⟨g0,g1,g2,g3,by rw[g2];exact hrows⟩,⟨rfl,rfl,rfl,rfl,rfl⟩,⟨fun ob' e=>(by cases e),.inr ⟨_,_,rfl,by rw[hl];rfl,iz.2 ?_⟩⟩⟩;intro r hr;rcases al.1 hr with hr|hr
  ·rcases al.1 hr with hr|hr
   ·rw[g2];exact hrows r (b8 hr)
   ·rw[(List.mem_replicate.1 hr).2]
  ·rw[g2];exact hrows r (CW hr)
 |appM z bytes q y=>cases he
 |ovl q y=>cases he
 |_=>exact plain (qh rfl) rfl he
theorem Qv(P:Program)(h:Sim N c s)(hM:aM C x s a w){e:mL}(he:dD c d so=some e)(hp:∀q y z,so≠ .pick q y z)(hn:∀ne q,so≠ .isnil ne q):∃f,eff s d so=some f/\f.pre/\DG e f/\DK c e:=by
 by_cases hcp:∃sz q y,so= .cpy sz q y
 ·obtain⟨sz,q,y,rfl⟩:=hcp
  simp only[dD]at he;simp only[eff,h.ev];split at he<;>try (cases he;done)
  rename_i o' sz' off n cap hq;rw[hq];simp only[h.look];split at he<;>try (cases he;done)
  ·rename_i l hl
   rw[hl];obtain⟨l',h1,h2⟩:=Option.bind_eq_some_iff.1 he;obtain⟨p,h3,h4⟩:=lW h h1;obtain⟨⟨g1,g2,g3⟩,rfl⟩:=bC h2;simp only[h3];exact⟨_,rfl,⟨h4,g1,g2,g3⟩,⟨rfl,rfl,rfl,rfl,rfl⟩,⟨fun ob' e=>(by cases e),.inr ⟨_,_,rfl,by rw[hl];rfl,rfl⟩⟩⟩
  ·rename_i sz'' xs hl
   rw[hl];obtain⟨l',h1,h2⟩:=Option.bind_eq_some_iff.1 he;obtain⟨p,h3,h4⟩:=jI h h1;obtain⟨⟨g0,g1,g2,g3⟩,rfl⟩:=bC h2;simp only[h3];have hrows:=h.rows hl;obtain⟨_,hl',_⟩:=nZ (P:=P) hM (OD hM g0) (by rw[h.ev];exact h3) h4;refine⟨_,rfl,⟨h4,g1,g2,g3,by rw[g2];exact hrows⟩,⟨rfl,rfl,rfl,rfl,rfl⟩,⟨fun ob' e=>(by cases e),.inr ⟨_,_,rfl,by rw[hl];rfl,iz.2 ?_⟩⟩⟩;intro r hr;rcases al.1 hr with hr|hr
   ·rcases al.1 hr with hr|hr
    ·rw[g2];exact hrows r (b8 hr)
    ·exact hl' r (b8 hr)
   ·rw[g2];exact hrows r (CW hr)
 ·exact Fj h he hp hn (fun sz q y e=>hcp ⟨sz,q,y,e⟩)
theorem xd8(h:M C N c a w)(hr:bp P o=some so)(hd:∀k,o.dst=some k->k<N)(hc:ma c o.dst (dD c o.dst so)=some c'){K:Act->World->Prop}{Q:Exit->Act->World->Prop}(hK:∀a w,M C N c' a w->K a w):o.wp P a w K Q:=by
 obtain⟨x,s,hM,hS⟩:=h;cases he:dD c o.dst so with
 |none=>rw[he]at hc;cases hc
 |some e=>
  rw[he]at hc;simp only[ma,aq.injEq]at hc;subst hc
  by_cases hp:∃q y z,so= .pick q y z
  ·obtain⟨q,y,z,rfl⟩:=hp
   simp only[dD]at he;split at he<;>cases he;rename_i t ht;have hd':=CN hM hr (t:=t) (by rw[hS.ev];exact ht);refine cU hd' (k:=Sim N (c.app o.dst {val:=gI t (c.ev y) (c.ev z)})) ?_ hK;have:(if t=true then s.ev y else s.ev z)=gI t (c.ev y) (c.ev z):=by rw[hS.ev,hS.ev];rfl
   rw[this];exact hS.put hd _
  ·by_cases hn:∃ne q,so= .isnil ne q
   ·obtain⟨ne,q,rfl⟩:=hn
    have key:∃b,b=ne/\bX P C o a w (s.put o.dst (.bool b)):=by
     refine we hM hr (K:=fun b=>b=ne) ?_;rw[hS.ev];simp only[dD]at he;split at he<;>try (cases he;done)
     ·rename_i l t hl
      obtain⟨h1,_⟩:=bC he
      try rw[hl]
      intro b hb;cases b
      ·cases ne<;>rfl
      ·exact absurd (hb rfl) h1
     ·rename_i sz l t hl
      obtain⟨h1,_⟩:=bC he
      try rw[hl]
      intro b hb;cases b
      ·cases ne<;>rfl
      ·exact absurd (hb rfl) h1
     ·rename_i hl
      first
       |rw[hl]
       |rfl
    obtain⟨b,rfl,hd'⟩:=key;refine cU hd' (k:=Sim N (c.app o.dst e)) ?_ hK
    have:e= {val:= .bool b}:=by
     simp only[dD]at he;split at he
     ·obtain⟨_,h2⟩:=bC he;exact h2.symm
     ·obtain⟨_,h2⟩:=bC he;exact h2.symm
     ·exact(aq.inj he).symm
     ·cases he
    rw[this];exact hS.put hd _
   ·obtain⟨f,h1,h2,h3,h4⟩:=Qv P hS hM he (fun q y z e=>hp ⟨q,y,z,e⟩) (fun ne q e=>hn ⟨ne,q,e⟩)
    exact cU (Qt hM hr h1 h2) (k:=Sim N (c.app o.dst e)) (hS.app hd h3 h4) hK
end Go.Sy
namespace Go.Sy
variable [bd]
variable {P : Program} {C : Ctx} {x : Sit} {a : Act} {w : World} {N : Nat} {c c' : CSt} {s : St}
theorem Sim.exact(h:Sim N c s)(hM:aM C x s a w):aM C x (c.st N) a w:=
 ⟨by show cd x ((bD N).map c.get) _;rw[<-h.tm];exact hM.tm,hM.defers,hM.heap.only (fun p hp=>by have h1:=iE (iA h.inv.so) hp;have h2:s.look p.1=some p.2:=(h.look p.1).trans h1;exact cM h2) (iA h.inv.so) (fun t ht=>(h.tk t).2 ht)⟩
theorem M.slots(h:M C N c a w)(hi:Inv N c')(ho:c'.ob=c.ob)(ht:c'.tk=c.tk)(hg:∀i,c'.get i=c.get i\/c'.get i= .undef):M C N c' a w:=by
 obtain⟨x,s,hM,hS⟩:=h;have hE:=hS.exact hM;refine⟨x,c'.st N,⟨⟨?_,fun i hi'=> ?_⟩,hM.defers, ?_⟩,Sim.of hi⟩
 ·have:=hE.tm.1;simpa[CSt.st]using this
 ·have h1:=hE.tm.2 i (by simpa[CSt.st]using hi')
  have hiN:i<N:=by simpa[CSt.st]using hi'
  simp only[CSt.st,aa,aO,bW hiN,bn,aX]at h1 ⊢;rcases hg i with e|e
  ·rw[e];exact h1
  ·rw[e];exact .undef _
 ·show cL C x c'.ob c'.tk w
  rw[ho,ht];exact hE.heap
theorem Inv.kill(h:Inv N c)(l:List Nat):Inv N (c.kill l):=by
 cases l with
 |nil=>exact h
 |cons n r=>exact⟨fun p hp=>h.dom p (oh hp),h.so,h.wf⟩
theorem M.kill(h:M C N c a w)(l:List Nat):M C N (c.kill l) a w:=by
 have hi:Inv N c:=by obtain⟨x,s,_,hS⟩:=h;exact hS.inv
 cases l with
 |nil=>exact h
 |cons n r=>
  refine h.slots (hi.kill _) rfl rfl fun i=> ?_
  have e:=ov (n::r) i c.tm
  by_cases hc:(n::r).contains i=true
  ·exact .inr (e.trans (if_pos hc))
  ·exact .inl (e.trans (if_neg hc))
theorem M.purge(h:M C N c a w)(lo hi:Nat):M C N (c.purge lo hi) a w:=by obtain⟨x,s,hM,hS⟩:=h;exact⟨x,_,hM.purge lo hi,hS.purge lo hi⟩
theorem M.gc:∀{l:List Nat}{c:CSt},M C N c a w->M C N (gcC c l) a w
 |[],_,h=>h
 |o::r,c,h=>by show M C N (gcC (c.purge o (o+1)) r) a w;exact M.gc (h.purge o (o+1))
theorem kR{o:Nat}{obj:aE}(cs:List SV):SV.pubL o obj cs=cs.map (SV.pub o obj):=by
 induction cs with
 |nil=>rfl
 |cons c r ih=>simp only[SV.pubL,aC,ih]
theorem Rep.pub{x x':Sit}{o:Nat}{obj:aE}(hβ:x'.bk=x.bk)(hτ:x'.τ=x.τ)(hG:∀b i u,x.G b i=some u->x'.G b i=some u)
 (hcell:∀k,k<obj.size->∃u,x'.G ((x.bk o).1) k=some u/\cw x'.G (obj.cell k) u) (hwf:obj.wf=true) {sv:SV} {v:Value} (h:Rep x sv v):Rep x' (sv.pub o obj) v:=by
 induction h with
 |undef v=>exact .undef v
 |dat s v h ht=>
  have:s.pub o obj=s:=by cases h<;>rfl
  rw[this];exact(Rep.dat s v h ht).grow hG hβ hτ
 |ptr o' off=>
  simp only[SV.pub];split
  ·exact .undef _
  ·rw[<-hβ];exact .ptr o' off
 |ap o' sz i j=>
  simp only[SV.pub];split
  ·exact .undef _
  ·rw[<-hβ];exact .ap o' sz i j
 |psl o' sz off n cap off' cap' hoff hn hcp hkp=>
  simp only[SV.pub];split
  ·rename_i ho
   subst ho;cases obj with
   |rc cs=>exact .undef _
   |arr sz' xs=>
    simp only[vC];split
    ·rename_i hc
     obtain⟨rfl,hb⟩:=hc;have hrows:=iz.1 hwf;have h1:=leP.psl (o:=o') (cap:=cap) hb hrows x x' _ hβ hτ hG (fun k hk=>hcell k hk) (.psl o' sz' off n cap off' cap' hoff hn hcp hkp);split
     ·rename_i hcap
      have hcn:=hcp _ hcap;obtain⟨b,cq,he,_,hD,_⟩:=h1.lst_inv;exact .dat _ _ (hD.tok (.lst sz' ((xs.drop off).take n) .clip) (.inr ⟨sz',_,_,_,rfl,rfl⟩)) ⟨_,n,by rw[<-hcn]⟩
     ·exact h1
    ·exact .undef _
   |bar l=>
    simp only[vC];split
    ·rename_i hc
     obtain⟨rfl,hb⟩:=hc;have hlen:((l.drop off).take n).length=n:=by simp;omega
     have hD:∀t,cw x'.G (.byt ((l.drop off).take n) t) (.slice (some ⟨(x.bk o').1,off',none⟩) n cap'):=by
      intro t;refine .byt _ t _ _ _ _ hlen.symm hn fun i hi=> ?_
      have hoff':off'=off:=by omega
      obtain⟨u,hu,hr⟩:=hcell (off+i) (by simp only[aE.size];omega);rw[hoff',hu];simp only[aE.cell]at hr
      have e:((l.drop off).take n).getD i 0=l.getD (off+i) 0:=by simp only[aa,bK,if_pos hi,br]
      rw[e];cases hr with
      |u8 b=>rfl
     split
     ·rename_i hcap
      have hcn:=hcp _ hcap;exact .dat _ _ (hD .clip) ⟨_,n,by rw[<-hcn]⟩
     ·exact .dat _ _ (hD .no) trivial
    ·exact .undef _
  ·rw[<-hβ]at hkp ⊢;exact .psl o' sz off n cap off' cap' hoff hn hcp hkp
 |agg cs vs hl _ ih=>simp only[SV.pub,kR];exact .agg _ _ (by simpa using hl) fun i hi=>by rw[aT _ (by rfl)];exact ih i (by simpa using hi)
 |tup cs vs hl _ ih=>simp only[SV.pub,kR];exact .tup _ _ (by simpa using hl) fun i hi=>by rw[aT _ (by rfl)];exact ih i (by simpa using hi)
 |fn f c1 c2 v1 v2 hl1 _ hl2 _ ih1 ih2=>simp only[SV.pub,kR];exact .fn _ _ _ _ _ (by simpa using hl1) (fun i hi=>by rw[aT _ (by rfl)];exact ih1 i (by simpa using hi)) (by simpa using hl2) (fun i hi=>by rw[aT _ (by rfl)];exact ih2 i (by simpa using hi))
theorem jO{o:Nat}{obj:aE}{p:Nat×aE}:∀{l:List (Nat×aE)},p∈ki o obj l->p.1≠o/\∃q,(p.1,q)∈l/\p.2=mr o obj q
 |q::r,h=>by
  simp only[ki]at h;split at h
  ·obtain⟨h1,u,h2,h3⟩:=jO h
   exact⟨h1,u,ao _ h2,h3⟩
  ·rename_i hq
   rcases an.1 h with e|e
   ·rw[e];exact⟨hq,q.2,ay ..,rfl⟩
   ·obtain⟨h1,u,h2,h3⟩:=jO e
    exact⟨h1,u,ao _ h2,h3⟩
theorem oy{o:Nat}{obj:aE}:∀l:List (Nat×aE),(ki o obj l).map cB=(l.map cB).filter fun k=>decide (k≠o)
 |[]=>rfl
 |p::r=>by
  simp only[ki,aC,j9]
  by_cases h:p.1=o
  ·rw[if_pos h,oy r];simp[h]
  ·rw[if_neg h,aC,oy r];simp[h]
theorem oe{o:Nat}{obj:aE}{p:Nat×SV}:∀{l:List (Nat×SV)},p∈kH o obj l->∃q∈l,p.1=q.1
 |q::r,h=>by
  simp only[kH]at h;rcases an.1 h with e|e
  ·exact⟨q,ay ..,by rw[e]⟩
  ·obtain⟨u,h1,h2⟩:=oe e
   exact⟨u,ao _ h1,h2⟩
theorem jS{o:Nat}{obj:aE}(n:Nat):∀l:List (Nat×SV),dS (kH o obj l) n=(dS l n).pub o obj
 |[]=>rfl
 |p::r=>by
  simp only[kH,dS];split
  ·rfl
  ·exact jS n r
theorem Zq{o:Nat}{obj q:aE}(h:q.wf=true):(mr o obj q).wf=true:=by cases q<;>simpa[mr,aE.wf]using h
theorem nh{o:Nat}{obj0 obj:aE}(hl:c.look o=some obj0)(hnr:∀cs,obj≠ .rc cs)(hnr0:∀cs,obj0≠ .rc cs)(hle:obj.size<=obj0.size)(hcl:∀k,k<obj.size->obj.cell k=obj0.cell k)(hwf:obj.wf=true)(hM:aM C x s a w)(hS:Sim N c s):
 ∃x',(x'.bk=x.bk/\x'.τ=x.τ/\(∀b i u,x.G b i=some u->x'.G b i=some u)/\(∀i,obj.size<=i->x'.G ((x.bk o).1) i=none)/\(∀k,k<obj.size->∃u,x'.G ((x.bk o).1) k=some u/\cw x'.G (obj.cell k) u))/\(∀sv v,Rep x sv v->Rep x' (sv.pub o obj) v)/\∃s',aM C x' s' a w/\Sim N ⟨kH o obj c.tm,ki o obj c.ob,c.tk⟩ s'/\(∀p∈s'.ob,(x.bk o).1≠(x'.bk p.1).1):=by
 have hls:s.look o=some obj0:=(hS.look o).trans hl;obtain⟨cc,e,fl,fh,hO,hsz,hr⟩:=ek hM hls;have hob:=hM.heap.obs _ (cM hls)
 let x':Sit:= {x with G:=fun b i=>if b=(x.bk o).1/\i<obj.size then some (cc.getD i Go.undef)else x.G b i}
 have hG:∀b i u,x.G b i=some u->x'.G b i=some u:=by intro b i u hu;show(if _ then _ else _)=_;rw[if_neg];exact hu;rintro⟨rfl,_⟩;have h0:=hob.2.2 i;simp only at h0;rw[h0]at hu;cases hu
 have hcell:∀k,k<obj.size->∃u,x'.G ((x.bk o).1) k=some u/\cw x'.G (obj.cell k) u:=by
  intro k hk;refine⟨cc.getD k Go.undef,if_pos ⟨rfl,hk⟩,cw.mono hG ?_⟩;have:=hr k (by omega);rw[hcl k hk];cases obj0 with
  |rc cs=>exact absurd rfl (hnr0 cs)
  |arr sz xs=>exact this
  |bar l=>exact this
 have hpub:∀sv v,Rep x sv v->Rep x' (sv.pub o obj) v:=fun sv v h=>Rep.pub (x:=x) (x':=x') rfl rfl hG hcell hwf h
 have hH:=hM.heap
 have hinv:Inv N ⟨kH o obj c.tm,ki o obj c.ob,c.tk⟩:=by
  refine⟨fun p hp=> ?_, ?_,fun p hp=> ?_⟩
  ·obtain⟨q,hq,e⟩:=oe hp;rw[e];exact hS.inv.dom q hq
  ·show((ki o obj c.ob).map cB).Pairwise _
   rw[oy];exact hS.inv.so.filter _
  ·obtain⟨_,q,h2,h3⟩:=jO hp;rw[h3];exact Zq (hS.inv.wf _ h2)
 have hmem:∀p∈ki o obj c.ob,p.1≠o/\∃q,(p.1,q)∈s.ob/\p.2=mr o obj q:=by intro p hp;obtain⟨h1,q,h2,h3⟩:=jO hp;have h4:=iE (iA hS.inv.so) h2;exact⟨h1,q,cM ((hS.look p.1).trans h4),h3⟩
 have hne:∀p∈ki o obj c.ob,(x.bk p.1).1≠(x.bk o).1:=fun p hp e=>by obtain⟨h1,q,h2,_⟩:=hmem p hp;exact h1 (hH.inj (p.1,q) h2 _ (cM hls) e)
 refine⟨x',⟨rfl,rfl,hG,fun i hi=> ?_,hcell⟩,hpub,_,⟨⟨?_,fun i hi=> ?_⟩,hM.defers, ?_⟩,Sim.of hinv,fun p hp=>(hne p hp).symm⟩
 ·show(if _ then _ else _)=_
  rw[if_neg (by rintro⟨_,h⟩;omega)];exact hob.2.2 i
 ·have:=hM.tm.1;rw[hS.tm]at this;simpa[CSt.st]using this
 ·have hiN:i<N:=by simpa[CSt.st]using hi
  have h1:=hM.tm.2 i (by rw[hS.tm];simpa using hiN);rw[hS.tm]at h1;simp only[CSt.st,aa,aO,bW hiN,bn,aX]at h1 ⊢;have:(CSt.mk (kH o obj c.tm) (ki o obj c.ob) c.tk).get i=(c.get i).pub o obj:=jS i c.tm;rw[this];exact hpub _ _ h1
 ·refine⟨
   ?_,fun b i v hv=>hG _ _ _ (hH.g0 b i v hv), ?_,hH.new, ?_,iA hinv.so, ?_, ?_,fun n hn p hp=> ?_,fun n hn m hm=>hH.tkd n ((hS.tk n).2 hn) m ((hS.tk m).2 hm),hH.os,hH.tape,hH.output,hH.size,hH.ext,hH.pin,hH.lay⟩
  ·intro b i v hv
   replace hv:(if b=(x.bk o).1/\i<obj.size then some (cc.getD i Go.undef)else x.G b i)=some v:=hv;split at hv
   ·rename_i hbi
    obtain⟨rfl,hi⟩:=hbi;cases hv;rw[hO.cell,bg,fY (by omega)];rfl
   ·exact hH.per b i v hv
  ·intro b i v hv
   replace hv:(if b=(x.bk o).1/\i<obj.size then some (cc.getD i Go.undef)else x.G b i)=some v:=hv;split at hv
   ·rename_i hbi
    exact .inr (hbi.1 ▸ hob.2.1)
   ·exact hH.gm b i v hv
  ·intro p hp
   obtain⟨h1,q,h2,h3⟩:=hmem p hp;obtain⟨g1,g2,g3⟩:=hH.obs _ h2;refine⟨?_,g2,fun off=> ?_⟩
   ·obtain⟨c',e',fl',fh',hO',hs',hr'⟩:=g1
    rw[h3];refine⟨c',e',fl',fh',hO', ?_,fun k hk=> ?_⟩
    ·cases q<;>first|exact hs'|exact⟨by simpa[mr,aE.size,kR]using hs'.1,hs'.2.1,fun h=>by cases h⟩
    ·cases q with
     |rc cs=>
      have hk':k<cs.length:=by simpa[mr,aE.size,kR]using hk
      have:=hr' k hk';simp only[mr,bZ,kR]at this ⊢;rw[aT _ (by rfl)];exact hpub _ _ this
     |arr sz xs=>exact cw.mono hG (hr' k hk)
     |bar l=>exact cw.mono hG (hr' k hk)
   ·show(if _ then _ else _)=_
    rw[if_neg (fun h=>hne p hp h.1)];exact g3 off
  ·intro p hp q hq hpq
   obtain⟨_,p',hp',_⟩:=hmem p hp;obtain⟨_,q',hq',_⟩:=hmem q hq;exact hH.inj (p.1,p') hp' (q.1,q') hq' hpq
  ·intro n hn'
   have hn:=(hS.tk n).2 hn';rcases hH.tks n hn with h|⟨h1,h2,h3⟩
   ·exact .inl h
   ·by_cases hlh:(x.τ n).2.1=(x.τ n).2.2
    ·exact .inl hlh
    ·refine .inr ⟨h1,h2,fun off h4 h5=> ?_⟩
     show(if _ then _ else _)=_;rw[if_neg (fun h=>(hH.tko n hn _ (cM hls)).elim (fun hb=>hb h.1) hlh)];exact h3 off h4 h5
  ·obtain⟨_,q,h2,_⟩:=hmem p hp
   exact hH.tko n ((hS.tk n).2 hn) (p.1,q) h2
theorem ni{o:Nat}{obj:aE}(hl:c.look o=some obj)(hnr:∀cs,obj≠ .rc cs)(hM:aM C x s a w)(hS:Sim N c s):
 ∃x',(x'.bk=x.bk/\x'.τ=x.τ)/\(∀sv v,Rep x sv v->Rep x' (sv.pub o obj) v)/\∃s',aM C x' s' a w/\Sim N ⟨kH o obj c.tm,ki o obj c.ob,c.tk⟩ s':=by
 obtain⟨x',h1,h2,s',h3,h4,_⟩:=nh hl hnr hnr (aH _) (fun _ _=>rfl) (hS.lookmem hl) hM hS;exact⟨x',⟨h1.1,h1.2.1⟩,h2,s',h3,h4⟩
theorem Cg{o:Nat}{obj:aE}(hl:c.look o=some obj)(hnr:∀cs,obj≠ .rc cs)(hM:aM C x s a w)(hS:Sim N c s):
 ∃x',(∀sv v,Rep x sv v->Rep x' (sv.pub o obj) v)/\∃s',aM C x' s' a w/\Sim N ⟨kH o obj c.tm,ki o obj c.ob,c.tk⟩ s':=by
 obtain⟨x',_,h⟩:=ni hl hnr hM hS;exact⟨x',h⟩
theorem kh{vs:List SV}{us:List Value}{o:Nat}(hM:aM C x s a w)(hS:Sim N c s)(hv:cd x vs us):
 ∃x' s',aM C x' s' a w/\Sim N (c.publish o vs).1 s'/\cd x' (c.publish o vs).2 us:=by
 unfold CSt.publish
 have go:∀{obj:aE},c.look o=some obj->(∀cs,obj≠ .rc cs)->∃x' s',aM C x' s' a w/\Sim N ⟨kH o obj c.tm,ki o obj c.ob,c.tk⟩ s'/\cd x' (SV.pubL o obj vs) us:=by intro obj hl hnr;obtain⟨x',hp,s',h1,h2⟩:=Cg hl hnr hM hS;refine⟨x',s',h1,h2, ?_⟩;rw[kR];refine⟨by simpa using hv.1,fun i hi=> ?_⟩;rw[aT _ (by rfl)];exact hp _ _ (hv.2 i (by simpa using hi))
 split
 ·rename_i sz xs hl;exact go hl (fun cs e=>by cases e)
 ·rename_i l hl;exact go hl (fun cs e=>by cases e)
 ·exact⟨x,s,hM,hS,hv⟩
theorem iI{us:List Value}:∀{l:List Nat}{c:CSt}{s:St}{x:Sit}{vs:List SV},aM C x s a w->Sim N c s->cd x vs us->
 ∃x' s',aM C x' s' a w/\Sim N (eh c vs l).1 s'/\cd x' (eh c vs l).2 us
 |[],_,_,_,_,hM,hS,hv=>⟨_,_,hM,hS,hv⟩
 |o::r,c,s,x,vs,hM,hS,hv=>by obtain⟨x1,s1,h1,h2,h3⟩:=kh (o:=o) hM hS hv;simp only[eh];exact iI h1 h2 h3
theorem M.pub(h:M C N c a w)(o:Nat):M C N (c.publish o []).1 a w:=by obtain⟨x,s,hM,hS⟩:=h;obtain⟨x',s',h1,h2,_⟩:=kh (o:=o) (vs:=[]) (us:=[]) hM hS ⟨rfl,fun i hi=>by simp at hi⟩;exact⟨x',s',h1,h2⟩
theorem Oi(hM:aM C x s a w)(hS:Sim N c s)(id b lo hi:Nat)(hv:lo=hi\/((∃c e fl fh,eC w b c e fl fh/\hi<=c.size)/\C.mine b/\∀o,lo<=o->o<hi->x.G b o=none))
 (hob:∀p∈s.ob,b≠(x.bk p.1).1) (htk:∀u∈s.tk,kq (b,lo,hi) (x.τ u)\/(x.τ u).2.1=(x.τ u).2.2) {n:Nat} (hn:n<N) {v:SV}
 (hval:Rep (x.newT id b lo hi) v (a.tmps.toList.getD n Go.undef)):
 M C N ⟨iO (cV id (id+1) c.tm) n v,bw id (id+1) c.ob,lu (cf id (id+1) c.tk) id⟩ a w:=by
 have hadd:cL C (x.newT id b lo hi) (bw id (id+1) s.ob) (id::cf id (id+1) s.tk) w:=
  hM.heap.addT id b lo hi hv (.inr fun p hp _=>hob p hp) (.inr fun u hu _=>htk u hu)
 have hM1:aM C (x.newT id b lo hi) ⟨SV.purgeL id (id+1) s.tm,bw id (id+1) s.ob,id::cf id (id+1) s.tk⟩ a w:=
  ⟨cd.mono (x:=x) (x':=x.newT id b lo hi) (lo:=id) (hi:=id+1) (fun _ _ _ h=>h) (fun _ _=>rfl) (Sit.newT_ne x id _ _ _) hM.tm,hM.defers,hadd⟩
 have hS1:Sim N ⟨cV id (id+1) c.tm,bw id (id+1) c.ob,lu (cf id (id+1) c.tk) id⟩ ⟨SV.purgeL id (id+1) s.tm,bw id (id+1) s.ob,id::cf id (id+1) s.tk⟩:=
  (hS.purge id (id+1)).tks (fun u=>by rw[jN,an,bA,bA,hS.tk])
 refine⟨x.newT id b lo hi,_, ?_,hS1.put (d:=some n) (fun k e=>by cases e;exact hn) v⟩;refine⟨⟨?_,fun i hi=> ?_⟩,hM1.defers,hM1.heap⟩
 ·have:=hM1.tm.1;simpa[St.put]using this
 ·simp only[St.put,cZ]at hi
  simp only[St.put,aa,fJ]
  by_cases hni:n=i
  ·subst hni
   rw[if_pos rfl,if_pos hi];rw[<-aa];exact hval
  ·rw[if_neg hni]
   have:=hM1.tm.2 i hi;simp only[aa]at this;exact this
theorem uS(h:M C N c a w){n id o sz off k cp:Nat}(hg:c.get n= .psl o sz off k (some cp))(hc:Ok c n id o sz off k cp (c.look o)=some c')(hn:n<N):M C N c' a w:=by
 cases hl:c.look o with
 |none=>rw[hl]at hc;cases hc;exact h
 |some obj0=>
  rw[hl]at hc
  have main:∀(obj:aE)(v:SV),(∀cs,obj≠ .rc cs)->(∀cs,obj0≠ .rc cs)->obj.size=(off+k)*sz->(off+cp)*sz<=obj0.size->k<=cp->(∀k,k<obj.size->obj.cell k=obj0.cell k)->obj.wf=true->
   (∀(x':Sit)(off':Nat),(cp=0\/off'=off*sz)->(∀k,k<obj.size->∃u,x'.G ((x'.bk o).1) k=some u/\cw x'.G (obj.cell k) u)->cw x'.G v (.slice (some ⟨(x'.bk o).1,off',none⟩) k cp))->
   (∀x v',M0 x v v'=cY x sz (.id id) v')->
   M C N (Db c n id o obj v) a w:=by
   intro obj v hnr hnr0 hsz hle hk hcl hwf hD htok;obtain⟨x,s,hM,hS⟩:=h;have hle':obj.size<=obj0.size:=by rw[hsz];exact oH (bt _ (by omega)) hle
   obtain⟨x',⟨hβ,hτ,hG,hfree,hcell⟩,hpub,s',hM',hS',hne⟩:=nh hl hnr hnr0 hle' hcl hwf hM hS;have hls:s.look o=some obj0:=(hS.look o).trans hl;obtain⟨cc,e,fl,fh,hO,hosz,_⟩:=ek hM hls;have hob:=hM.heap.obs _ (cM hls);have hslot:=hM.slot n;rw[hS.get,hg]at hslot;obtain⟨cp',hkc,hcc,off',he,hoff⟩:=hslot.psl_inv;obtain rfl:=hcc _ rfl
   have hval0:a.tmps.toList.getD n Go.undef= .slice (some ⟨(x.bk o).1,off',none⟩) k cp:=by rw[<-he];simp[bg,aa]
   refine Oi hM' hS' id ((x.bk o).1) ((off+k)*sz) ((off+cp)*sz) (.inr ⟨⟨cc,e,fl,fh,hO,by omega⟩,hob.2.1,fun i h1 h2=>hfree i (by omega)⟩) (fun p hp=>hne p hp) (fun u hu=> ?_) hn ?_
   ·have hu':=(hS'.tk u).1 hu
    have hu2:=(hS.tk u).2 hu';rw[hτ];exact(hM.heap.tko u hu2 _ (cM hls)).imp (fun h e=>h e.symm) (fun h=>h)
   ·rw[hval0]
    have h1:=hD (x'.newT id ((x.bk o).1) ((off+k)*sz) ((off+cp)*sz)) off' hoff (by show ∀k,k<obj.size->∃u,x'.G ((x'.bk o).1) k=some u/\cw x'.G (obj.cell k) u;rw[hβ];exact hcell)
    have e1:(x'.newT id ((x.bk o).1) ((off+k)*sz) ((off+cp)*sz)).bk o=x.bk o:=by show x'.bk o=_;rw[hβ]
    rw[e1]at h1;refine .dat _ _ h1 ?_;rw[htok];refine⟨_,k,cp,rfl, ?_⟩
    by_cases hcz:cp=0
    ·exact .inl (by omega)
    ·refine .inr ⟨_,off',rfl, ?_⟩
     rw[Sit.newT_eq,hoff.resolve_left hcz,bz,bz]
  cases obj0 with
  |rc cs=>cases hc;exact h
  |bar l=>
   simp only[Ok]at hc;split at hc<;>cases hc
   ·rename_i hcond
    obtain⟨rfl,h2,h3⟩:=hcond;refine main (.bar (l.take (off+k))) (.byt ((l.drop off).take k) (.id id)) (fun cs e=>by cases e) (fun cs e=>by cases e) (by simp only[aE.size,ax];omega) (by simp only[aE.size];omega) h3 (fun i hi=> ?_) rfl (fun x' off' hoff hcell=> ?_) (fun _ _=>rfl)
    ·simp only[aE.size,ax]at hi
     simp only[aE.cell,aa,bK,if_pos (show i<off+k by omega)]
    ·have hlen:((l.drop off).take k).length=k:=by simp;omega
     refine .byt _ _ _ _ _ _ hlen.symm h3 fun i hi=> ?_
     have hoff':off'=off:=by omega
     obtain⟨u,hu,hr⟩:=hcell (off+i) (by simp only[aE.size,ax];omega);rw[hoff',hu];simp only[aE.cell]at hr
     have e1:((l.drop off).take k).getD i 0=(l.take (off+k)).getD (off+i) 0:=by simp only[aa,bK,if_pos hi,br,if_pos (show off+i<off+k by omega)]
     rw[e1];cases hr with
     |u8 b=>rfl
   ·exact h
  |arr sz' xs=>
   simp only[Ok]at hc;split at hc<;>cases hc
   ·rename_i hcond
    obtain⟨rfl,h2,h3⟩:=hcond;have hwf0:∀y∈xs,y.length=sz':=by obtain⟨x,s,hM,hS⟩:=h;exact iz.1 (hS.lookmem hl)
    have hwt:∀y∈xs.take (off+k),y.length=sz':=fun y hy=>hwf0 y (b8 hy)
    have hrow:(xs.drop off).take k=(xs.take (off+k)).drop off:=by rw[Dv,Nat.add_sub_cancel_left]
    refine main (.arr sz' (xs.take (off+k))) (.lst sz' ((xs.drop off).take k) (.id id)) (fun cs e=>by cases e) (fun cs e=>by cases e) (by simp only[aE.size,ax];congr 1;omega) (by simp only[aE.size];exact bt _ h2) h3 (fun i hi=> ?_) (iz.2 hwt) (fun x' off' hoff hcell=> ?_) (fun _ _=>rfl)
    ·simp only[aE.size,ax]at hi
     simp only[aE.cell,aa,bK];have hd:i/sz'<off+k:=Nat.div_lt_of_lt_mul (by rw[cy];exact Nat.lt_of_lt_of_le hi (bt _ (Nat.min_le_left _ _)));rw[if_pos hd]
    ·have hlen:((xs.drop off).take k).length=k:=by simp;omega
     have hgr:∀i,i<k->((xs.drop off).take k).getD i []=(xs.take (off+k)).getD (off+i) []:=fun i hi=>by simp only[aa,bK,if_pos hi,br,if_pos (show off+i<off+k by omega)]
     have hrl:∀i,i<k->((xs.drop off).take k).getD i []∈xs.take (off+k):=fun i hi=>by rw[hgr i hi,aa,ab (show off+i<(xs.take (off+k)).length by rw[ax];omega)];exact bi _
     have hcl:∀i j,i<k->j<sz'->∃u,x'.G ((x'.bk o).1) (off'+i*sz'+j)=some u/\cw x'.G ((((xs.drop off).take k).getD i []).getD j .undef) u:=by
      intro i j hi hj;have hoff':off'=off*sz':=hoff.resolve_left (by omega)
      have hlt:(off+i)*sz'+j<(off+k)*sz':=by have:=bt sz' (show off+i+1<=off+k by omega);rw[bz,Nat.one_mul]at this;omega
      obtain⟨u,hu,hr⟩:=hcell ((off+i)*sz'+j) (by simp only[aE.size,ax];rw[ge (by omega)];exact hlt);refine⟨u,by rw[hoff',<-bz];exact hu, ?_⟩;simp only[aE.cell]at hr;have e1:((off+i)*sz'+j)/sz'=off+i:=by rw[cy,Nat.mul_add_div (by omega),Nat.div_eq_of_lt hj,fN]
      have e2:((off+i)*sz'+j) % sz'=j:=by rw[cy,Nat.mul_add_mod,cx hj]
      rw[e1,e2]at hr;rw[hgr i hi];exact hr
     refine .lst _ _ _ _ _ _ _ (fun i j=>(x'.G ((x'.bk o).1) (off'+i*sz'+j)).getD Go.undef) hlen.symm h3 (fun i hi=>hwt _ (hrl i hi)) (fun i j hi hj=> ?_) (fun i j hi hj=> ?_)
     ·obtain⟨u,hu,_⟩:=hcl i j hi hj
      rw[hu];rfl
     ·obtain⟨u,hu,hr⟩:=hcl i j hi hj
      rw[hu];exact hr
   ·exact h
theorem jW(hM:aM C x s a w)(hS:Sim N c s)(id:Nat)(t:Option Nat)(ht:∀k,t=some k->k∈c.tk){n:Nat}(hn:n<N){v:SV}
 (hv:∀u,Rep x (c.get n) u->Rep (x.newT id ((t.elim (0,0,0) x.τ)).1 ((t.elim (0,0,0) x.τ)).2.1 ((t.elim (0,0,0) x.τ)).2.2) v u):
 M C N ⟨iO (cV id (id+1) c.tm) n v,bw id (id+1) c.ob,lu (cf id (id+1) (t.elim c.tk fun k=>cf k (k+1) c.tk)) id⟩ a w:=by
 generalize hT:t.elim (0,0,0) x.τ=T at hv;generalize hL:(t.elim c.tk fun k=>cf k (k+1) c.tk)=L;have hH:=hM.heap
 have hLs:∀u∈L,u∈s.tk/\∀k,t=some k->u≠k:=by
  intro u hu;rw[<-hL]at hu;cases t with
  |none=>exact⟨(hS.tk u).2 hu,fun k e=>by cases e⟩
  |some k=>obtain⟨h1,h2⟩:=bA.1 hu;exact⟨(hS.tk u).2 h1,fun k' e=>by cases e;omega⟩
 have hadd:cL C (x.newT id T.1 T.2.1 T.2.2) (bw id (id+1) s.ob) (id::cf id (id+1) L) w:=by
  refine(hH.sub (tk':=L) (mf.refl _) (fun u hu=>(hLs u hu).1)).addT id T.1 T.2.1 T.2.2 ?_ ?_ ?_
  ·cases t with
   |none=>subst hT;exact .inl rfl
   |some k=>have:=hH.tks k ((hS.tk k).2 (ht k rfl));unfold gq at this;subst hT;exact this
  ·cases t with
   |none=>subst hT;exact .inl rfl
   |some k=>
    by_cases hc:(x.τ k).2.1=(x.τ k).2.2
    ·subst hT;exact .inl hc
    ·subst hT
     exact .inr fun p hp _=>(hH.tko k ((hS.tk k).2 (ht k rfl)) p hp).resolve_right hc
  ·cases t with
   |none=>subst hT;exact .inl rfl
   |some k=>
    by_cases hc:(x.τ k).2.1=(x.τ k).2.2
    ·subst hT;exact .inl hc
    ·subst hT
     refine .inr fun u hu _=> ?_
     obtain⟨h1,h2⟩:=hLs u hu;rcases hH.tkd k ((hS.tk k).2 (ht k rfl)) u h1 (fun e=>h2 k rfl e.symm)with h|h|h
     ·exact .inl h
     ·exact absurd h hc
     ·exact .inr h
 have hM1:aM C (x.newT id T.1 T.2.1 T.2.2) ⟨SV.purgeL id (id+1) s.tm,bw id (id+1) s.ob,id::cf id (id+1) L⟩ a w:=
  ⟨cd.mono (x:=x) (x':=x.newT id T.1 T.2.1 T.2.2) (lo:=id) (hi:=id+1) (fun _ _ _ h=>h) (fun _ _=>rfl) (Sit.newT_ne x id _ _ _) hM.tm,hM.defers,hadd⟩
 have hS1:Sim N ⟨cV id (id+1) c.tm,bw id (id+1) c.ob,lu (cf id (id+1) L) id⟩ ⟨SV.purgeL id (id+1) s.tm,bw id (id+1) s.ob,id::cf id (id+1) L⟩:=
  (hS.purge id (id+1)).tks (fun u=>by rw[jN,an])
 refine⟨x.newT id T.1 T.2.1 T.2.2,_, ?_,hS1.put (d:=some n) (fun k e=>by cases e;exact hn) v⟩;have hlt:n<s.tm.length:=by rw[hS.tm];simpa using hn
 refine⟨⟨?_,fun i hi=> ?_⟩,hM1.defers,hM1.heap⟩
 ·have:=hM1.tm.1;simpa[St.put]using this
 ·simp only[St.put,cZ]at hi
  simp only[St.put,aa,fJ]
  by_cases hni:n=i
  ·subst hni
   rw[if_pos rfl,if_pos hi];refine hv _ ?_;have:=hM.tm.2 n hlt;have e:s.tm.getD n .undef=c.get n:=hS.get n;rw[e]at this;rw[<-aa];exact this
  ·rw[if_neg hni,<-aa,<-aa]
   exact hM1.tm.2 i hi
theorem uT(h:M C N c a w){n id:Nat}(hc:Ol c n id (c.get n)=some c'):M C N c' a w:=by
 have hnN:c.get n≠ .undef->n<N:=by
  obtain⟨x,s,hM,hS⟩:=h;intro hne;rcases bL n N with h1|h1
  ·exact h1
  ·exact absurd (hS.inv.get h1) hne
 cases hg:c.get n with
 |byt l t=>
  rw[hg]at hc;have hN:=hnN (by rw[hg];exact fun e=>by cases e);cases t with
  |no=>cases hc;exact h
  |clip=>
   cases hc;obtain⟨x,s,hM,hS⟩:=h;refine jW hM hS id none (fun k e=>by cases e) hN fun u hu=> ?_
   rw[hg]at hu;exact leT.byt id l x u hu
  |id t=>
   simp only[Ol]at hc;split at hc
   ·cases hc;exact h
   ·split at hc<;>cases hc
    rename_i h1 h2;obtain⟨x,s,hM,hS⟩:=h;refine jW hM hS id (some t) (fun k e=>by cases e;simpa using h2) hN fun u hu=> ?_
    rw[hg]at hu;obtain⟨b,cap,he,_,hD,hsp⟩:=hu.byt_inv;refine .dat _ _ (hD.tok (.byt l (.id id)) (.inl ⟨l,_,_,rfl,rfl⟩)) ?_;obtain⟨a',n',cap',he',hh⟩:=hsp;refine⟨a',n',cap',he',hh.imp (fun h=>h) ?_⟩;rintro⟨b,off,h3,h4⟩;exact⟨b,off,h3,by rw[Sit.newT_eq];exact h4⟩
 |lst sz xs t=>
  rw[hg]at hc;have hN:=hnN (by rw[hg];exact fun e=>by cases e);cases t with
  |no=>cases hc;exact h
  |clip=>
   cases hc;obtain⟨x,s,hM,hS⟩:=h;refine jW hM hS id none (fun k e=>by cases e) hN fun u hu=> ?_
   rw[hg]at hu;exact leT.lst id sz xs x u hu
  |id t=>
   simp only[Ol]at hc;split at hc
   ·cases hc;exact h
   ·split at hc<;>cases hc
    rename_i h1 h2;obtain⟨x,s,hM,hS⟩:=h;refine jW hM hS id (some t) (fun k e=>by cases e;simpa using h2) hN fun u hu=> ?_
    rw[hg]at hu;obtain⟨b,cap,he,_,hD,hsp⟩:=hu.lst_inv;refine .dat _ _ (hD.tok (.lst sz xs (.id id)) (.inr ⟨sz,xs,_,_,rfl,rfl⟩)) ?_;obtain⟨a',n',cap',he',hh⟩:=hsp;refine⟨a',n',cap',he',hh.imp (fun h=>h) ?_⟩;rintro⟨b,off,h3,h4⟩;exact⟨b,off,h3,by rw[Sit.newT_eq];exact h4⟩
 |psl o sz off k cp=>
  rw[hg]at hc;have hN:=hnN (by rw[hg];exact fun e=>by cases e);cases cp with
  |none=>cases hc;exact h
  |some cp=>exact uS h hg hc hN
 |_=>rw[hg]at hc;cases hc;exact h
theorem aM.retag(hM:aM C x s a w)(n:Nat){v:SV}(hval:Rep x v (a.tmps.toList.getD n Go.undef)):aM C x (s.put (some n) v) a w:=by
 refine⟨⟨?_,fun i hi=> ?_⟩,hM.defers,hM.heap⟩
 ·have:=hM.tm.1;simpa[St.put]using this
 ·simp only[St.put,cZ]at hi
  simp only[St.put,aa,fJ]
  by_cases hni:n=i
  ·subst hni
   rw[if_pos rfl,if_pos hi];rw[<-aa];exact hval
  ·rw[if_neg hni]
   have:=hM.tm.2 i hi;simp only[aa]at this;exact this
theorem cL.move{ob:List (Nat×aE)}{tk:List Nat}(h:cL C x ob tk w){o d:Nat}(hd100:100<=d){obj:aE}(ho:(o,obj)∈ob)(hnr:∀cs,obj≠ .rc cs):
 cL C (x.newO d (x.bk o).1 (x.bk o).2) ((d,obj)::bw d (d+1) (bw o (o+1) ob)) (cf d (d+1) (cf o (o+1) tk)) w:=by
 have hβ:=Sit.newO_ne x d (x.bk o).1 (k:=(x.bk o).2);obtain⟨⟨c,e,fl,fh,hO,hs,hr⟩,hm,hg⟩:=h.obs _ ho;have hd2:(x.newO d (x.bk o).1 (x.bk o).2).bk d=x.bk o:=if_pos rfl
 have hob:∀p∈bw d (d+1) (bw o (o+1) ob),(x.newO d (x.bk o).1 (x.bk o).2).bk p.1=x.bk p.1/\∃q,(p.1,q)∈ob/\p.1≠o/\¬(d<=p.1/\p.1<d+1)/\p.2=(q.purge o (o+1)).purge d (d+1):=by intro p hp;obtain⟨h1,q,h2,h3⟩:=b9 hp;obtain⟨h4,q',h5,h6⟩:=b9 h2;simp only at h4 h5 h6;exact⟨hβ _ h1,q',h5,by omega,h1,by rw[h3,h6]⟩
 have htk:∀t∈cf d (d+1) (cf o (o+1) tk),t∈tk:=fun t ht=>(bA.1 (bA.1 ht).1).1
 refine⟨h.per,h.g0,h.gm,h.new, ?_, ?_, ?_,fun t ht=>h.tks t (htk t ht), ?_,fun t ht u hu=>h.tkd t (htk t ht) u (htk u hu),h.os,h.tape,h.output,h.size,h.ext,fun i hi=>by rw[hβ i (by omega)];exact h.pin i hi,h.lay⟩
 ·intro p hp
  rcases an.1 hp with rfl|hp
  ·refine⟨⟨c,e,fl,fh,by rw[hd2];exact hO,by rw[hd2];exact hs,fun k hk=> ?_⟩,by rw[hd2];exact hm,fun off=>by rw[hd2];exact hg off⟩
   have:=hr k hk;cases obj with
   |rc cs=>exact absurd rfl (hnr cs)
   |arr sz xs=>exact this
   |bar l=>exact this
  ·obtain⟨he,q,h1,h2,h3,h4⟩:=hob p hp
   obtain⟨h5,h6,h7⟩:=h.obs _ h1;refine⟨?_,by rw[he];exact h6,fun off=>by rw[he];exact h7 off⟩;have e1:=h5.of_heap (x':=x) (w':=w) (lo:=o) (hi:=o+1) rfl (fun _ _ _ h=>h) (fun _ _=>rfl) (fun _ _=>rfl) (by omega);have e2:=e1.of_heap (x':=x.newO d (x.bk o).1 (x.bk o).2) (w':=w) (lo:=d) (hi:=d+1) rfl (fun _ _ _ h=>h) hβ (fun _ _=>rfl) h3;rw[h4];exact e2
 ·rw[aC,du,ee,ee]
  refine⟨fun hmem=> ?_,(h.nd.filter _).filter _⟩;have:=(List.mem_filter.1 hmem).2;simp at this
 ·intro p hp q hq hpq
  rcases an.1 hp with rfl|hp<;>rcases an.1 hq with rfl|hq
  ·rfl
  ·obtain⟨he,q',h1,h2,_⟩:=hob q hq
   rw[hd2,he]at hpq;exact absurd (h.inj (o,obj) ho (q.1,q') h1 hpq).symm h2
  ·obtain⟨he,q',h1,h2,_⟩:=hob p hp
   rw[hd2,he]at hpq;exact absurd (h.inj (p.1,q') h1 (o,obj) ho hpq) h2
  ·obtain⟨he,q1,h1,_⟩:=hob p hp
   obtain⟨he',q2,h2,_⟩:=hob q hq;rw[he,he']at hpq;exact h.inj (p.1,q1) h1 (q.1,q2) h2 hpq
 ·intro t ht p hp
  rcases an.1 hp with rfl|hp
  ·show(x.τ t).1≠((x.newO d (x.bk o).1 (x.bk o).2).bk d).1\/_
   rw[hd2];exact h.tko t (htk t ht) (o,obj) ho
  ·obtain⟨he,q,h1,_⟩:=hob p hp
   show(x.τ t).1≠((x.newO d (x.bk o).1 (x.bk o).2).bk p.1).1\/_;rw[he];exact h.tko t (htk t ht) (p.1,q) h1
theorem aM.move(hM:aM C x s a w){o d:Nat}(hd100:100<=d){obj:aE}(hl:s.look o=some obj)(hnr:∀cs,obj≠ .rc cs):
 aM C (x.newO d (x.bk o).1 (x.bk o).2) (((s.purge o (o+1)).purge d (d+1)).addO d obj) a w:=
 ⟨cd.mono (x:=x) (x':=x.newO d (x.bk o).1 (x.bk o).2) (lo:=d) (hi:=d+1) (fun _ _ _ h=>h) (Sit.newO_ne x d _) (fun _ _=>rfl) (hM.purge o (o+1)).tm,hM.defers,hM.heap.move hd100 (cM hl) hnr⟩
theorem tX{n id o sz off k:Nat}{cap:Option Nat}{obj:aE}(hM:aM C x s a w)(hS:Sim N c s)(hn:n<N)(hid:100<=id)(hg:c.get n= .psl o sz off k cap)(hl:c.look o=some obj)(hnr:∀cs,obj≠ .rc cs):
 M C N (mvC c n id o sz off k cap obj) a w:=by
 have hM1:=hM.move hid (by rw[hS.look];exact hl) hnr;have hS1:=(((hS.purge o (o+1)).purge id (id+1)).addO id (hS.lookmem hl)).put (d:=some n) (fun k e=>by cases e;exact hn) (.psl id sz off k cap);refine⟨x.newO id (x.bk o).1 (x.bk o).2,_, ?_,hS1⟩
 have hv:Rep x (.psl o sz off k cap) (a.tmps.toList.getD n Go.undef):=by have:=hM.tm.2 n (by rw[hS.tm];simpa using hn);rw[show s.tm.getD n .undef=c.get n from hS.get n,hg]at this;exact this
 obtain⟨cap',h1,h2,off',he,h3,h4⟩:=hv.psl_invA;refine hM1.retag n ?_;rw[he];have hd2:(x.newO id (x.bk o).1 (x.bk o).2).bk id=x.bk o:=if_pos rfl;have:=Rep.psl (x:=x.newO id (x.bk o).1 (x.bk o).2) id sz off k cap off' cap' h3 h1 h2 (by rw[hd2];exact h4);rw[hd2]at this;exact this
theorem vI(h:M C N c a w){n id:Nat}(hid:100<=id)(hc:Xa c n id (c.get n)=some c'):M C N c' a w:=by
 obtain⟨x,s,hM,hS⟩:=h;cases hg:c.get n with
 |psl o sz off k cap=>
  rw[hg]at hc
  have hn:n<N:=by
   rcases bL n N with h|h
   ·exact h
   ·rw[hS.inv.get h]at hg;cases hg
  simp only[Xa]at hc;split at hc
  ·cases hc;exact⟨x,s,hM,hS⟩
  ·cases hl:c.look o with
   |none=>rw[hl]at hc;cases hc;exact⟨x,s,hM,hS⟩
   |some obj=>
    rw[hl]at hc;cases obj with
    |rc cs=>cases hc;exact⟨x,s,hM,hS⟩
    |arr sz' xs=>cases hc;exact tX hM hS hn hid hg hl (fun cs e=>by cases e)
    |bar l=>cases hc;exact tX hM hS hn hid hg hl (fun cs e=>by cases e)
 |_=>rw[hg]at hc;cases hc;exact⟨x,s,hM,hS⟩
theorem nK(h:M C N c a w){q:Dir}(hc:pe c q=some c'):M C N c' a w:=by
 cases q with
 |kill l=>cases hc;exact h.kill l
 |gc l=>cases hc;exact h.gc
 |gcr lo hi=>cases hc;exact h.purge lo hi
 |pubo o=>cases hc;exact h.pub _
 |pub n=>
  simp only[pe]at hc;split at hc<;>cases hc
  ·exact h.pub _
  ·exact h
 |tok n id=>
  simp only[pe]at hc;split at hc
  ·cases hc
  ·exact uT h hc
 |obj n id=>
  simp only[pe]at hc;split at hc
  ·cases hc
  ·exact vI h (by omega) hc
theorem jC:∀{l:List Dir}{c:CSt},M C N c a w->gN c l=some c'->M C N c' a w
 |[],_,h,hc=>by cases hc;exact h
 |q::r,c,h,hc=>by
  simp only[gN]at hc;split at hc
  ·rename_i c1 h1;exact jC (nK h h1) hc
  ·cases hc
end Go.Sy
namespace Go.Sy
variable [bd]
variable {P : Program} {C : Ctx} {x : Sit} {a : Act} {w : World} {N : Nat} {c c' : CSt} {s : St}
def i6(P:Program)(f:Nat)(args:List SV)(os:List aE)(k:Nat)(R:dE->Prop):Prop:=
 dM P f=true/\∀(C:Ctx)(x:Sit)(w:World)(vs:List Value),C.w0=w->C.G0=x.G->
  (∀b,C.mine b->w.heap.size<=b\/(∃i,i<os.length/\(x.bk i).1=b)\/(∃t,50<=t/\t<50+k/\(x.τ t).2.1≠(x.τ t).2.2/\(x.τ t).1=b))->os.length<=40->
  (∀o∈os,o.wf=true)->cL C x (idx os) (tks 50 k) w->cd x args vs->
  Calls P f ⟨vs⟩ w fun e w'=>∃v x' q,e= .returned v/\R q/\Rep x' q.r v/\cL C x' q.os q.tk w'/\(∀p∈q.os,p.2.wf=true)/\∀i,i<os.length->x'.bk i=x.bk i
theorem jU(cs:List SV):SV.bareL cs=cs.map SV.bare:=by
 induction cs with
 |nil=>rfl
 |cons c r ih=>simp only[SV.bareL,aC,ih]
theorem Rep.bare{x x':Sit}(hG:x'.G=x.G)(hβ:x'.bk=x.bk){sv:SV}{v:Value}(h:Rep x sv v):Rep x' sv.bare v:=by
 induction h with
 |undef v=>exact .undef v
 |dat s v h ht=>
  have h':=h.toData;rw[<-hG]at h';cases s with
  |byt l t=>exact .dat _ _ h' trivial
  |lst sz xs t=>exact .dat _ _ h' trivial
  |undef=>exact .undef v
  |bool b=>exact .dat _ _ h' trivial
  |int k n=>exact .dat _ _ h' trivial
  |u8 b=>exact .dat _ _ h' trivial
  |str l=>exact .dat _ _ h' trivial
  |nilp=>exact .dat _ _ h' trivial
  |nili=>exact .dat _ _ h' trivial
  |pp cs=>exact .dat _ _ h' trivial
  |ptr o off=>cases h
  |ap o sz i j=>cases h
  |psl o sz off n cap=>cases h
  |agg cs=>cases h
  |tup cs=>cases h
  |fn f a b=>cases h
 |ptr o off=>simp only[SV.bare];rw[<-hβ];exact .ptr o off
 |ap o sz i j=>simp only[SV.bare];rw[<-hβ];exact .ap o sz i j
 |psl o sz off n cap off' cap' h hn hc hk=>simp only[SV.bare];rw[<-hβ]at hk ⊢;exact .psl o sz off n cap off' cap' h hn hc hk
 |agg cs vs hl _ ih=>simp only[SV.bare,jU];exact .agg _ _ (by simpa using hl) fun i hi=>by rw[aT _ (by rfl)];exact ih i (by simpa using hi)
 |tup cs vs hl _ ih=>simp only[SV.bare,jU];exact .tup _ _ (by simpa using hl) fun i hi=>by rw[aT _ (by rfl)];exact ih i (by simpa using hi)
 |fn f c1 c2 v1 v2 hl1 _ hl2 _ ih1 ih2=>simp only[SV.bare,jU];exact .fn _ _ _ _ _ (by simpa using hl1) (fun i hi=>by rw[aT _ (by rfl)];exact ih1 i (by simpa using hi)) (by simpa using hl2) (fun i hi=>by rw[aT _ (by rfl)];exact ih2 i (by simpa using hi))
def M1(x:Sit):Option Nat->Nat×Nat×Nat
 |none=>(0,0,0)
 |some t=>x.τ t
def mJ(x x1:Sit)(j:Nat)(l:List (Option Nat)):Prop:=∀k,k<l.length->x1.τ (j+k)=M1 x (l.getD k none)
theorem mJ.left{x x1:Sit}{j:Nat}{l r:List (Option Nat)}(h:mJ x x1 j (l++r)):mJ x x1 j l:=fun k hk=>by have:=h k (by simp;omega);rwa[aa,bv hk,<-aa]at this
theorem mJ.right{x x1:Sit}{j:Nat}{l r:List (Option Nat)}(h:mJ x x1 j (l++r)):mJ x x1 (j+l.length) r:=fun k hk=>by have:=h (l.length+k) (by simp;omega);rw[aa,bB (by omega),<-aa]at this;rw[eM,this];congr 2;omega
theorem j5{t:Nat}:∀{l:List (Option Nat)},t∈ce l↔some t∈l
 |[]=>by simp[ce]
 |none::r=>by simp[ce,j5]
 |some u::r=>by simp[ce,j5]
theorem eU(l r:List (Option Nat)):ce (l++r)=ce l++ce r:=by
 induction l with
 |nil=>rfl
 |cons o l ih=>cases o<;>simp[ce,ih]
theorem Cu{x x1:Sit}(hG:x1.G=x.G)(hβ:x1.bk=x.bk){v:SV}{u:Value}(h:Rep x v u):Rep x1 v.kclip u:=by
 have hb:=h.bare hG hβ;cases v with
 |lst sz xs t=>
  cases t with
  |no=>exact hb
  |id u=>exact hb
  |clip=>
   cases xs with
   |cons y r=>exact hb
   |nil=>obtain⟨b,cap,he,_,hD,hsp⟩:=h.lst_inv;obtain⟨a',n',he'⟩:=hsp;rw[<-hG]at hD;exact .dat _ _ (hD.tok (.lst _ [] .clip) (.inr ⟨_,[],_,_,rfl,rfl⟩)) ⟨a',n',he'⟩
 |byt l t=>
  cases t with
  |no=>exact hb
  |id u=>exact hb
  |clip=>
   cases l with
   |cons y r=>exact hb
   |nil=>obtain⟨b,cap,he,_,hD,hsp⟩:=h.byt_inv;obtain⟨a',n',he'⟩:=hsp;rw[<-hG]at hD;exact .dat _ _ (hD.tok (.byt [] .clip) (.inl ⟨[],_,_,rfl,rfl⟩)) ⟨a',n',he'⟩
 |_=>exact hb
theorem vN{x x1:Sit}(hG:x1.G=x.G)(hβ:x1.bk=x.bk){cs:List SV}{u:Value}(h:Rep x (.agg cs) u):Rep x1 (.agg (cs.map SV.kclip)) u:=by
 cases h with
 |dat _ _ h _=>cases h
 |agg _ vs hl h=>
  refine .agg _ vs (by rw[aN];exact hl) fun i hi=> ?_
  rw[aN]at hi;have h1:=Cu hG hβ (h i hi);rw[aa,ab hi,aX]at h1;rw[aa,aO,ab hi,bn,aX];exact h1
theorem jG{x x1:Sit}(hG:x1.G=x.G)(hβ:x1.bk=x.bk){tk:List Nat}{j:Nat}{v:SV}{u:Value}(h:Rep x v u)(ht:mJ x x1 j (jr tk j v).2):Rep x1 (jr tk j v).1 u:=by
 have hb:=h.bare hG hβ;cases v with
 |byt l t=>
  cases t with
  |no=>exact hb
  |clip=>have e:=ht 0 (by simp[jr]);obtain⟨b,cap,he,_,hD,hsp⟩:=h.byt_inv;obtain⟨a',n',he'⟩:=hsp;rw[<-hG]at hD;exact .dat _ _ (hD.tok (.byt l (.id j)) (.inl ⟨l,_,_,rfl,rfl⟩)) ⟨a',n',n',he',.inl rfl⟩
  |id t=>
   by_cases hc:tk.contains t=true
   ·have e:=ht 0 (by simp only[jr,hc,if_true,ai];omega)
    simp only[jr,hc,if_true]at e ⊢;obtain⟨b,cap,he,_,hD,hsp⟩:=h.byt_inv;obtain⟨a',n',cap',he',hh⟩:=hsp;rw[<-hG]at hD;refine .dat _ _ (hD.tok (.byt l (.id j)) (.inl ⟨l,_,_,rfl,rfl⟩)) ⟨a',n',cap',he',hh.imp id ?_⟩;rintro⟨b,off,h1,h2⟩;exact⟨b,off,h1,by rw[fN]at e;rw[e];exact h2⟩
   ·simp only[jr,hc,if_false];exact hb
 |lst sz xs t=>
  cases t with
  |no=>exact hb
  |clip=>obtain⟨b,cap,he,_,hD,hsp⟩:=h.lst_inv;obtain⟨a',n',he'⟩:=hsp;rw[<-hG]at hD;exact .dat _ _ (hD.tok (.lst sz xs (.id j)) (.inr ⟨sz,xs,_,_,rfl,rfl⟩)) ⟨a',n',n',he',.inl rfl⟩
  |id t=>
   by_cases hc:tk.contains t=true
   ·have e:=ht 0 (by simp only[jr,hc,if_true,ai];omega)
    simp only[jr,hc,if_true]at e ⊢;obtain⟨b,cap,he,_,hD,hsp⟩:=h.lst_inv;obtain⟨a',n',cap',he',hh⟩:=hsp;rw[<-hG]at hD;refine .dat _ _ (hD.tok (.lst sz xs (.id j)) (.inr ⟨sz,xs,_,_,rfl,rfl⟩)) ⟨a',n',cap',he',hh.imp id ?_⟩;rintro⟨b,off,h1,h2⟩;exact⟨b,off,h1,by rw[fN]at e;rw[e];exact h2⟩
   ·simp only[jr,hc,if_false];exact hb
 |agg cs=>exact vN hG hβ h
 |_=>exact hb
theorem mQ{tk:List Nat}{j:Nat}{v:SV}:∀t∈ce (jr tk j v).2,t∈tk:=by
 intro t ht;cases v with
 |byt l q=>
  cases q with
  |id u=>
   by_cases hc:tk.contains u=true
   ·simp only[jr,hc,if_true,ce,aY]at ht;subst ht;simpa using hc
   ·simp only[jr,hc,if_false,ce]at ht;cases ht
  |_=>cases ht
 |lst sz xs q=>
  cases q with
  |id u=>
   by_cases hc:tk.contains u=true
   ·simp only[jr,hc,if_true,ce,aY]at ht;subst ht;simpa using hc
   ·simp only[jr,hc,if_false,ce]at ht;cases ht
  |_=>cases ht
 |_=>cases ht
theorem iq{x:Sit}{v:SV}{u:Value}{cs:List SV}{us:List Value}:cd x (v::cs) (u::us)↔Rep x v u/\cd x cs us:=by
 constructor
 ·intro h
  exact⟨h.2 0 (by simp),by simpa using h.1,fun i hi=>by simpa using h.2 (i+1) (by simpa using hi)⟩
 ·rintro⟨h1,h2⟩
  exact⟨by simp[h2.1],fun i hi=>by
   cases i with
   |zero=>exact h1
   |succ i=>simpa using h2.2 i (by simpa using hi)⟩
theorem DR{x x1:Sit}(hG:x1.G=x.G)(hβ:x1.bk=x.bk){tk:List Nat}{j:Nat}{v:SV}{u:Value}(h:Rep x v u)(ht:mJ x x1 j (pF tk j v).2):Rep x1 (pF tk j v).1 u:=by
 cases v with
 |lst sz xs t=>
  cases t with
  |clip=>
   cases hx:xs.isEmpty with
   |true=>simp only[pF,sh,hx,si];obtain⟨b,cap,he,_,hD,hsp⟩:=h.lst_inv;rw[<-hG]at hD;exact .dat _ _ hD hsp
   |false=>simp only[pF,sh,hx,si]at ht ⊢;exact jG (tk:=tk) hG hβ h ht
  |no=>exact jG hG hβ h ht
  |id t=>exact jG hG hβ h ht
 |_=>exact jG hG hβ h ht
theorem Oj{tk:List Nat}{j:Nat}{v:SV}:∀t∈ce (pF tk j v).2,t∈tk:=by
 cases v with
 |lst sz xs t=>
  cases t with
  |clip=>
   cases hx:xs.isEmpty with
   |true=>intro t ht;simp[pF,sh,hx,si,ce]at ht
   |false=>intro t ht;simp[pF,sh,hx,si,ce]at ht
  |no=>exact mQ
  |id t=>exact mQ
 |_=>exact mQ
theorem kU{x x1:Sit}(hG:x1.G=x.G)(hβ:x1.bk=x.bk){tk own:List Nat}:∀{cs:List SV}{us:List Value}{j i:Nat},cd x cs us->mJ x x1 j (js tk own j i cs).2->cd x1 (js tk own j i cs).1 us
 |[],[],_,_,_,_=>⟨rfl,fun i hi=>by simp[js]at hi⟩
 |[],_::_,_,_,h,_=>absurd h.1 (by simp)
 |_::_,[],_,_,h,_=>absurd h.1 (by simp)
 |v::r,u::us,j,i,h,ht=>by
  obtain⟨h1,h2⟩:=iq.1 h;simp only[js]at ht ⊢;split
  ·rename_i hc
   rw[if_pos hc]at ht;exact iq.2 ⟨DR hG hβ h1 ht.left,kU hG hβ h2 ht.right⟩
  ·rename_i hc
   rw[if_neg hc]at ht;exact iq.2 ⟨h1.bare hG hβ,kU hG hβ h2 ht⟩
theorem mS{tk own:List Nat}:∀{cs:List SV}{j i:Nat},∀t∈ce (js tk own j i cs).2,t∈tk
 |[],_,_,t,ht=>by cases ht
 |v::r,j,i,t,ht=>by
  simp only[js]at ht;split at ht
  ·rw[eU,al]at ht
   exact ht.elim (Oj t) (mS t)
  ·exact mS t ht
theorem tq{x x1:Sit}(hG:x1.G=x.G)(hβ:x1.bk=x.bk){tk:List Nat}:∀{cs:List SV}{j:Nat}{f:Nat->Value},(∀k,k<cs.length->Rep x (cs.getD k .undef) (f k))->mJ x x1 j (qO tk j cs).2->
 (qO tk j cs).1.length=cs.length/\∀k,k<cs.length->Rep x1 ((qO tk j cs).1.getD k .undef) (f k)
 |[],_,_,_,_=>⟨rfl,fun i hi=>by simp at hi⟩
 |v::r,j,f,h,ht=>by
  simp only[qO]at ht ⊢;obtain⟨h1,h2⟩:=tq (f:=fun k=>f (k+1)) hG hβ (fun k hk=>by simpa using h (k+1) (by simpa using hk)) ht.right;refine⟨by simp[h1],fun k hk=> ?_⟩;cases k with
  |zero=>exact jG hG hβ (h 0 (by simp)) ht.left
  |succ k=>simpa using h2 k (by simpa using hk)
theorem yT{tk:List Nat}:∀{cs:List SV}{j:Nat},∀t∈ce (qO tk j cs).2,t∈tk
 |[],_,t,ht=>by cases ht
 |v::r,j,t,ht=>by simp only[qO]at ht;rw[eU,al]at ht;exact ht.elim (mQ t) (yT t)
theorem BD{x x1:Sit}(hG:x1.G=x.G)(hβ:x1.bk=x.bk){tk:List Nat}{j o:Nat}{ob:aE}(h:dt x w o ob)(ht:mJ x x1 j (jf tk j ob).2):dt x1 w o (jf tk j ob).1:=by
 obtain⟨cc,e,fl,fh,hO,hs,hr⟩:=h;cases ob with
 |rc cs=>obtain⟨h1,h2⟩:=tq (f:=fun k=>cc.getD k Go.undef) hG hβ hr ht;exact⟨cc,e,fl,fh,by rw[hβ];exact hO,by rw[hβ];simp only[jf,aE.size,h1]at hs ⊢;exact hs,fun k hk=>h2 k (by simpa only[jf,aE.size,h1]using hk)⟩
 |arr sz xs=>exact⟨cc,e,fl,fh,by rw[hβ];exact hO,by rw[hβ];exact hs,fun k hk=>by have:=hr k hk;simp only[jf,bZ]at this ⊢;rw[hG];exact this⟩
 |bar l=>exact⟨cc,e,fl,fh,by rw[hβ];exact hO,by rw[hβ];exact hs,fun k hk=>by have:=hr k hk;simp only[jf,bZ]at this ⊢;rw[hG];exact this⟩
theorem DS{tk:List Nat}{j:Nat}{ob:aE}(h:ob.wf=true):(jf tk j ob).1.wf=true:=by cases ob<;>first|rfl|exact h
theorem DT{tk:List Nat}{j:Nat}{ob:aE}:∀t∈ce (jf tk j ob).2,t∈tk:=by
 intro t ht;cases ob with
 |rc cs=>exact yT t ht
 |_=>cases ht
theorem kx{x x1:Sit}(hG:x1.G=x.G)(hβ:x1.bk=x.bk){tk:List Nat}:∀{obs:List aE}{j:Nat}{f:Nat->Nat},(∀k,k<obs.length->dt x w (f k) (obs.getD k (.rc [])))->mJ x x1 j (dI tk j obs).2->
 (dI tk j obs).1.length=obs.length/\∀k,k<obs.length->dt x1 w (f k) ((dI tk j obs).1.getD k (.rc []))
 |[],_,_,_,_=>⟨rfl,fun i hi=>by simp at hi⟩
 |v::r,j,f,h,ht=>by
  simp only[dI]at ht ⊢;obtain⟨h1,h2⟩:=kx (f:=fun k=>f (k+1)) hG hβ (fun k hk=>by simpa using h (k+1) (by simpa using hk)) ht.right;refine⟨by simp[h1],fun k hk=> ?_⟩;cases k with
  |zero=>exact BD hG hβ (h 0 (by simp)) ht.left
  |succ k=>simpa using h2 k (by simpa using hk)
theorem lK{tk:List Nat}:∀{obs:List aE}{j:Nat},∀t∈ce (dI tk j obs).2,t∈tk
 |[],_,t,ht=>by cases ht
 |v::r,j,t,ht=>by simp only[dI]at ht;rw[eU,al]at ht;exact ht.elim (DT t) (lK t)
theorem lJ{tk:List Nat}:∀{obs:List aE}{j:Nat},(∀o∈obs,o.wf=true)->∀o∈(dI tk j obs).1,o.wf=true
 |[],_,_,o,ho=>by cases ho
 |v::r,j,h,o,ho=>by
  simp only[dI]at ho;rcases an.1 ho with e|e
  ·rw[e];exact DS (h v (ay ..))
  ·exact lJ (fun o h'=>h o (ao _ h')) o e
theorem lz{m:List Nat}{o:Nat}(h:o∈m):fS m o<m.length/\m.getD (fS m o) 0=o:=by
 induction m with
 |nil=>cases h
 |cons p r ih=>
  simp only[fS];split
  ·rename_i hp;subst hp;simp
  ·rename_i hp
   obtain⟨h1,h2⟩:=ih ((an.1 h).resolve_left (Ne.symm hp));exact⟨by simpa using h1,by simpa using h2⟩
theorem iQ{l:List Nat}(h:di l=true):l.Nodup:=by
 induction l with
 |nil=>exact List.nodup_nil
 |cons p r ih=>simp only[di,aA,dn,ep,decide_eq_false_iff_not]at h;exact du.2 ⟨h.1,ih h.2⟩
theorem tt{l r:List Nat}(h:mU l r=true):∀o∈l,o∈r:=by intro o ho;simp only[mU,aU,ep,decide_eq_true_eq]at h;exact h o ho
theorem ol:∀{m:List Nat}{os:List aE},fK c m=some os->os.length=m.length/\∀i,i<m.length->c.look (m.getD i 0)=some (os.getD i (.rc []))
 |[],os,h=>by cases h;exact⟨rfl,fun i hi=>by simp at hi⟩
 |o::r,os,h=>by
  simp only[fK]at h;split at h<;>cases h;rename_i ob l h1 h2;obtain⟨h3,h4⟩:=ol h2;refine⟨by simp[h3],fun i hi=> ?_⟩;cases i with
  |zero=>exact h1
  |succ i=>simpa using h4 i (by simpa using hi)
theorem fA(mo mt:Nat->Nat)(l:List aE):dO mo mt l=l.map fun o=>o.ren mo mt:=by
 induction l with
 |nil=>rfl
 |cons p r ih=>simp only[dO,aC,ih]
theorem nt{l:List aE}{o:aE}(h:o∈l):∀k∈o.ids,k∈eX l:=by
 induction l with
 |nil=>cases h
 |cons p r ih=>
  intro k hk;simp only[eX,al];rcases an.1 h with e|e
  ·subst e;exact .inl hk
  ·exact .inr (ih e k hk)
theorem l6{l:List (Option Nat)}(h:(ce l).Nodup):∀{i j:Nat}{t u:Nat},i≠j->l.getD i none=some t->l.getD j none=some u->t≠u:=by
 have key:∀{l:List (Option Nat)},(ce l).Nodup->∀{i j:Nat}{t u:Nat},i<j->l.getD i none=some t->l.getD j none=some u->t≠u:=by
  intro l;induction l with
  |nil=>intro _ i j t u _ h1;simp at h1
  |cons o r ih=>
   intro hn i j t u hij h1 h2
   have hr:(ce r).Nodup:=by cases o with
    |none=>exact hn
    |some q=>exact(du.1 hn).2
   cases j with
   |zero=>omega
   |succ j=>
    rw[List.getD_cons_succ]at h2;cases i with
    |zero=>
     rw[List.getD_cons_zero]at h1;subst h1
     have h3:some u∈r:=by
      rw[aa]at h2;cases hj:r[j]? with
      |none=>rw[hj]at h2;cases h2
      |some q=>rw[hj]at h2;cases h2;exact List.mem_of_getElem? hj
     intro e;subst e;exact(du.1 hn).1 (j5.2 h3)
    |succ i=>rw[List.getD_cons_succ]at h1;exact ih hr (by omega) h1 h2
 intro i j t u hij h1 h2;rcases Nat.lt_or_gt_of_ne hij with h3|h3
 ·exact key h h3 h1 h2
 ·exact(key h h3 h2 h1).symm
theorem ja{b n t:Nat}:t∈tks b n↔b<=t/\t<b+n:=by
 unfold tks
 have:∀n k,k∈kb n↔k<n:=by
  intro n;induction n with
  |zero=>intro k;simp[kb]
  |succ n ih=>intro k;simp only[kb,al,ih,aY];omega
 simp only[aR,this];constructor
 ·rintro⟨k,h,rfl⟩;omega
 ·rintro⟨h1,h2⟩;exact⟨t-b,by omega,by omega⟩
structure DE(x x2:Sit)(c:CSt)(m:List Nat)(mt:List (Option Nat)):Prop where
 G:x2.G=x.G
 bk:∀i,i<m.length->x2.bk i=x.bk (m.getD i 0)
 τ:mJ x x2 50 mt
 nd:m.Nodup
 ob:∀i,i<m.length->∃ob,(m.getD i 0,ob)∈c.ob
 tnd:(ce mt).Nodup
 tk:∀t∈ce mt,t∈c.tk
def Ctx.took(x2:Sit)(w:World)(n k:Nat):Ctx:=
 ⟨w,x2.G,fun b=>w.heap.size<=b\/(∃i,i<n/\(x2.bk i).1=b)\/(∃t,50<=t/\t<50+k/\(x2.τ t).2.1≠(x2.τ t).2.2/\(x2.τ t).1=b),x2.bk⟩
theorem ff{m:List Nat}{i:Nat}(h:i<m.length):m.getD i 0∈m:=by rw[aa,ab h];exact bi _
theorem kB{m:List Nat}(h:m.Nodup){i j:Nat}(hi:i<m.length)(hj:j<m.length)(e:m.getD i 0=m.getD j 0):i=j:=by rw[aa,aa,ab hi,ab hj]at e;exact pN h hi hj e
theorem gV{l:List (Option Nat)}{i t:Nat}(h:l.getD i none=some t):t∈ce l:=by
 rw[aa]at h;cases hj:l[i]? with
 |none=>rw[hj]at h;cases h
 |some q=>rw[hj]at h;cases h;exact j5.2 (List.mem_of_getElem? hj)
theorem DE.tok{x2:Sit}{m:List Nat}{mt:List (Option Nat)}(h:DE x x2 c m mt){t:Nat}(h1:50<=t)(h2:t<50+mt.length):
 (x2.τ t).2.1=(x2.τ t).2.2\/∃u,mt.getD (t-50) none=some u/\x2.τ t=x.τ u/\u∈c.tk/\u∈ce mt:=by
 have e:=h.τ (t-50) (by omega);rw[show 50+(t-50)=t by omega]at e;cases hu:mt.getD (t-50) none with
 |none=>rw[hu]at e;rw[e];exact .inl rfl
 |some u=>rw[hu]at e;exact .inr ⟨u,rfl,e,h.tk u (gV hu),gV hu⟩
theorem pE{x2:Sit}{m:List Nat}{mt:List (Option Nat)}(hH:cL C x c.ob c.tk w)(h:DE x x2 c m mt){objs:List aE}(hl:objs.length=m.length)
 (ho:∀i,i<m.length->dt x2 w i (objs.getD i (.rc []))):cL (Ctx.took x2 w m.length mt.length) x2 (idx objs) (tks 50 mt.length) w:=by
 refine⟨fun b o v hv=>hH.per b o v (by rw[<-h.G];exact hv),fun _ _ _ hv=>hv,fun _ _ _ hv=> .inl hv,fun b hb=> .inl hb, ?_,lO objs, ?_, ?_, ?_, ?_,rfl,rfl,rfl,aH _,fun _ _=>rfl,fun _ _=>rfl,hH.lay.mono (fun b o v hv=>by show x2.G b o=some v;rw[h.G];exact hH.g0 b o v hv)⟩
 ·intro p hp
  obtain⟨h1,h2⟩:=ic.1 hp;rw[hl]at h1;obtain⟨ob,h3⟩:=h.ob p.1 h1;refine⟨by rw[h2];exact ho p.1 h1,.inr (.inl ⟨p.1,h1,rfl⟩),fun off=> ?_⟩;rw[h.G,h.bk _ h1];exact(hH.obs _ h3).2.2 off
 ·intro p hp q hq hpq
  obtain⟨h1,_⟩:=ic.1 hp;obtain⟨h2,_⟩:=ic.1 hq;rw[hl]at h1 h2;rw[h.bk _ h1,h.bk _ h2]at hpq;obtain⟨o1,g1⟩:=h.ob _ h1;obtain⟨o2,g2⟩:=h.ob _ h2;exact kB h.nd h1 h2 (hH.inj _ g1 _ g2 hpq)
 ·intro t ht
  obtain⟨h1,h2⟩:=ja.1 ht;rcases h.tok h1 h2 with h3|⟨u,_,h4,h5,_⟩
  ·exact .inl h3
  ·by_cases hne:(x2.τ t).2.1=(x2.τ t).2.2
   ·exact .inl hne
   ·have:=hH.tks u h5
    unfold gq at this ⊢;rw[h4]at hne ⊢;rcases this with g|⟨g1,g2,g3⟩
    ·exact absurd g hne
    ·exact .inr ⟨g1,.inr (.inr ⟨t,h1,h2,by rw[h4];exact hne,by rw[h4]⟩),by rw[h.G];exact g3⟩
 ·intro t ht p hp
  obtain⟨h1,h2⟩:=ja.1 ht;obtain⟨h6,_⟩:=ic.1 hp;rw[hl]at h6;rcases h.tok h1 h2 with h3|⟨u,_,h4,h5,_⟩
  ·exact .inr h3
  ·obtain⟨o1,g1⟩:=h.ob _ h6
   rw[h4,h.bk _ h6];exact hH.tko u h5 _ g1
 ·intro t ht u hu htu
  obtain⟨h1,h2⟩:=ja.1 ht;obtain⟨h3,h4⟩:=ja.1 hu;rcases h.tok h1 h2 with g|⟨t',g1,g2,g3,_⟩
  ·exact .inr (.inl g)
  ·rcases h.tok h3 h4 with k|⟨u',k1,k2,k3,_⟩
   ·exact .inr (.inr k)
   ·rw[g2,k2]
    exact hH.tkd t' g3 u' k3 (l6 h.tnd (by omega) g1 k1)
end Go.Sy
namespace Go.Sy
variable [bd]
variable {P : Program} {C : Ctx} {x : Sit} {a : Act} {w : World} {N : Nat} {c c' : CSt} {s : St}
theorem Er(d:Nat)(l:List Nat):pn d l=l.map (jK d):=by
 induction l with
 |nil=>rfl
 |cons p r ih=>simp only[pn,aC,ih]
theorem lQ{k:List Nat}{t:Nat}:∀{l:List Nat},t∈li k l↔t∈l/\t∉k
 |[]=>by simp[li]
 |p::r=>by
  simp only[li];split
  ·rename_i hc
   have hp:p∈k:=by simpa using hc
   rw[lQ,an];constructor
   ·rintro⟨h1,h2⟩;exact⟨.inr h1,h2⟩
   ·rintro⟨h1|h1,h2⟩
    ·exact absurd (h1 ▸ hp) h2
    ·exact⟨h1,h2⟩
  ·rename_i hc
   have hp:p∉k:=by simpa using hc
   rw[an,lQ,an];constructor
   ·rintro(h1|⟨h1,h2⟩)
    ·exact⟨.inl h1,h1 ▸ hp⟩
    ·exact⟨.inr h1,h2⟩
   ·rintro⟨h1|h1,h2⟩
    ·exact .inl h1
    ·exact .inr ⟨h1,h2⟩
theorem pQ{t:Nat}:∀{r l:List Nat},t∈pw l r↔t∈r\/t∈l
 |[],l=>by simp[pw]
 |p::r,l=>by
  simp only[pw];rw[pQ,jN,an];constructor
  ·rintro(h|h|h)
   ·exact .inl (.inr h)
   ·exact .inl (.inl h)
   ·exact .inr h
  ·rintro((h|h)|h)
   ·exact .inr (.inl h)
   ·exact .inl h
   ·exact .inr (.inr h)
theorem lP{p:Nat×aE}:∀{r l:List (Nat×aE)},p∈pu l r->p∈r\/p∈l
 |[],l,h=> .inr h
 |q::r,l,h=>by
  simp only[pu]at h;rcases lP h with e|e
  ·exact .inl (ao _ e)
  ·rcases jM e with e|e
   ·exact .inl (e ▸ ay ..)
   ·exact .inr e
theorem y5:∀{r l:List (Nat×aE)},(l.map cB).Pairwise (· < ·)->((pu l r).map cB).Pairwise (· < ·)
 |[],_,h=>h
 |_::r,_,h=>y5 (r:=r) (sk h)
theorem wN{mo mt:Nat->Nat}{o:aE}(h:o.wf=true):(o.ren mo mt).wf=true:=by cases o<;>first|rfl|exact h
theorem uP{x2:Sit}{m:List Nat}{mt:List (Option Nat)}(hold:cL C x c.ob c.tk w)(h:DE x x2 c m mt){x':Sit}{w':World}{q:dE}(hH:cL (Ctx.took x2 w m.length mt.length) x' q.os q.tk w'){D:Nat}
 (hm:∀o∈m,inR D o=false) (hos:∀p∈q.os,p.1<1000/\(∀k∈p.2.ids,k<1000)/\∀k∈p.2.toks,k<1000) (htk:∀t∈q.tk,t<1000) (hg:∀i,i<m.length->x'.bk i=x2.bk i):
 ∃x3:Sit,x3.G=x'.G/\(∀b o v,x.G b o=some v->x3.G b o=some v)/\(∀k,k<1000->x3.bk (gZ D m k)=x'.bk k)/\(∀k,k<1000->x3.τ (jK D k)=x'.τ k)/\
  (∀k,¬((D+1)*1000<=k/\k<(D+2)*1000)->x3.bk k=x.bk k)/\(∀k,¬((D+1)*1000<=k/\k<(D+2)*1000)->x3.τ k=x.τ k)/\
  cL C x3 (nb D m q.os++eE m (bw ((D+1)*1000) ((D+2)*1000) c.ob)) (pn D q.tk++li (ce mt) (cf ((D+1)*1000) ((D+2)*1000) c.tk)) w':=by
 let lo:=(D+1)*1000
 let hi:=(D+2)*1000
 have hlo:lo=(D+1)*1000:=rfl;have hhi:hi=(D+2)*1000:=rfl
 let β2:Nat->Nat×Nat:=fun k=>if inR D k then x'.bk (k-lo)else x.bk k
 let τ2:Nat->Nat×Nat×Nat:=fun k=>if inR D k then x'.τ (k-lo)else x.τ k
 have hin:∀k,k<1000->inR D (lo+k)=true:=by intro k hk;simp only[inR,aA,decide_eq_true_eq];omega
 have hout:∀k,¬(lo<=k/\k<hi)->inR D k=false:=by intro k hk;rw[Bool.eq_false_iff];intro h;simp only[inR,aA,decide_eq_true_eq]at h;exact hk h
 have hβ2:∀k,¬(lo<=k/\k<hi)->β2 k=x.bk k:=fun k hk=>by simp only[β2];rw[hout k hk];rfl
 have hτ2:∀k,¬(lo<=k/\k<hi)->τ2 k=x.τ k:=fun k hk=>by simp only[τ2];rw[hout k hk];rfl
 have hβnew:∀k,k<1000->β2 (gZ D m k)=x'.bk k:=by
  intro k hk
  by_cases hkm:k<m.length
  ·have h1:gZ D m k=m.getD k 0:=if_pos hkm
   simp only[β2];rw[h1,hm _ (ff hkm),hg k hkm,h.bk k hkm];rfl
  ·have h1:gZ D m k=lo+k:=if_neg hkm
   simp only[β2];rw[h1,hin k hk,if_pos rfl];congr 1;omega
 have hτnew:∀k,k<1000->τ2 (jK D k)=x'.τ k:=by intro k hk;have h1:jK D k=lo+k:=rfl;simp only[τ2];rw[h1,hin k hk,if_pos rfl];congr 1;omega
 have hG:∀b o v,x.G b o=some v->x'.G b o=some v:=fun b o v hv=>hH.g0 b o v (by show x2.G b o=_;rw[h.G];exact hv)
 refine⟨⟨x'.G,β2,τ2⟩,rfl,hG,hβnew,hτnew,hβ2,hτ2, ?_⟩;rw[tM,Er]
 have hmine:∀b,(Ctx.took x2 w m.length mt.length).mine b->C.mine b:=by
  rintro b (h1|⟨i,hi,rfl⟩|⟨t,h1,h2,h3,rfl⟩)
  ·exact hold.new b (oH hold.size h1)
  ·obtain⟨ob,hob⟩:=h.ob i hi
   rw[h.bk i hi];exact(hold.obs _ hob).2.1
  ·rcases h.tok h1 h2 with g|⟨u,_,g1,g2,_⟩
   ·exact absurd g h3
   ·rw[g1]at h3 ⊢
    rcases hold.tks u g2 with k|⟨_,k,_⟩
    ·exact absurd k h3
    ·exact k
 have hkeep:∀b,b<w.heap.size->(∀i,i<m.length->(x.bk (m.getD i 0)).1≠b)->(∀u∈ce mt,(x.τ u).2.1=(x.τ u).2.2\/(x.τ u).1≠b)->w'.heap[b]? =w.heap[b]? /\((∀off,x.G b off=none)->∀off,x'.G b off=none)/\
  (∀off,x.G b off=none->x'.G b off=none):=by
  intro b hb hne hnt
  have hnm:¬(Ctx.took x2 w m.length mt.length).mine b:=by
   rintro(h1|⟨i,hi,h1⟩|⟨t,h1,h2,h3,h4⟩)
   ·omega
   ·rw[h.bk i hi]at h1;exact hne i hi h1
   ·rcases h.tok h1 h2 with g|⟨u,_,g1,_,g3⟩
    ·exact h3 g
    ·rw[g1]at h3 h4
     rcases hnt u g3 with k|k
     ·exact h3 k
     ·exact k h4
  have one:∀off,x.G b off=none->x'.G b off=none:=by
   intro off ho;cases hg:x'.G b off with
   |none=>rfl
   |some v=>
    rcases hH.gm b off v hg with h1|h1
    ·change x2.G b off=some v at h1;rw[h.G,ho]at h1;cases h1
    ·exact absurd h1 hnm
  exact⟨hH.ext b hnm,fun h off=>one off (h off),one⟩
 have hlow:∀p∈eE m (bw lo hi c.ob),∃ob,(p.1,ob)∈c.ob/\p.2=ob.purge lo hi/\¬(lo<=p.1/\p.1<hi)/\p.1∉m/\(∀i,i<m.length->(x.bk (m.getD i 0)).1≠(x.bk p.1).1)/\(∀u∈ce mt,(x.τ u).2.1=(x.τ u).2.2\/(x.τ u).1≠(x.bk p.1).1)/\(x.bk p.1).1<w.heap.size:=by
  intro p hp;obtain⟨h1,h2⟩:=iT.1 hp;obtain⟨h3,ob,h4,h5⟩:=b9 h1;refine⟨ob,h4,h5,h3,h2,fun i hi e=> ?_,fun u hu=> ?_, ?_⟩
  ·obtain⟨ob',hob'⟩:=h.ob i hi
   have:=hold.inj _ hob' _ h4 e;simp only at this;apply h2;rw[<-this];exact ff hi
  ·exact(hold.tko u (h.tk u hu) _ h4).symm
  ·obtain⟨⟨c,e,fl,fh,hO,_⟩,_⟩:=hold.obs _ h4
   exact hO.lt
 have hnew:∀p∈q.os.map (fun p=>(gZ D m p.1,p.2.ren (gZ D m) (jK D))),∃r∈q.os,p=(gZ D m r.1,r.2.ren (gZ D m) (jK D))/\β2 p.1=x'.bk r.1:=by intro p hp;obtain⟨r,hr,rfl⟩:=aR.1 hp;exact⟨r,hr,rfl,hβnew _ (hos r hr).1⟩
 have hnewmine:∀r∈q.os,w.heap.size<=(x'.bk r.1).1\/(∃i,i<m.length/\(x.bk (m.getD i 0)).1=(x'.bk r.1).1)\/(∃u∈ce mt,(x.τ u).2.1≠(x.τ u).2.2/\(x.τ u).1=(x'.bk r.1).1):=by
  intro r hr;rcases (hH.obs r hr).2.1 with h1|⟨i,hi,h1⟩|⟨t,h1,h2,h3,h4⟩
  ·exact .inl h1
  ·exact .inr (.inl ⟨i,hi,by rw[<-h.bk i hi];exact h1⟩)
  ·rcases h.tok h1 h2 with g|⟨u,_,g1,_,g3⟩
   ·exact absurd g h3
   ·rw[g1]at h3 h4;exact .inr (.inr ⟨u,g3,h3,h4⟩)
 have htmine:∀t∈q.tk,(x'.τ t).2.1=(x'.τ t).2.2\/w.heap.size<=(x'.τ t).1\/(∃i,i<m.length/\(x.bk (m.getD i 0)).1=(x'.τ t).1)\/(∃u∈ce mt,(x.τ u).2.1≠(x.τ u).2.2/\(x.τ u).1=(x'.τ t).1):=by
  intro t ht;rcases hH.tks t ht with k|⟨_,k,_⟩
  ·exact .inl k
  ·right
   rcases k with h1|⟨i,hi,h1⟩|⟨t',h1,h2,h3,h4⟩
   ·exact .inl h1
   ·exact .inr (.inl ⟨i,hi,by rw[<-h.bk i hi];exact h1⟩)
   ·rcases h.tok h1 h2 with g|⟨u,_,g1,_,g3⟩
    ·exact absurd g h3
    ·rw[g1]at h3 h4;exact .inr (.inr ⟨u,g3,h3,h4⟩)
 have htold:∀t∈li (ce mt) (cf lo hi c.tk),t∈c.tk/\¬(lo<=t/\t<hi)/\t∉ce mt:=fun t ht=>by obtain⟨h1,h2⟩:=lQ.1 ht;obtain⟨h3,h4⟩:=bA.1 h1;exact⟨h3,h4,h2⟩
 have htblock:∀t∈c.tk,t∉ce mt->(x.τ t).2.1=(x.τ t).2.2\/((x.τ t).1<w.heap.size/\(∀i,i<m.length->(x.bk (m.getD i 0)).1≠(x.τ t).1)/\(∀u∈ce mt,(x.τ u).2.1=(x.τ u).2.2\/(x.τ u).1≠(x.τ t).1)):=by
  intro t ht hnt;rcases hold.tks t ht with h1|⟨⟨c,e,fl,fh,hO,_⟩,_⟩
  ·exact .inl h1
  ·by_cases he:(x.τ t).2.1=(x.τ t).2.2
   ·exact .inl he
   ·refine .inr ⟨hO.lt,fun i hi e'=> ?_,fun u hu=> ?_⟩
    ·obtain⟨ob,hob⟩:=h.ob i hi
     rcases hold.tko t ht _ hob with h1|h1
     ·exact h1 e'.symm
     ·exact he h1
    ·rcases hold.tkd u (h.tk u hu) t ht (fun e=>hnt (e ▸ hu))with k|k|k
     ·exact .inr k
     ·exact .inl k
     ·exact absurd k he
 refine⟨hH.per,fun b o v hv=>hG _ _ _ (hold.g0 b o v hv), ?_,hold.new, ?_, ?_, ?_, ?_, ?_, ?_,hH.os.trans hold.os,hH.tape.trans hold.tape,hH.output.trans hold.output,oH hold.size hH.size, ?_,fun i hi=>(hβ2 i (by omega)).trans (hold.pin i hi),hold.lay⟩
 ·intro b o v hv
  rcases hH.gm b o v hv with h1|h1
  ·exact hold.gm b o v (by rw[<-h.G];exact h1)
  ·exact .inr (hmine b h1)
 ·intro p hp
  rcases al.1 hp with hp|hp
  ·obtain⟨r,hr,rfl,hb⟩:=hnew p hp
   obtain⟨h1,h2,h3⟩:=hH.obs r hr;refine⟨h1.renF (x2:=⟨x'.G,β2,τ2⟩) (fun _ _ _ h=>h) (hβnew _ (hos r hr).1) (fun k hk=>hβnew k ((hos r hr).2.1 k hk)) (fun t ht=>hτnew t ((hos r hr).2.2 t ht)), ?_,fun off=> ?_⟩
   ·show C.mine (β2 (gZ D m r.1)).1;rw[hβnew _ (hos r hr).1];exact hmine _ h2
   ·show x'.G (β2 (gZ D m r.1)).1 off=none;rw[hβnew _ (hos r hr).1];exact h3 off
  ·obtain⟨ob,h1,h2,h3,h4,h5,h6,h7⟩:=hlow p hp
   obtain⟨g1,g2,g3⟩:=hold.obs _ h1;obtain⟨k1,k2,_⟩:=hkeep _ h7 h5 h6;have hb:β2 p.1=x.bk p.1:=hβ2 _ h3;refine⟨?_,by show C.mine (β2 p.1).1;rw[hb];exact g2,fun off=>by show x'.G (β2 p.1).1 off=none;rw[hb];exact k2 g3 off⟩;rw[h2];exact dt.of_heap (x':=⟨x'.G,β2,τ2⟩) g1 k1 hG hβ2 hτ2 h3
 ·rw[cE,List.nodup_append]
  refine⟨?_, ?_, ?_⟩
  ·rw[List.map_map]
   have hnd':=fI.1 hH.nd;refine fI.2 (gY.imp_of_mem (fun{p r} hp hr hne=> ?_) hnd');intro e;simp only[Function.comp]at e;have:(x'.bk p.1).1=(x'.bk r.1).1:=by rw[<-hβnew _ (hos p hp).1,<-hβnew _ (hos r hr).1,e]
   exact hne (hH.inj p hp r hr this)
  ·have h1:(eE m (bw lo hi c.ob)).Sublist (bw lo hi c.ob):=gl _ _
   refine uN.sublist (h1.map cB) ?_;rw[ee];exact hold.nd.filter _
  ·intro o1 h1 o2 h2 e
   subst e;obtain⟨p,hp,rfl⟩:=aR.1 h1;obtain⟨r,hr,hre⟩:=aR.1 h2;obtain⟨u,hu,rfl⟩:=aR.1 hp;obtain⟨ob,k1,k2,k3,k4,_⟩:=hlow r hr;simp only at hre
   by_cases hum:u.1<m.length
   ·apply k4;rw[hre];show gZ D m u.1∈m;unfold gZ;rw[if_pos hum];exact ff hum
   ·apply k3;rw[hre];show lo<=gZ D m u.1/\gZ D m u.1<hi
    unfold gZ;rw[if_neg hum];have:=(hos u hu).1;omega
 ·intro p hp r hr hpr
  change (β2 p.1).1=(β2 r.1).1 at hpr;rcases al.1 hp with hp|hp<;>rcases al.1 hr with hr|hr
  ·obtain⟨p',hp',rfl,hb⟩:=hnew p hp
   obtain⟨r',hr',rfl,hb'⟩:=hnew r hr;rw[hb,hb']at hpr;have:=hH.inj p' hp' r' hr' hpr;simp only;rw[this]
  ·obtain⟨p',hp',rfl,hb⟩:=hnew p hp
   obtain⟨ob,k1,k2,k3,k4,k5,k6,k7⟩:=hlow r hr;rw[hb,hβ2 _ k3]at hpr;rcases hnewmine p' hp' with h1|⟨i,hi,h1⟩|⟨u,hu,h1,h2⟩
   ·omega
   ·exact absurd (h1.trans hpr) (k5 i hi)
   ·rcases k6 u hu with g|g
    ·exact absurd g h1
    ·exact absurd (h2.trans hpr) g
  ·obtain⟨r',hr',rfl,hb⟩:=hnew r hr
   obtain⟨ob,k1,k2,k3,k4,k5,k6,k7⟩:=hlow p hp;rw[hb,hβ2 _ k3]at hpr;rcases hnewmine r' hr' with h1|⟨i,hi,h1⟩|⟨u,hu,h1,h2⟩
   ·omega
   ·exact absurd (h1.trans hpr.symm) (k5 i hi)
   ·rcases k6 u hu with g|g
    ·exact absurd g h1
    ·exact absurd (h2.trans hpr.symm) g
  ·obtain⟨ob,k1,k2,k3,_⟩:=hlow p hp
   obtain⟨ob',k1',k2',k3',_⟩:=hlow r hr;rw[hβ2 _ k3,hβ2 _ k3']at hpr;exact hold.inj (p.1,ob) k1 (r.1,ob') k1' hpr
 ·intro t ht
  rcases al.1 ht with ht|ht
  ·obtain⟨u,hu,rfl⟩:=aR.1 ht
   have:=hH.tks u hu;unfold gq at this ⊢;simp only[hτnew u (htk u hu)];exact this.imp id fun⟨h1,h2,h3⟩=>⟨h1,hmine _ h2,h3⟩
  ·obtain⟨h1,h2,h3⟩:=htold t ht
   have:=hold.tks t h1;unfold gq at this ⊢;simp only[hτ2 t h2];rcases this with g|⟨⟨c,e,fl,fh,hO,hc⟩,h4,h5⟩
   ·exact .inl g
   ·rcases htblock t h1 h3 with g|⟨k1,k2,k3⟩
    ·exact .inl g
    ·obtain⟨g1,_,g2⟩:=hkeep _ k1 k2 k3
     exact .inr ⟨⟨c,e,fl,fh,hO.of_heap g1,hc⟩,h4,fun o ho1 ho2=>g2 o (h5 o ho1 ho2)⟩
 ·intro t ht p hp
  rcases al.1 ht with ht|ht<;>rcases al.1 hp with hp|hp
  ·obtain⟨u,hu,rfl⟩:=aR.1 ht
   obtain⟨r,hr,rfl,hb⟩:=hnew p hp;show(τ2 (jK D u)).1≠(β2 (gZ D m r.1)).1\/(τ2 (jK D u)).2.1=(τ2 (jK D u)).2.2;rw[hτnew u (htk u hu),hβnew _ (hos r hr).1];exact hH.tko u hu r hr
  ·obtain⟨u,hu,rfl⟩:=aR.1 ht
   obtain⟨ob,k1,k2,k3,k4,k5,k6,k7⟩:=hlow p hp;show(τ2 (jK D u)).1≠(β2 p.1).1\/(τ2 (jK D u)).2.1=(τ2 (jK D u)).2.2;rw[hτnew u (htk u hu),hβ2 _ k3];rcases htmine u hu with g|g|⟨i,hi,g⟩|⟨v,hv,g1,g2⟩
   ·exact .inr g
   ·left;intro e;omega
   ·left;intro e;exact k5 i hi (g.trans e)
   ·left;intro e
    rcases k6 v hv with k|k
    ·exact g1 k
    ·exact k (g2.trans e)
  ·obtain⟨h1,h2,h3⟩:=htold t ht
   obtain⟨r,hr,rfl,hb⟩:=hnew p hp;show(τ2 t).1≠(β2 (gZ D m r.1)).1\/(τ2 t).2.1=(τ2 t).2.2;rw[hτ2 t h2,hβnew _ (hos r hr).1];rcases htblock t h1 h3 with g|⟨k1,k2,k3⟩
   ·exact .inr g
   ·left;intro e
    rcases hnewmine r hr with g|⟨i,hi,g⟩|⟨v,hv,g1,g2⟩
    ·omega
    ·exact k2 i hi (g.trans e.symm)
    ·rcases k3 v hv with k|k
     ·exact g1 k
     ·exact k (g2.trans e.symm)
  ·obtain⟨h1,h2,h3⟩:=htold t ht
   obtain⟨ob,k1,k2,k3,_⟩:=hlow p hp;show(τ2 t).1≠(β2 p.1).1\/(τ2 t).2.1=(τ2 t).2.2;rw[hτ2 t h2,hβ2 _ k3];exact hold.tko t h1 (p.1,ob) k1
 ·intro t ht u hu htu
  show kq (τ2 t) (τ2 u)\/(τ2 t).2.1=(τ2 t).2.2\/(τ2 u).2.1=(τ2 u).2.2;rcases al.1 ht with ht|ht<;>rcases al.1 hu with hu|hu
  ·obtain⟨t',ht',rfl⟩:=aR.1 ht
   obtain⟨u',hu',rfl⟩:=aR.1 hu;rw[hτnew t' (htk t' ht'),hτnew u' (htk u' hu')];exact hH.tkd t' ht' u' hu' (fun e=>htu (by rw[e]))
  ·obtain⟨t',ht',rfl⟩:=aR.1 ht
   obtain⟨h1,h2,h3⟩:=htold u hu;rw[hτnew t' (htk t' ht'),hτ2 u h2];rcases htblock u h1 h3 with k|⟨k1,k2,k3⟩
   ·exact .inr (.inr k)
   ·rcases htmine t' ht' with g|g|⟨i,hi,g⟩|⟨v,hv,g1,g2⟩
    ·exact .inr (.inl g)
    ·exact .inl fun e=>by omega
    ·exact .inl fun e=>k2 i hi (g.trans e)
    ·refine .inl fun e=> ?_
     rcases k3 v hv with k|k
     ·exact g1 k
     ·exact k (g2.trans e)
  ·obtain⟨u',hu',rfl⟩:=aR.1 hu
   obtain⟨h1,h2,h3⟩:=htold t ht;rw[hτnew u' (htk u' hu'),hτ2 t h2];rcases htblock t h1 h3 with k|⟨k1,k2,k3⟩
   ·exact .inr (.inl k)
   ·rcases htmine u' hu' with g|g|⟨i,hi,g⟩|⟨v,hv,g1,g2⟩
    ·exact .inr (.inr g)
    ·exact .inl fun e=>by omega
    ·exact .inl fun e=>k2 i hi (g.trans e.symm)
    ·refine .inl fun e=> ?_
     rcases k3 v hv with k|k
     ·exact g1 k
     ·exact k (g2.trans e.symm)
  ·obtain⟨h1,h2,_⟩:=htold t ht
   obtain⟨h3,h4,_⟩:=htold u hu;rw[hτ2 t h2,hτ2 u h4];exact hold.tkd t h1 u h3 htu
 ·intro b hb
  have hnm:¬(Ctx.took x2 w m.length mt.length).mine b:=fun h=>hb (hmine b h)
  exact(hH.ext b hnm).trans (hold.ext b hb)
end Go.Sy
namespace Go.Sy
variable [bd]
variable {P : Program} {C : Ctx} {x : Sit} {a : Act} {w : World} {N : Nat} {c c' : CSt} {s : St}
theorem uQ(t:Tok):t.ren (fun k=>k)=t:=by cases t<;>rfl
theorem Z1(sv:SV):sv.ren (fun k=>k) (fun k=>k)=sv:=by
 refine SV.rec (motive_1:=fun sv=>sv.ren (fun k=>k) (fun k=>k)=sv) (motive_2:=fun _=>True) (motive_3:=fun l=>SV.renL (fun k=>k) (fun k=>k) l=l)
  ?_ ?_ ?_ ?_ ?_ ?_ ?_ ?_ ?_ ?_ ?_ ?_ ?_ ?_ ?_ ?_ ?_ ?_ ?_ ?_ sv
 all_goals intros
 all_goals first
  |trivial
  |rfl
  |(simp only[SV.ren,SV.renL,uQ];done)
  |(simp only[SV.ren,SV.renL, *])
theorem ZX{q:dE}(h:q.small=true):(∀p∈q.os,p.1<1000/\(∀k∈p.2.ids,k<1000)/\∀k∈p.2.toks,k<1000)/\(∀k∈q.r.ids,k<1000)/\(∀k∈q.r.toks,k<1000)/\∀k∈q.tk,k<1000:=by simp only[dE.small,aA,aU,decide_eq_true_eq]at h;obtain⟨⟨⟨h1,h2⟩,h3⟩,h4⟩:=h;exact⟨fun p hp=>⟨(h1 p hp).1.1,(h1 p hp).1.2,(h1 p hp).2⟩,h2,h3,h4⟩
theorem md{d:Option Nat}{m:List Nat}{mt:List (Option Nat)}{q:dE}{x2 x':Sit}{w':World}{v:Value}(hM:aM C x s a w)(hS:Sim N c s)(hd:∀k,d=some k->k<N)(h:DE x x2 c m mt)
 (hH:cL (Ctx.took x2 w m.length mt.length) x' q.os q.tk w') (hr:Rep x' q.r v) (hwf:∀p∈q.os,p.2.wf=true) (hg:∀i,i<m.length->x'.bk i=x2.bk i) (hm:∀o∈m,inR (d.getD 0) o=false) (hs:q.small=true):
 M C N (jp c d m (ce mt) q) (a.put d v) w':=by
 obtain⟨s1,s2,s3,s4⟩:=ZX hs;have hE:=hS.exact hM;obtain⟨x3,g1,g2,g3,g4,g5,g6,g7⟩:=uP hE.heap h hH hm s1 s4 hg
 let c3:CSt:=⟨cV ((d.getD 0+1)*1000) ((d.getD 0+2)*1000) c.tm,pu (eE m (bw ((d.getD 0+1)*1000) ((d.getD 0+2)*1000) c.ob)) (nb (d.getD 0) m q.os),
  pw (li (ce mt) (cf ((d.getD 0+1)*1000) ((d.getD 0+2)*1000) c.tk)) (pn (d.getD 0) q.tk)⟩
 have hI:Inv N c3:=by
  refine⟨fun p hp=> ?_,y5 ?_,fun p hp=> ?_⟩
  ·obtain⟨r,hr,e⟩:=iS hp
   rw[e];exact hS.inv.dom r hr
  ·exact gY.sublist ((gl _ _).map cB) (tx hS.inv.so)
  ·rcases lP hp with e|e
   ·rw[tM]at e
    obtain⟨r,hr,rfl⟩:=aR.1 e;exact wN (hwf r hr)
   ·obtain⟨_,ob,h1,h2⟩:=b9 (iT.1 e).1
    rw[h2];exact nX (hS.inv.wf _ h1)
 have hM3:aM C x3 (c3.st N) a w':=by
  refine⟨⟨?_,fun i hi=> ?_⟩,hM.defers,g7.only (fun p hp=> ?_) (iA hI.so) (fun t ht=> ?_)⟩
  ·have:=hE.tm.1;simpa[CSt.st]using this
  ·have hiN:i<N:=by simpa[CSt.st]using hi
   have h1:=hE.tm.2 i (by simpa[CSt.st]using hiN);simp only[CSt.st,aa,aO,bW hiN,bn,aX]at h1 ⊢;have e:c3.get i=(c.get i).purge ((d.getD 0+1)*1000) ((d.getD 0+2)*1000):=fx _ _ i c.tm;rw[e];exact h1.mono (x':=x3) g2 g5 g6
  ·rcases lP hp with e|e
   ·exact al.2 (.inl e)
   ·exact al.2 (.inr e)
  ·rcases pQ.1 ht with e|e
   ·exact al.2 (.inl e)
   ·exact al.2 (.inr e)
 refine⟨x3,_,hM3.put d (c:=q.r.ren (gZ (d.getD 0) m) (jK (d.getD 0))) ?_,(Sim.of hI).put hd _⟩;exact Rep.renF (x:=x') (x2:=x3) (fun b o v hv=>by rw[g1];exact hv) hr (fun k hk=>g3 k (s2 k hk)) (fun t ht=>g4 t (s3 t ht))
theorem vW{call:cN}{g:Nat}{d:Option Nat}{as:List SV}{vs:List Value}(hM:aM C x s a w)(hS:Sim N c s)(hd:∀k,d=some k->k<N)(hsp:∀as os k q,call g as os k=some q->i6 P g as os k (· =q))
 (hc:lh c d (call g (SV.bareL as) [] 0)=some c') (hvs:cd x as vs):Calls P g ⟨vs⟩ w fun en w'=>∃v,en= .returned v/\M C N c' (a.put d v) w':=by
 cases hq:call g (SV.bareL as) [] 0 with
 |none=>rw[hq]at hc;cases hc
 |some q=>
  rw[hq]at hc
  have hb:cd x (SV.bareL as) vs:=by rw[jU];refine⟨by simpa using hvs.1,fun i hi=> ?_⟩;rw[aT _ (by rfl)];exact(hvs.2 i (by simpa using hi)).bare rfl rfl
  obtain⟨_,hS'⟩:=hsp _ _ _ _ hq
  by_cases hbare:q.bare=true
  ·simp only[lh,hbare,my,aq.injEq]at hc
   subst hc;have hcal:=tc (m:=[]) (os:=[]) (mo:=fun k=>k) (mt:=fun k=>k) hM (fun i hi=>by simp at hi) rfl (by simp) (fun i hi=>by simp at hi);refine(hS' (Ctx.callee x w [] (x.back (fun k=>k) (fun k=>k)).bk) x w vs rfl rfl ?_ (by simp) (by simp) hcal hb).mono ?_
   ·rintro b (h|⟨i,hi,_⟩)
    ·exact .inl h
    ·simp at hi
   ·rintro en w' ⟨v,x',q',rfl,hq',hr,hH,hwf,_⟩
    subst hq';simp only[dE.bare,aA,List.isEmpty_iff]at hbare;obtain⟨⟨⟨b1,b2⟩,b3⟩,b4⟩:=hbare
    obtain⟨hG,hA⟩:=vR (m:=[]) (os:=[]) (mo:=fun k=>k) (mt:=fun k=>k) (lo:=0) (hi:=0) (β2:=x.bk) (τ2:=x.τ) hM rfl (fun i hi=>by simp at hi) hH (fun i hi=>by simp at hi) (fun i hi=>by omega) (fun _ _=>rfl) (fun _ _=>rfl)
     (fun p hp=>by rw[b1]at hp;cases hp) (fun p hp=>by rw[b1]at hp;cases hp) (fun p hp=>by rw[b1]at hp;cases hp) (fun p hp=>by rw[b1]at hp;cases hp) (fun t ht=>by rw[b2]at ht;cases ht)
    have hA':cL C ⟨x'.G,x.bk,x.τ⟩ s.ob s.tk w':=by
     refine hA.only (fun p hp=> ?_) hM.heap.nd (fun t ht=> ?_)
     ·exact al.2 (.inr (iT.2 ⟨by rw[Eu];exact hp,by simp⟩))
     ·exact al.2 (.inr (bA.2 ⟨ht,by omega⟩))
    refine⟨v,rfl,⟨x'.G,x.bk,x.τ⟩,_, ?_,hS.put hd q'.r⟩;refine aM.put ⟨cd.grow (x:=x) (x':=⟨x'.G,x.bk,x.τ⟩) hG rfl rfl hM.tm,hM.defers,hA'⟩ d ?_;have:=Rep.renF (x:=x') (x2:=⟨x'.G,x.bk,x.τ⟩) (mo:=fun k=>k) (mt:=fun k=>k) (fun _ _ _ h=>h) hr (fun k hk=>by rw[b3]at hk;cases hk) (fun t ht=>by rw[b4]at ht;cases ht);rwa[Z1]at this
  ·have hbf:q.bare=false:=by simpa using hbare
   simp only[lh,hbf,my]at hc;cases hsm:q.small with
   |false=>rw[hsm]at hc;cases hc
   |true=>
    rw[hsm]at hc;simp only[vY,aq.injEq]at hc;subst hc;have hE:=hS.exact hM;have hT:DE x x c [] []:=⟨rfl,fun i hi=>by simp at hi,fun k hk=>by simp at hk,by simp,fun i hi=>by simp at hi,by simp[ce],fun t ht=>by simp[ce]at ht⟩;refine(hS' (Ctx.took x w 0 0) x w vs rfl rfl ?_ (by simp) (by simp) (pE hE.heap hT rfl (fun i hi=>by simp at hi)) hb).mono ?_
    ·rintro b h;exact h
    ·rintro en w' ⟨v,x',q',rfl,hq',hr,hH,hwf,_⟩
     subst hq';exact⟨v,rfl,md hM hS hd hT hH hr hwf (fun i hi=>by simp at hi) (fun o ho=>by simp at ho) hsm⟩
theorem vb{call:cN}{sg:Sig}{g:Nat}{d:Option Nat}{as:List SV}{vs:List Value}(hM:aM C x s a w)(hS:Sim N c s)(hd:∀k,d=some k->k<N)(hsp:∀as os k q,call g as os k=some q->i6 P g as os k (· =q))
 (hc:jg call sg d g (c,as)=some c') (hvs:cd x as vs):Calls P g ⟨vs⟩ w fun en w'=>∃v,en= .returned v/\M C N c' (a.put d v) w':=by
 simp only[jg]at hc;generalize hz:js c.tk sg.own 50 0 as=z at hc;obtain⟨as2,mt1⟩:=z;simp only[mj]at hc;generalize dx c 60 [] (SV.idsL as2)=m at hc;cases ho:fK c m with
 |none=>rw[ho]at hc;cases hc
 |some os0=>
  rw[ho]at hc;simp only[kz]at hc;generalize hz2:dI c.tk (50+mt1.length) os0=z2 at hc;obtain⟨os,mt2⟩:=z2;simp only[mi]at hc;cases hb:(mU (SV.idsL as2++eX os) m&&di m&&di (ce (mt1++mt2))&&decide (m.length<=40)&&m.all fun o=> !inR (d.getD 0) o)with
  |false=>rw[hb]at hc;cases hc
  |true=>
   rw[hb]at hc;simp only[mh]at hc;simp only[aA,decide_eq_true_eq,aU,dn]at hb;obtain⟨⟨⟨⟨hsub,hmn⟩,htn⟩,hlen⟩,hin⟩:=hb;cases hq:call g (SV.renL (fS m) id as2) (dO (fS m) id os) (mt1.length+mt2.length)with
   |none=>rw[hq]at hc;cases hc
   |some q=>
    rw[hq]at hc;simp only[m5]at hc;cases hsm:q.small with
    |false=>rw[hsm]at hc;cases hc
    |true=>
     rw[hsm]at hc;simp only[vd,aq.injEq]at hc;subst hc;have hE:=hS.exact hM;obtain⟨hol,hog⟩:=ol ho
     let τ2:Nat->Nat×Nat×Nat:=fun t=>if 50<=t/\t<50+(mt1++mt2).length then M1 x ((mt1++mt2).getD (t-50) none)else(0,0,0)
     let x1:Sit:=⟨x.G,x.bk,τ2⟩
     let x2:Sit:=⟨x.G,fun i=>x.bk (m.getD i 0),τ2⟩
     have hτ:∀y:Sit,y.τ=τ2->mJ x y 50 (mt1++mt2):=by
      intro y hy k hk;rw[hy];show(if _ then _ else _)=_;rw[if_pos ⟨by omega,by omega⟩]
      congr 2;omega
     have hmem:∀i,i<m.length->(m.getD i 0,os0.getD i (.rc []))∈c.ob:=fun i hi=>iG (hog i hi)
     have hsubm:=tt hsub;have hmnd:=iQ hmn
     have hT:DE x x2 c m (mt1++mt2):=by
      refine⟨rfl,fun _ _=>rfl,hτ x2 rfl,hmnd,fun i hi=>⟨_,hmem i hi⟩,iQ htn,fun t ht=> ?_⟩;rw[eU,al]at ht;rcases ht with ht|ht
      ·have:=mS (tk:=c.tk) (own:=sg.own) (cs:=as) (j:=50) (i:=0) t (by rw[hz];exact ht)
       exact this
      ·have:=lK (tk:=c.tk) (obs:=os0) (j:=50+mt1.length) t (by rw[hz2];exact ht)
       exact this
     have hTx1:=hτ x1 rfl
     have ha1:cd x1 as2 vs:=by have:=kU (x:=x) (x1:=x1) rfl rfl (tk:=c.tk) (own:=sg.own) (j:=50) (i:=0) hvs (by rw[hz];exact hTx1.left);rwa[hz]at this
     have hβ:∀o∈m,x2.bk (fS m o)=x.bk o:=fun o ho=>by show x.bk (m.getD (fS m o) 0)=_;rw[(lz ho).2]
     have ha2:cd x2 (SV.renL (fS m) id as2) vs:=by
      rw[ed];refine⟨by simpa using ha1.1,fun i hi=> ?_⟩;have hi':i<as2.length:=by simpa using hi
      rw[aT _ (by rfl)];exact Rep.renF (x:=x1) (x2:=x2) (fun _ _ _ h=>h) (ha1.2 i hi') (fun k hk=>hβ k (hsubm k (al.2 (.inl (ko hi' k hk))))) (fun t _=>rfl)
     obtain⟨hosl,hosr⟩:=kx (x:=x) (x1:=x1) (w:=w) rfl rfl (tk:=c.tk) (obs:=os0) (j:=50+mt1.length) (f:=fun i=>m.getD i 0)
      (fun i hi=>(hE.heap.obs _ (hmem i (by omega))).1) (by rw[hz2];exact hTx1.right)
     rw[hz2]at hosl hosr;simp only at hosl hosr
     have hob2:∀i,i<m.length->dt x2 w i ((dO (fS m) id os).getD i (.rc [])):=by
      intro i hi;have h1:=hosr i (by omega);have hio:i<os.length:=by omega
      have e:(dO (fS m) id os).getD i (.rc [])=(os.getD i (.rc [])).ren (fS m) id:=by rw[fA,aa,aa,aO,ab hio];rfl
      rw[e];have hm':=ff (m:=m) hi;have hos:os.getD i (.rc [])∈os:=by rw[aa,ab hio];exact bi _
      have h2:=h1.renF (x2:=x2) (mo:=fS m) (mt:=id) (fun _ _ _ h=>h) (hβ _ hm') (fun k hk=>hβ k (hsubm k (al.2 (.inr (nt hos k hk))))) (fun t _=>rfl);have e2:fS m (m.getD i 0)=i:=kB hmnd (lz hm').1 hi (lz hm').2;rwa[e2]at h2
     have hrl:(dO (fS m) id os).length=m.length:=by rw[fA,aN];omega
     obtain⟨_,hS'⟩:=hsp _ _ _ _ hq;have hl12:mt1.length+mt2.length=(mt1++mt2).length:=by simp
     rw[hl12]at hS';refine(hS' (Ctx.took x2 w m.length (mt1++mt2).length) x2 w vs rfl rfl ?_ (by omega) ?_ (pE hE.heap hT hrl hob2) ha2).mono ?_
     ·rintro b h;rw[hrl];exact h
     ·intro o ho'
      rw[fA]at ho';obtain⟨r,hr,rfl⟩:=aR.1 ho';refine wN ?_
      have:=lJ (tk:=c.tk) (obs:=os0) (j:=50+mt1.length) (fun o h'=>by obtain⟨i,hi,rfl⟩:=bM h';have:=hS.inv.wf _ (hmem i (by omega));simpa[aa,ab hi]using this) r (by rw[hz2];exact hr)
      exact this
     ·rintro en w' ⟨v,x',q',rfl,hq',hr,hH,hwf,hg⟩
      subst hq';exact⟨v,rfl,md hM hS hd hT hH hr hwf (fun i hi=>hg i (by omega)) (fun o ho'=>hin o ho') hsm⟩
theorem td{call:cN}{sg:Sig}{g:Nat}{d:Option Nat}{as:List SV}{vs:List Value}(hM:aM C x s a w)(hS:Sim N c s)(hd:∀k,d=some k->k<N)(hsp:∀as os k q,call g as os k=some q->i6 P g as os k (· =q))
 (hc:gC call sg c d g as=some c') (hvs:cd x as vs):Calls P g ⟨vs⟩ w fun en w'=>∃v,en= .returned v/\M C N c' (a.put d v) w':=by
 unfold gC at hc;generalize ((SV.idsL as).isEmpty&&sg.own.isEmpty)=b at hc;cases b with
 |true=>exact vW hM hS hd hsp hc hvs
 |false=>simp only[jo]at hc;obtain⟨x1,s1,h1,h2,h3⟩:=iI (l:=il sg.raw 0 as) hM hS hvs;exact vb h1 h2 hd hsp hc h3
end Go.Sy
