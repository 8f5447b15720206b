/- An engine that steps through Go code with symbolic values: sound by proof. No condition. -/
import Derived.Test.YtkggincjigbelaaGreatDoorEbB
import Derived.LoopN
open Array renaming getD_eq_getD_getElem? -> bi, getElem?_eq_getElem -> gK
open Bool renaming and_eq_true -> aB, not_eq_true' -> dv
open List renaming Nodup -> wB, Pairwise -> ge, Sublist -> nj, all_eq_true -> aR, contains_eq_mem -> eG, drop_take -> fd, filter_cons -> kR, getD_eq_getElem?_getD -> aa, getElem?_append_left -> bQ, getElem?_append_right -> bU, getElem?_drop -> bw, getElem?_eq_getElem -> ab, getElem?_eq_none -> eo, getElem?_map -> aQ, getElem?_range -> bV, getElem?_set -> gk, getElem?_take -> bL, getElem_mem -> bh, getElem_of_mem -> cr, length_append -> ac, length_cons -> aj, length_drop -> aI, length_map -> aP, length_set -> cT, length_take -> ax, map_append -> ct, map_cons -> aC, mem_append -> al, mem_cons -> av, mem_cons_of_mem -> ao, mem_cons_self -> aD, mem_map -> aT, mem_map_of_mem -> iu, mem_of_mem_drop -> DG, mem_of_mem_take -> b8, mem_singleton -> bf, nodup_cons -> dC, pairwise_cons -> cC, pairwise_map -> gj, range -> bE, replicate -> aE
open Nat renaming add_assoc -> ew, add_mul -> bB, add_zero -> eY, le_refl -> aH, le_trans -> pU, lt_or_ge -> bY, min_eq_left -> gM, mod_eq_of_lt -> cy, mul_comm -> cz, mul_le_mul_right -> bv, succ_mul -> dq
open Option renaming bind_some -> cO, getD_some -> aY, map_eq_some_iff -> ae, map_some -> bo, some -> an
open Prod renaming fst -> cE
set_option linter.unusedVariables false
set_option linter.unusedSimpArgs false
set_option linter.unnecessarySimpa false
set_option linter.unusedSectionVars false
namespace Go.Sy
variable [aZ]
variable {call : cU} {sg : Nat -> Sig} {c : CSt} {d : Option Nat} {k : Nat}
theorem xeD{α:Type}{p:Prop}[Decidable p]{v:α}(h:p):gd p v=some v:=if_pos h
def fm(c:CSt)(d:Option Nat):Option SV->Option CSt
 |some v=>some (c.put d v)
 |none=>none
theorem C0(v:SV):fm c d (some v)=some (c.put d v):=rfl
theorem C1:fm c d none=none:=rfl
theorem Fu(l:List (Nat×SV))(o:List (Nat×aF))(t:List Nat)(v:SV):CSt.put ⟨l,o,t⟩ (some k) v=⟨jp l k v,o,t⟩:=rfl
theorem Fv(v:SV):CSt.put c none v=c:=rfl
theorem xeC(l:List (Nat×SV))(o:List (Nat×aF))(t:List Nat)(n:Nat):CSt.get ⟨l,o,t⟩ n=ej l n:=rfl
theorem Rx(l:List (Nat×SV))(o:List (Nat×aF))(t:List Nat)(n:Nat):CSt.look ⟨l,o,t⟩ n=iJ o n:=rfl
theorem xoZ(n:Nat):c.ev (.t n)=c.get n:=rfl
theorem xo1(v:SV):c.ev (.c v)=v:=rfl
theorem xo0(g:Nat):c.ev (.f g)= .fn g [] []:=rfl
theorem pF:c.kill []=c:=rfl
theorem Dc(l:List (Nat×SV))(o:List (Nat×aF))(t:List Nat)(n:Nat)(r:List Nat):CSt.kill ⟨l,o,t⟩ (n::r)=⟨wk l (n::r),o,t⟩:=rfl
def Ai:Option SV->Option nY
 |some v=>some {val:=v}
 |none=>none
theorem Cw(v:SV):Ai (some v)=some {val:=v}:=rfl
theorem Cx:Ai none=none:=rfl
theorem pO{so:SOp}{o:Option SV}(h:dM c d so=Ai o):nb c d (dM c d so)=fm c d o:=by rw[h];cases o<;>rfl
theorem PO(o:Option SV):(match o with|some v=>some {val:=v}|none=>none:Option nY)=Ai o:=by cases o<;>rfl
def DX:SV->Option SV
 | .ptr o off=>some (.ptr o off)
 | .ap o sz i j=>some (.ap o sz i j)
 | .pp cs=>some (.pp cs)
 | .fn f a b=>some (.fn f a b)
 |_=>none
def ZN(ne:Bool):SV->SV->Option SV
 | .bool a,.bool b=>some (.bool (if ne then decide (a≠b)else decide (a=b)))
 |_,_=>none
def ZK(ne:Bool)(ts:List Nat):SV->SV->Option SV
 | .agg cs,.agg ds=>(gD ts cs ds).map fun b=> .bool (if ne then !b else b)
 |_,_=>none
def tW:SV->Option SV
 | .str l=>some (.str l)
 |_=>none
def D3(ne:Bool):SV->Option SV
 | .nili=>some (.bool (!ne))
 |_=>none
def Tf:SV->Option SV
 | .str l=>some (.byt l .no)
 |_=>none
def ZO(c:CSt):SV->Option SV
 | .str _=>none
 |v=>(ep c v).map .str
def GG(l:List UInt8):Option Int->Option Int->Option SV
 |some a,some b=>gd (0<=a/\a<=b/\b<=l.length) (.str ((l.take b.toNat).drop a.toNat))
 |_,_=>none
def DJ(c:CSt)(lo hi:Option Arg):SV->Option SV
 | .str l=>GG l (km c lo 0) (km c hi l.length)
 |_=>none
def DK(c:CSt)(len sz:Nat)(lo hi mx:Option Arg):SV->Option SV
 | .ptr o off=>if off=0 then nR c sz (.psl o sz 0 len (some len)) lo hi mx else none
 |_=>none
def uw(off:Nat):SV->Option SV
 | .ptr o k=>some (.ptr o (k+off))
 | .ap o sz i j=>some (.ap o sz i (j+off))
 | .pp cs=>some (.pp (cs.drop off))
 |_=>none
def ZA(off n:Nat)(ag:Bool):SV->Option SV
 | .agg cs=>gd (off+n<=cs.length) (dt ag n (cs.drop off))
 |_=>none
def oT(sz:Nat):SV->Option Int->Option SV
 | .byt l _,some n=>gd (0<=n/\n<l.length/\sz=1) (.pp [.u8 (l.getD n.toNat 0)])
 | .lst sz' xs _,some n=>gd (0<=n/\n<xs.length/\sz=sz') (.pp (xs.getD n.toNat []))
 | .psl o sz' off k _,some n=>gd (0<=n/\n<k/\sz=sz') (.ap o sz (off+n.toNat) 0)
 |_,_=>none
def pG(len sz o off:Nat)(n:Int):Option aF->Option SV
 |some (.rc _)=>gd (0<=n/\n<len) (.ptr o (off+n.toNat*sz))
 |some _=>gd (off=0/\0<=n/\n<len) (.ap o sz n.toNat 0)
 |none=>none
def mp(c:CSt)(len sz:Nat):SV->Option Int->Option SV
 | .ptr o off,some n=>pG len sz o off n (c.look o)
 | .pp cs,some n=>gd (0<=n/\n<len/\cs.length=len*sz) (.pp (cs.drop (n.toNat*sz)))
 |_,_=>none
def D6(len sz:Nat)(ag:Bool):SV->Option Int->Option SV
 | .agg cs,some n=>gd (0<=n/\n<len/\cs.length=len*sz) (dt ag sz (cs.drop (n.toNat*sz)))
 |_,_=>none
def D5:SV->Option Int->Option SV
 | .str l,some n=>gd (0<=n/\n<l.length) (.u8 (l.getD n.toNat 0))
 |_,_=>none
def ZJ(i:Nat):SV->Option SV
 | .tup vs=>gd (i<vs.length) (vs.getD i .undef)
 |_=>none
def lenC:Option Nat->Option SV
 |some n=>some (.int .i64 (n:Nat))
 |none=>none
def ZM:SV->Option SV
 | .psl _ _ _ _ (some m)=>some (.int .i64 m)
 | .byt l t=>if t= .clip then some (.int .i64 l.length)else none
 | .lst _ xs t=>if t= .clip then some (.int .i64 xs.length)else none
 |_=>none
def D0:SV->SV->Option SV
 | .int k a,.int k' b=>if k=k' then some (.int k (if b<a then b else a))else none
 |_,_=>none
def D1:SV->SV->Option SV
 | .int k a,.int k' b=>if k=k' then some (.int k (if a<b then b else a))else none
 |_,_=>none
def uy:Option (List SV)->Option SV
 |some l=>some (.agg l)
 |none=>none
def Zs(sz:Nat):Option (List (List SV))->Option SV
 |some r=>some (.lst sz r .clip)
 |none=>none
def D2:Option (List UInt8)->Option SV
 |some r=>some (.byt r .clip)
 |none=>none
theorem xfR(x:Arg):cD c (.mov x)=some (c.ev x):=rfl
theorem Ak(z:List SV)(ps:List (Nat×Nat×Arg)):cD c (.build z ps)=uy (iL z (psC c ps)):=by simp only[cD];cases iL z (psC c ps)<;>rfl
theorem S7(sz:Nat)(xs:List Arg):cD c (.lit sz xs)=Zs sz (rows sz (evL c xs)):=by simp only[cD];cases rows sz (evL c xs)<;>rfl
theorem GD(xs:List Arg):cD c (.litB xs)=D2 (toB (evL c xs)):=by simp only[cD];cases toB (evL c xs)<;>rfl
theorem xbZ(n:Nat)(ag:Bool)(a:Arg):cD c (.load n ag a)=lZ c n ag (c.ev a):=rfl
theorem xbV(x:Arg):cD c (.nchk x)=DX (c.ev x):=rfl
theorem xfW(op:BinOp)(x y:Arg):cD c (.bin op x y)=Ep op (c.ev x) (c.ev y):=rfl
theorem xfX(ne:Bool)(x y:Arg):cD c (.beq ne x y)=ZN ne (c.ev x) (c.ev y):=rfl
theorem xfU(ne:Bool)(ts:List Nat)(x y:Arg):cD c (.eqS ne ts x y)=ZK ne ts (c.ev x) (c.ev y):=rfl
theorem xmS(op:UnOp)(x:Arg):cD c (.un op x)=wD op (c.ev x):=rfl
theorem PR(q:IntKind)(x:Arg):cD c (.toInt q x)=ib q (c.ev x):=rfl
theorem PQ(x:Arg):cD c (.toStr x)=tW (c.ev x):=rfl
theorem xb1(ne:Bool)(x:Arg):cD c (.isni ne x)=D3 ne (c.ev x):=rfl
theorem xfQ(x:Arg):cD c (.s2b x)=Tf (c.ev x):=rfl
theorem xfY(x:Arg):cD c (.b2s x)=ZO c (c.ev x):=rfl
theorem xbW(f:Nat)(a b:List Arg):cD c (.mkfn f a b)=some (.fn f (evL c a) (evL c b)):=rfl
theorem GC(x:Arg)(lo hi:Option Arg):cD c (.slcS x lo hi)=DJ c lo hi (c.ev x):=by simp only[cD];cases c.ev x<;>rfl
theorem xbT(sz:Nat)(x:Arg)(lo hi mx:Option Arg):cD c (.slcL sz x lo hi mx)=nR c sz (c.ev x) lo hi mx:=rfl
theorem xbU(len sz:Nat)(x:Arg)(lo hi mx:Option Arg):cD c (.slcA len sz x lo hi mx)=DK c len sz lo hi mx (c.ev x):=rfl
theorem PS(off:Nat)(x:Arg):cD c (.faddr off x)=uw off (c.ev x):=rfl
theorem xfS(off n:Nat)(ag:Bool)(x:Arg):cD c (.fld off n ag x)=ZA off n ag (c.ev x):=rfl
theorem EK(sz:Nat)(x i:Arg):cD c (.iaddrL sz x i)=oT sz (c.ev x) (c.ev i).num:=rfl
theorem uP(len sz:Nat)(x i:Arg):cD c (.iaddrA len sz x i)=mp c len sz (c.ev x) (c.ev i).num:=by simp only[cD];unfold mp pG;rfl
theorem xb3(len sz:Nat)(ag:Bool)(x i:Arg):cD c (.idxA len sz ag x i)=D6 len sz ag (c.ev x) (c.ev i).num:=rfl
theorem xb2(x i:Arg):cD c (.idxS x i)=D5 (c.ev x) (c.ev i).num:=rfl
theorem xfT(x:Arg)(i:Nat):cD c (.ext x i)=ZJ i (c.ev x):=rfl
theorem S8(b:Bool)(x:Arg):cD c (.len b x)=lenC (jL b (c.ev x)):=by simp only[cD];cases jL b (c.ev x)<;>rfl
theorem xb0(n:Nat):cD c (.lenC n)=some (.int .i64 n):=rfl
theorem xfV(x:Arg):cD c (.cap x)=ZM (c.ev x):=rfl
theorem xbX(x y:Arg):cD c (.mini x y)=D0 (c.ev x) (c.ev y):=rfl
theorem xbY(x y:Arg):cD c (.maxi x y)=D1 (c.ev x) (c.ev y):=rfl
def SOp.pure:SOp->Bool
 | .new _| .box _| .mk _ _ _ _| .mkB _ _| .store _ _ _| .app _ _ _ _| .cpy _ _ _| .pick _ _ _| .call _ _| .isnil _ _| .newB _| .slid _| .appO _ _ _ _| .clr _ _=>false
 |_=>true
theorem rS{so:SOp}(h:so.pure=true):dM c d so=Ai (cD c so):=by
 cases so<;>first|cases h;done|rfl|exact PO _
theorem bT{so:SOp}(h:so.pure=true):opC call sg c d so=fm c d (cD c so):=by
 have h1:opC call sg c d so=nb c d (dM c d so):=by cases so<;>first|rfl|cases h
 rw[h1];exact pO (rS h)
theorem xhM(x:Arg):opC call sg c d (.mov x)=fm c d (some (c.ev x)):=bT rfl
theorem Rr(z:List SV)(ps:List (Nat×Nat×Arg)):opC call sg c d (.build z ps)=fm c d (uy (iL z (psC c ps))):=(bT rfl).trans (by rw[Ak])
theorem xhO(sz:Nat)(xs:List Arg):opC call sg c d (.lit sz xs)=fm c d (Zs sz (rows sz (evL c xs))):=(bT rfl).trans (by rw[S7])
theorem xen(xs:List Arg):opC call sg c d (.litB xs)=fm c d (D2 (toB (evL c xs))):=(bT rfl).trans (by rw[GD])
theorem xem(n:Nat)(ag:Bool)(a:Arg):opC call sg c d (.load n ag a)=fm c d (lZ c n ag (c.ev a)):=bT rfl
theorem xei(x:Arg):opC call sg c d (.nchk x)=fm c d (DX (c.ev x)):=bT rfl
theorem xhX(op:BinOp)(x y:Arg):opC call sg c d (.bin op x y)=fm c d (Ep op (c.ev x) (c.ev y)):=bT rfl
theorem xhY(ne:Bool)(x y:Arg):opC call sg c d (.beq ne x y)=fm c d (ZN ne (c.ev x) (c.ev y)):=bT rfl
theorem xhS(ne:Bool)(ts:List Nat)(x y:Arg):opC call sg c d (.eqS ne ts x y)=fm c d (ZK ne ts (c.ev x) (c.ev y)):=bT rfl
theorem xnj(op:UnOp)(x:Arg):opC call sg c d (.un op x)=fm c d (wD op (c.ev x)):=bT rfl
theorem Rn(q:IntKind)(x:Arg):opC call sg c d (.toInt q x)=fm c d (ib q (c.ev x)):=bT rfl
theorem Rm(x:Arg):opC call sg c d (.toStr x)=fm c d (tW (c.ev x)):=bT rfl
theorem xeh(xs:List Arg):opC call sg c d (.newB xs)=nG c d (toB (evL c xs)):=rfl
theorem xec(x:Arg):opC call sg c d (.slid x)=qQ c d (c.ev x):=rfl
theorem xC(k:Nat)(l:List UInt8):nG c (some k) (some l)=some (CSt.app c (some k) {val:= .psl (k+100) 1 0 l.length (some l.length),new:=some (.bar l)}):=rfl
theorem CE(o off n:Nat)(cap:Option Nat):qQ c d (.psl o 1 off n cap)=ov c d o off n cap (c.look o):=rfl
theorem CF(o off n:Nat)(cap:Option Nat)(l:List UInt8):ov c d o off n cap (some (.bar l))=if off+n<=l.length/\cap=some n then some (((c.publish o []).1).put d (.byt ((l.drop off).take n) .clip))else none:=rfl
theorem xep(ne:Bool)(x:Arg):opC call sg c d (.isni ne x)=fm c d (D3 ne (c.ev x)):=bT rfl
theorem xhK(x:Arg):opC call sg c d (.s2b x)=fm c d (Tf (c.ev x)):=bT rfl
theorem xhZ(x:Arg):opC call sg c d (.b2s x)=fm c d (ZO c (c.ev x)):=bT rfl
theorem xej(f:Nat)(a b:List Arg):opC call sg c d (.mkfn f a b)=fm c d (some (.fn f (evL c a) (evL c b))):=bT rfl
theorem xed(x:Arg)(lo hi:Option Arg):opC call sg c d (.slcS x lo hi)=fm c d (DJ c lo hi (c.ev x)):=(bT rfl).trans (by rw[GC])
theorem xee(sz:Nat)(x:Arg)(lo hi mx:Option Arg):opC call sg c d (.slcL sz x lo hi mx)=fm c d (nR c sz (c.ev x) lo hi mx):=bT rfl
theorem xef(len sz:Nat)(x:Arg)(lo hi mx:Option Arg):opC call sg c d (.slcA len sz x lo hi mx)=fm c d (DK c len sz lo hi mx (c.ev x)):=bT rfl
theorem Rq(off:Nat)(x:Arg):opC call sg c d (.faddr off x)=fm c d (uw off (c.ev x)):=bT rfl
theorem xhQ(off n:Nat)(ag:Bool)(x:Arg):opC call sg c d (.fld off n ag x)=fm c d (ZA off n ag (c.ev x)):=bT rfl
theorem FJ(sz:Nat)(x i:Arg):opC call sg c d (.iaddrL sz x i)=fm c d (oT sz (c.ev x) (c.ev i).num):=bT rfl
theorem FK(len sz:Nat)(x i:Arg):opC call sg c d (.iaddrA len sz x i)=fm c d (mp c len sz (c.ev x) (c.ev i).num):=(bT rfl).trans (by rw[uP])
theorem xer(len sz:Nat)(ag:Bool)(x i:Arg):opC call sg c d (.idxA len sz ag x i)=fm c d (D6 len sz ag (c.ev x) (c.ev i).num):=bT rfl
theorem xeq(x i:Arg):opC call sg c d (.idxS x i)=fm c d (D5 (c.ev x) (c.ev i).num):=bT rfl
theorem xhR(x:Arg)(i:Nat):opC call sg c d (.ext x i)=fm c d (ZJ i (c.ev x)):=bT rfl
theorem xhP(b:Bool)(x:Arg):opC call sg c d (.len b x)=fm c d (lenC (jL b (c.ev x))):=(bT rfl).trans (by rw[S8])
theorem xeo(n:Nat):opC call sg c d (.lenC n)=fm c d (some (.int .i64 n)):=bT rfl
theorem xhV(x:Arg):opC call sg c d (.cap x)=fm c d (ZM (c.ev x)):=bT rfl
theorem xek(x y:Arg):opC call sg c d (.mini x y)=fm c d (D0 (c.ev x) (c.ev y)):=bT rfl
theorem xel(x y:Arg):opC call sg c d (.maxi x y)=fm c d (D1 (c.ev x) (c.ev y)):=bT rfl
def DW(a b:SV):SV->Option SV
 | .bool t=>some (iy t a b)
 |_=>none
theorem xeV(q a b:Arg):dM c d (.pick q a b)=Ai (DW (c.ev a) (c.ev b) (c.ev q)):=by simp only[dM];cases c.ev q<;>rfl
theorem xeg(q a b:Arg):opC call sg c d (.pick q a b)=fm c d (DW (c.ev a) (c.ev b) (c.ev q)):=pO (xeV q a b)
def uu(ne:Bool):SV->Option SV
 | .byt l _=>gd (l≠ []) (.bool ne)
 | .lst _ xs _=>gd (xs≠ []) (.bool ne)
 | .psl _ _ _ _ _=>some (.bool ne)
 |_=>none
theorem Sl(ne:Bool)(x:Arg):dM c d (.isnil ne x)=Ai (uu ne (c.ev x)):=by simp only[dM];cases c.ev x<;>first|rfl|(simp only[uu];unfold gd;split<;>rfl)
theorem Rp(ne:Bool)(x:Arg):opC call sg c d (.isnil ne x)=fm c d (uu ne (c.ev x)):=pO (Sl ne x)
def Cf(c:CSt)(k:Nat)(o:aF)(v:SV):CSt:=CSt.app c (some k) {val:=v,new:=some o}
theorem SO(l:List (Nat×SV))(ob:List (Nat×aF))(t:List Nat)(o:aF)(v:SV):
 Cf ⟨l,ob,t⟩ k o v=⟨jp (df (k+100) (k+101) l) k v,iQ (bx (k+100) (k+101) ob) (k+100) (o.purge (k+100) (k+101)),cg (k+100) (k+101) t⟩:=rfl
def gU(c:CSt)(k:Nat)(v:SV):Option aF->Option CSt
 |some o=>some (Cf c k o v)
 |none=>none
theorem DF(v:SV)(o:aF):gU c k v (some o)=some (Cf c k o v):=rfl
theorem xhL(o:aF):opC call sg c (some k) (.new o)=gU c k (.ptr (k+100) 0) (gd (o.wf=true) o):=by show nb c (some k) (gd _ _)=_;unfold gd;split<;>rfl
theorem xhW(x:Arg):opC call sg c (some k) (.box x)=some (Cf c k (.rc (c.ev x).cells) (.ptr (k+100) 0)):=rfl
def mkE(bytes:Nat):SV->SV->Option (Nat×Nat)
 | .int _ n,.int _ m=>gd (0<=n/\n<=m/\bytes*m<=140737488355328/\m<=9223372036854775807) (n.toNat,m.toNat)
 |_,_=>none
def mkS(c:CSt)(k:Nat)(z:List SV):Option (Nat×Nat)->Option CSt
 |some p=>some (Cf c k (.arr z.length (aE p.2 z)) (.psl (k+100) z.length 0 p.1 (some p.2)))
 |none=>none
theorem xnk(z:List SV)(bytes:Nat)(n m:Arg):opC call sg c (some k) (.mk z bytes n m)=mkS c k z (mkE bytes (c.ev n) (c.ev m)):=by show nb c (some k) (dM c (some k) (.mk z bytes n m))=_;simp only[dM];cases h1:c.ev n<;>cases h2:c.ev m<;>first|rfl|(simp only[mkE];unfold gd;split<;>rfl)
def xe9:SV->SV->Option (Nat×Nat)
 | .int _ n,.int _ m=>gd (0<=n/\n<=m/\m<=140737488355328) (n.toNat,m.toNat)
 |_,_=>none
def xl2(c:CSt)(k:Nat):Option (Nat×Nat)->Option CSt
 |some p=>some (Cf c k (.bar (aE p.2 0)) (.psl (k+100) 1 0 p.1 (some p.2)))
 |none=>none
theorem xhN(n m:Arg):opC call sg c (some k) (.mkB n m)=xl2 c k (xe9 (c.ev n) (c.ev m)):=by show nb c (some k) (dM c (some k) (.mkB n m))=_;simp only[dM];cases h1:c.ev n<;>cases h2:c.ev m<;>first|rfl|(simp only[xe9];unfold gd;split<;>rfl)
def stC(c:CSt)(n:Nat)(v:List SV):SV->Option (Nat×aF)
 | .ptr o off=>match c.look o with
  |some (.rc cs)=>gd (off+n<=cs.length/\v.length=n/\v.all SV.one=true) (o,.rc (gu cs off v))
  |some (.arr sz xs)=>gd (off=0/\n=xs.length*sz/\v.length=n/\v.all SV.isData=true) (o,.arr sz (jA sz xs.length (v.map SV.data)))
  |some (.bar l)=>match toB v with
   |some l'=>gd (off=0/\n=l.length/\l'.length=n) (o,.bar l')
   |none=>none
  |_=>none
 | .ap o sz i j=>match c.look o with
  |some (.arr sz' xs)=>gd (sz=sz'/\i<xs.length/\j+n<=sz/\v.length=n/\v.all SV.isData=true) (o,.arr sz' (jc sz xs i j n (v.map SV.data)))
  |some (.bar l)=>match v with
   |[.u8 b]=>gd (sz=1/\j=0/\n=1/\i<l.length) (o,.bar (l.set i b))
   |_=>none
  |_=>none
 |_=>none
def stS(c:CSt):Option (Nat×aF)->Option CSt
 |some p=>some ⟨c.tm,iQ c.ob p.1 p.2,c.tk⟩
 |none=>none
theorem ER(l:List (Nat×SV))(ob:List (Nat×aF))(t:List Nat)(p:Nat×aF):stS ⟨l,ob,t⟩ (some p)=some ⟨l,iQ ob p.1 p.2,t⟩:=rfl
theorem CC(n:Nat)(v:List SV)(a:SV):kU c n v a=(stC c n v a).map fun p=> {val:= .undef,wr:=[p]}:=by
 cases a with
 |ptr o off=>
  simp only[kU,stC];cases c.look o with
  |none=>rfl
  |some ob=>
   cases ob with
   |rc cs=>simp only;unfold gd;split<;>rfl
   |arr sz' xs=>simp only;unfold gd;split<;>rfl
   |bar l=>simp only;cases toB v<;>first|rfl|(simp only;unfold gd;split<;>rfl)
 |ap o sz i j=>
  simp only[kU,stC];cases c.look o with
  |none=>rfl
  |some ob=>
   cases ob with
   |rc cs=>rfl
   |arr sz' xs=>simp only;unfold gd;split<;>rfl
   |bar l=>
    rcases v with _|⟨u,_|⟨u2,r⟩⟩
    ·rfl
    ·cases u<;>first|rfl|(simp only;unfold gd;split<;>rfl)
    ·cases u<;>rfl
 |_=>rfl
theorem Ro(n:Nat)(a x:Arg):opC call sg c none (.store n a x)=if(c.ev x).isDef=true then stS c (stC c n (c.ev x).cells (c.ev a))else none:=by
 show nb c none (dM c none (.store n a x))=_;simp only[dM];split
 ·rw[CC];cases stC c n (c.ev x).cells (c.ev a)<;>rfl
 ·rfl
def apB(c:CSt)(k:Nat)(l:List UInt8)(t:Tok)(z:List SV)(bytes:Nat):Option (List UInt8)->Option CSt
 |some l'=>if z.length=1/\bytes=1/\t.readyC c=true/\l.length+l'.length<=140737488355328 then some (CSt.app c (some k) {val:= .byt (l++l') (.id (k+100)),eat:=t,tok:=true})else none
 |none=>none
def apL(c:CSt)(k:Nat)(sz':Nat)(l:List (List SV))(t:Tok)(z:List SV)(bytes:Nat):Option (List (List SV))->Option CSt
 |some l'=>if z.length=sz'/\t.readyC c=true/\(l.length+l'.length)*bytes<=140737488355328 then some (CSt.app c (some k) {val:= .lst z.length (l++l') (.id (k+100)),eat:=t,tok:=true})else none
 |none=>none
theorem SM(l:List (Nat×SV))(ob:List (Nat×aF))(t:List Nat)(v:SV)(e:Tok):
 CSt.app ⟨l,ob,t⟩ (some k) {val:=v,eat:=e,tok:=true}=⟨jp (df (k+100) (k+101) l) k v,bx (k+100) (k+101) ob,mf (cg (k+100) (k+101) (e.eat t)) (k+100)⟩:=rfl
def apS(c:CSt)(k:Nat)(z:List SV)(bytes:Nat)(y:SV):SV->Option CSt
 | .byt l t=>apB c k l t z bytes (ep c y)
 | .lst sz' l t=>apL c k sz' l t z bytes (fB c z.length y)
 |_=>none
theorem xh0(z:List SV)(bytes:Nat)(x y:Arg):opC call sg c (some k) (.app z bytes x y)=apS c k z bytes (c.ev y) (c.ev x):=by
 show nb c (some k) (dM c (some k) (.app z bytes x y))=_;simp only[dM];cases c.ev x<;>try rfl
 ·simp only[apS]
  cases ep c (c.ev y)with
  |none=>rfl
  |some l'=>simp only[cO,apB];unfold gd;split<;>rfl
 ·simp only[apS]
  cases fB c z.length (c.ev y)with
  |none=>rfl
  |some l'=>simp only[cO,apL];unfold gd;split<;>rfl
def cpB(o off n:Nat)(sz sz':Nat)(l:List UInt8):Option (List UInt8)->Option (SV×Nat×aF)
 |some l'=>gd (sz=1/\sz'=1/\off+n<=l.length) (.int .i64 (min l'.length n:Nat),o,.bar (l.take off++l'.take n++l.drop (off+(l'.take n).length)))
 |none=>none
def cpL(b:Bool)(o off n:Nat)(sz sz' sz'':Nat)(xs:List (List SV)):Option (List (List SV))->Option (SV×Nat×aF)
 |some l'=>gd (b=true/\sz=sz'/\sz=sz''/\off+n<=xs.length) (.int .i64 (min l'.length n:Nat),o,.arr sz (xs.take off++l'.take n++xs.drop (off+(l'.take n).length)))
 |none=>none
def cp2(b:Bool)(c:CSt)(sz o sz' off n:Nat)(y:SV):Option aF->Option (SV×Nat×aF)
 |some (.bar l)=>cpB o off n sz sz' l (ep c y)
 |some (.arr sz'' xs)=>cpL b o off n sz sz' sz'' xs (fB c sz y)
 |_=>none
def cpC(b:Bool)(c:CSt)(sz:Nat)(y:SV):SV->Option (SV×Nat×aF)
 | .psl o sz' off n _=>cp2 b c sz o sz' off n y (c.look o)
 |_=>none
def cpS(c:CSt)(d:Option Nat):Option (SV×Nat×aF)->Option CSt
 |some p=>some (CSt.put ⟨c.tm,iQ c.ob p.2.1 p.2.2,c.tk⟩ d p.1)
 |none=>none
theorem xet(z:List SV)(b:Nat)(x y:Arg):opC call sg c d (.appO z b x y)=rz c d z b y (c.ev x):=rfl
def clA(o off n:Nat)(z:List SV)(sz' sz'':Nat)(xs:List (List SV)):Option (SV×Nat×aF):=gd (0<n/\z.length=sz'/\z.length=sz''/\off+n<=xs.length) (.tup [],o,.arr z.length (xs.take off++aE n z++xs.drop (off+n)))
def cl2(z:List SV)(o sz' off n:Nat):Option aF->Option (SV×Nat×aF)
 |some (.arr sz'' xs)=>clA o off n z sz' sz'' xs
 |_=>none
def clC(c:CSt)(z:List SV):SV->Option (SV×Nat×aF)
 | .psl o sz' off n _=>cl2 z o sz' off n (c.look o)
 |_=>none
theorem xhU(z:List SV)(x:Arg):opC call sg c d (.clr z x)=cpS c d (clC c z (c.ev x)):=by
 show nb c d (dM c d (.clr z x))=_;simp only[dM];cases c.ev x<;>try rfl
 rename_i o sz' off n cap;simp only[clC];cases c.look o with
 |none=>rfl
 |some ob=>
  cases ob with
  |rc cs=>rfl
  |bar l=>rfl
  |arr sz'' xs=>simp only[cl2,clA];unfold gd;split<;>rfl
theorem xhT(sz:Nat)(x y:Arg):opC call sg c d (.cpy sz x y)=cpS c d (cpC y.isT c sz (c.ev y) (c.ev x)):=by
 show nb c d (dM c d (.cpy sz x y))=_;simp only[dM];cases c.ev x<;>try rfl
 rename_i o sz' off n cap;simp only[cpC];cases c.look o with
 |none=>rfl
 |some ob=>
  cases ob with
  |rc cs=>rfl
  |bar l=>
   simp only[cp2];cases ep c (c.ev y)with
   |none=>rfl
   |some l'=>simp only[cO,cpB];unfold gd;split<;>rfl
  |arr sz'' xs=>
   simp only[cp2];cases fB c sz (c.ev y)with
   |none=>rfl
   |some l'=>simp only[cO,cpL];unfold gd;split<;>rfl
def O0(call:cU)(sg:Nat->Sig)(c:CSt)(d:Option Nat)(as:List SV):SV->Option CSt
 | .fn g a b=>io call (sg g) c d g (a++as++b)
 |_=>none
theorem xes(f:Arg)(as:List Arg):opC call sg c d (.call f as)=O0 call sg c d (evL c as) (c.ev f):=by simp only[opC];unfold O0;rfl
theorem xce(o:SOp):dE call sg c ⟨d,none,o⟩=opC call sg c d o:=rfl
theorem xc2(g:Option (Nat×Bool))(o:SOp)(r:List SI):plC call sg (⟨d,g,o⟩::r) c=nxP call sg r (opC call sg c d o):=by rw[plC]
theorem BD:fz call sg [] c=some c:=by rw[fz]
theorem NJ(i:SI)(dead:List Nat)(r:List RI):fz call sg (.op i dead::r) c=nxC call sg dead r (dE call sg c i):=by rw[fz]
theorem BE(g:Nat)(b:Bool)(l:List SI)(dead:List Nat)(r:List RI):fz call sg (.grp g b l dead::r) c=nxC call sg dead r (oU call sg b l c (c.get g)):=by rw[fz]
theorem BB(i:SI)(dead:List Nat)(r:List RI):fz call sg (.tks i dead::r) c=nxC call sg dead r (An c i):=by rw[fz]
theorem P4(d:Option Nat)(x:Arg):An c ⟨d,none,.s2b x⟩=P5 c d (c.ev x):=rfl
theorem xb7(k:Nat)(l:List UInt8):P5 c (some k) (.str l)=some (CSt.app c (some k) {val:= .byt l (.id (k+100)),tok:=true}):=rfl
theorem BC(i:SI)(dead:List Nat)(r:List RI):fz call sg (.own i dead::r) c=nxC call sg dead r (sX c i):=by rw[fz]
theorem Rb(d:Option Nat)(x:Arg):sX c ⟨d,none,.s2b x⟩=Rh c d (c.ev x):=rfl
theorem Rc(d:Option Nat)(sz:Nat)(xs:List Arg):sX c ⟨d,none,.lit sz xs⟩=Re c sz d (rows sz (evL c xs)):=rfl
theorem FG(d:Option Nat)(xs:List Arg):sX c ⟨d,none,.litB xs⟩=nG c d (toB (evL c xs)):=rfl
theorem Rd(d:Option Nat)(z:List SV)(b:Nat)(x y:Arg):sX c ⟨d,none,.app z b x y⟩=rz c d z b y (c.ev x):=rfl
theorem BF(q:Dir)(r:List RI):fz call sg (.dir q::r) c=nxC call sg [] r (qD c q):=by rw[fz]
theorem kZ(dead:List Nat)(r:List RI):nxC call sg dead r (some c)=fz call sg r (c.kill dead):=by rw[nxC]
theorem lc(dead:List Nat)(r:List RI):nxC call sg dead r none=none:=by rw[nxC]
theorem NG:plC call sg [] c=some c:=by rw[plC]
theorem BH(r:List SI):nxP call sg r (some c)=plC call sg r c:=by rw[nxP]
theorem BI(r:List SI):nxP call sg r none=none:=by rw[nxP]
theorem xb6:unL c []=c:=rfl
theorem PT(g:Option (Nat×Bool))(o:SOp)(r:List SI):unL c (⟨d,g,o⟩::r)=unL (c.put d (.tup [])) r:=rfl
theorem xij(b:Bool)(l:List SI):oU call sg b l c (.tup [])=some (unL c l):=rfl
theorem xik(b t:Bool)(l:List SI):oU call sg b l c (.bool t)=if t=b then plC call sg l c else some (unL c l):=rfl
theorem xeu(dead:List Nat)(r:List RI)(p:Prop)[Decidable p](a b:Option CSt):nxC call sg dead r (if p then a else b)=if p then nxC call sg dead r a else nxC call sg dead r b:=by split<;>rfl
theorem xey(p:Prop)[Decidable p](l l':List (Nat×SV))(o:List (Nat×aF))(t:List Nat):(if p then some (CSt.mk l o t)else some (CSt.mk l' o t))=some (CSt.mk (if p then l else l') o t):=by split<;>rfl
theorem xex(p:Prop)[Decidable p](n:Nat)(v w:SV)(l l':List (Nat×SV)):(if p then(n,v)::l else(n,w)::l')=(n,if p then v else w)::(if p then l else l'):=by split<;>rfl
theorem RG(p:Prop)[Decidable p]:(if p then([]:List (Nat×SV))else [])=[]:=by split<;>rfl
theorem FV{α:Type}(p:Prop)[Decidable p](a:α):(if p then a else a)=a:=by split<;>rfl
theorem FU(p:Prop)[Decidable p](q:IntKind)(a b:Int):(if p then SV.int q a else SV.int q b)= .int q (if p then a else b):=by split<;>rfl
theorem Dh(p:Prop)[Decidable p](a b:Bool):(if p then SV.bool a else SV.bool b)= .bool (if p then a else b):=by split<;>rfl
theorem RF(p:Prop)[Decidable p](a b:UInt8):(if p then SV.u8 a else SV.u8 b)= .u8 (if p then a else b):=by split<;>rfl
theorem Dj(t a b:Bool):iy t (.bool a) (.bool b)= .bool (if t=true then a else b):=by cases t<;>rfl
theorem FW(t:Bool)(q:IntKind)(a b:Int):iy t (.int q a) (.int q b)= .int q (if t=true then a else b):=by cases t<;>rfl
theorem RH(t:Bool)(a b:UInt8):iy t (.u8 a) (.u8 b)= .u8 (if t=true then a else b):=by cases t<;>rfl
theorem Di(a b:SV):iy true a b=a:=rfl
theorem xI(a b:SV):iy false a b=b:=rfl
variable {rn : RC -> CSt -> gI}
theorem FL(dead:List Nat):nrm dead (some c)=some (.n,c.kill dead):=rfl
theorem FM(dead:List Nat):nrm dead none=none:=rfl
theorem Rt(dead:List Nat)(p:Prop)[Decidable p](a b:Option CSt):nrm dead (if p then a else b)=if p then nrm dead a else nrm dead b:=by split<;>rfl
theorem xmY(b:RC):sq rn b (some (.n,c))=rn b c:=rfl
theorem xmW(b:RC)(id:Nat):sq rn b (some (.x id,c))=some (.x id,c):=rfl
theorem xmX(b:RC):sq rn b (some (.r,c))=some (.r,c):=rfl
theorem P8(b:RC):sq rn b none=none:=rfl
theorem xb8(b:RC)(p:Prop)[Decidable p](x y:gI):sq rn b (if p then x else y)=if p then sq rn b x else sq rn b y:=by split<;>rfl
theorem xiD(a b:RC)(t:Bool):cnd rn a b c (.bool t)=if t=true then rn a c else rn b c:=rfl
theorem xiG(id:Nat):blk id (some (.n,c))=some (.n,c):=rfl
theorem xiF(id:Nat):blk id (some (.r,c))=some (.r,c):=rfl
theorem xiE(id id':Nat):blk id (some (.x id',c))=if id'=id then some (.n,c)else some (.x id',c):=rfl
theorem Gv(id:Nat):blk id none=none:=rfl
theorem SA(id:Nat)(p:Prop)[Decidable p](x y:gI):blk id (if p then x else y)=if p then blk id x else blk id y:=by split<;>rfl
theorem xnr(b:RC):lp rn b (some (.n,c))=rn (.loop b) c:=rfl
theorem xnp(b:RC)(id:Nat):lp rn b (some (.x id,c))=some (.x id,c):=rfl
theorem xnq(b:RC):lp rn b (some (.r,c))=some (.r,c):=rfl
theorem Rw(b:RC):lp rn b none=none:=rfl
theorem xew(b:RC)(p:Prop)[Decidable p](x y:gI):lp rn b (if p then x else y)=if p then lp rn b x else lp rn b y:=by split<;>rfl
theorem FB(a:RC):prD rn a (some c)=rn a c:=rfl
theorem xgs(ds:List Dir):psD ds (some (.n,c))=prD (fun _ c=>some (.n,c)) .skip (iD c ds):=by simp only[psD];cases iD c ds<;>rfl
theorem xgq(ds:List Dir)(id:Nat):psD ds (some (.x id,c))=some (.x id,c):=rfl
theorem xgr(ds:List Dir):psD ds (some (.r,c))=some (.r,c):=rfl
theorem FA(ds:List Dir):psD ds none=none:=rfl
theorem QZ(ds:List Dir)(p:Prop)[Decidable p](x y:gI):psD ds (if p then x else y)=if p then psD ds x else psD ds y:=by split<;>rfl
theorem Gi:iD c []=some c:=rfl
def xmn(ds:List Dir):Option CSt->Option CSt
 |some c=>iD c ds
 |none=>none
theorem Dz(q:Dir)(ds:List Dir):iD c (q::ds)=xmn ds (qD c q):=by simp only[iD];cases qD c q<;>rfl
theorem DA(ds:List Dir):xmn ds (some c)=iD c ds:=rfl
theorem xir(F:FnC)(n:Nat):En F n (some (.n,c))=N2 F.keep F.raw n c (rx c F.rs):=rfl
theorem xiq(F:FnC)(n:Nat):En F n (some (.r,c))=N2 F.keep F.raw n c (rx c F.rs):=rfl
theorem RZ(F:FnC)(n:Nat)(p:Prop)[Decidable p](x y:gI):En F n (if p then x else y)=if p then En F n x else En F n y:=by split<;>rfl
theorem Gr(sg:Sig)(g:Nat)(as:List SV):io call sg c d g as=jM call sg c d g as ((SV.idsL as).isEmpty&&sg.own.isEmpty):=rfl
theorem Sw(sg:Sig)(g:Nat)(as:List SV):jM call sg c d g as true=l4 c d (call g (SV.bareL as) [] 0):=rfl
theorem Sx(sg:Sig)(g:Nat)(as:List SV):jM call sg c d g as false=jG call sg d g (eC c as (iY sg.raw 0 as)):=rfl
theorem R3(q:dO):l4 c d (some q)=nI c d q q.bare:=rfl
theorem R5(q:dO):nI c d q true=some (c.put d q.r):=rfl
theorem R6(q:dO):nI c d q false=xR c d q q.small:=rfl
theorem R4(q:dO):xR c d q true=some (jN c d [] [] q):=rfl
theorem SD(r:SV)(os:List (Nat×aF))(tk:List Nat):(dO.mk r os tk).bare=(os.isEmpty&&tk.isEmpty&&r.ids.isEmpty&&r.toks.isEmpty):=rfl
theorem ET(r:SV)(os:List (Nat×aF))(tk:List Nat):(dO.mk r os tk).small=(os.all (fun p=>decide (p.1<1000)&&p.2.ids.all (fun k=>decide (k<1000))&&p.2.toks.all (fun k=>decide (k<1000)))&&r.ids.all (fun k=>decide (k<1000))&&r.toks.all (fun k=>decide (k<1000))&&tk.all (fun k=>decide (k<1000))):=rfl
theorem P9(sg:Sig)(g:Nat)(as:List SV):jG call sg d g (c,as)=nt call c d g (jP c.tk sg.own 50 0 as):=rfl
theorem Qq(g:Nat)(as:List SV)(mt1:List (Option Nat)):nt call c d g (as,mt1)=lr call c d g as mt1 (dF c 60 [] (SV.idsL as)) (gp c (dF c 60 [] (SV.idsL as))):=rfl
theorem Qp(g:Nat)(as:List SV)(mt1:List (Option Nat))(m:List Nat)(os:List aF):lr call c d g as mt1 m (some os)=nq call c d g as mt1 m (dQ c.tk (50+mt1.length) os):=rfl
theorem Qo(g:Nat)(as:List SV)(mt1:List (Option Nat))(m:List Nat)(os:List aF)(mt2:List (Option Nat)):nq call c d g as mt1 m (os,mt2)=
 np call c d g as mt1 m os mt2 (oj (SV.idsL as++ft os) m&&dr m&&dr (cf (mt1++mt2))&&decide (m.length<=40)&&m.all fun o=> !inR (d.getD 0) o):=rfl
theorem Qn(g:Nat)(as:List SV)(mt1:List (Option Nat))(m:List Nat)(os:List aF)(mt2:List (Option Nat)):np call c d g as mt1 m os mt2 true=
 ou c d m (cf (mt1++mt2)) (call g (SV.renL (gA m) id as) (ed (gA m) id os) (mt1.length+mt2.length)):=rfl
theorem Qm(m mt:List Nat)(q:dO):ou c d m mt (some q)=wW c d m mt q q.small:=rfl
theorem Ql(m mt:List Nat)(q:dO):wW c d m mt q true=some (jN c d m mt q):=rfl
theorem xeN(keep raw:List Nat)(vs:List SV):N2 keep raw k c (some vs)=R2 keep k (eC c vs (iY raw 0 vs)):=rfl
theorem xeG(keep:List Nat)(vs:List SV):R2 keep k (c,vs)=N1 keep k c vs (decide (k=0)&&(SV.idsL vs).isEmpty&&keep.isEmpty):=rfl
theorem xeL(keep:List Nat)(vs:List SV):N1 keep k c vs true=some ⟨jq (SV.bareL vs),[],[]⟩:=rfl
theorem xeM(keep:List Nat)(vs:List SV):N1 keep k c vs false=ZE k c (jP c.tk keep 60 0 vs):=rfl
theorem xeK(vs:List SV)(mt1:List (Option Nat)):ZE k c (vs,mt1)=ZD k c vs mt1 (dF c 60 [] (kS k++SV.idsL vs)) (gp c (dF c 60 [] (kS k++SV.idsL vs))):=rfl
theorem xeJ(vs:List SV)(mt1:List (Option Nat))(m:List Nat)(os:List aF):ZD k c vs mt1 m (some os)=ZC k vs mt1 m (dQ c.tk (60+mt1.length) os):=rfl
theorem xeI(vs:List SV)(mt1:List (Option Nat))(m:List Nat)(os:List aF)(mt2:List (Option Nat)):ZC k vs mt1 m (os,mt2)=
 ZB k vs mt1 m os mt2 (oj (SV.idsL vs++ft os) m&&dr m&&dr (cf (mt1++mt2))&&decide (m.take k=kS k)&&(m.drop k).all fun o=>decide (k<=o)):=rfl
theorem xeH(vs:List SV)(mt1:List (Option Nat))(m:List Nat)(os:List aF)(mt2:List (Option Nat)):ZB k vs mt1 m os mt2 true=
 some ⟨(jq vs).ren (gQ k m) id,(fN 0 (ed (gQ k m) id (os.take k)))++(fN (100+k) (ed (gQ k m) id (os.drop k))),tks 60 (mt1.length+mt2.length)⟩:=rfl
theorem Rk(v:SV):jq [v]=v:=rfl
theorem Rj(v w:SV)(r:List SV):jq (v::w::r)= .tup (v::w::r):=rfl
theorem Rl:jq []= .tup []:=rfl
theorem E0(raw:List Nat)(i:Nat)(q:IntKind)(n:Int):mb raw i (.int q n)=[]:=rfl
theorem CI(raw:List Nat)(i:Nat)(b:Bool):mb raw i (.bool b)=[]:=rfl
theorem Qt(raw:List Nat)(i:Nat)(b:UInt8):mb raw i (.u8 b)=[]:=rfl
theorem EW(raw:List Nat)(i:Nat)(l:List UInt8):mb raw i (.str l)=[]:=rfl
theorem E1(raw:List Nat)(i:Nat)(l:List UInt8)(t:Tok):mb raw i (.byt l t)=[]:=rfl
theorem EZ(raw:List Nat)(i sz:Nat)(l:List (List SV))(t:Tok):mb raw i (.lst sz l t)=[]:=rfl
theorem CG(raw:List Nat)(i:Nat):mb raw i .nilp=[]:=rfl
theorem CH(raw:List Nat)(i:Nat):mb raw i .nili=[]:=rfl
theorem w7(raw:List Nat)(i:Nat):mb raw i .undef=[]:=rfl
theorem Qu(raw:List Nat)(i:Nat)(l:List SV):mb raw i (.pp l)=[]:=rfl
theorem EX(raw:List Nat)(i o off:Nat):mb raw i (.ptr o off)=[]:=rfl
theorem Qw(raw:List Nat)(i o sz a b:Nat):mb raw i (.ap o sz a b)=[]:=rfl
theorem E2(raw:List Nat)(i:Nat)(l:List SV):mb raw i (.agg l)=if raw.contains i=true then []else tY l:=rfl
theorem CR:tY []=[]:=rfl
theorem xc(v:SV)(r:List SV):tY (v::r)=gN v++tY r:=rfl
theorem CO(q:IntKind)(n:Int):gN (.int q n)=[]:=rfl
theorem xb(b:Bool):gN (.bool b)=[]:=rfl
theorem E3(b:UInt8):gN (.u8 b)=[]:=rfl
theorem CK(l:List UInt8):gN (.str l)=[]:=rfl
theorem CP(l:List UInt8)(t:Tok):gN (.byt l t)=[]:=rfl
theorem CN(sz:Nat)(l:List (List SV))(t:Tok):gN (.lst sz l t)=[]:=rfl
theorem w8:gN .nilp=[]:=rfl
theorem xa:gN .nili=[]:=rfl
theorem uI:gN .undef=[]:=rfl
theorem E4(l:List SV):gN (.pp l)=[]:=rfl
theorem CL(o off:Nat):gN (.ptr o off)=[]:=rfl
theorem E6(o sz a b:Nat):gN (.ap o sz a b)=[]:=rfl
theorem CQ(l:List SV):gN (.agg l)=[]:=rfl
theorem CJ(l:List SV):gN (.tup l)=[]:=rfl
theorem E5(f:Nat)(a b:List SV):gN (.fn f a b)=[]:=rfl
theorem CM(o sz off n:Nat)(m:Option Nat):gN (.psl o sz off n m)=[o]:=rfl
theorem EV(raw:List Nat)(i:Nat)(l:List SV):mb raw i (.tup l)=[]:=rfl
theorem Qv(raw:List Nat)(i f:Nat)(a b:List SV):mb raw i (.fn f a b)=[]:=rfl
theorem EY(raw:List Nat)(i o sz off n:Nat)(m:Option Nat):mb raw i (.psl o sz off n m)=if raw.contains i=true then []else [o]:=rfl
theorem RO(p:Prop)[Decidable p](a b v:SV):iy (decide p) (if p then a else b) v=iy (decide p) a v:=by by_cases h:p<;>simp[iy,h]
theorem RN(p:Prop)[Decidable p](a b v:SV):iy (decide p) v (if ¬p then a else b)=iy (decide p) v a:=by by_cases h:p<;>simp[iy,h]
theorem RK(t:Bool)(a b v:SV):iy t (if t=true then a else b) v=iy t a v:=by cases t<;>simp[iy]
theorem RJ(t:Bool)(a b v:SV):iy t v (if t=false then a else b)=iy t v a:=by cases t<;>simp[iy]
theorem RM(t:Bool)(a b v:SV):iy (!t) (if t=false then a else b) v=iy (!t) a v:=by cases t<;>simp[iy]
theorem RL(t:Bool)(a b v:SV):iy (!t) v (if t=true then a else b)=iy (!t) v a:=by cases t<;>simp[iy]
theorem SC(p q:Prop)[Decidable p][Decidable q]:(if p then decide q else false)=decide (p/\q):=by by_cases h:p<;>simp[h]
theorem xeY(p q:Prop)[Decidable p][Decidable q]:(if p then true else decide q)=decide (p\/q):=by by_cases h:p<;>simp[h]
theorem SJ(v:SV):c.app d {val:=v}=c.put d v:=rfl
theorem SK(l:List (Nat×SV))(ob:List (Nat×aF))(t:List Nat)(o:aF)(v:SV):
 CSt.app ⟨l,ob,t⟩ (some k) {val:=v,new:=some o}=⟨jp (df (k+100) (k+101) l) k v,iQ (bx (k+100) (k+101) ob) (k+100) (o.purge (k+100) (k+101)),cg (k+100) (k+101) t⟩:=rfl
theorem xe2(l:List (Nat×SV))(ob:List (Nat×aF))(t:List Nat)(v:SV)(p:Nat×aF):CSt.app ⟨l,ob,t⟩ d {val:=v,wr:=[p]}=CSt.put ⟨l,iQ ob p.1 p.2,t⟩ d v:=rfl
theorem Gk(l:List (Nat×SV))(ob:List (Nat×aF))(t:List Nat)(p:SV×Nat×aF):cpS ⟨l,ob,t⟩ d (some p)=some (CSt.put ⟨l,iQ ob p.2.1 p.2.2,t⟩ d p.1):=rfl
theorem FO(z:List SV)(p:Nat×Nat):mkS c k z (some p)=some (Cf c k (.arr z.length (aE p.2 z)) (.psl (k+100) z.length 0 p.1 (some p.2))):=rfl
theorem Da(p:Nat×Nat):xl2 c k (some p)=some (Cf c k (.bar (aE p.2 0)) (.psl (k+100) 1 0 p.1 (some p.2))):=rfl
theorem xfG(x:Arg):cV c (.mov x)=some (c.ev x):=by simp only[cV];rw[xfR]
theorem PK(z:List SV)(ps:List (Nat×Nat×Arg)):cV c (.build z ps)=uy (iL z (psC c ps)):=by simp only[cV];rw[Ak]
theorem xfH(sz:Nat)(xs:List Arg):cV c (.lit sz xs)=Zs sz (rows sz (evL c xs)):=by simp only[cV];rw[S7]
theorem xbN(xs:List Arg):cV c (.litB xs)=D2 (toB (evL c xs)):=by simp only[cV];rw[GD]
theorem xbM(n:Nat)(ag:Bool)(a:Arg):cV c (.load n ag a)=lZ c n ag (c.ev a):=by simp only[cV];rw[xbZ]
theorem xbI(x:Arg):cV c (.nchk x)=DX (c.ev x):=by simp only[cV];rw[xbV]
theorem xfN(op:BinOp)(x y:Arg):cV c (.bin op x y)=Ep op (c.ev x) (c.ev y):=by simp only[cV];rw[xfW]
theorem xfO(ne:Bool)(x y:Arg):cV c (.beq ne x y)=ZN ne (c.ev x) (c.ev y):=by simp only[cV];rw[xfX]
theorem xfL(ne:Bool)(ts:List Nat)(x y:Arg):cV c (.eqS ne ts x y)=ZK ne ts (c.ev x) (c.ev y):=by simp only[cV];rw[xfU]
theorem xmM(op:UnOp)(x:Arg):cV c (.un op x)=wD op (c.ev x):=by simp only[cV];rw[xmS]
theorem PI(q:IntKind)(x:Arg):cV c (.toInt q x)=ib q (c.ev x):=by simp only[cV];rw[PR]
theorem PH(x:Arg):cV c (.toStr x)=tW (c.ev x):=by simp only[cV];rw[PQ]
theorem xbP(ne:Bool)(x:Arg):cV c (.isni ne x)=D3 ne (c.ev x):=by simp only[cV];rw[xb1]
theorem xfF(x:Arg):cV c (.s2b x)=Tf (c.ev x):=by simp only[cV];rw[xfQ]
theorem xfP(x:Arg):cV c (.b2s x)=ZO c (c.ev x):=by simp only[cV];rw[xfY]
theorem xbJ(f:Nat)(a b:List Arg):cV c (.mkfn f a b)=some (.fn f (evL c a) (evL c b)):=by simp only[cV];rw[xbW]
theorem xbE(x:Arg)(lo hi:Option Arg):cV c (.slcS x lo hi)=DJ c lo hi (c.ev x):=by simp only[cV];rw[GC]
theorem xbF(sz:Nat)(x:Arg)(lo hi mx:Option Arg):cV c (.slcL sz x lo hi mx)=nR c sz (c.ev x) lo hi mx:=by simp only[cV];rw[xbT]
theorem xbG(len sz:Nat)(x:Arg)(lo hi mx:Option Arg):cV c (.slcA len sz x lo hi mx)=DK c len sz lo hi mx (c.ev x):=by simp only[cV];rw[xbU]
theorem PJ(off:Nat)(x:Arg):cV c (.faddr off x)=uw off (c.ev x):=by simp only[cV];rw[PS]
theorem xfJ(off n:Nat)(ag:Bool)(x:Arg):cV c (.fld off n ag x)=ZA off n ag (c.ev x):=by simp only[cV];rw[xfS]
theorem EF(sz:Nat)(x i:Arg):cV c (.iaddrL sz x i)=oT sz (c.ev x) (c.ev i).num:=by simp only[cV];rw[EK]
theorem EG(len sz:Nat)(x i:Arg):cV c (.iaddrA len sz x i)=mp c len sz (c.ev x) (c.ev i).num:=by simp only[cV];rw[uP]
theorem xbR(len sz:Nat)(ag:Bool)(x i:Arg):cV c (.idxA len sz ag x i)=D6 len sz ag (c.ev x) (c.ev i).num:=by simp only[cV];rw[xb3]
theorem xbQ(x i:Arg):cV c (.idxS x i)=D5 (c.ev x) (c.ev i).num:=by simp only[cV];rw[xb2]
theorem xfK(x:Arg)(i:Nat):cV c (.ext x i)=ZJ i (c.ev x):=by simp only[cV];rw[xfT]
theorem xfI(b:Bool)(x:Arg):cV c (.len b x)=lenC (jL b (c.ev x)):=by simp only[cV];rw[S8]
theorem xbO(n:Nat):cV c (.lenC n)=some (.int .i64 n):=by simp only[cV];rw[xb0]
theorem xfM(x:Arg):cV c (.cap x)=ZM (c.ev x):=by simp only[cV];rw[xfV]
theorem xbK(x y:Arg):cV c (.mini x y)=D0 (c.ev x) (c.ev y):=by simp only[cV];rw[xbX]
theorem xbL(x y:Arg):cV c (.maxi x y)=D1 (c.ev x) (c.ev y):=by simp only[cV];rw[xbY]
theorem xbH(q a b:Arg):cV c (.pick q a b)=DW (c.ev a) (c.ev b) (c.ev q):=by simp only[cV];cases c.ev q<;>rfl
theorem xnb(o:SOp):qv c ⟨d,none,o⟩=cV c o:=rfl
theorem xna(g:Nat)(b:Bool)(o:SOp):qv c ⟨d,some (g,b),o⟩=qg c o b (c.get g):=rfl
theorem xnd(b t:Bool)(o:SOp):qg c o b (.bool t)=if t=b then cV c o else some (.tup []):=rfl
theorem xnc(b:Bool)(o:SOp):qg c o b (.tup [])=some (.tup []):=rfl
def stG(call:cU)(sg:Nat->Sig)(c:CSt)(d:Option Nat)(o:SOp)(b:Bool):SV->Option CSt
 | .bool t=>if t=b then opC call sg c d o else some (c.put d (.tup []))
 | .tup []=>some (c.put d (.tup []))
 |_=>none
theorem xcd(g:Nat)(b:Bool)(o:SOp):dE call sg c ⟨d,some (g,b),o⟩=stG call sg c d o b (c.get g):=by unfold dE stG;rfl
theorem xf2(b t:Bool)(o:SOp):stG call sg c d o b (.bool t)=if t=b then opC call sg c d o else some (c.put d (.tup [])):=rfl
theorem xf1(b:Bool)(o:SOp):stG call sg c d o b (.tup [])=some (c.put d (.tup [])):=rfl
theorem xeE(b:List Nat)(ps:List FI):eQ call sg b [] ps c=some c:=by rw[eQ]
theorem xn1(b:List Nat)(n:Nat)(i:SI)(r ps:List FI):eQ call sg b (⟨n,true,i⟩::r) ps c=vR call sg b r (⟨n,true,i⟩::ps) c i.dst (qv c i):=by rw[eQ]
theorem xn2(b:List Nat)(n:Nat)(i:SI)(r ps:List FI):eQ call sg b (⟨n,false,i⟩::r) ps c=qz call sg b r ps (b.getD n 0) (dE call sg c i):=by rw[eQ]
theorem xnZ(b:List Nat)(r ps:List FI)(v:SV):vR call sg b r ps c d (some v)=eQ call sg b r ps (c.put d v):=by rw[vR]
theorem xn0(b:List Nat)(r ps:List FI)(m:Nat):qz call sg b r ps m (some c)=qA call sg b r ps (gdP (tn m c ps) c):=by rw[qz]
theorem xn3(b:List Nat)(r ps:List FI):qA call sg b r ps (some c)=eQ call sg b r ps c:=by rw[qA]
theorem RS{α:Type}{p:Prop}(v:α)(h:p):gdP p v=some v:=by unfold gdP;exact if_pos h
theorem xiK(b:List Nat)(l:List FI)(p:List Nat):i9 call sg b l [p] c=eQ call sg b (iG l p) [] c:=by rw[i9]
theorem xiJ(b:List Nat)(l:List FI)(p q:List Nat)(r:List (List Nat)):i9 call sg b l (p::q::r) c=nJ (eQ call sg b (iG l p) [] c) (i9 call sg b l (q::r) c):=by rw[i9]
theorem xo6(a a':CSt):nJ (some a) (some a')=gdP (a=a') a:=rfl
theorem xeF(m:Nat):tn m c []=True:=rfl
theorem RY(m:Nat)(p:FI)(r:List FI):tn m c (p::r)=((m/2^p.n % 2=1\/qv c p.i=some (c.get (p.i.dst.getD 0)))/\tn m c r):=rfl
end Go.Sy
namespace Go.Sy
variable [aZ]
theorem rJ{n:Nat}:∀{l:List (Nat×SV)},(∀p∈l,p.1≠n)->ej l n= .undef
 |[],_=>rfl
 |p::r,h=>by simp only[ej];rw[if_neg (h p (aD ..))];exact rJ fun q hq=>h q (ao _ hq)
theorem l3(n:Nat)(v:SV)(m:Nat):∀l:List (Nat×SV),ej (jp l n v) m=if m=n then v else ej l m
 |[]=>by simp only[jp,ej];by_cases h:n=m<;>simp[h,eq_comm]
 |p::r=>by
  simp only[jp];split
  ·simp only[ej]
   by_cases h:n=m
   ·simp[h]
   ·rw[if_neg h,if_neg (Ne.symm h)]
  ·split
   ·rename_i h1 h2
    simp only[ej]
    by_cases h:n=m
    ·simp[h]
    ·rw[if_neg h,if_neg (Ne.symm h),if_neg (by omega)]
   ·rename_i h1 h2
    simp only[ej,l3 n v m r]
    by_cases h:p.1=m
    ·rw[if_pos h,if_pos h,if_neg (by omega)]
    ·rw[if_neg h,if_neg h]
theorem lX{n:Nat}{v:SV}{p:Nat×SV}:∀{l:List (Nat×SV)},p∈jp l n v->p=(n,v)\/p∈l
 |[],h=>by simpa[jp]using h
 |q::r,h=>by
  simp only[jp]at h;split at h
  ·rcases av.1 h with h|h
   ·exact .inl h
   ·exact .inr h
  ·split at h
   ·rcases av.1 h with h|h
    ·exact .inl h
    ·exact .inr (ao _ h)
   ·rcases av.1 h with h|h
    ·exact .inr (h ▸ aD ..)
    ·rcases lX h with h|h
     ·exact .inl h
     ·exact .inr (ao _ h)
theorem fU(lo hi n:Nat):∀l:List (Nat×SV),ej (df lo hi l) n=(ej l n).purge lo hi
 |[]=>by simp[df,ej,SV.purge]
 |p::r=>by
  simp only[df,ej];split
  ·rfl
  ·exact fU lo hi n r
theorem ju{lo hi:Nat}{p:Nat×SV}:∀{l:List (Nat×SV)},p∈df lo hi l->∃q∈l,p.1=q.1
 |q::r,h=>by
  simp only[df]at h;rcases av.1 h with h|h
  ·exact⟨q,aD ..,by rw[h]⟩
  ·obtain⟨u,h1,h2⟩:=ju h
   exact⟨u,ao _ h1,h2⟩
theorem pB{k:List Nat}{p:Nat×SV}:∀{l:List (Nat×SV)},p∈wk l k->p∈l
 |q::r,h=>by
  simp only[wk]at h;split at h
  ·exact ao _ (pB h)
  ·rcases av.1 h with h|h
   ·exact h ▸ aD ..
   ·exact ao _ (pB h)
theorem pH(k:List Nat)(n:Nat):∀l:List (Nat×SV),ej (wk l k) n=if k.contains n=true then .undef else ej l n
 |[]=>by simp[wk,ej]
 |p::r=>by
  simp only[wk,ej];split
  ·rename_i h
   rw[pH k n r]
   by_cases hp:p.1=n
   ·subst hp;rw[if_pos h,if_pos h]
   ·rw[if_neg hp]
  ·rename_i h
   simp only[ej,pH k n r]
   by_cases hp:p.1=n
   ·subst hp;rw[if_pos rfl,if_neg h,if_pos rfl]
   ·rw[if_neg hp,if_neg hp]
theorem pI(n:Nat)(v:aF)(m:Nat):∀l:List (Nat×aF),iJ (iQ l n v) m=if m=n then some v else iJ l m
 |[]=>by simp only[iQ,iJ];by_cases h:n=m<;>simp[h,eq_comm]
 |p::r=>by
  simp only[iQ];split
  ·simp only[iJ]
   by_cases h:n=m
   ·simp[h]
   ·rw[if_neg h,if_neg (Ne.symm h)]
  ·split
   ·rename_i h1 h2
    simp only[iJ]
    by_cases h:n=m
    ·simp[h]
    ·rw[if_neg h,if_neg (Ne.symm h),if_neg (by omega)]
   ·rename_i h1 h2
    simp only[iJ,pI n v m r]
    by_cases h:p.1=m
    ·rw[if_pos h,if_pos h,if_neg (by omega)]
    ·rw[if_neg h,if_neg h]
theorem kn{n:Nat}{v:aF}{p:Nat×aF}:∀{l:List (Nat×aF)},p∈iQ l n v->p=(n,v)\/p∈l
 |[],h=>by simpa[iQ]using h
 |q::r,h=>by
  simp only[iQ]at h;split at h
  ·rcases av.1 h with h|h
   ·exact .inl h
   ·exact .inr h
  ·split at h
   ·rcases av.1 h with h|h
    ·exact .inl h
    ·exact .inr (ao _ h)
   ·rcases av.1 h with h|h
    ·exact .inr (h ▸ aD ..)
    ·rcases kn h with h|h
     ·exact .inl h
     ·exact .inr (ao _ h)
theorem tX{n:Nat}{v:aF}:∀{l:List (Nat×aF)},(l.map cE).Pairwise (· < ·)->((iQ l n v).map cE).Pairwise (· < ·)
 |[],_=>by simp[iQ]
 |p::r,h=>by
  have h0:=h;simp only[aC,cC]at h;simp only[iQ];split
  ·rename_i h1
   rw[aC,cC];refine⟨fun k hk=> ?_,h0⟩;rw[aC]at hk;rcases av.1 hk with e|e
   ·omega
   ·have:=h.1 k e;omega
  ·split
   ·rename_i h1 h2
    rw[aC,cC];exact⟨fun k hk=>by have:=h.1 k hk;omega,h.2⟩
   ·rename_i h1 h2
    rw[aC,cC];refine⟨fun k hk=> ?_,tX h.2⟩;obtain⟨q,hq,rfl⟩:=aT.1 hk;rcases kn hq with e|e
    ·rw[e];show p.1<n;omega
    ·exact h.1 _ (iu e)
theorem jg{l:List (Nat×aF)}{n:Nat}{v:aF}(h:iJ l n=some v):(n,v)∈l:=by
 induction l with
 |nil=>cases h
 |cons p r ih=>
  simp only[iJ]at h;split at h
  ·rename_i hp
   cases h;subst hp;exact aD ..
  ·exact ao _ (ih h)
theorem je:∀{l:List (Nat×aF)},(l.map cE).Nodup->∀{p:Nat×aF},p∈l->iJ l p.1=some p.2
 |q::r,hn,p,h=>by
  simp only[aC,dC]at hn;simp only[iJ];rcases av.1 h with e|e
  ·subst e;rw[if_pos rfl]
  ·rw[if_neg (fun e2=>hn.1 (by rw[e2];exact iu e))]
   exact je hn.2 e
theorem jb{l:List (Nat×aF)}(h:(l.map cE).Pairwise (· < ·)):(l.map cE).Nodup:=h.imp fun h=>Nat.ne_of_lt h
theorem iB(o:Nat):∀l:List (Nat×aF),l.lookup o=iJ l o
 |[]=>rfl
 |p::r=>by
  simp only[List.lookup,iJ]
  by_cases h:o=p.1
  ·rw[if_pos h.symm];simp[h]
  ·have:(o==p.1)=false:=by simpa using h
   rw[this,if_neg (Ne.symm h)];exact iB o r
theorem jz(lo hi o:Nat):∀l:List (Nat×aF),iJ (bx lo hi l) o=if lo<=o/\o<hi then none else(iJ l o).map (aF.purge lo hi)
 |[]=>by simp[bx,iJ]
 |p::r=>by
  simp only[bx,iJ];split
  ·rename_i hp
   rw[jz lo hi o r]
   by_cases h:p.1=o
   ·subst h;rw[if_pos hp,if_pos hp]
   ·rw[if_neg h]
  ·rename_i hp
   simp only[iJ,jz lo hi o r]
   by_cases h:p.1=o
   ·subst h;rw[if_pos rfl,if_neg hp,if_pos rfl];rfl
   ·rw[if_neg h,if_neg h]
theorem uW{lo hi:Nat}{l:List (Nat×aF)}(h:(l.map cE).Pairwise (· < ·)):((bx lo hi l).map cE).Pairwise (· < ·):=by rw[eA];exact h.filter _
theorem ko{n t:Nat}:∀{l:List Nat},t∈mf l n↔t=n\/t∈l
 |[]=>by simp[mf]
 |p::r=>by
  simp only[mf];split
  ·simp
  ·split
   ·rename_i h;subst h;simp
   ·simp only[av,ko]
    constructor
    ·rintro(h|h|h)
     ·exact .inr (.inl h)
     ·exact .inl h
     ·exact .inr (.inr h)
    ·rintro(h|h|h)
     ·exact .inr (.inl h)
     ·exact .inl h
     ·exact .inr (.inr h)
theorem po{lo hi:Nat}{o:aF}(h:o.wf=true):(o.purge lo hi).wf=true:=by cases o<;>simpa[aF.purge,aF.wf]using h
def CSt.st(N:Nat)(c:CSt):St:=⟨(bE N).map c.get,c.ob,c.tk⟩
structure Inv(N:Nat)(c:CSt):Prop where
 dom:∀p∈c.tm,p.1<N
 so:(c.ob.map cE).Pairwise (· < ·)
 wf:∀p∈c.ob,p.2.wf=true
structure Sim(N:Nat)(c:CSt)(s:St):Prop where
 inv:Inv N c
 tm:s.tm=(bE N).map c.get
 look:∀o,s.look o=c.look o
 tk:∀t,t∈s.tk↔t∈c.tk
variable {N : Nat} {c : CSt} {s : St}
theorem Inv.get(h:Inv N c){n:Nat}(hn:N<=n):c.get n= .undef:=rJ fun p hp e=>by have:=h.dom p hp;omega
theorem Sim.of(h:Inv N c):Sim N c (c.st N):=⟨h,rfl,fun o=>iB o c.ob,fun _=>Iff.rfl⟩
theorem Sim.get(h:Sim N c s)(n:Nat):s.get n=c.get n:=by
 unfold St.get;rw[h.tm,aa,aQ];rcases bY n N with hn|hn
 ·rw[bV hn];rfl
 ·rw[eo (by simpa using hn),h.inv.get hn];rfl
theorem Sim.ev(h:Sim N c s)(a:Arg):s.ev a=c.ev a:=by
 cases a with
 |t n=>exact h.get n
 |c v=>rfl
 |f g=>rfl
theorem Sim.evL(h:Sim N c s)(l:List Arg):Sy.evL c l=l.map s.ev:=by
 induction l with
 |nil=>rfl
 |cons a r ih=>simp only[Sy.evL,aC,ih,h.ev]
theorem Sim.lookmem(h:Sim N c s){o:Nat}{ob:aF}(hl:c.look o=some ob):ob.wf=true:=h.inv.wf _ (jg hl)
theorem Sim.rows(h:Sim N c s){o sz:Nat}{xs:List (List SV)}(hl:c.look o=some (.arr sz xs)):∀x∈xs,x.length=sz:=by have:=h.lookmem hl;simpa[aF.wf]using this
theorem Inv.put(h:Inv N c){d:Option Nat}(hd:∀k,d=some k->k<N)(v:SV):Inv N (c.put d v):=by
 cases d with
 |none=>exact h
 |some k=>
  refine⟨fun p hp=> ?_,h.so,h.wf⟩;rcases lX hp with e|e
  ·rw[e];exact hd k rfl
  ·exact h.dom p e
theorem gE(c:CSt)(k:Nat)(v:SV)(n:Nat):(c.put (some k) v).get n=if n=k then v else c.get n:=l3 k v n c.tm
theorem Sim.put(h:Sim N c s){d:Option Nat}(hd:∀k,d=some k->k<N)(v:SV):Sim N (c.put d v) (s.put d v):=by
 cases d with
 |none=>exact h
 |some k=>
  refine⟨h.inv.put hd v, ?_,h.look,h.tk⟩;show s.tm.set k v=_;rw[h.tm];apply List.ext_getElem?;intro i;rw[gk,aQ,aQ];rcases bY i N with hi|hi
  ·rw[bV hi]
   simp only[bo,gE,aP,List.length_range]
   by_cases hk:k=i
   ·rw[if_pos hk,if_pos (by omega),if_pos hk.symm]
   ·rw[if_neg hk,if_neg (Ne.symm hk)]
  ·rw[eo (l:=bE N) (by simpa using hi)]
   have:=hd k rfl;rw[if_neg (by omega)];rfl
theorem bJ{α:Type}{p:Prop}[Decidable p]{v u:α}(h:gd p v=some u):p/\v=u:=by
 unfold gd at h;split at h
 ·rename_i hp;cases h;exact⟨hp,rfl⟩
 ·cases h
theorem FY{op:BinOp}{k:IntKind}{a b:Int}{v:SV}(h:xJ op k a b=some v)(hs:mn op=false):∃p,RQ op k a b=some (p,v)/\p:=by
 cases op<;>simp only[xJ]at h<;>first
  |(cases hs;done)
  |(obtain⟨h1,rfl⟩:=bJ h;exact⟨_,rfl,h1⟩)
  |(cases h;exact⟨True,rfl,trivial⟩)
theorem SB{op:BinOp}{a b v:SV}(h:Ep op a b=some v):∃p,xY op a b=some (p,v)/\p:=by
 unfold Ep at h;split at h
 ·rename_i k a k' b
  split at h
  ·rename_i hc
   by_cases hs:mn op=true
   ·cases op<;>first
     |(cases hs;done)
     |(simp only[xJ]at h;obtain⟨h1,rfl⟩:=bJ h;exact⟨_,rfl,h1⟩)
   ·have hs':mn op=false:=by simpa using hs
    have hk:k=k':=hc.resolve_left hs;obtain⟨p,h1,h2⟩:=FY h hs';refine⟨p, ?_,h2⟩;subst hk;cases op<;>first|(cases hs';done)|(simp only[xY,if_true];exact h1)
  ·cases h
 ·rename_i a k b
  show ∃p,Ta op a b=some (p,v)/\p
  cases op<;>simp only[Oh]at h<;>first
   |(cases h;done)
   |(obtain⟨h1,rfl⟩:=bJ h;exact⟨_,rfl,h1⟩)
 ·rename_i a b
  show ∃p,DI op a b=some (p,v)/\p
  cases op<;>simp only[yi]at h<;>first
   |(cases h;done)
   |(obtain⟨h1,rfl⟩:=bJ h;exact⟨_,rfl,h1⟩)
   |(cases h;exact⟨True,rfl,trivial⟩)
 ·rename_i a b
  show ∃p,Te op a b=some (p,v)/\p
  cases op<;>simp only[Om]at h<;>first
   |(cases h;done)
   |(obtain⟨h1,rfl⟩:=bJ h;exact⟨_,rfl,h1⟩)
   |(cases h;exact⟨True,rfl,trivial⟩)
 ·cases h
theorem vH(hS:Sim N c s){n:Nat}{ag:Bool}{u v:SV}(h:lZ c n ag u=some v):∃p,iI s n ag u=some (p,v)/\p:=by
 cases u with
 |pp cs=>obtain⟨h1,rfl⟩:=bJ h;exact⟨_,rfl,h1⟩
 |ptr o off=>
  simp only[lZ]at h;simp only[iI,hS.look];split at h
  ·rename_i cs hl;rw[hl];obtain⟨h1,rfl⟩:=bJ h;exact⟨_,rfl,h1⟩
  ·rename_i sz xs hl;rw[hl];obtain⟨⟨h1,h2⟩,rfl⟩:=bJ h;subst h1;exact⟨_,rfl,h2,hS.rows hl⟩
  ·rename_i l hl;rw[hl];obtain⟨⟨h1,h2⟩,rfl⟩:=bJ h;subst h1;exact⟨_,rfl,h2⟩
  ·cases h
 |ap o sz i j=>
  simp only[lZ]at h;simp only[iI,hS.look];split at h
  ·rename_i sz' xs hl
   rw[hl];obtain⟨⟨h1,h2,h3⟩,rfl⟩:=bJ h;refine⟨_,rfl,h1,h2,h3, ?_⟩;rw[aa,ab h2,h1];exact hS.rows hl _ (bh _)
  ·rename_i l hl;rw[hl];obtain⟨h1,rfl⟩:=bJ h;exact⟨_,rfl,h1⟩
  ·cases h
 |_=>cases h
theorem mi(hS:Sim N c s)(x:Option Arg)(n:Int):iH s x n=km c x n:=by
 cases x with
 |none=>rfl
 |some a=>simp only[iH,km,hS.ev]
theorem Ax(hS:Sim N c s){sz:Nat}{u v:SV}{lo hi mx:Option Arg}(h:nR c sz u lo hi mx=some v):∃p,jo s sz u lo hi mx=some (p,v)/\p:=by
 cases u with
 |byt l t=>
  simp only[nR]at h;simp only[jo,mi hS];split at h<;>try (cases h;done)
  rename_i a b m h1 h2 h3;rw[h1,h2,h3];obtain⟨h4,rfl⟩:=bJ h;exact⟨_,rfl,h4⟩
 |lst sz' l t=>
  simp only[nR]at h;simp only[jo,mi hS];split at h<;>try (cases h;done)
  rename_i a b m h1 h2 h3;rw[h1,h2,h3];obtain⟨h4,rfl⟩:=bJ h;exact⟨_,rfl,h4⟩
 |psl o sz' off n cap=>
  cases cap with
  |none=>
   simp only[nR]at h;simp only[jo,mi hS];split at h<;>try (cases h;done)
   rename_i a b h1 h2;rw[h1,h2];obtain⟨h4,rfl⟩:=bJ h;exact⟨_,rfl,h4⟩
  |some cap=>
   simp only[nR]at h;simp only[jo,mi hS];split at h<;>try (cases h;done)
   rename_i a b m h1 h2 h3;rw[h1,h2,h3];obtain⟨h4,rfl⟩:=bJ h;exact⟨_,rfl,h4⟩
 |_=>cases h
theorem mS(hS:Sim N c s){u:SV}{l:List UInt8}(h:ep c u=some l):∃p,bytesOf s u=some (p,l)/\p:=by
 cases u with
 |byt l t=>cases h;exact⟨True,rfl,trivial⟩
 |str l=>cases h;exact⟨True,rfl,trivial⟩
 |psl o sz off n cap=>
  simp only[ep]at h;simp only[bytesOf,hS.look];split at h
  ·rename_i l' hl;rw[hl];obtain⟨h1,rfl⟩:=bJ h;exact⟨_,rfl,h1⟩
  ·cases h
 |_=>cases h
theorem kh(hS:Sim N c s){u:SV}{sz:Nat}{l:List (List SV)}(h:fB c sz u=some l):∃p,jI s sz u=some (p,l)/\p:=by
 cases u with
 |lst sz' l t=>obtain⟨h1,rfl⟩:=bJ h;exact⟨_,rfl,h1⟩
 |psl o sz' off n cap=>
  simp only[fB]at h;simp only[jI,hS.look];split at h
  ·rename_i sz'' xs hl
   rw[hl];obtain⟨⟨h1,h2,h3⟩,rfl⟩:=bJ h;exact⟨_,rfl,h1,h2,h3,by rw[h2];exact hS.rows hl⟩
  ·cases h
 |_=>cases h
theorem xc1(hS:Sim N c s)(ps:List (Nat×Nat×Arg)):psC c ps=ps.map fun(o,n,x)=>(o,n,s.ev x):=by
 induction ps with
 |nil=>rfl
 |cons p r ih=>obtain⟨o,n,x⟩:=p;simp only[psC,aC,ih,hS.ev]
theorem PP(hS:Sim N c s){so:SOp}{v:SV}(h:cD c so=some v):∃p,val s so=some (p,v)/\p:=by
 cases so with
 |mov x=>cases h;exact⟨True,by simp only[val,hS.ev],trivial⟩
 |build z ps=>simp only[cD,xc1 hS]at h;obtain⟨l,h1,rfl⟩:=ae.1 h;exact⟨True,by simp only[val,h1,bo],trivial⟩
 |lit sz xs=>simp only[cD,hS.evL]at h;obtain⟨l,h1,rfl⟩:=ae.1 h;exact⟨True,by simp only[val,h1,bo],trivial⟩
 |litB xs=>simp only[cD,hS.evL]at h;obtain⟨l,h1,rfl⟩:=ae.1 h;exact⟨True,by simp only[val,h1,bo],trivial⟩
 |load n ag a=>simp only[val,hS.ev];exact vH hS h
 |nchk x=>simp only[cD]at h;simp only[val,hS.ev];cases hx:c.ev x<;>rw[hx]at h<;>first|(cases h;done)|(cases h;exact⟨True,rfl,trivial⟩)
 |bin op x y=>simp only[val,hS.ev];exact SB h
 |beq ne x y=>
  simp only[cD]at h;simp only[val,hS.ev];split at h<;>try (cases h;done)
  rename_i a b h1 h2;cases h;rw[h1,h2];exact⟨True,rfl,trivial⟩
 |eqS ne ts x y=>
  simp only[cD]at h;simp only[val,hS.ev];split at h<;>try (cases h;done)
  rename_i a b h1 h2;obtain⟨l,h3,rfl⟩:=ae.1 h;rw[h1,h2];exact⟨True,by simp only[h3,bo],trivial⟩
 |un op x=>simp only[cD]at h;exact⟨True,by simp only[val,hS.ev,h,bo],trivial⟩
 |toInt k x=>simp only[cD]at h;exact⟨True,by simp only[val,hS.ev,h,bo],trivial⟩
 |toStr x=>
  simp only[cD]at h;simp only[val,hS.ev];split at h<;>try (cases h;done)
  all_goals
   rename_i h1;cases h;rw[h1];exact⟨True,rfl,trivial⟩
 |slid x=>simp only[cD]at h;cases h
 |newB x=>simp only[cD]at h;cases h
 |isni ne x=>
  simp only[cD]at h;simp only[val,hS.ev];split at h<;>try (cases h;done)
  rename_i h1;cases h;rw[h1];exact⟨True,rfl,trivial⟩
 |s2b x=>
  simp only[cD]at h;simp only[val,hS.ev];split at h<;>try (cases h;done)
  rename_i l h1;cases h;rw[h1];exact⟨True,rfl,trivial⟩
 |b2s x=>
  simp only[cD]at h;simp only[val,hS.ev];cases hx:c.ev x with
  |byt l t=>rw[hx]at h;cases h;exact⟨True,rfl,trivial⟩
  |psl o sz off n cap=>
   rw[hx]at h;simp only[ep]at h;simp only[xZ,hS.look];obtain⟨l,h1,rfl⟩:=ae.1 h;split at h1
   ·rename_i l' hl;rw[hl];obtain⟨h2,rfl⟩:=bJ h1;exact⟨_,rfl,h2⟩
   ·cases h1
  |_=>rw[hx]at h;cases h
 |mkfn f a b=>simp only[cD,hS.evL]at h;cases h;exact⟨True,rfl,trivial⟩
 |slcS x lo hi=>
  simp only[cD]at h;simp only[val,hS.ev];split at h<;>try (cases h;done)
  rename_i l hx;rw[hx];simp only[mi hS];split at h<;>try (cases h;done)
  rename_i a b h1 h2;rw[h1,h2];obtain⟨h4,rfl⟩:=bJ h;exact⟨_,rfl,h4⟩
 |slcL sz x lo hi mx=>simp only[val,hS.ev];exact Ax hS h
 |slcA len sz x lo hi mx=>
  simp only[cD]at h;simp only[val,hS.ev];split at h<;>try (cases h;done)
  rename_i o off hx;split at h<;>try (cases h;done)
  rename_i ho;subst ho;rw[hx];exact Ax hS h
 |faddr off x=>simp only[cD]at h;simp only[val,hS.ev];cases hx:c.ev x<;>rw[hx]at h<;>first|(cases h;done)|(cases h;exact⟨True,rfl,trivial⟩)
 |fld off n ag x=>
  simp only[cD]at h;simp only[val,hS.ev];split at h<;>try (cases h;done)
  rename_i cs hx;rw[hx];obtain⟨h4,rfl⟩:=bJ h;exact⟨_,rfl,h4⟩
 |iaddrL sz x i=>
  simp only[cD]at h;simp only[val,hS.ev];split at h<;>try (cases h;done)
  all_goals
   rename_i h1 h2;rw[h1,h2];obtain⟨h4,rfl⟩:=bJ h;exact⟨_,rfl,h4⟩
 |iaddrA len sz x i=>
  simp only[cD]at h;simp only[val,hS.ev,hS.look];split at h<;>try (cases h;done)
  ·rename_i o off n h1 h2
   rw[h1,h2];simp only;split at h<;>try (cases h;done)
   ·rename_i cs hl
    rw[hl];obtain⟨h4,rfl⟩:=bJ h;exact⟨_,rfl,h4⟩
   ·rename_i ob hno hl
    rw[hl];obtain⟨⟨h4,h5⟩,rfl⟩:=bJ h;cases ob with
    |rc cs=>exact absurd rfl (hno cs)
    |_=>simp only[h4,if_true];exact⟨_,rfl,h5⟩
  ·rename_i cs n h1 h2
   rw[h1,h2];obtain⟨h4,rfl⟩:=bJ h;exact⟨_,rfl,h4⟩
 |idxA len sz ag x i=>
  simp only[cD]at h;simp only[val,hS.ev];split at h<;>try (cases h;done)
  rename_i h1 h2;rw[h1,h2];obtain⟨h4,rfl⟩:=bJ h;exact⟨_,rfl,h4⟩
 |idxS x i=>
  simp only[cD]at h;simp only[val,hS.ev];split at h<;>try (cases h;done)
  rename_i h1 h2;rw[h1,h2];obtain⟨h4,rfl⟩:=bJ h;exact⟨_,rfl,h4⟩
 |ext x i=>
  simp only[cD]at h;simp only[val,hS.ev];split at h<;>try (cases h;done)
  rename_i vs hx;rw[hx];obtain⟨h4,rfl⟩:=bJ h;exact⟨_,rfl,h4⟩
 |len b x=>simp only[cD]at h;obtain⟨n,h1,rfl⟩:=ae.1 h;exact⟨True,by simp only[val,hS.ev,h1],trivial⟩
 |lenC n=>cases h;exact⟨True,rfl,trivial⟩
 |cap x=>
  simp only[cD]at h;simp only[val,hS.ev];cases hx:c.ev x with
  |psl o sz off n m=>cases m<;>rw[hx]at h<;>cases h;exact⟨True,rfl,trivial⟩
  |byt l t=>rw[hx]at h;simp only at h;split at h<;>cases h;rename_i ht;subst ht;exact⟨True,rfl,trivial⟩
  |lst sz l t=>rw[hx]at h;simp only at h;split at h<;>cases h;rename_i ht;subst ht;exact⟨True,rfl,trivial⟩
  |_=>rw[hx]at h;cases h
 |mini x y=>
  simp only[cD]at h;simp only[val,hS.ev];split at h<;>try (cases h;done)
  rename_i h1 h2;rw[h1,h2];simp only;split at h<;>cases h;rename_i hk;exact⟨True,by rw[if_pos hk],trivial⟩
 |maxi x y=>
  simp only[cD]at h;simp only[val,hS.ev];split at h<;>try (cases h;done)
  rename_i h1 h2;rw[h1,h2];simp only;split at h<;>cases h;rename_i hk;exact⟨True,by rw[if_pos hk],trivial⟩
 |_=>cases h
end Go.Sy
namespace Go.Sy
variable [aZ]
variable {P : Program} {C : Ctx} {x : Sit} {a : Act} {w : World} {o : Oper} {so : SOp} {N : Nat} {c c' : CSt} {s : St} {d : Option Nat}
def M(C:Ctx)(N:Nat)(c:CSt):Act->World->Prop:=Eg C (Sim N c)
theorem Sim.purge(h:Sim N c s)(lo hi:Nat):Sim N (c.purge lo hi) (s.purge lo hi):=by
 refine⟨⟨fun p hp=> ?_,uW h.inv.so,fun p hp=> ?_⟩, ?_,fun o=> ?_,fun t=> ?_⟩
 ·obtain⟨q,hq,e⟩:=ju hp
  rw[e];exact h.inv.dom q hq
 ·obtain⟨_,ob,h1,h2⟩:=b9 hp
  rw[h2];exact po (h.inv.wf _ h1)
 ·show SV.purgeL lo hi s.tm=_
  rw[h.tm,dn,List.map_map];apply List.map_congr_left;intro i _;exact(fU lo hi i c.tm).symm
 ·show(bx lo hi s.ob).lookup o=iJ (bx lo hi c.ob) o
  have:=h.look o;unfold St.look CSt.look at this;rw[iB]at this ⊢;rw[jz,jz,this]
 ·show t∈cg lo hi s.tk↔t∈cg lo hi c.tk
  rw[bD,bD,h.tk]
theorem Sim.addO(h:Sim N c s)(k:Nat){ob:aF}(hw:ob.wf=true):Sim N ⟨c.tm,iQ c.ob k ob,c.tk⟩ (s.addO k ob):=by
 refine⟨⟨h.inv.dom,tX h.inv.so,fun p hp=> ?_⟩,h.tm,fun o=> ?_,h.tk⟩
 ·rcases kn hp with e|e
  ·rw[e];exact hw
  ·exact h.inv.wf p e
 ·show((k,ob)::s.ob).lookup o=iJ (iQ c.ob k ob) o
  have:=h.look o;unfold St.look CSt.look at this;rw[pI];simp only[List.lookup]
  by_cases he:o=k
  ·subst he;simp
  ·have:(o==k)=false:=by simpa using he
   rw[this,if_neg he];exact h.look o
theorem jY(k:Nat)(ob:aF)(o:Nat):∀l:List (Nat×aF),(Sy.setO k ob l).lookup o=if o=k/\(l.lookup k).isSome=true then some ob else l.lookup o
 |[]=>by simp[Sy.setO]
 |p::r=>by
  simp only[Sy.setO]
  by_cases hp:p.1=k
  ·rw[if_pos hp]
   subst hp;simp only[List.lookup]
   by_cases ho:o=p.1
   ·subst ho;simp
   ·have:(o==p.1)=false:=by simpa using ho
    simp[this,ho]
  ·rw[if_neg hp]
   have h1:(k==p.1)=false:=by simpa using Ne.symm hp
   simp only[List.lookup,h1,jY k ob o r]
   by_cases ho:o=p.1
   ·subst ho;simp[hp]
   ·have:(o==p.1)=false:=by simpa using ho
    simp[this]
theorem Sim.setO(h:Sim N c s){k:Nat}{ob:aF}(hl:(c.look k).isSome=true)(hw:ob.wf=true):Sim N ⟨c.tm,iQ c.ob k ob,c.tk⟩ (s.setO k ob):=by
 refine⟨⟨h.inv.dom,tX h.inv.so,fun p hp=> ?_⟩,h.tm,fun o=> ?_,h.tk⟩
 ·rcases kn hp with e|e
  ·rw[e];exact hw
  ·exact h.inv.wf p e
 ·show(Sy.setO k ob s.ob).lookup o=iJ (iQ c.ob k ob) o
  rw[pI,jY]
  have h1:(s.ob.lookup k).isSome=true:=by have:=h.look k;unfold St.look at this;rw[this];exact hl
  by_cases he:o=k
  ·rw[if_pos ⟨he,h1⟩,if_pos he]
  ·rw[if_neg (fun e=>he e.1),if_neg he];exact h.look o
theorem Sim.tks(h:Sim N c s){l k:List Nat}(hlk:∀t,t∈l↔t∈k):Sim N ⟨c.tm,c.ob,k⟩ ⟨s.tm,s.ob,l⟩:=⟨⟨h.inv.dom,h.inv.so,h.inv.wf⟩,h.tm,h.look,hlk⟩
theorem FP{t:Tok}{l k:List Nat}(h:∀t,t∈l↔t∈k)(n:Nat):n∈t.eat l↔n∈t.eat k:=by
 cases t with
 |id t=>simp only[Tok.eat,bD,h]
 |_=>exact h n
structure Et(e:nY)(f:Eff):Prop where
 val:f.val=e.val
 wr:f.wr=e.wr
 new:f.new=e.new
 eat:f.eat=e.eat
 tok:f.tok=e.tok
structure ED(c:CSt)(e:nY):Prop where
 new:∀ob,e.new=some ob->ob.wf=true
 wr:e.wr=[]\/∃k ob,e.wr=[(k,ob)]/\(c.look k).isSome=true/\ob.wf=true
theorem Sim.app(h:Sim N c s)(hd:∀k,d=some k->k<N){e:nY}{f:Eff}(hs:Et e f)(hg:ED c e):Sim N (c.app d e) (s.app d f):=by
 unfold CSt.app St.app;rw[hs.new,hs.tok,hs.val,hs.wr,hs.eat];cases hn:e.new with
 |some ob=>exact((h.purge _ _).addO _ (po (hg.new ob hn))).put hd _
 |none=>
  cases ht:e.tok with
  |true=>refine Sim.put (c:=⟨_,_,_⟩) ?_ hd _;refine((h.purge (d.getD 0+100) (d.getD 0+100+1)).tks (fun t=> ?_));rw[ko,av,bD,bD,FP h.tk]
  |false=>
   rcases hg.wr with hw|⟨k,ob,hw,h1,h2⟩
   ·rw[hw];exact h.put hd _
   ·rw[hw];exact(h.setO h1 h2).put hd _
theorem Et.v(v:SV)(p:Prop):Et {val:=v} {pre:=p,val:=v}:=⟨rfl,rfl,rfl,rfl,rfl⟩
theorem ED.v(v:SV):ED c {val:=v}:=⟨fun ob h=>(by cases h),.inl rfl⟩
theorem xbC(n:Nat)(z:List SV):(aF.arr z.length (aE n z)).wf=true:=by simp only[aF.wf,aR,decide_eq_true_eq];intro y hy;rw[(List.mem_replicate.1 hy).2]
theorem ja{sz:Nat}{xs:List (List SV)}:(aF.arr sz xs).wf=true↔∀y∈xs,y.length=sz:=by simp only[aF.wf,aR,decide_eq_true_eq]
theorem ww(sz:Nat):∀(m:Nat)(v:List SV),v.length=m*sz->∀y∈jA sz m v,y.length=sz
 |0,_,_,y,hy=>by cases hy
 |m+1,v,h,y,hy=>by
  rw[dq]at h;simp only[jA]at hy;rcases av.1 hy with rfl|hy
  ·rw[ax];omega
  ·exact ww sz m (v.drop sz) (by rw[aI];omega) y hy
theorem CT{sz:Nat}{xs:List (List SV)}{i j n:Nat}{v:List SV}(h:∀y∈xs,y.length=sz)(hi:i<xs.length)(hj:j+n<=sz)(hv:v.length=n):∀y∈jc sz xs i j n v,y.length=sz:=by
 intro y hy;unfold jc at hy;split at hy
 ·rename_i hc
  rcases List.mem_or_eq_of_mem_set hy with h1|h1
  ·exact h y h1
  ·rw[h1,hv];exact hc.2
 ·rcases List.mem_or_eq_of_mem_set hy with h1|h1
  ·exact h y h1
  ·have:(xs.getD i []).length=sz:=by
    rw[aa,ab hi];exact h _ (bh _)
   rw[h1];simp only[ac,ax,aI,this,hv];omega
theorem ry(h:Sim N c s){t:Tok}(hr:t.readyC c=true):t.ready s=true:=by
 cases t with
 |no=>cases hr
 |clip=>rfl
 |id t=>simp only[Tok.readyC,eG,decide_eq_true_eq]at hr;simp only[Tok.ready,eG,decide_eq_true_eq];exact(h.tk t).2 hr
theorem Qr(hM:aM C x s a w){y:Arg}(hy:y.isT=true):Rep x (s.ev y) (match y with| .t n=>a.tmps.getD n Go.undef|_=>Go.undef):=by
 cases y with
 |t n=>exact hM.slot n
 |_=>cases hy
theorem Gf(h:Sim N c s){e:nY}(he:dM c d so=some e)(hp:∀q y z,so≠ .pick q y z)(hn:∀ne q,so≠ .isnil ne q)(hcp:∀sz q y,so≠ .cpy sz q y):∃f,eff s d so=some f/\f.pre/\Et e f/\ED c e:=by
 have plain:∀{so:SOp},dM c d so=Ai (cD c so)->(eff s d so=match val s so with|some (p,v)=>some {pre:=p,val:=v}|none=>none)->dM c d so=some e->∃f,eff s d so=some f/\f.pre/\Et e f/\ED c e:=by
  intro so h1 h2 h3;rw[h1]at h3;cases hv:cD c so with
  |none=>rw[hv]at h3;cases h3
  |some v=>rw[hv]at h3;cases h3;obtain⟨p,h4,h5⟩:=PP h hv;exact⟨{pre:=p,val:=v},by rw[h2,h4],h5,Et.v v p,ED.v v⟩
 cases so with
 |pick q y z=>exact absurd rfl (hp q y z)
 |isnil ne q=>exact absurd rfl (hn ne q)
 |call _ _=>cases he
 |newB _=>cases he
 |slid _=>cases he
 |new ob=>
  simp only[dM]at he;split at he<;>try (cases he;done)
  obtain⟨h1,rfl⟩:=bJ he;exact⟨_,rfl,trivial,⟨rfl,rfl,rfl,rfl,rfl⟩,⟨fun ob' e=>(by cases e;exact h1),.inl rfl⟩⟩
 |box q=>simp only[dM]at he;split at he<;>cases he;exact⟨_,rfl,trivial,⟨rfl,rfl,by simp only[h.ev],rfl,rfl⟩,⟨fun ob' e=>(by cases e;rfl),.inl rfl⟩⟩
 |mk z bytes n m=>
  simp only[dM]at he;simp only[eff,h.ev];split at he<;>try (cases he;done)
  rename_i h1 h2;rw[h1,h2];obtain⟨h1,rfl⟩:=bJ he;exact⟨_,rfl,h1,⟨rfl,rfl,rfl,rfl,rfl⟩,⟨fun ob' e=>(by cases e;exact xbC _ z),.inl rfl⟩⟩
 |mkB n m=>
  simp only[dM]at he;simp only[eff,h.ev];split at he<;>try (cases he;done)
  rename_i h1 h2;rw[h1,h2];obtain⟨h1,rfl⟩:=bJ he;exact⟨_,rfl,h1,⟨rfl,rfl,rfl,rfl,rfl⟩,⟨fun ob' e=>(by cases e;rfl),.inl rfl⟩⟩
 |store n q y=>
  simp only[dM]at he;simp only[eff,h.ev];split at he<;>try (cases he;done)
  rename_i hdef;rw[hdef];simp only;unfold kU at he;unfold pZ;split at he
  ·rename_i o' off hq
   rw[hq];simp only[h.look];split at he<;>try (cases he;done)
   ·rename_i cs hl
    rw[hl];obtain⟨h1,rfl⟩:=bJ he;exact⟨_,rfl,h1,⟨rfl,rfl,rfl,rfl,rfl⟩,⟨fun ob' e=>(by cases e),.inr ⟨_,_,rfl,by rw[hl];rfl,rfl⟩⟩⟩
   ·rename_i sz xs hl
    rw[hl];obtain⟨⟨h1,h2,h3,h4⟩,rfl⟩:=bJ he
    exact⟨_,rfl,⟨h1,h2,h3,h4⟩,⟨rfl,rfl,rfl,rfl,rfl⟩,
     ⟨fun ob' e=>(by cases e),.inr ⟨_,_,rfl,by rw[hl];rfl,ja.2 (ww sz _ _ (by rw[aP];omega))⟩⟩⟩
   ·rename_i l hl
    rw[hl];simp only at he ⊢;split at he<;>try (cases he;done)
    rename_i l' hv;rw[hv];obtain⟨h1,rfl⟩:=bJ he;exact⟨_,rfl,h1,⟨rfl,rfl,rfl,rfl,rfl⟩,⟨fun ob' e=>(by cases e),.inr ⟨_,_,rfl,by rw[hl];rfl,rfl⟩⟩⟩
  ·rename_i o' sz i j hq
   rw[hq];simp only[h.look];split at he<;>try (cases he;done)
   ·rename_i sz' xs hl
    rw[hl];obtain⟨⟨h1,h2,h3,h4,h5⟩,rfl⟩:=bJ he
    exact⟨_,rfl,⟨h1,h2,h3,h4,by rw[h1];exact h.rows hl,h5⟩,⟨rfl,rfl,rfl,rfl,rfl⟩,
     ⟨fun ob' e=>(by cases e),.inr ⟨_,_,rfl,by rw[hl];rfl,ja.2 (by subst h1;exact CT (h.rows hl) h2 h3 (by simpa using h4))⟩⟩⟩
   ·rename_i l hl
    rw[hl];simp only at he ⊢;split at he<;>try (cases he;done)
    rename_i b hv;rw[hv];obtain⟨h1,rfl⟩:=bJ he;exact⟨_,rfl,h1,⟨rfl,rfl,rfl,rfl,rfl⟩,⟨fun ob' e=>(by cases e),.inr ⟨_,_,rfl,by rw[hl];rfl,rfl⟩⟩⟩
  ·cases he
 |app z bytes q y=>
  simp only[dM]at he;simp only[eff,h.ev];split at he<;>try (cases he;done)
  split at he<;>try (cases he;done)
  ·rename_i l t hq
   rw[hq];obtain⟨l',h1,h2⟩:=Option.bind_eq_some_iff.1 he;obtain⟨p,h3,h4⟩:=mS h h1;obtain⟨⟨g1,g2,g3,g4⟩,rfl⟩:=bJ h2;simp only[h3];exact⟨_,rfl,⟨h4,g1,g2,ry h g3,g4⟩,⟨rfl,rfl,rfl,rfl,rfl⟩,⟨fun ob' e=>(by cases e),.inl rfl⟩⟩
  ·rename_i sz' l t hq
   rw[hq];obtain⟨l',h1,h2⟩:=Option.bind_eq_some_iff.1 he;obtain⟨p,h3,h4⟩:=kh h h1;obtain⟨⟨g1,g3,g4⟩,rfl⟩:=bJ h2;simp only[h3];exact⟨_,rfl,⟨h4,g1,ry h g3,g4⟩,⟨rfl,rfl,rfl,rfl,rfl⟩,⟨fun ob' e=>(by cases e),.inl rfl⟩⟩
 |cpy sz q y=>exact absurd rfl (hcp sz q y)
 |appO z bytes q y=>cases he
 |clr z q=>
  simp only[dM]at he;simp only[eff,h.ev];split at he<;>try (cases he;done)
  rename_i o' sz' off n cap hq;rw[hq];simp only[h.look];split at he<;>try (cases he;done)
  rename_i sz'' xs hl;rw[hl];obtain⟨⟨g0,g1,g2,g3⟩,rfl⟩:=bJ he;have hrows:=h.rows hl;refine⟨_,rfl,⟨g0,g1,g2,g3,by rw[g2];exact hrows⟩,⟨rfl,rfl,rfl,rfl,rfl⟩,⟨fun ob' e=>(by cases e),.inr ⟨_,_,rfl,by rw[hl];rfl,ja.2 ?_⟩⟩⟩;intro r hr;rcases al.1 hr with hr|hr
  ·rcases al.1 hr with hr|hr
   ·rw[g2];exact hrows r (b8 hr)
   ·rw[(List.mem_replicate.1 hr).2]
  ·rw[g2];exact hrows r (DG hr)
 |appM z bytes q y=>cases he
 |ovl q y=>cases he
 |_=>exact plain (rS rfl) rfl he
theorem Sg(P:Program)(h:Sim N c s)(hM:aM C x s a w){e:nY}(he:dM c d so=some e)(hp:∀q y z,so≠ .pick q y z)(hn:∀ne q,so≠ .isnil ne q):∃f,eff s d so=some f/\f.pre/\Et e f/\ED c e:=by
 by_cases hcp:∃sz q y,so= .cpy sz q y
 ·obtain⟨sz,q,y,rfl⟩:=hcp
  simp only[dM]at he;simp only[eff,h.ev];split at he<;>try (cases he;done)
  rename_i o' sz' off n cap hq;rw[hq];simp only[h.look];split at he<;>try (cases he;done)
  ·rename_i l hl
   rw[hl];obtain⟨l',h1,h2⟩:=Option.bind_eq_some_iff.1 he;obtain⟨p,h3,h4⟩:=mS h h1;obtain⟨⟨g1,g2,g3⟩,rfl⟩:=bJ h2;simp only[h3];exact⟨_,rfl,⟨h4,g1,g2,g3⟩,⟨rfl,rfl,rfl,rfl,rfl⟩,⟨fun ob' e=>(by cases e),.inr ⟨_,_,rfl,by rw[hl];rfl,rfl⟩⟩⟩
  ·rename_i sz'' xs hl
   rw[hl];obtain⟨l',h1,h2⟩:=Option.bind_eq_some_iff.1 he;obtain⟨p,h3,h4⟩:=kh h h1;obtain⟨⟨g0,g1,g2,g3⟩,rfl⟩:=bJ h2;simp only[h3];have hrows:=h.rows hl;obtain⟨_,hl',_⟩:=pr (P:=P) hM (Qr hM g0) (by rw[h.ev];exact h3) h4;refine⟨_,rfl,⟨h4,g1,g2,g3,by rw[g2];exact hrows⟩,⟨rfl,rfl,rfl,rfl,rfl⟩,⟨fun ob' e=>(by cases e),.inr ⟨_,_,rfl,by rw[hl];rfl,ja.2 ?_⟩⟩⟩;intro r hr;rcases al.1 hr with hr|hr
   ·rcases al.1 hr with hr|hr
    ·rw[g2];exact hrows r (b8 hr)
    ·exact hl' r (b8 hr)
   ·rw[g2];exact hrows r (DG hr)
 ·exact Gf h he hp hn (fun sz q y e=>hcp ⟨sz,q,y,e⟩)
theorem xgt(h:M C N c a w)(hr:br P o=some so)(hd:∀k,o.dst=some k->k<N)(hc:nb c o.dst (dM c o.dst so)=some c'){K:Act->World->Prop}{Q:Exit->Act->World->Prop}(hK:∀a w,M C N c' a w->K a w):o.wp P a w K Q:=by
 obtain⟨x,s,hM,hS⟩:=h;cases he:dM c o.dst so with
 |none=>rw[he]at hc;cases hc
 |some e=>
  rw[he]at hc;simp only[nb,an.injEq]at hc;subst hc
  by_cases hp:∃q y z,so= .pick q y z
  ·obtain⟨q,y,z,rfl⟩:=hp
   simp only[dM]at he;split at he<;>cases he;rename_i t ht;have hd':=Dy hM hr (t:=t) (by rw[hS.ev];exact ht);refine de hd' (k:=Sim N (c.app o.dst {val:=iy t (c.ev y) (c.ev z)})) ?_ hK;have:(if t=true then s.ev y else s.ev z)=iy t (c.ev y) (c.ev z):=by rw[hS.ev,hS.ev];rfl
   rw[this];exact hS.put hd _
  ·by_cases hn:∃ne q,so= .isnil ne q
   ·obtain⟨ne,q,rfl⟩:=hn
    have key:∃b,b=ne/\bW P C o a w (s.put o.dst (.bool b)):=by
     refine xU hM hr (K:=fun b=>b=ne) ?_;rw[hS.ev];simp only[dM]at he;split at he<;>try (cases he;done)
     ·rename_i l t hl
      obtain⟨h1,_⟩:=bJ he
      try rw[hl]
      intro b hb;cases b
      ·cases ne<;>rfl
      ·exact absurd (hb rfl) h1
     ·rename_i sz l t hl
      obtain⟨h1,_⟩:=bJ he
      try rw[hl]
      intro b hb;cases b
      ·cases ne<;>rfl
      ·exact absurd (hb rfl) h1
     ·rename_i hl
      first
       |rw[hl]
       |rfl
    obtain⟨b,rfl,hd'⟩:=key;refine de hd' (k:=Sim N (c.app o.dst e)) ?_ hK
    have:e= {val:= .bool b}:=by
     simp only[dM]at he;split at he
     ·obtain⟨_,h2⟩:=bJ he;exact h2.symm
     ·obtain⟨_,h2⟩:=bJ he;exact h2.symm
     ·exact(an.inj he).symm
     ·cases he
    rw[this];exact hS.put hd _
   ·obtain⟨f,h1,h2,h3,h4⟩:=Sg P hS hM he (fun q y z e=>hp ⟨q,y,z,e⟩) (fun ne q e=>hn ⟨ne,q,e⟩)
    exact de (Se hM hr h1 h2) (k:=Sim N (c.app o.dst e)) (hS.app hd h3 h4) hK
end Go.Sy
namespace Go.Sy
variable [aZ]
variable {P : Program} {C : Ctx} {x : Sit} {a : Act} {w : World} {N : Nat} {c c' : CSt} {s : St}
theorem Sim.exact(h:Sim N c s)(hM:aM C x s a w):aM C x (c.st N) a w:=
 ⟨by show cd x ((bE N).map c.get) _;rw[<-h.tm];exact hM.tm,hM.defers,hM.heap.only (fun p hp=>by have h1:=je (jb h.inv.so) hp;have h2:s.look p.1=some p.2:=(h.look p.1).trans h1;exact cS h2) (jb h.inv.so) (fun t ht=>(h.tk t).2 ht)⟩
theorem M.slots(h:M C N c a w)(hi:Inv N c')(ho:c'.ob=c.ob)(ht:c'.tk=c.tk)(hg:∀i,c'.get i=c.get i\/c'.get i= .undef):M C N c' a w:=by
 obtain⟨x,s,hM,hS⟩:=h;have hE:=hS.exact hM;refine⟨x,c'.st N,⟨⟨?_,fun i hi'=> ?_⟩,hM.defers, ?_⟩,Sim.of hi⟩
 ·have:=hE.tm.1;simpa[CSt.st]using this
 ·have h1:=hE.tm.2 i (by simpa[CSt.st]using hi')
  have hiN:i<N:=by simpa[CSt.st]using hi'
  simp only[CSt.st,aa,aQ,bV hiN,bo,aY]at h1 ⊢;rcases hg i with e|e
  ·rw[e];exact h1
  ·rw[e];exact .undef _
 ·show cR C x c'.ob c'.tk w
  rw[ho,ht];exact hE.heap
theorem Inv.kill(h:Inv N c)(l:List Nat):Inv N (c.kill l):=by
 cases l with
 |nil=>exact h
 |cons n r=>exact⟨fun p hp=>h.dom p (pB hp),h.so,h.wf⟩
theorem M.kill(h:M C N c a w)(l:List Nat):M C N (c.kill l) a w:=by
 have hi:Inv N c:=by obtain⟨x,s,_,hS⟩:=h;exact hS.inv
 cases l with
 |nil=>exact h
 |cons n r=>
  refine h.slots (hi.kill _) rfl rfl fun i=> ?_
  have e:=pH (n::r) i c.tm
  by_cases hc:(n::r).contains i=true
  ·exact .inr (e.trans (if_pos hc))
  ·exact .inl (e.trans (if_neg hc))
theorem M.purge(h:M C N c a w)(lo hi:Nat):M C N (c.purge lo hi) a w:=by obtain⟨x,s,hM,hS⟩:=h;exact⟨x,_,hM.purge lo hi,hS.purge lo hi⟩
theorem M.gc:∀{l:List Nat}{c:CSt},M C N c a w->M C N (gcC c l) a w
 |[],_,h=>h
 |o::r,c,h=>by show M C N (gcC (c.purge o (o+1)) r) a w;exact M.gc (h.purge o (o+1))
theorem lL{o:Nat}{obj:aF}(cs:List SV):SV.pubL o obj cs=cs.map (SV.pub o obj):=by
 induction cs with
 |nil=>rfl
 |cons c r ih=>simp only[SV.pubL,aC,ih]
theorem Rep.pub{x x':Sit}{o:Nat}{obj:aF}(hβ:x'.bk=x.bk)(hτ:x'.τ=x.τ)(hG:∀b i u,x.G b i=some u->x'.G b i=some u)
 (hcell:∀k,k<obj.size->∃u,x'.G ((x.bk o).1) k=some u/\cn x'.G (obj.cell k) u) (hwf:obj.wf=true) {sv:SV} {v:Value} (h:Rep x sv v):Rep x' (sv.pub o obj) v:=by
 induction h with
 |undef v=>exact .undef v
 |dat s v h ht=>
  have:s.pub o obj=s:=by cases h<;>rfl
  rw[this];exact(Rep.dat s v h ht).grow hG hβ hτ
 |ptr o' off=>
  simp only[SV.pub];split
  ·exact .undef _
  ·rw[<-hβ];exact .ptr o' off
 |ap o' sz i j=>
  simp only[SV.pub];split
  ·exact .undef _
  ·rw[<-hβ];exact .ap o' sz i j
 |psl o' sz off n cap off' cap' hoff hn hcp hkp=>
  simp only[SV.pub];split
  ·rename_i ho
   subst ho;cases obj with
   |rc cs=>exact .undef _
   |arr sz' xs=>
    simp only[xv];split
    ·rename_i hc
     obtain⟨rfl,hb⟩:=hc;have hrows:=ja.1 hwf;have h1:=leP.psl (o:=o') (cap:=cap) hb hrows x x' _ hβ hτ hG (fun k hk=>hcell k hk) (.psl o' sz' off n cap off' cap' hoff hn hcp hkp);split
     ·rename_i hcap
      have hcn:=hcp _ hcap;obtain⟨b,cq,he,_,hD,_⟩:=h1.lst_inv;exact .dat _ _ (hD.tok (.lst sz' ((xs.drop off).take n) .clip) (.inr ⟨sz',_,_,_,rfl,rfl⟩)) ⟨_,n,by rw[<-hcn]⟩
     ·exact h1
    ·exact .undef _
   |bar l=>
    simp only[xv];split
    ·rename_i hc
     obtain⟨rfl,hb⟩:=hc;have hlen:((l.drop off).take n).length=n:=by simp;omega
     have hD:∀t,cn x'.G (.byt ((l.drop off).take n) t) (.slice (some ⟨(x.bk o').1,off',none⟩) n cap'):=by
      intro t;refine .byt _ t _ _ _ _ hlen.symm hn fun i hi=> ?_
      have hoff':off'=off:=by omega
      obtain⟨u,hu,hr⟩:=hcell (off+i) (by simp only[aF.size];omega);rw[hoff',hu];simp only[aF.cell]at hr
      have e:((l.drop off).take n).getD i 0=l.getD (off+i) 0:=by simp only[aa,bL,if_pos hi,bw]
      rw[e];cases hr with
      |u8 b=>rfl
     split
     ·rename_i hcap
      have hcn:=hcp _ hcap;exact .dat _ _ (hD .clip) ⟨_,n,by rw[<-hcn]⟩
     ·exact .dat _ _ (hD .no) trivial
    ·exact .undef _
  ·rw[<-hβ]at hkp ⊢;exact .psl o' sz off n cap off' cap' hoff hn hcp hkp
 |agg cs vs hl _ ih=>simp only[SV.pub,lL];exact .agg _ _ (by simpa using hl) fun i hi=>by rw[aV _ (by rfl)];exact ih i (by simpa using hi)
 |tup cs vs hl _ ih=>simp only[SV.pub,lL];exact .tup _ _ (by simpa using hl) fun i hi=>by rw[aV _ (by rfl)];exact ih i (by simpa using hi)
 |fn f c1 c2 v1 v2 hl1 _ hl2 _ ih1 ih2=>simp only[SV.pub,lL];exact .fn _ _ _ _ _ (by simpa using hl1) (fun i hi=>by rw[aV _ (by rfl)];exact ih1 i (by simpa using hi)) (by simpa using hl2) (fun i hi=>by rw[aV _ (by rfl)];exact ih2 i (by simpa using hi))
theorem kp{o:Nat}{obj:aF}{p:Nat×aF}:∀{l:List (Nat×aF)},p∈kY o obj l->p.1≠o/\∃q,(p.1,q)∈l/\p.2=nE o obj q
 |q::r,h=>by
  simp only[kY]at h;split at h
  ·obtain⟨h1,u,h2,h3⟩:=kp h
   exact⟨h1,u,ao _ h2,h3⟩
  ·rename_i hq
   rcases av.1 h with e|e
   ·rw[e];exact⟨hq,q.2,aD ..,rfl⟩
   ·obtain⟨h1,u,h2,h3⟩:=kp e
    exact⟨h1,u,ao _ h2,h3⟩
theorem pK{o:Nat}{obj:aF}:∀l:List (Nat×aF),(kY o obj l).map cE=(l.map cE).filter fun k=>decide (k≠o)
 |[]=>rfl
 |p::r=>by
  simp only[kY,aC,kR]
  by_cases h:p.1=o
  ·rw[if_pos h,pK r];simp[h]
  ·rw[if_neg h,aC,pK r];simp[h]
theorem py{o:Nat}{obj:aF}{p:Nat×SV}:∀{l:List (Nat×SV)},p∈ly o obj l->∃q∈l,p.1=q.1
 |q::r,h=>by
  simp only[ly]at h;rcases av.1 h with e|e
  ·exact⟨q,aD ..,by rw[e]⟩
  ·obtain⟨u,h1,h2⟩:=py e
   exact⟨u,ao _ h1,h2⟩
theorem ku{o:Nat}{obj:aF}(n:Nat):∀l:List (Nat×SV),ej (ly o obj l) n=(ej l n).pub o obj
 |[]=>rfl
 |p::r=>by
  simp only[ly,ej];split
  ·rfl
  ·exact ku n r
theorem xbD{o:Nat}{obj q:aF}(h:q.wf=true):(nE o obj q).wf=true:=by cases q<;>simpa[nE,aF.wf]using h
theorem oF{o:Nat}{obj0 obj:aF}(hl:c.look o=some obj0)(hnr:∀cs,obj≠ .rc cs)(hnr0:∀cs,obj0≠ .rc cs)(hle:obj.size<=obj0.size)(hcl:∀k,k<obj.size->obj.cell k=obj0.cell k)(hwf:obj.wf=true)(hM:aM C x s a w)(hS:Sim N c s):
 ∃x',(x'.bk=x.bk/\x'.τ=x.τ/\(∀b i u,x.G b i=some u->x'.G b i=some u)/\(∀i,obj.size<=i->x'.G ((x.bk o).1) i=none)/\(∀k,k<obj.size->∃u,x'.G ((x.bk o).1) k=some u/\cn x'.G (obj.cell k) u))/\(∀sv v,Rep x sv v->Rep x' (sv.pub o obj) v)/\∃s',aM C x' s' a w/\Sim N ⟨ly o obj c.tm,kY o obj c.ob,c.tk⟩ s'/\(∀p∈s'.ob,(x.bk o).1≠(x'.bk p.1).1):=by
 have hls:s.look o=some obj0:=(hS.look o).trans hl;obtain⟨cc,e,fl,fh,hO,hsz,hr⟩:=eF hM hls;have hob:=hM.heap.obs _ (cS hls)
 let x':Sit:= {x with G:=fun b i=>if b=(x.bk o).1/\i<obj.size then some (cc.getD i Go.undef)else x.G b i}
 have hG:∀b i u,x.G b i=some u->x'.G b i=some u:=by intro b i u hu;show(if _ then _ else _)=_;rw[if_neg];exact hu;rintro⟨rfl,_⟩;have h0:=hob.2.2 i;simp only at h0;rw[h0]at hu;cases hu
 have hcell:∀k,k<obj.size->∃u,x'.G ((x.bk o).1) k=some u/\cn x'.G (obj.cell k) u:=by
  intro k hk;refine⟨cc.getD k Go.undef,if_pos ⟨rfl,hk⟩,cn.mono hG ?_⟩;have:=hr k (by omega);rw[hcl k hk];cases obj0 with
  |rc cs=>exact absurd rfl (hnr0 cs)
  |arr sz xs=>exact this
  |bar l=>exact this
 have hpub:∀sv v,Rep x sv v->Rep x' (sv.pub o obj) v:=fun sv v h=>Rep.pub (x:=x) (x':=x') rfl rfl hG hcell hwf h
 have hH:=hM.heap
 have hinv:Inv N ⟨ly o obj c.tm,kY o obj c.ob,c.tk⟩:=by
  refine⟨fun p hp=> ?_, ?_,fun p hp=> ?_⟩
  ·obtain⟨q,hq,e⟩:=py hp;rw[e];exact hS.inv.dom q hq
  ·show((kY o obj c.ob).map cE).Pairwise _
   rw[pK];exact hS.inv.so.filter _
  ·obtain⟨_,q,h2,h3⟩:=kp hp;rw[h3];exact xbD (hS.inv.wf _ h2)
 have hmem:∀p∈kY o obj c.ob,p.1≠o/\∃q,(p.1,q)∈s.ob/\p.2=nE o obj q:=by intro p hp;obtain⟨h1,q,h2,h3⟩:=kp hp;have h4:=je (jb hS.inv.so) h2;exact⟨h1,q,cS ((hS.look p.1).trans h4),h3⟩
 have hne:∀p∈kY o obj c.ob,(x.bk p.1).1≠(x.bk o).1:=fun p hp e=>by obtain⟨h1,q,h2,_⟩:=hmem p hp;exact h1 (hH.inj (p.1,q) h2 _ (cS hls) e)
 refine⟨x',⟨rfl,rfl,hG,fun i hi=> ?_,hcell⟩,hpub,_,⟨⟨?_,fun i hi=> ?_⟩,hM.defers, ?_⟩,Sim.of hinv,fun p hp=>(hne p hp).symm⟩
 ·show(if _ then _ else _)=_
  rw[if_neg (by rintro⟨_,h⟩;omega)];exact hob.2.2 i
 ·have:=hM.tm.1;rw[hS.tm]at this;simpa[CSt.st]using this
 ·have hiN:i<N:=by simpa[CSt.st]using hi
  have h1:=hM.tm.2 i (by rw[hS.tm];simpa using hiN);rw[hS.tm]at h1;simp only[CSt.st,aa,aQ,bV hiN,bo,aY]at h1 ⊢;have:(CSt.mk (ly o obj c.tm) (kY o obj c.ob) c.tk).get i=(c.get i).pub o obj:=ku i c.tm;rw[this];exact hpub _ _ h1
 ·refine⟨
   ?_,fun b i v hv=>hG _ _ _ (hH.g0 b i v hv), ?_,hH.new, ?_,jb hinv.so, ?_, ?_,fun n hn p hp=> ?_,fun n hn m hm=>hH.tkd n ((hS.tk n).2 hn) m ((hS.tk m).2 hm),hH.os,hH.tape,hH.output,hH.size,hH.ext,hH.pin,hH.lay⟩
  ·intro b i v hv
   replace hv:(if b=(x.bk o).1/\i<obj.size then some (cc.getD i Go.undef)else x.G b i)=some v:=hv;split at hv
   ·rename_i hbi
    obtain⟨rfl,hi⟩:=hbi;cases hv;rw[hO.cell,bi,gK (by omega)];rfl
   ·exact hH.per b i v hv
  ·intro b i v hv
   replace hv:(if b=(x.bk o).1/\i<obj.size then some (cc.getD i Go.undef)else x.G b i)=some v:=hv;split at hv
   ·rename_i hbi
    exact .inr (hbi.1 ▸ hob.2.1)
   ·exact hH.gm b i v hv
  ·intro p hp
   obtain⟨h1,q,h2,h3⟩:=hmem p hp;obtain⟨g1,g2,g3⟩:=hH.obs _ h2;refine⟨?_,g2,fun off=> ?_⟩
   ·obtain⟨c',e',fl',fh',hO',hs',hr'⟩:=g1
    rw[h3];refine⟨c',e',fl',fh',hO', ?_,fun k hk=> ?_⟩
    ·cases q<;>first|exact hs'|exact⟨by simpa[nE,aF.size,lL]using hs'.1,hs'.2.1,fun h=>by cases h⟩
    ·cases q with
     |rc cs=>
      have hk':k<cs.length:=by simpa[nE,aF.size,lL]using hk
      have:=hr' k hk';simp only[nE,bZ,lL]at this ⊢;rw[aV _ (by rfl)];exact hpub _ _ this
     |arr sz xs=>exact cn.mono hG (hr' k hk)
     |bar l=>exact cn.mono hG (hr' k hk)
   ·show(if _ then _ else _)=_
    rw[if_neg (fun h=>hne p hp h.1)];exact g3 off
  ·intro p hp q hq hpq
   obtain⟨_,p',hp',_⟩:=hmem p hp;obtain⟨_,q',hq',_⟩:=hmem q hq;exact hH.inj (p.1,p') hp' (q.1,q') hq' hpq
  ·intro n hn'
   have hn:=(hS.tk n).2 hn';rcases hH.tks n hn with h|⟨h1,h2,h3⟩
   ·exact .inl h
   ·by_cases hlh:(x.τ n).2.1=(x.τ n).2.2
    ·exact .inl hlh
    ·refine .inr ⟨h1,h2,fun off h4 h5=> ?_⟩
     show(if _ then _ else _)=_;rw[if_neg (fun h=>(hH.tko n hn _ (cS hls)).elim (fun hb=>hb h.1) hlh)];exact h3 off h4 h5
  ·obtain⟨_,q,h2,_⟩:=hmem p hp
   exact hH.tko n ((hS.tk n).2 hn) (p.1,q) h2
theorem oG{o:Nat}{obj:aF}(hl:c.look o=some obj)(hnr:∀cs,obj≠ .rc cs)(hM:aM C x s a w)(hS:Sim N c s):
 ∃x',(x'.bk=x.bk/\x'.τ=x.τ)/\(∀sv v,Rep x sv v->Rep x' (sv.pub o obj) v)/\∃s',aM C x' s' a w/\Sim N ⟨ly o obj c.tm,kY o obj c.ob,c.tk⟩ s':=by
 obtain⟨x',h1,h2,s',h3,h4,_⟩:=oF hl hnr hnr (aH _) (fun _ _=>rfl) (hS.lookmem hl) hM hS;exact⟨x',⟨h1.1,h1.2.1⟩,h2,s',h3,h4⟩
theorem C2{o:Nat}{obj:aF}(hl:c.look o=some obj)(hnr:∀cs,obj≠ .rc cs)(hM:aM C x s a w)(hS:Sim N c s):
 ∃x',(∀sv v,Rep x sv v->Rep x' (sv.pub o obj) v)/\∃s',aM C x' s' a w/\Sim N ⟨ly o obj c.tm,kY o obj c.ob,c.tk⟩ s':=by
 obtain⟨x',_,h⟩:=oG hl hnr hM hS;exact⟨x',h⟩
theorem kX{vs:List SV}{us:List Value}{o:Nat}(hM:aM C x s a w)(hS:Sim N c s)(hv:cd x vs us):
 ∃x' s',aM C x' s' a w/\Sim N (c.publish o vs).1 s'/\cd x' (c.publish o vs).2 us:=by
 unfold CSt.publish
 have go:∀{obj:aF},c.look o=some obj->(∀cs,obj≠ .rc cs)->∃x' s',aM C x' s' a w/\Sim N ⟨ly o obj c.tm,kY o obj c.ob,c.tk⟩ s'/\cd x' (SV.pubL o obj vs) us:=by intro obj hl hnr;obtain⟨x',hp,s',h1,h2⟩:=C2 hl hnr hM hS;refine⟨x',s',h1,h2, ?_⟩;rw[lL];refine⟨by simpa using hv.1,fun i hi=> ?_⟩;rw[aV _ (by rfl)];exact hp _ _ (hv.2 i (by simpa using hi))
 split
 ·rename_i sz xs hl;exact go hl (fun cs e=>by cases e)
 ·rename_i l hl;exact go hl (fun cs e=>by cases e)
 ·exact⟨x,s,hM,hS,hv⟩
theorem jj{us:List Value}:∀{l:List Nat}{c:CSt}{s:St}{x:Sit}{vs:List SV},aM C x s a w->Sim N c s->cd x vs us->
 ∃x' s',aM C x' s' a w/\Sim N (eC c vs l).1 s'/\cd x' (eC c vs l).2 us
 |[],_,_,_,_,hM,hS,hv=>⟨_,_,hM,hS,hv⟩
 |o::r,c,s,x,vs,hM,hS,hv=>by obtain⟨x1,s1,h1,h2,h3⟩:=kX (o:=o) hM hS hv;simp only[eC];exact jj h1 h2 h3
theorem M.pub(h:M C N c a w)(o:Nat):M C N (c.publish o []).1 a w:=by obtain⟨x,s,hM,hS⟩:=h;obtain⟨x',s',h1,h2,_⟩:=kX (o:=o) (vs:=[]) (us:=[]) hM hS ⟨rfl,fun i hi=>by simp at hi⟩;exact⟨x',s',h1,h2⟩
theorem PX(hM:aM C x s a w)(hS:Sim N c s)(id b lo hi:Nat)(hv:lo=hi\/((∃c e fl fh,eP w b c e fl fh/\hi<=c.size)/\C.mine b/\∀o,lo<=o->o<hi->x.G b o=none))
 (hob:∀p∈s.ob,b≠(x.bk p.1).1) (htk:∀u∈s.tk,lh (b,lo,hi) (x.τ u)\/(x.τ u).2.1=(x.τ u).2.2) {n:Nat} (hn:n<N) {v:SV}
 (hval:Rep (x.newT id b lo hi) v (a.tmps.toList.getD n Go.undef)):
 M C N ⟨jp (df id (id+1) c.tm) n v,bx id (id+1) c.ob,mf (cg id (id+1) c.tk) id⟩ a w:=by
 have hadd:cR C (x.newT id b lo hi) (bx id (id+1) s.ob) (id::cg id (id+1) s.tk) w:=
  hM.heap.addT id b lo hi hv (.inr fun p hp _=>hob p hp) (.inr fun u hu _=>htk u hu)
 have hM1:aM C (x.newT id b lo hi) ⟨SV.purgeL id (id+1) s.tm,bx id (id+1) s.ob,id::cg id (id+1) s.tk⟩ a w:=
  ⟨cd.mono (x:=x) (x':=x.newT id b lo hi) (lo:=id) (hi:=id+1) (fun _ _ _ h=>h) (fun _ _=>rfl) (Sit.newT_ne x id _ _ _) hM.tm,hM.defers,hadd⟩
 have hS1:Sim N ⟨df id (id+1) c.tm,bx id (id+1) c.ob,mf (cg id (id+1) c.tk) id⟩ ⟨SV.purgeL id (id+1) s.tm,bx id (id+1) s.ob,id::cg id (id+1) s.tk⟩:=
  (hS.purge id (id+1)).tks (fun u=>by rw[ko,av,bD,bD,hS.tk])
 refine⟨x.newT id b lo hi,_, ?_,hS1.put (d:=some n) (fun k e=>by cases e;exact hn) v⟩;refine⟨⟨?_,fun i hi=> ?_⟩,hM1.defers,hM1.heap⟩
 ·have:=hM1.tm.1;simpa[St.put]using this
 ·simp only[St.put,cT]at hi
  simp only[St.put,aa,gk]
  by_cases hni:n=i
  ·subst hni
   rw[if_pos rfl,if_pos hi];rw[<-aa];exact hval
  ·rw[if_neg hni]
   have:=hM1.tm.2 i hi;simp only[aa]at this;exact this
theorem wH(h:M C N c a w){n id o sz off k cp:Nat}(hg:c.get n= .psl o sz off k (some cp))(hc:PZ c n id o sz off k cp (c.look o)=some c')(hn:n<N):M C N c' a w:=by
 cases hl:c.look o with
 |none=>rw[hl]at hc;cases hc;exact h
 |some obj0=>
  rw[hl]at hc
  have main:∀(obj:aF)(v:SV),(∀cs,obj≠ .rc cs)->(∀cs,obj0≠ .rc cs)->obj.size=(off+k)*sz->(off+cp)*sz<=obj0.size->k<=cp->(∀k,k<obj.size->obj.cell k=obj0.cell k)->obj.wf=true->
   (∀(x':Sit)(off':Nat),(cp=0\/off'=off*sz)->(∀k,k<obj.size->∃u,x'.G ((x'.bk o).1) k=some u/\cn x'.G (obj.cell k) u)->cn x'.G v (.slice (some ⟨(x'.bk o).1,off',none⟩) k cp))->
   (∀x v',Oj x v v'=dj x sz (.id id) v')->
   M C N (DV c n id o obj v) a w:=by
   intro obj v hnr hnr0 hsz hle hk hcl hwf hD htok;obtain⟨x,s,hM,hS⟩:=h;have hle':obj.size<=obj0.size:=by rw[hsz];exact pU (bv _ (by omega)) hle
   obtain⟨x',⟨hβ,hτ,hG,hfree,hcell⟩,hpub,s',hM',hS',hne⟩:=oF hl hnr hnr0 hle' hcl hwf hM hS;have hls:s.look o=some obj0:=(hS.look o).trans hl;obtain⟨cc,e,fl,fh,hO,hosz,_⟩:=eF hM hls;have hob:=hM.heap.obs _ (cS hls);have hslot:=hM.slot n;rw[hS.get,hg]at hslot;obtain⟨cp',hkc,hcc,off',he,hoff⟩:=hslot.psl_inv;obtain rfl:=hcc _ rfl
   have hval0:a.tmps.toList.getD n Go.undef= .slice (some ⟨(x.bk o).1,off',none⟩) k cp:=by rw[<-he];simp[bi,aa]
   refine PX hM' hS' id ((x.bk o).1) ((off+k)*sz) ((off+cp)*sz) (.inr ⟨⟨cc,e,fl,fh,hO,by omega⟩,hob.2.1,fun i h1 h2=>hfree i (by omega)⟩) (fun p hp=>hne p hp) (fun u hu=> ?_) hn ?_
   ·have hu':=(hS'.tk u).1 hu
    have hu2:=(hS.tk u).2 hu';rw[hτ];exact(hM.heap.tko u hu2 _ (cS hls)).imp (fun h e=>h e.symm) (fun h=>h)
   ·rw[hval0]
    have h1:=hD (x'.newT id ((x.bk o).1) ((off+k)*sz) ((off+cp)*sz)) off' hoff (by show ∀k,k<obj.size->∃u,x'.G ((x'.bk o).1) k=some u/\cn x'.G (obj.cell k) u;rw[hβ];exact hcell)
    have e1:(x'.newT id ((x.bk o).1) ((off+k)*sz) ((off+cp)*sz)).bk o=x.bk o:=by show x'.bk o=_;rw[hβ]
    rw[e1]at h1;refine .dat _ _ h1 ?_;rw[htok];refine⟨_,k,cp,rfl, ?_⟩
    by_cases hcz:cp=0
    ·exact .inl (by omega)
    ·refine .inr ⟨_,off',rfl, ?_⟩
     rw[Sit.newT_eq,hoff.resolve_left hcz,bB,bB]
  cases obj0 with
  |rc cs=>cases hc;exact h
  |bar l=>
   simp only[PZ]at hc;split at hc<;>cases hc
   ·rename_i hcond
    obtain⟨rfl,h2,h3⟩:=hcond;refine main (.bar (l.take (off+k))) (.byt ((l.drop off).take k) (.id id)) (fun cs e=>by cases e) (fun cs e=>by cases e) (by simp only[aF.size,ax];omega) (by simp only[aF.size];omega) h3 (fun i hi=> ?_) rfl (fun x' off' hoff hcell=> ?_) (fun _ _=>rfl)
    ·simp only[aF.size,ax]at hi
     simp only[aF.cell,aa,bL,if_pos (show i<off+k by omega)]
    ·have hlen:((l.drop off).take k).length=k:=by simp;omega
     refine .byt _ _ _ _ _ _ hlen.symm h3 fun i hi=> ?_
     have hoff':off'=off:=by omega
     obtain⟨u,hu,hr⟩:=hcell (off+i) (by simp only[aF.size,ax];omega);rw[hoff',hu];simp only[aF.cell]at hr
     have e1:((l.drop off).take k).getD i 0=(l.take (off+k)).getD (off+i) 0:=by simp only[aa,bL,if_pos hi,bw,if_pos (show off+i<off+k by omega)]
     rw[e1];cases hr with
     |u8 b=>rfl
   ·exact h
  |arr sz' xs=>
   simp only[PZ]at hc;split at hc<;>cases hc
   ·rename_i hcond
    obtain⟨rfl,h2,h3⟩:=hcond;have hwf0:∀y∈xs,y.length=sz':=by obtain⟨x,s,hM,hS⟩:=h;exact ja.1 (hS.lookmem hl)
    have hwt:∀y∈xs.take (off+k),y.length=sz':=fun y hy=>hwf0 y (b8 hy)
    have hrow:(xs.drop off).take k=(xs.take (off+k)).drop off:=by rw[fd,Nat.add_sub_cancel_left]
    refine main (.arr sz' (xs.take (off+k))) (.lst sz' ((xs.drop off).take k) (.id id)) (fun cs e=>by cases e) (fun cs e=>by cases e) (by simp only[aF.size,ax];congr 1;omega) (by simp only[aF.size];exact bv _ h2) h3 (fun i hi=> ?_) (ja.2 hwt) (fun x' off' hoff hcell=> ?_) (fun _ _=>rfl)
    ·simp only[aF.size,ax]at hi
     simp only[aF.cell,aa,bL];have hd:i/sz'<off+k:=Nat.div_lt_of_lt_mul (by rw[cz];exact Nat.lt_of_lt_of_le hi (bv _ (Nat.min_le_left _ _)));rw[if_pos hd]
    ·have hlen:((xs.drop off).take k).length=k:=by simp;omega
     have hgr:∀i,i<k->((xs.drop off).take k).getD i []=(xs.take (off+k)).getD (off+i) []:=fun i hi=>by simp only[aa,bL,if_pos hi,bw,if_pos (show off+i<off+k by omega)]
     have hrl:∀i,i<k->((xs.drop off).take k).getD i []∈xs.take (off+k):=fun i hi=>by rw[hgr i hi,aa,ab (show off+i<(xs.take (off+k)).length by rw[ax];omega)];exact bh _
     have hcl:∀i j,i<k->j<sz'->∃u,x'.G ((x'.bk o).1) (off'+i*sz'+j)=some u/\cn x'.G ((((xs.drop off).take k).getD i []).getD j .undef) u:=by
      intro i j hi hj;have hoff':off'=off*sz':=hoff.resolve_left (by omega)
      have hlt:(off+i)*sz'+j<(off+k)*sz':=by have:=bv sz' (show off+i+1<=off+k by omega);rw[bB,Nat.one_mul]at this;omega
      obtain⟨u,hu,hr⟩:=hcell ((off+i)*sz'+j) (by simp only[aF.size,ax];rw[gM (by omega)];exact hlt);refine⟨u,by rw[hoff',<-bB];exact hu, ?_⟩;simp only[aF.cell]at hr;have e1:((off+i)*sz'+j)/sz'=off+i:=by rw[cz,Nat.mul_add_div (by omega),Nat.div_eq_of_lt hj,eY]
      have e2:((off+i)*sz'+j) % sz'=j:=by rw[cz,Nat.mul_add_mod,cy hj]
      rw[e1,e2]at hr;rw[hgr i hi];exact hr
     refine .lst _ _ _ _ _ _ _ (fun i j=>(x'.G ((x'.bk o).1) (off'+i*sz'+j)).getD Go.undef) hlen.symm h3 (fun i hi=>hwt _ (hrl i hi)) (fun i j hi hj=> ?_) (fun i j hi hj=> ?_)
     ·obtain⟨u,hu,_⟩:=hcl i j hi hj
      rw[hu];rfl
     ·obtain⟨u,hu,hr⟩:=hcl i j hi hj
      rw[hu];exact hr
   ·exact h
theorem kB(hM:aM C x s a w)(hS:Sim N c s)(id:Nat)(t:Option Nat)(ht:∀k,t=some k->k∈c.tk){n:Nat}(hn:n<N){v:SV}
 (hv:∀u,Rep x (c.get n) u->Rep (x.newT id ((t.elim (0,0,0) x.τ)).1 ((t.elim (0,0,0) x.τ)).2.1 ((t.elim (0,0,0) x.τ)).2.2) v u):
 M C N ⟨jp (df id (id+1) c.tm) n v,bx id (id+1) c.ob,mf (cg id (id+1) (t.elim c.tk fun k=>cg k (k+1) c.tk)) id⟩ a w:=by
 generalize hT:t.elim (0,0,0) x.τ=T at hv;generalize hL:(t.elim c.tk fun k=>cg k (k+1) c.tk)=L;have hH:=hM.heap
 have hLs:∀u∈L,u∈s.tk/\∀k,t=some k->u≠k:=by
  intro u hu;rw[<-hL]at hu;cases t with
  |none=>exact⟨(hS.tk u).2 hu,fun k e=>by cases e⟩
  |some k=>obtain⟨h1,h2⟩:=bD.1 hu;exact⟨(hS.tk u).2 h1,fun k' e=>by cases e;omega⟩
 have hadd:cR C (x.newT id T.1 T.2.1 T.2.2) (bx id (id+1) s.ob) (id::cg id (id+1) L) w:=by
  refine(hH.sub (tk':=L) (nj.refl _) (fun u hu=>(hLs u hu).1)).addT id T.1 T.2.1 T.2.2 ?_ ?_ ?_
  ·cases t with
   |none=>subst hT;exact .inl rfl
   |some k=>have:=hH.tks k ((hS.tk k).2 (ht k rfl));unfold ia at this;subst hT;exact this
  ·cases t with
   |none=>subst hT;exact .inl rfl
   |some k=>
    by_cases hc:(x.τ k).2.1=(x.τ k).2.2
    ·subst hT;exact .inl hc
    ·subst hT
     exact .inr fun p hp _=>(hH.tko k ((hS.tk k).2 (ht k rfl)) p hp).resolve_right hc
  ·cases t with
   |none=>subst hT;exact .inl rfl
   |some k=>
    by_cases hc:(x.τ k).2.1=(x.τ k).2.2
    ·subst hT;exact .inl hc
    ·subst hT
     refine .inr fun u hu _=> ?_
     obtain⟨h1,h2⟩:=hLs u hu;rcases hH.tkd k ((hS.tk k).2 (ht k rfl)) u h1 (fun e=>h2 k rfl e.symm)with h|h|h
     ·exact .inl h
     ·exact absurd h hc
     ·exact .inr h
 have hM1:aM C (x.newT id T.1 T.2.1 T.2.2) ⟨SV.purgeL id (id+1) s.tm,bx id (id+1) s.ob,id::cg id (id+1) L⟩ a w:=
  ⟨cd.mono (x:=x) (x':=x.newT id T.1 T.2.1 T.2.2) (lo:=id) (hi:=id+1) (fun _ _ _ h=>h) (fun _ _=>rfl) (Sit.newT_ne x id _ _ _) hM.tm,hM.defers,hadd⟩
 have hS1:Sim N ⟨df id (id+1) c.tm,bx id (id+1) c.ob,mf (cg id (id+1) L) id⟩ ⟨SV.purgeL id (id+1) s.tm,bx id (id+1) s.ob,id::cg id (id+1) L⟩:=
  (hS.purge id (id+1)).tks (fun u=>by rw[ko,av])
 refine⟨x.newT id T.1 T.2.1 T.2.2,_, ?_,hS1.put (d:=some n) (fun k e=>by cases e;exact hn) v⟩;have hlt:n<s.tm.length:=by rw[hS.tm];simpa using hn
 refine⟨⟨?_,fun i hi=> ?_⟩,hM1.defers,hM1.heap⟩
 ·have:=hM1.tm.1;simpa[St.put]using this
 ·simp only[St.put,cT]at hi
  simp only[St.put,aa,gk]
  by_cases hni:n=i
  ·subst hni
   rw[if_pos rfl,if_pos hi];refine hv _ ?_;have:=hM.tm.2 n hlt;have e:s.tm.getD n .undef=c.get n:=hS.get n;rw[e]at this;rw[<-aa];exact this
  ·rw[if_neg hni,<-aa,<-aa]
   exact hM1.tm.2 i hi
theorem wI(h:M C N c a w){n id:Nat}(hc:P3 c n id (c.get n)=some c'):M C N c' a w:=by
 have hnN:c.get n≠ .undef->n<N:=by
  obtain⟨x,s,hM,hS⟩:=h;intro hne;rcases bY n N with h1|h1
  ·exact h1
  ·exact absurd (hS.inv.get h1) hne
 cases hg:c.get n with
 |byt l t=>
  rw[hg]at hc;have hN:=hnN (by rw[hg];exact fun e=>by cases e);cases t with
  |no=>cases hc;exact h
  |clip=>
   cases hc;obtain⟨x,s,hM,hS⟩:=h;refine kB hM hS id none (fun k e=>by cases e) hN fun u hu=> ?_
   rw[hg]at hu;exact leT.byt id l x u hu
  |id t=>
   simp only[P3]at hc;split at hc
   ·cases hc;exact h
   ·split at hc<;>cases hc
    rename_i h1 h2;obtain⟨x,s,hM,hS⟩:=h;refine kB hM hS id (some t) (fun k e=>by cases e;simpa using h2) hN fun u hu=> ?_
    rw[hg]at hu;obtain⟨b,cap,he,_,hD,hsp⟩:=hu.byt_inv;refine .dat _ _ (hD.tok (.byt l (.id id)) (.inl ⟨l,_,_,rfl,rfl⟩)) ?_;obtain⟨a',n',cap',he',hh⟩:=hsp;refine⟨a',n',cap',he',hh.imp (fun h=>h) ?_⟩;rintro⟨b,off,h3,h4⟩;exact⟨b,off,h3,by rw[Sit.newT_eq];exact h4⟩
 |lst sz xs t=>
  rw[hg]at hc;have hN:=hnN (by rw[hg];exact fun e=>by cases e);cases t with
  |no=>cases hc;exact h
  |clip=>
   cases hc;obtain⟨x,s,hM,hS⟩:=h;refine kB hM hS id none (fun k e=>by cases e) hN fun u hu=> ?_
   rw[hg]at hu;exact leT.lst id sz xs x u hu
  |id t=>
   simp only[P3]at hc;split at hc
   ·cases hc;exact h
   ·split at hc<;>cases hc
    rename_i h1 h2;obtain⟨x,s,hM,hS⟩:=h;refine kB hM hS id (some t) (fun k e=>by cases e;simpa using h2) hN fun u hu=> ?_
    rw[hg]at hu;obtain⟨b,cap,he,_,hD,hsp⟩:=hu.lst_inv;refine .dat _ _ (hD.tok (.lst sz xs (.id id)) (.inr ⟨sz,xs,_,_,rfl,rfl⟩)) ?_;obtain⟨a',n',cap',he',hh⟩:=hsp;refine⟨a',n',cap',he',hh.imp (fun h=>h) ?_⟩;rintro⟨b,off,h3,h4⟩;exact⟨b,off,h3,by rw[Sit.newT_eq];exact h4⟩
 |psl o sz off k cp=>
  rw[hg]at hc;have hN:=hnN (by rw[hg];exact fun e=>by cases e);cases cp with
  |none=>cases hc;exact h
  |some cp=>exact wH h hg hc hN
 |_=>rw[hg]at hc;cases hc;exact h
theorem aM.retag(hM:aM C x s a w)(n:Nat){v:SV}(hval:Rep x v (a.tmps.toList.getD n Go.undef)):aM C x (s.put (some n) v) a w:=by
 refine⟨⟨?_,fun i hi=> ?_⟩,hM.defers,hM.heap⟩
 ·have:=hM.tm.1;simpa[St.put]using this
 ·simp only[St.put,cT]at hi
  simp only[St.put,aa,gk]
  by_cases hni:n=i
  ·subst hni
   rw[if_pos rfl,if_pos hi];rw[<-aa];exact hval
  ·rw[if_neg hni]
   have:=hM.tm.2 i hi;simp only[aa]at this;exact this
theorem cR.move{ob:List (Nat×aF)}{tk:List Nat}(h:cR C x ob tk w){o d:Nat}(hd100:100<=d){obj:aF}(ho:(o,obj)∈ob)(hnr:∀cs,obj≠ .rc cs):
 cR C (x.newO d (x.bk o).1 (x.bk o).2) ((d,obj)::bx d (d+1) (bx o (o+1) ob)) (cg d (d+1) (cg o (o+1) tk)) w:=by
 have hβ:=Sit.newO_ne x d (x.bk o).1 (k:=(x.bk o).2);obtain⟨⟨c,e,fl,fh,hO,hs,hr⟩,hm,hg⟩:=h.obs _ ho;have hd2:(x.newO d (x.bk o).1 (x.bk o).2).bk d=x.bk o:=if_pos rfl
 have hob:∀p∈bx d (d+1) (bx o (o+1) ob),(x.newO d (x.bk o).1 (x.bk o).2).bk p.1=x.bk p.1/\∃q,(p.1,q)∈ob/\p.1≠o/\¬(d<=p.1/\p.1<d+1)/\p.2=(q.purge o (o+1)).purge d (d+1):=by intro p hp;obtain⟨h1,q,h2,h3⟩:=b9 hp;obtain⟨h4,q',h5,h6⟩:=b9 h2;simp only at h4 h5 h6;exact⟨hβ _ h1,q',h5,by omega,h1,by rw[h3,h6]⟩
 have htk:∀t∈cg d (d+1) (cg o (o+1) tk),t∈tk:=fun t ht=>(bD.1 (bD.1 ht).1).1
 refine⟨h.per,h.g0,h.gm,h.new, ?_, ?_, ?_,fun t ht=>h.tks t (htk t ht), ?_,fun t ht u hu=>h.tkd t (htk t ht) u (htk u hu),h.os,h.tape,h.output,h.size,h.ext,fun i hi=>by rw[hβ i (by omega)];exact h.pin i hi,h.lay⟩
 ·intro p hp
  rcases av.1 hp with rfl|hp
  ·refine⟨⟨c,e,fl,fh,by rw[hd2];exact hO,by rw[hd2];exact hs,fun k hk=> ?_⟩,by rw[hd2];exact hm,fun off=>by rw[hd2];exact hg off⟩
   have:=hr k hk;cases obj with
   |rc cs=>exact absurd rfl (hnr cs)
   |arr sz xs=>exact this
   |bar l=>exact this
  ·obtain⟨he,q,h1,h2,h3,h4⟩:=hob p hp
   obtain⟨h5,h6,h7⟩:=h.obs _ h1;refine⟨?_,by rw[he];exact h6,fun off=>by rw[he];exact h7 off⟩;have e1:=h5.of_heap (x':=x) (w':=w) (lo:=o) (hi:=o+1) rfl (fun _ _ _ h=>h) (fun _ _=>rfl) (fun _ _=>rfl) (by omega);have e2:=e1.of_heap (x':=x.newO d (x.bk o).1 (x.bk o).2) (w':=w) (lo:=d) (hi:=d+1) rfl (fun _ _ _ h=>h) hβ (fun _ _=>rfl) h3;rw[h4];exact e2
 ·rw[aC,dC,eA,eA]
  refine⟨fun hmem=> ?_,(h.nd.filter _).filter _⟩;have:=(List.mem_filter.1 hmem).2;simp at this
 ·intro p hp q hq hpq
  rcases av.1 hp with rfl|hp<;>rcases av.1 hq with rfl|hq
  ·rfl
  ·obtain⟨he,q',h1,h2,_⟩:=hob q hq
   rw[hd2,he]at hpq;exact absurd (h.inj (o,obj) ho (q.1,q') h1 hpq).symm h2
  ·obtain⟨he,q',h1,h2,_⟩:=hob p hp
   rw[hd2,he]at hpq;exact absurd (h.inj (p.1,q') h1 (o,obj) ho hpq) h2
  ·obtain⟨he,q1,h1,_⟩:=hob p hp
   obtain⟨he',q2,h2,_⟩:=hob q hq;rw[he,he']at hpq;exact h.inj (p.1,q1) h1 (q.1,q2) h2 hpq
 ·intro t ht p hp
  rcases av.1 hp with rfl|hp
  ·show(x.τ t).1≠((x.newO d (x.bk o).1 (x.bk o).2).bk d).1\/_
   rw[hd2];exact h.tko t (htk t ht) (o,obj) ho
  ·obtain⟨he,q,h1,_⟩:=hob p hp
   show(x.τ t).1≠((x.newO d (x.bk o).1 (x.bk o).2).bk p.1).1\/_;rw[he];exact h.tko t (htk t ht) (p.1,q) h1
theorem aM.move(hM:aM C x s a w){o d:Nat}(hd100:100<=d){obj:aF}(hl:s.look o=some obj)(hnr:∀cs,obj≠ .rc cs):
 aM C (x.newO d (x.bk o).1 (x.bk o).2) (((s.purge o (o+1)).purge d (d+1)).addO d obj) a w:=
 ⟨cd.mono (x:=x) (x':=x.newO d (x.bk o).1 (x.bk o).2) (lo:=d) (hi:=d+1) (fun _ _ _ h=>h) (Sit.newO_ne x d _) (fun _ _=>rfl) (hM.purge o (o+1)).tm,hM.defers,hM.heap.move hd100 (cS hl) hnr⟩
theorem vy{n id o sz off k:Nat}{cap:Option Nat}{obj:aF}(hM:aM C x s a w)(hS:Sim N c s)(hn:n<N)(hid:100<=id)(hg:c.get n= .psl o sz off k cap)(hl:c.look o=some obj)(hnr:∀cs,obj≠ .rc cs):
 M C N (mvC c n id o sz off k cap obj) a w:=by
 have hM1:=hM.move hid (by rw[hS.look];exact hl) hnr;have hS1:=(((hS.purge o (o+1)).purge id (id+1)).addO id (hS.lookmem hl)).put (d:=some n) (fun k e=>by cases e;exact hn) (.psl id sz off k cap);refine⟨x.newO id (x.bk o).1 (x.bk o).2,_, ?_,hS1⟩
 have hv:Rep x (.psl o sz off k cap) (a.tmps.toList.getD n Go.undef):=by have:=hM.tm.2 n (by rw[hS.tm];simpa using hn);rw[show s.tm.getD n .undef=c.get n from hS.get n,hg]at this;exact this
 obtain⟨cap',h1,h2,off',he,h3,h4⟩:=hv.psl_invA;refine hM1.retag n ?_;rw[he];have hd2:(x.newO id (x.bk o).1 (x.bk o).2).bk id=x.bk o:=if_pos rfl;have:=Rep.psl (x:=x.newO id (x.bk o).1 (x.bk o).2) id sz off k cap off' cap' h3 h1 h2 (by rw[hd2];exact h4);rw[hd2]at this;exact this
theorem xB(h:M C N c a w){n id:Nat}(hid:100<=id)(hc:Zm c n id (c.get n)=some c'):M C N c' a w:=by
 obtain⟨x,s,hM,hS⟩:=h;cases hg:c.get n with
 |psl o sz off k cap=>
  rw[hg]at hc
  have hn:n<N:=by
   rcases bY n N with h|h
   ·exact h
   ·rw[hS.inv.get h]at hg;cases hg
  simp only[Zm]at hc;split at hc
  ·cases hc;exact⟨x,s,hM,hS⟩
  ·cases hl:c.look o with
   |none=>rw[hl]at hc;cases hc;exact⟨x,s,hM,hS⟩
   |some obj=>
    rw[hl]at hc;cases obj with
    |rc cs=>cases hc;exact⟨x,s,hM,hS⟩
    |arr sz' xs=>cases hc;exact vy hM hS hn hid hg hl (fun cs e=>by cases e)
    |bar l=>cases hc;exact vy hM hS hn hid hg hl (fun cs e=>by cases e)
 |_=>rw[hg]at hc;cases hc;exact⟨x,s,hM,hS⟩
theorem o4(h:M C N c a w){q:Dir}(hc:qD c q=some c'):M C N c' a w:=by
 cases q with
 |kill l=>cases hc;exact h.kill l
 |gc l=>cases hc;exact h.gc
 |gcr lo hi=>cases hc;exact h.purge lo hi
 |pubo o=>cases hc;exact h.pub _
 |pub n=>
  simp only[qD]at hc;split at hc<;>cases hc
  ·exact h.pub _
  ·exact h
 |tok n id=>
  simp only[qD]at hc;split at hc
  ·cases hc
  ·exact wI h hc
 |obj n id=>
  simp only[qD]at hc;split at hc
  ·cases hc
  ·exact xB h (by omega) hc
theorem j0:∀{l:List Dir}{c:CSt},M C N c a w->iD c l=some c'->M C N c' a w
 |[],_,h,hc=>by cases hc;exact h
 |q::r,c,h,hc=>by
  simp only[iD]at hc;split at hc
  ·rename_i c1 h1;exact j0 (o4 h h1) hc
  ·cases hc
end Go.Sy
namespace Go.Sy
variable [aZ]
variable {P : Program} {C : Ctx} {x : Sit} {a : Act} {w : World} {N : Nat} {c c' : CSt} {s : St}
def jB(P:Program)(f:Nat)(args:List SV)(os:List aF)(k:Nat)(R:dO->Prop):Prop:=
 dV P f=true/\∀(C:Ctx)(x:Sit)(w:World)(vs:List Value),C.w0=w->C.G0=x.G->
  (∀b,C.mine b->w.heap.size<=b\/(∃i,i<os.length/\(x.bk i).1=b)\/(∃t,50<=t/\t<50+k/\(x.τ t).2.1≠(x.τ t).2.2/\(x.τ t).1=b))->os.length<=40->
  (∀o∈os,o.wf=true)->cR C x (idx os) (tks 50 k) w->cd x args vs->
  Calls P f ⟨vs⟩ w fun e w'=>∃v x' q,e= .returned v/\R q/\Rep x' q.r v/\cR C x' q.os q.tk w'/\(∀p∈q.os,p.2.wf=true)/\∀i,i<os.length->x'.bk i=x.bk i
theorem kz(cs:List SV):SV.bareL cs=cs.map SV.bare:=by
 induction cs with
 |nil=>rfl
 |cons c r ih=>simp only[SV.bareL,aC,ih]
theorem Rep.bare{x x':Sit}(hG:x'.G=x.G)(hβ:x'.bk=x.bk){sv:SV}{v:Value}(h:Rep x sv v):Rep x' sv.bare v:=by
 induction h with
 |undef v=>exact .undef v
 |dat s v h ht=>
  have h':=h.toData;rw[<-hG]at h';cases s with
  |byt l t=>exact .dat _ _ h' trivial
  |lst sz xs t=>exact .dat _ _ h' trivial
  |undef=>exact .undef v
  |bool b=>exact .dat _ _ h' trivial
  |int k n=>exact .dat _ _ h' trivial
  |u8 b=>exact .dat _ _ h' trivial
  |str l=>exact .dat _ _ h' trivial
  |nilp=>exact .dat _ _ h' trivial
  |nili=>exact .dat _ _ h' trivial
  |pp cs=>exact .dat _ _ h' trivial
  |ptr o off=>cases h
  |ap o sz i j=>cases h
  |psl o sz off n cap=>cases h
  |agg cs=>cases h
  |tup cs=>cases h
  |fn f a b=>cases h
 |ptr o off=>simp only[SV.bare];rw[<-hβ];exact .ptr o off
 |ap o sz i j=>simp only[SV.bare];rw[<-hβ];exact .ap o sz i j
 |psl o sz off n cap off' cap' h hn hc hk=>simp only[SV.bare];rw[<-hβ]at hk ⊢;exact .psl o sz off n cap off' cap' h hn hc hk
 |agg cs vs hl _ ih=>simp only[SV.bare,kz];exact .agg _ _ (by simpa using hl) fun i hi=>by rw[aV _ (by rfl)];exact ih i (by simpa using hi)
 |tup cs vs hl _ ih=>simp only[SV.bare,kz];exact .tup _ _ (by simpa using hl) fun i hi=>by rw[aV _ (by rfl)];exact ih i (by simpa using hi)
 |fn f c1 c2 v1 v2 hl1 _ hl2 _ ih1 ih2=>simp only[SV.bare,kz];exact .fn _ _ _ _ _ (by simpa using hl1) (fun i hi=>by rw[aV _ (by rfl)];exact ih1 i (by simpa using hi)) (by simpa using hl2) (fun i hi=>by rw[aV _ (by rfl)];exact ih2 i (by simpa using hi))
def Ok(x:Sit):Option Nat->Nat×Nat×Nat
 |none=>(0,0,0)
 |some t=>x.τ t
def nU(x x1:Sit)(j:Nat)(l:List (Option Nat)):Prop:=∀k,k<l.length->x1.τ (j+k)=Ok x (l.getD k none)
theorem nU.left{x x1:Sit}{j:Nat}{l r:List (Option Nat)}(h:nU x x1 j (l++r)):nU x x1 j l:=fun k hk=>by have:=h k (by simp;omega);rwa[aa,bQ hk,<-aa]at this
theorem nU.right{x x1:Sit}{j:Nat}{l r:List (Option Nat)}(h:nU x x1 j (l++r)):nU x x1 (j+l.length) r:=fun k hk=>by have:=h (l.length+k) (by simp;omega);rw[aa,bU (by omega),<-aa]at this;rw[ew,this];congr 2;omega
theorem kK{t:Nat}:∀{l:List (Option Nat)},t∈cf l↔some t∈l
 |[]=>by simp[cf]
 |none::r=>by simp[cf,kK]
 |some u::r=>by simp[cf,kK]
theorem fk(l r:List (Option Nat)):cf (l++r)=cf l++cf r:=by
 induction l with
 |nil=>rfl
 |cons o l ih=>cases o<;>simp[cf,ih]
theorem Dg{x x1:Sit}(hG:x1.G=x.G)(hβ:x1.bk=x.bk){v:SV}{u:Value}(h:Rep x v u):Rep x1 v.kclip u:=by
 have hb:=h.bare hG hβ;cases v with
 |lst sz xs t=>
  cases t with
  |no=>exact hb
  |id u=>exact hb
  |clip=>
   cases xs with
   |cons y r=>exact hb
   |nil=>obtain⟨b,cap,he,_,hD,hsp⟩:=h.lst_inv;obtain⟨a',n',he'⟩:=hsp;rw[<-hG]at hD;exact .dat _ _ (hD.tok (.lst _ [] .clip) (.inr ⟨_,[],_,_,rfl,rfl⟩)) ⟨a',n',he'⟩
 |byt l t=>
  cases t with
  |no=>exact hb
  |id u=>exact hb
  |clip=>
   cases l with
   |cons y r=>exact hb
   |nil=>obtain⟨b,cap,he,_,hD,hsp⟩:=h.byt_inv;obtain⟨a',n',he'⟩:=hsp;rw[<-hG]at hD;exact .dat _ _ (hD.tok (.byt [] .clip) (.inl ⟨[],_,_,rfl,rfl⟩)) ⟨a',n',he'⟩
 |_=>exact hb
theorem xH{x x1:Sit}(hG:x1.G=x.G)(hβ:x1.bk=x.bk){cs:List SV}{u:Value}(h:Rep x (.agg cs) u):Rep x1 (.agg (cs.map SV.kclip)) u:=by
 cases h with
 |dat _ _ h _=>cases h
 |agg _ vs hl h=>
  refine .agg _ vs (by rw[aP];exact hl) fun i hi=> ?_
  rw[aP]at hi;have h1:=Dg hG hβ (h i hi);rw[aa,ab hi,aY]at h1;rw[aa,aQ,ab hi,bo,aY];exact h1
theorem kf{x x1:Sit}(hG:x1.G=x.G)(hβ:x1.bk=x.bk){tk:List Nat}{j:Nat}{v:SV}{u:Value}(h:Rep x v u)(ht:nU x x1 j (jO tk j v).2):Rep x1 (jO tk j v).1 u:=by
 have hb:=h.bare hG hβ;cases v with
 |byt l t=>
  cases t with
  |no=>exact hb
  |clip=>have e:=ht 0 (by simp[jO]);obtain⟨b,cap,he,_,hD,hsp⟩:=h.byt_inv;obtain⟨a',n',he'⟩:=hsp;rw[<-hG]at hD;exact .dat _ _ (hD.tok (.byt l (.id j)) (.inl ⟨l,_,_,rfl,rfl⟩)) ⟨a',n',n',he',.inl rfl⟩
  |id t=>
   by_cases hc:tk.contains t=true
   ·have e:=ht 0 (by simp only[jO,hc,if_true,aj];omega)
    simp only[jO,hc,if_true]at e ⊢;obtain⟨b,cap,he,_,hD,hsp⟩:=h.byt_inv;obtain⟨a',n',cap',he',hh⟩:=hsp;rw[<-hG]at hD;refine .dat _ _ (hD.tok (.byt l (.id j)) (.inl ⟨l,_,_,rfl,rfl⟩)) ⟨a',n',cap',he',hh.imp id ?_⟩;rintro⟨b,off,h1,h2⟩;exact⟨b,off,h1,by rw[eY]at e;rw[e];exact h2⟩
   ·simp only[jO,hc,if_false];exact hb
 |lst sz xs t=>
  cases t with
  |no=>exact hb
  |clip=>obtain⟨b,cap,he,_,hD,hsp⟩:=h.lst_inv;obtain⟨a',n',he'⟩:=hsp;rw[<-hG]at hD;exact .dat _ _ (hD.tok (.lst sz xs (.id j)) (.inr ⟨sz,xs,_,_,rfl,rfl⟩)) ⟨a',n',n',he',.inl rfl⟩
  |id t=>
   by_cases hc:tk.contains t=true
   ·have e:=ht 0 (by simp only[jO,hc,if_true,aj];omega)
    simp only[jO,hc,if_true]at e ⊢;obtain⟨b,cap,he,_,hD,hsp⟩:=h.lst_inv;obtain⟨a',n',cap',he',hh⟩:=hsp;rw[<-hG]at hD;refine .dat _ _ (hD.tok (.lst sz xs (.id j)) (.inr ⟨sz,xs,_,_,rfl,rfl⟩)) ⟨a',n',cap',he',hh.imp id ?_⟩;rintro⟨b,off,h1,h2⟩;exact⟨b,off,h1,by rw[eY]at e;rw[e];exact h2⟩
   ·simp only[jO,hc,if_false];exact hb
 |agg cs=>exact xH hG hβ h
 |_=>exact hb
theorem oh{tk:List Nat}{j:Nat}{v:SV}:∀t∈cf (jO tk j v).2,t∈tk:=by
 intro t ht;cases v with
 |byt l q=>
  cases q with
  |id u=>
   by_cases hc:tk.contains u=true
   ·simp only[jO,hc,if_true,cf,bf]at ht;subst ht;simpa using hc
   ·simp only[jO,hc,if_false,cf]at ht;cases ht
  |_=>cases ht
 |lst sz xs q=>
  cases q with
  |id u=>
   by_cases hc:tk.contains u=true
   ·simp only[jO,hc,if_true,cf,bf]at ht;subst ht;simpa using hc
   ·simp only[jO,hc,if_false,cf]at ht;cases ht
  |_=>cases ht
 |_=>cases ht
theorem bz{x:Sit}{v:SV}{u:Value}{cs:List SV}{us:List Value}:cd x (v::cs) (u::us)↔Rep x v u/\cd x cs us:=by
 constructor
 ·intro h
  exact⟨h.2 0 (by simp),by simpa using h.1,fun i hi=>by simpa using h.2 (i+1) (by simpa using hi)⟩
 ·rintro⟨h1,h2⟩
  exact⟨by simp[h2.1],fun i hi=>by
   cases i with
   |zero=>exact h1
   |succ i=>simpa using h2.2 i (by simpa using hi)⟩
theorem EL{x x1:Sit}(hG:x1.G=x.G)(hβ:x1.bk=x.bk){tk:List Nat}{j:Nat}{v:SV}{u:Value}(h:Rep x v u)(ht:nU x x1 j (rk tk j v).2):Rep x1 (rk tk j v).1 u:=by
 cases v with
 |lst sz xs t=>
  cases t with
  |clip=>
   cases hx:xs.isEmpty with
   |true=>simp only[rk,tU,hx,tV];obtain⟨b,cap,he,_,hD,hsp⟩:=h.lst_inv;rw[<-hG]at hD;exact .dat _ _ hD hsp
   |false=>simp only[rk,tU,hx,tV]at ht ⊢;exact kf (tk:=tk) hG hβ h ht
  |no=>exact kf hG hβ h ht
  |id t=>exact kf hG hβ h ht
 |_=>exact kf hG hβ h ht
theorem PY{tk:List Nat}{j:Nat}{v:SV}:∀t∈cf (rk tk j v).2,t∈tk:=by
 cases v with
 |lst sz xs t=>
  cases t with
  |clip=>
   cases hx:xs.isEmpty with
   |true=>intro t ht;simp[rk,tU,hx,tV,cf]at ht
   |false=>intro t ht;simp[rk,tU,hx,tV,cf]at ht
  |no=>exact oh
  |id t=>exact oh
 |_=>exact oh
theorem lO{x x1:Sit}(hG:x1.G=x.G)(hβ:x1.bk=x.bk){tk own:List Nat}:∀{cs:List SV}{us:List Value}{j i:Nat},cd x cs us->nU x x1 j (jP tk own j i cs).2->cd x1 (jP tk own j i cs).1 us
 |[],[],_,_,_,_=>⟨rfl,fun i hi=>by simp[jP]at hi⟩
 |[],_::_,_,_,h,_=>absurd h.1 (by simp)
 |_::_,[],_,_,h,_=>absurd h.1 (by simp)
 |v::r,u::us,j,i,h,ht=>by
  obtain⟨h1,h2⟩:=bz.1 h;simp only[jP]at ht ⊢;split
  ·rename_i hc
   rw[if_pos hc]at ht;exact bz.2 ⟨EL hG hβ h1 ht.left,lO hG hβ h2 ht.right⟩
  ·rename_i hc
   rw[if_neg hc]at ht;exact bz.2 ⟨h1.bare hG hβ,lO hG hβ h2 ht⟩
theorem oi{tk own:List Nat}:∀{cs:List SV}{j i:Nat},∀t∈cf (jP tk own j i cs).2,t∈tk
 |[],_,_,t,ht=>by cases ht
 |v::r,j,i,t,ht=>by
  simp only[jP]at ht;split at ht
  ·rw[fk,al]at ht
   exact ht.elim (PY t) (oi t)
  ·exact oi t ht
theorem uQ{x x1:Sit}(hG:x1.G=x.G)(hβ:x1.bk=x.bk){tk:List Nat}:∀{cs:List SV}{j:Nat}{f:Nat->Value},(∀k,k<cs.length->Rep x (cs.getD k .undef) (f k))->nU x x1 j (sD tk j cs).2->
 (sD tk j cs).1.length=cs.length/\∀k,k<cs.length->Rep x1 ((sD tk j cs).1.getD k .undef) (f k)
 |[],_,_,_,_=>⟨rfl,fun i hi=>by simp at hi⟩
 |v::r,j,f,h,ht=>by
  simp only[sD]at ht ⊢;obtain⟨h1,h2⟩:=uQ (f:=fun k=>f (k+1)) hG hβ (fun k hk=>by simpa using h (k+1) (by simpa using hk)) ht.right;refine⟨by simp[h1],fun k hk=> ?_⟩;cases k with
  |zero=>exact kf hG hβ (h 0 (by simp)) ht.left
  |succ k=>simpa using h2 k (by simpa using hk)
theorem Am{tk:List Nat}:∀{cs:List SV}{j:Nat},∀t∈cf (sD tk j cs).2,t∈tk
 |[],_,t,ht=>by cases ht
 |v::r,j,t,ht=>by simp only[sD]at ht;rw[fk,al]at ht;exact ht.elim (oh t) (Am t)
theorem Cz{x x1:Sit}(hG:x1.G=x.G)(hβ:x1.bk=x.bk){tk:List Nat}{j o:Nat}{ob:aF}(h:dB x w o ob)(ht:nU x x1 j (jF tk j ob).2):dB x1 w o (jF tk j ob).1:=by
 obtain⟨cc,e,fl,fh,hO,hs,hr⟩:=h;cases ob with
 |rc cs=>obtain⟨h1,h2⟩:=uQ (f:=fun k=>cc.getD k Go.undef) hG hβ hr ht;exact⟨cc,e,fl,fh,by rw[hβ];exact hO,by rw[hβ];simp only[jF,aF.size,h1]at hs ⊢;exact hs,fun k hk=>h2 k (by simpa only[jF,aF.size,h1]using hk)⟩
 |arr sz xs=>exact⟨cc,e,fl,fh,by rw[hβ];exact hO,by rw[hβ];exact hs,fun k hk=>by have:=hr k hk;simp only[jF,bZ]at this ⊢;rw[hG];exact this⟩
 |bar l=>exact⟨cc,e,fl,fh,by rw[hβ];exact hO,by rw[hβ];exact hs,fun k hk=>by have:=hr k hk;simp only[jF,bZ]at this ⊢;rw[hG];exact this⟩
theorem EM{tk:List Nat}{j:Nat}{ob:aF}(h:ob.wf=true):(jF tk j ob).1.wf=true:=by cases ob<;>first|rfl|exact h
theorem EN{tk:List Nat}{j:Nat}{ob:aF}:∀t∈cf (jF tk j ob).2,t∈tk:=by
 intro t ht;cases ob with
 |rc cs=>exact Am t ht
 |_=>cases ht
theorem ln{x x1:Sit}(hG:x1.G=x.G)(hβ:x1.bk=x.bk){tk:List Nat}:∀{obs:List aF}{j:Nat}{f:Nat->Nat},(∀k,k<obs.length->dB x w (f k) (obs.getD k (.rc [])))->nU x x1 j (dQ tk j obs).2->
 (dQ tk j obs).1.length=obs.length/\∀k,k<obs.length->dB x1 w (f k) ((dQ tk j obs).1.getD k (.rc []))
 |[],_,_,_,_=>⟨rfl,fun i hi=>by simp at hi⟩
 |v::r,j,f,h,ht=>by
  simp only[dQ]at ht ⊢;obtain⟨h1,h2⟩:=ln (f:=fun k=>f (k+1)) hG hβ (fun k hk=>by simpa using h (k+1) (by simpa using hk)) ht.right;refine⟨by simp[h1],fun k hk=> ?_⟩;cases k with
  |zero=>exact Cz hG hβ (h 0 (by simp)) ht.left
  |succ k=>simpa using h2 k (by simpa using hk)
theorem mD{tk:List Nat}:∀{obs:List aF}{j:Nat},∀t∈cf (dQ tk j obs).2,t∈tk
 |[],_,t,ht=>by cases ht
 |v::r,j,t,ht=>by simp only[dQ]at ht;rw[fk,al]at ht;exact ht.elim (EN t) (mD t)
theorem mC{tk:List Nat}:∀{obs:List aF}{j:Nat},(∀o∈obs,o.wf=true)->∀o∈(dQ tk j obs).1,o.wf=true
 |[],_,_,o,ho=>by cases ho
 |v::r,j,h,o,ho=>by
  simp only[dQ]at ho;rcases av.1 ho with e|e
  ·rw[e];exact EM (h v (aD ..))
  ·exact mC (fun o h'=>h o (ao _ h')) o e
theorem mm{m:List Nat}{o:Nat}(h:o∈m):gA m o<m.length/\m.getD (gA m o) 0=o:=by
 induction m with
 |nil=>cases h
 |cons p r ih=>
  simp only[gA];split
  ·rename_i hp;subst hp;simp
  ·rename_i hp
   obtain⟨h1,h2⟩:=ih ((av.1 h).resolve_left (Ne.symm hp));exact⟨by simpa using h1,by simpa using h2⟩
theorem jr{l:List Nat}(h:dr l=true):l.Nodup:=by
 induction l with
 |nil=>exact List.nodup_nil
 |cons p r ih=>simp only[dr,aB,dv,eG,decide_eq_false_iff_not]at h;exact dC.2 ⟨h.1,ih h.2⟩
theorem uS{l r:List Nat}(h:oj l r=true):∀o∈l,o∈r:=by intro o ho;simp only[oj,aR,eG,decide_eq_true_eq]at h;exact h o ho
theorem pE:∀{m:List Nat}{os:List aF},gp c m=some os->os.length=m.length/\∀i,i<m.length->c.look (m.getD i 0)=some (os.getD i (.rc []))
 |[],os,h=>by cases h;exact⟨rfl,fun i hi=>by simp at hi⟩
 |o::r,os,h=>by
  simp only[gp]at h;split at h<;>cases h;rename_i ob l h1 h2;obtain⟨h3,h4⟩:=pE h2;refine⟨by simp[h3],fun i hi=> ?_⟩;cases i with
  |zero=>exact h1
  |succ i=>simpa using h4 i (by simpa using hi)
theorem fX(mo mt:Nat->Nat)(l:List aF):ed mo mt l=l.map fun o=>o.ren mo mt:=by
 induction l with
 |nil=>rfl
 |cons p r ih=>simp only[ed,aC,ih]
theorem oM{l:List aF}{o:aF}(h:o∈l):∀k∈o.ids,k∈ft l:=by
 induction l with
 |nil=>cases h
 |cons p r ih=>
  intro k hk;simp only[ft,al];rcases av.1 h with e|e
  ·subst e;exact .inl hk
  ·exact .inr (ih e k hk)
theorem mY{l:List (Option Nat)}(h:(cf l).Nodup):∀{i j:Nat}{t u:Nat},i≠j->l.getD i none=some t->l.getD j none=some u->t≠u:=by
 have key:∀{l:List (Option Nat)},(cf l).Nodup->∀{i j:Nat}{t u:Nat},i<j->l.getD i none=some t->l.getD j none=some u->t≠u:=by
  intro l;induction l with
  |nil=>intro _ i j t u _ h1;simp at h1
  |cons o r ih=>
   intro hn i j t u hij h1 h2
   have hr:(cf r).Nodup:=by cases o with
    |none=>exact hn
    |some q=>exact(dC.1 hn).2
   cases j with
   |zero=>omega
   |succ j=>
    rw[List.getD_cons_succ]at h2;cases i with
    |zero=>
     rw[List.getD_cons_zero]at h1;subst h1
     have h3:some u∈r:=by
      rw[aa]at h2;cases hj:r[j]? with
      |none=>rw[hj]at h2;cases h2
      |some q=>rw[hj]at h2;cases h2;exact List.mem_of_getElem? hj
     intro e;subst e;exact(dC.1 hn).1 (kK.2 h3)
    |succ i=>rw[List.getD_cons_succ]at h1;exact ih hr (by omega) h1 h2
 intro i j t u hij h1 h2;rcases Nat.lt_or_gt_of_ne hij with h3|h3
 ·exact key h h3 h1 h2
 ·exact(key h h3 h2 h1).symm
theorem jC{b n t:Nat}:t∈tks b n↔b<=t/\t<b+n:=by
 unfold tks
 have:∀n k,k∈kS n↔k<n:=by
  intro n;induction n with
  |zero=>intro k;simp[kS]
  |succ n ih=>intro k;simp only[kS,al,ih,bf];omega
 simp only[aT,this];constructor
 ·rintro⟨k,h,rfl⟩;omega
 ·rintro⟨h1,h2⟩;exact⟨t-b,by omega,by omega⟩
structure Er(x x2:Sit)(c:CSt)(m:List Nat)(mt:List (Option Nat)):Prop where
 G:x2.G=x.G
 bk:∀i,i<m.length->x2.bk i=x.bk (m.getD i 0)
 τ:nU x x2 50 mt
 nd:m.Nodup
 ob:∀i,i<m.length->∃ob,(m.getD i 0,ob)∈c.ob
 tnd:(cf mt).Nodup
 tk:∀t∈cf mt,t∈c.tk
def Ctx.took(x2:Sit)(w:World)(n k:Nat):Ctx:=
 ⟨w,x2.G,fun b=>w.heap.size<=b\/(∃i,i<n/\(x2.bk i).1=b)\/(∃t,50<=t/\t<50+k/\(x2.τ t).2.1≠(x2.τ t).2.2/\(x2.τ t).1=b),x2.bk⟩
theorem fE{m:List Nat}{i:Nat}(h:i<m.length):m.getD i 0∈m:=by rw[aa,ab h];exact bh _
theorem ls{m:List Nat}(h:m.Nodup){i j:Nat}(hi:i<m.length)(hj:j<m.length)(e:m.getD i 0=m.getD j 0):i=j:=by rw[aa,aa,ab hi,ab hj]at e;exact rB h hi hj e
theorem iK{l:List (Option Nat)}{i t:Nat}(h:l.getD i none=some t):t∈cf l:=by
 rw[aa]at h;cases hj:l[i]? with
 |none=>rw[hj]at h;cases h
 |some q=>rw[hj]at h;cases h;exact kK.2 (List.mem_of_getElem? hj)
theorem Er.tok{x2:Sit}{m:List Nat}{mt:List (Option Nat)}(h:Er x x2 c m mt){t:Nat}(h1:50<=t)(h2:t<50+mt.length):
 (x2.τ t).2.1=(x2.τ t).2.2\/∃u,mt.getD (t-50) none=some u/\x2.τ t=x.τ u/\u∈c.tk/\u∈cf mt:=by
 have e:=h.τ (t-50) (by omega);rw[show 50+(t-50)=t by omega]at e;cases hu:mt.getD (t-50) none with
 |none=>rw[hu]at e;rw[e];exact .inl rfl
 |some u=>rw[hu]at e;exact .inr ⟨u,rfl,e,h.tk u (iK hu),iK hu⟩
theorem rj{x2:Sit}{m:List Nat}{mt:List (Option Nat)}(hH:cR C x c.ob c.tk w)(h:Er x x2 c m mt){objs:List aF}(hl:objs.length=m.length)
 (ho:∀i,i<m.length->dB x2 w i (objs.getD i (.rc []))):cR (Ctx.took x2 w m.length mt.length) x2 (idx objs) (tks 50 mt.length) w:=by
 refine⟨fun b o v hv=>hH.per b o v (by rw[<-h.G];exact hv),fun _ _ _ hv=>hv,fun _ _ _ hv=> .inl hv,fun b hb=> .inl hb, ?_,mH objs, ?_, ?_, ?_, ?_,rfl,rfl,rfl,aH _,fun _ _=>rfl,fun _ _=>rfl,hH.lay.mono (fun b o v hv=>by show x2.G b o=some v;rw[h.G];exact hH.g0 b o v hv)⟩
 ·intro p hp
  obtain⟨h1,h2⟩:=iT.1 hp;rw[hl]at h1;obtain⟨ob,h3⟩:=h.ob p.1 h1;refine⟨by rw[h2];exact ho p.1 h1,.inr (.inl ⟨p.1,h1,rfl⟩),fun off=> ?_⟩;rw[h.G,h.bk _ h1];exact(hH.obs _ h3).2.2 off
 ·intro p hp q hq hpq
  obtain⟨h1,_⟩:=iT.1 hp;obtain⟨h2,_⟩:=iT.1 hq;rw[hl]at h1 h2;rw[h.bk _ h1,h.bk _ h2]at hpq;obtain⟨o1,g1⟩:=h.ob _ h1;obtain⟨o2,g2⟩:=h.ob _ h2;exact ls h.nd h1 h2 (hH.inj _ g1 _ g2 hpq)
 ·intro t ht
  obtain⟨h1,h2⟩:=jC.1 ht;rcases h.tok h1 h2 with h3|⟨u,_,h4,h5,_⟩
  ·exact .inl h3
  ·by_cases hne:(x2.τ t).2.1=(x2.τ t).2.2
   ·exact .inl hne
   ·have:=hH.tks u h5
    unfold ia at this ⊢;rw[h4]at hne ⊢;rcases this with g|⟨g1,g2,g3⟩
    ·exact absurd g hne
    ·exact .inr ⟨g1,.inr (.inr ⟨t,h1,h2,by rw[h4];exact hne,by rw[h4]⟩),by rw[h.G];exact g3⟩
 ·intro t ht p hp
  obtain⟨h1,h2⟩:=jC.1 ht;obtain⟨h6,_⟩:=iT.1 hp;rw[hl]at h6;rcases h.tok h1 h2 with h3|⟨u,_,h4,h5,_⟩
  ·exact .inr h3
  ·obtain⟨o1,g1⟩:=h.ob _ h6
   rw[h4,h.bk _ h6];exact hH.tko u h5 _ g1
 ·intro t ht u hu htu
  obtain⟨h1,h2⟩:=jC.1 ht;obtain⟨h3,h4⟩:=jC.1 hu;rcases h.tok h1 h2 with g|⟨t',g1,g2,g3,_⟩
  ·exact .inr (.inl g)
  ·rcases h.tok h3 h4 with k|⟨u',k1,k2,k3,_⟩
   ·exact .inr (.inr k)
   ·rw[g2,k2]
    exact hH.tkd t' g3 u' k3 (mY h.tnd (by omega) g1 k1)
end Go.Sy
namespace Go.Sy
variable [aZ]
variable {P : Program} {C : Ctx} {x : Sit} {a : Act} {w : World} {N : Nat} {c c' : CSt} {s : St}
theorem Ft(d:Nat)(l:List Nat):qS d l=l.map (kj d):=by
 induction l with
 |nil=>rfl
 |cons p r ih=>simp only[qS,aC,ih]
theorem mK{k:List Nat}{t:Nat}:∀{l:List Nat},t∈l6 k l↔t∈l/\t∉k
 |[]=>by simp[l6]
 |p::r=>by
  simp only[l6];split
  ·rename_i hc
   have hp:p∈k:=by simpa using hc
   rw[mK,av];constructor
   ·rintro⟨h1,h2⟩;exact⟨.inr h1,h2⟩
   ·rintro⟨h1|h1,h2⟩
    ·exact absurd (h1 ▸ hp) h2
    ·exact⟨h1,h2⟩
  ·rename_i hc
   have hp:p∉k:=by simpa using hc
   rw[av,mK,av];constructor
   ·rintro(h1|⟨h1,h2⟩)
    ·exact⟨.inl h1,h1 ▸ hp⟩
    ·exact⟨.inr h1,h2⟩
   ·rintro⟨h1|h1,h2⟩
    ·exact .inl h1
    ·exact .inr ⟨h1,h2⟩
theorem rE{t:Nat}:∀{r l:List Nat},t∈qZ l r↔t∈r\/t∈l
 |[],l=>by simp[qZ]
 |p::r,l=>by
  simp only[qZ];rw[rE,ko,av];constructor
  ·rintro(h|h|h)
   ·exact .inl (.inr h)
   ·exact .inl (.inl h)
   ·exact .inr h
  ·rintro((h|h)|h)
   ·exact .inr (.inl h)
   ·exact .inl h
   ·exact .inr (.inr h)
theorem mJ{p:Nat×aF}:∀{r l:List (Nat×aF)},p∈qY l r->p∈r\/p∈l
 |[],l,h=> .inr h
 |q::r,l,h=>by
  simp only[qY]at h;rcases mJ h with e|e
  ·exact .inl (ao _ e)
  ·rcases kn e with e|e
   ·exact .inl (e ▸ aD ..)
   ·exact .inr e
theorem Av:∀{r l:List (Nat×aF)},(l.map cE).Pairwise (· < ·)->((qY l r).map cE).Pairwise (· < ·)
 |[],_,h=>h
 |_::r,_,h=>Av (r:=r) (tX h)
theorem yn{mo mt:Nat->Nat}{o:aF}(h:o.wf=true):(o.ren mo mt).wf=true:=by cases o<;>first|rfl|exact h
theorem wE{x2:Sit}{m:List Nat}{mt:List (Option Nat)}(hold:cR C x c.ob c.tk w)(h:Er x x2 c m mt){x':Sit}{w':World}{q:dO}(hH:cR (Ctx.took x2 w m.length mt.length) x' q.os q.tk w'){D:Nat}
 (hm:∀o∈m,inR D o=false) (hos:∀p∈q.os,p.1<1000/\(∀k∈p.2.ids,k<1000)/\∀k∈p.2.toks,k<1000) (htk:∀t∈q.tk,t<1000) (hg:∀i,i<m.length->x'.bk i=x2.bk i):
 ∃x3:Sit,x3.G=x'.G/\(∀b o v,x.G b o=some v->x3.G b o=some v)/\(∀k,k<1000->x3.bk (iO D m k)=x'.bk k)/\(∀k,k<1000->x3.τ (kj D k)=x'.τ k)/\
  (∀k,¬((D+1)*1000<=k/\k<(D+2)*1000)->x3.bk k=x.bk k)/\(∀k,¬((D+1)*1000<=k/\k<(D+2)*1000)->x3.τ k=x.τ k)/\
  cR C x3 (oA D m q.os++eS m (bx ((D+1)*1000) ((D+2)*1000) c.ob)) (qS D q.tk++l6 (cf mt) (cg ((D+1)*1000) ((D+2)*1000) c.tk)) w':=by
 let lo:=(D+1)*1000
 let hi:=(D+2)*1000
 have hlo:lo=(D+1)*1000:=rfl;have hhi:hi=(D+2)*1000:=rfl
 let β2:Nat->Nat×Nat:=fun k=>if inR D k then x'.bk (k-lo)else x.bk k
 let τ2:Nat->Nat×Nat×Nat:=fun k=>if inR D k then x'.τ (k-lo)else x.τ k
 have hin:∀k,k<1000->inR D (lo+k)=true:=by intro k hk;simp only[inR,aB,decide_eq_true_eq];omega
 have hout:∀k,¬(lo<=k/\k<hi)->inR D k=false:=by intro k hk;rw[Bool.eq_false_iff];intro h;simp only[inR,aB,decide_eq_true_eq]at h;exact hk h
 have hβ2:∀k,¬(lo<=k/\k<hi)->β2 k=x.bk k:=fun k hk=>by simp only[β2];rw[hout k hk];rfl
 have hτ2:∀k,¬(lo<=k/\k<hi)->τ2 k=x.τ k:=fun k hk=>by simp only[τ2];rw[hout k hk];rfl
 have hβnew:∀k,k<1000->β2 (iO D m k)=x'.bk k:=by
  intro k hk
  by_cases hkm:k<m.length
  ·have h1:iO D m k=m.getD k 0:=if_pos hkm
   simp only[β2];rw[h1,hm _ (fE hkm),hg k hkm,h.bk k hkm];rfl
  ·have h1:iO D m k=lo+k:=if_neg hkm
   simp only[β2];rw[h1,hin k hk,if_pos rfl];congr 1;omega
 have hτnew:∀k,k<1000->τ2 (kj D k)=x'.τ k:=by intro k hk;have h1:kj D k=lo+k:=rfl;simp only[τ2];rw[h1,hin k hk,if_pos rfl];congr 1;omega
 have hG:∀b o v,x.G b o=some v->x'.G b o=some v:=fun b o v hv=>hH.g0 b o v (by show x2.G b o=_;rw[h.G];exact hv)
 refine⟨⟨x'.G,β2,τ2⟩,rfl,hG,hβnew,hτnew,hβ2,hτ2, ?_⟩;rw[vo,Ft]
 have hmine:∀b,(Ctx.took x2 w m.length mt.length).mine b->C.mine b:=by
  rintro b (h1|⟨i,hi,rfl⟩|⟨t,h1,h2,h3,rfl⟩)
  ·exact hold.new b (pU hold.size h1)
  ·obtain⟨ob,hob⟩:=h.ob i hi
   rw[h.bk i hi];exact(hold.obs _ hob).2.1
  ·rcases h.tok h1 h2 with g|⟨u,_,g1,g2,_⟩
   ·exact absurd g h3
   ·rw[g1]at h3 ⊢
    rcases hold.tks u g2 with k|⟨_,k,_⟩
    ·exact absurd k h3
    ·exact k
 have hkeep:∀b,b<w.heap.size->(∀i,i<m.length->(x.bk (m.getD i 0)).1≠b)->(∀u∈cf mt,(x.τ u).2.1=(x.τ u).2.2\/(x.τ u).1≠b)->w'.heap[b]? =w.heap[b]? /\((∀off,x.G b off=none)->∀off,x'.G b off=none)/\
  (∀off,x.G b off=none->x'.G b off=none):=by
  intro b hb hne hnt
  have hnm:¬(Ctx.took x2 w m.length mt.length).mine b:=by
   rintro(h1|⟨i,hi,h1⟩|⟨t,h1,h2,h3,h4⟩)
   ·omega
   ·rw[h.bk i hi]at h1;exact hne i hi h1
   ·rcases h.tok h1 h2 with g|⟨u,_,g1,_,g3⟩
    ·exact h3 g
    ·rw[g1]at h3 h4
     rcases hnt u g3 with k|k
     ·exact h3 k
     ·exact k h4
  have one:∀off,x.G b off=none->x'.G b off=none:=by
   intro off ho;cases hg:x'.G b off with
   |none=>rfl
   |some v=>
    rcases hH.gm b off v hg with h1|h1
    ·change x2.G b off=some v at h1;rw[h.G,ho]at h1;cases h1
    ·exact absurd h1 hnm
  exact⟨hH.ext b hnm,fun h off=>one off (h off),one⟩
 have hlow:∀p∈eS m (bx lo hi c.ob),∃ob,(p.1,ob)∈c.ob/\p.2=ob.purge lo hi/\¬(lo<=p.1/\p.1<hi)/\p.1∉m/\(∀i,i<m.length->(x.bk (m.getD i 0)).1≠(x.bk p.1).1)/\(∀u∈cf mt,(x.τ u).2.1=(x.τ u).2.2\/(x.τ u).1≠(x.bk p.1).1)/\(x.bk p.1).1<w.heap.size:=by
  intro p hp;obtain⟨h1,h2⟩:=jv.1 hp;obtain⟨h3,ob,h4,h5⟩:=b9 h1;refine⟨ob,h4,h5,h3,h2,fun i hi e=> ?_,fun u hu=> ?_, ?_⟩
  ·obtain⟨ob',hob'⟩:=h.ob i hi
   have:=hold.inj _ hob' _ h4 e;simp only at this;apply h2;rw[<-this];exact fE hi
  ·exact(hold.tko u (h.tk u hu) _ h4).symm
  ·obtain⟨⟨c,e,fl,fh,hO,_⟩,_⟩:=hold.obs _ h4
   exact hO.lt
 have hnew:∀p∈q.os.map (fun p=>(iO D m p.1,p.2.ren (iO D m) (kj D))),∃r∈q.os,p=(iO D m r.1,r.2.ren (iO D m) (kj D))/\β2 p.1=x'.bk r.1:=by intro p hp;obtain⟨r,hr,rfl⟩:=aT.1 hp;exact⟨r,hr,rfl,hβnew _ (hos r hr).1⟩
 have hnewmine:∀r∈q.os,w.heap.size<=(x'.bk r.1).1\/(∃i,i<m.length/\(x.bk (m.getD i 0)).1=(x'.bk r.1).1)\/(∃u∈cf mt,(x.τ u).2.1≠(x.τ u).2.2/\(x.τ u).1=(x'.bk r.1).1):=by
  intro r hr;rcases (hH.obs r hr).2.1 with h1|⟨i,hi,h1⟩|⟨t,h1,h2,h3,h4⟩
  ·exact .inl h1
  ·exact .inr (.inl ⟨i,hi,by rw[<-h.bk i hi];exact h1⟩)
  ·rcases h.tok h1 h2 with g|⟨u,_,g1,_,g3⟩
   ·exact absurd g h3
   ·rw[g1]at h3 h4;exact .inr (.inr ⟨u,g3,h3,h4⟩)
 have htmine:∀t∈q.tk,(x'.τ t).2.1=(x'.τ t).2.2\/w.heap.size<=(x'.τ t).1\/(∃i,i<m.length/\(x.bk (m.getD i 0)).1=(x'.τ t).1)\/(∃u∈cf mt,(x.τ u).2.1≠(x.τ u).2.2/\(x.τ u).1=(x'.τ t).1):=by
  intro t ht;rcases hH.tks t ht with k|⟨_,k,_⟩
  ·exact .inl k
  ·right
   rcases k with h1|⟨i,hi,h1⟩|⟨t',h1,h2,h3,h4⟩
   ·exact .inl h1
   ·exact .inr (.inl ⟨i,hi,by rw[<-h.bk i hi];exact h1⟩)
   ·rcases h.tok h1 h2 with g|⟨u,_,g1,_,g3⟩
    ·exact absurd g h3
    ·rw[g1]at h3 h4;exact .inr (.inr ⟨u,g3,h3,h4⟩)
 have htold:∀t∈l6 (cf mt) (cg lo hi c.tk),t∈c.tk/\¬(lo<=t/\t<hi)/\t∉cf mt:=fun t ht=>by obtain⟨h1,h2⟩:=mK.1 ht;obtain⟨h3,h4⟩:=bD.1 h1;exact⟨h3,h4,h2⟩
 have htblock:∀t∈c.tk,t∉cf mt->(x.τ t).2.1=(x.τ t).2.2\/((x.τ t).1<w.heap.size/\(∀i,i<m.length->(x.bk (m.getD i 0)).1≠(x.τ t).1)/\(∀u∈cf mt,(x.τ u).2.1=(x.τ u).2.2\/(x.τ u).1≠(x.τ t).1)):=by
  intro t ht hnt;rcases hold.tks t ht with h1|⟨⟨c,e,fl,fh,hO,_⟩,_⟩
  ·exact .inl h1
  ·by_cases he:(x.τ t).2.1=(x.τ t).2.2
   ·exact .inl he
   ·refine .inr ⟨hO.lt,fun i hi e'=> ?_,fun u hu=> ?_⟩
    ·obtain⟨ob,hob⟩:=h.ob i hi
     rcases hold.tko t ht _ hob with h1|h1
     ·exact h1 e'.symm
     ·exact he h1
    ·rcases hold.tkd u (h.tk u hu) t ht (fun e=>hnt (e ▸ hu))with k|k|k
     ·exact .inr k
     ·exact .inl k
     ·exact absurd k he
 refine⟨hH.per,fun b o v hv=>hG _ _ _ (hold.g0 b o v hv), ?_,hold.new, ?_, ?_, ?_, ?_, ?_, ?_,hH.os.trans hold.os,hH.tape.trans hold.tape,hH.output.trans hold.output,pU hold.size hH.size, ?_,fun i hi=>(hβ2 i (by omega)).trans (hold.pin i hi),hold.lay⟩
 ·intro b o v hv
  rcases hH.gm b o v hv with h1|h1
  ·exact hold.gm b o v (by rw[<-h.G];exact h1)
  ·exact .inr (hmine b h1)
 ·intro p hp
  rcases al.1 hp with hp|hp
  ·obtain⟨r,hr,rfl,hb⟩:=hnew p hp
   obtain⟨h1,h2,h3⟩:=hH.obs r hr;refine⟨h1.renF (x2:=⟨x'.G,β2,τ2⟩) (fun _ _ _ h=>h) (hβnew _ (hos r hr).1) (fun k hk=>hβnew k ((hos r hr).2.1 k hk)) (fun t ht=>hτnew t ((hos r hr).2.2 t ht)), ?_,fun off=> ?_⟩
   ·show C.mine (β2 (iO D m r.1)).1;rw[hβnew _ (hos r hr).1];exact hmine _ h2
   ·show x'.G (β2 (iO D m r.1)).1 off=none;rw[hβnew _ (hos r hr).1];exact h3 off
  ·obtain⟨ob,h1,h2,h3,h4,h5,h6,h7⟩:=hlow p hp
   obtain⟨g1,g2,g3⟩:=hold.obs _ h1;obtain⟨k1,k2,_⟩:=hkeep _ h7 h5 h6;have hb:β2 p.1=x.bk p.1:=hβ2 _ h3;refine⟨?_,by show C.mine (β2 p.1).1;rw[hb];exact g2,fun off=>by show x'.G (β2 p.1).1 off=none;rw[hb];exact k2 g3 off⟩;rw[h2];exact dB.of_heap (x':=⟨x'.G,β2,τ2⟩) g1 k1 hG hβ2 hτ2 h3
 ·rw[ct,List.nodup_append]
  refine⟨?_, ?_, ?_⟩
  ·rw[List.map_map]
   have hnd':=gj.1 hH.nd;refine gj.2 (ge.imp_of_mem (fun{p r} hp hr hne=> ?_) hnd');intro e;simp only[Function.comp]at e;have:(x'.bk p.1).1=(x'.bk r.1).1:=by rw[<-hβnew _ (hos p hp).1,<-hβnew _ (hos r hr).1,e]
   exact hne (hH.inj p hp r hr this)
  ·have h1:(eS m (bx lo hi c.ob)).Sublist (bx lo hi c.ob):=gW _ _
   refine wB.sublist (h1.map cE) ?_;rw[eA];exact hold.nd.filter _
  ·intro o1 h1 o2 h2 e
   subst e;obtain⟨p,hp,rfl⟩:=aT.1 h1;obtain⟨r,hr,hre⟩:=aT.1 h2;obtain⟨u,hu,rfl⟩:=aT.1 hp;obtain⟨ob,k1,k2,k3,k4,_⟩:=hlow r hr;simp only at hre
   by_cases hum:u.1<m.length
   ·apply k4;rw[hre];show iO D m u.1∈m;unfold iO;rw[if_pos hum];exact fE hum
   ·apply k3;rw[hre];show lo<=iO D m u.1/\iO D m u.1<hi
    unfold iO;rw[if_neg hum];have:=(hos u hu).1;omega
 ·intro p hp r hr hpr
  change (β2 p.1).1=(β2 r.1).1 at hpr;rcases al.1 hp with hp|hp<;>rcases al.1 hr with hr|hr
  ·obtain⟨p',hp',rfl,hb⟩:=hnew p hp
   obtain⟨r',hr',rfl,hb'⟩:=hnew r hr;rw[hb,hb']at hpr;have:=hH.inj p' hp' r' hr' hpr;simp only;rw[this]
  ·obtain⟨p',hp',rfl,hb⟩:=hnew p hp
   obtain⟨ob,k1,k2,k3,k4,k5,k6,k7⟩:=hlow r hr;rw[hb,hβ2 _ k3]at hpr;rcases hnewmine p' hp' with h1|⟨i,hi,h1⟩|⟨u,hu,h1,h2⟩
   ·omega
   ·exact absurd (h1.trans hpr) (k5 i hi)
   ·rcases k6 u hu with g|g
    ·exact absurd g h1
    ·exact absurd (h2.trans hpr) g
  ·obtain⟨r',hr',rfl,hb⟩:=hnew r hr
   obtain⟨ob,k1,k2,k3,k4,k5,k6,k7⟩:=hlow p hp;rw[hb,hβ2 _ k3]at hpr;rcases hnewmine r' hr' with h1|⟨i,hi,h1⟩|⟨u,hu,h1,h2⟩
   ·omega
   ·exact absurd (h1.trans hpr.symm) (k5 i hi)
   ·rcases k6 u hu with g|g
    ·exact absurd g h1
    ·exact absurd (h2.trans hpr.symm) g
  ·obtain⟨ob,k1,k2,k3,_⟩:=hlow p hp
   obtain⟨ob',k1',k2',k3',_⟩:=hlow r hr;rw[hβ2 _ k3,hβ2 _ k3']at hpr;exact hold.inj (p.1,ob) k1 (r.1,ob') k1' hpr
 ·intro t ht
  rcases al.1 ht with ht|ht
  ·obtain⟨u,hu,rfl⟩:=aT.1 ht
   have:=hH.tks u hu;unfold ia at this ⊢;simp only[hτnew u (htk u hu)];exact this.imp id fun⟨h1,h2,h3⟩=>⟨h1,hmine _ h2,h3⟩
  ·obtain⟨h1,h2,h3⟩:=htold t ht
   have:=hold.tks t h1;unfold ia at this ⊢;simp only[hτ2 t h2];rcases this with g|⟨⟨c,e,fl,fh,hO,hc⟩,h4,h5⟩
   ·exact .inl g
   ·rcases htblock t h1 h3 with g|⟨k1,k2,k3⟩
    ·exact .inl g
    ·obtain⟨g1,_,g2⟩:=hkeep _ k1 k2 k3
     exact .inr ⟨⟨c,e,fl,fh,hO.of_heap g1,hc⟩,h4,fun o ho1 ho2=>g2 o (h5 o ho1 ho2)⟩
 ·intro t ht p hp
  rcases al.1 ht with ht|ht<;>rcases al.1 hp with hp|hp
  ·obtain⟨u,hu,rfl⟩:=aT.1 ht
   obtain⟨r,hr,rfl,hb⟩:=hnew p hp;show(τ2 (kj D u)).1≠(β2 (iO D m r.1)).1\/(τ2 (kj D u)).2.1=(τ2 (kj D u)).2.2;rw[hτnew u (htk u hu),hβnew _ (hos r hr).1];exact hH.tko u hu r hr
  ·obtain⟨u,hu,rfl⟩:=aT.1 ht
   obtain⟨ob,k1,k2,k3,k4,k5,k6,k7⟩:=hlow p hp;show(τ2 (kj D u)).1≠(β2 p.1).1\/(τ2 (kj D u)).2.1=(τ2 (kj D u)).2.2;rw[hτnew u (htk u hu),hβ2 _ k3];rcases htmine u hu with g|g|⟨i,hi,g⟩|⟨v,hv,g1,g2⟩
   ·exact .inr g
   ·left;intro e;omega
   ·left;intro e;exact k5 i hi (g.trans e)
   ·left;intro e
    rcases k6 v hv with k|k
    ·exact g1 k
    ·exact k (g2.trans e)
  ·obtain⟨h1,h2,h3⟩:=htold t ht
   obtain⟨r,hr,rfl,hb⟩:=hnew p hp;show(τ2 t).1≠(β2 (iO D m r.1)).1\/(τ2 t).2.1=(τ2 t).2.2;rw[hτ2 t h2,hβnew _ (hos r hr).1];rcases htblock t h1 h3 with g|⟨k1,k2,k3⟩
   ·exact .inr g
   ·left;intro e
    rcases hnewmine r hr with g|⟨i,hi,g⟩|⟨v,hv,g1,g2⟩
    ·omega
    ·exact k2 i hi (g.trans e.symm)
    ·rcases k3 v hv with k|k
     ·exact g1 k
     ·exact k (g2.trans e.symm)
  ·obtain⟨h1,h2,h3⟩:=htold t ht
   obtain⟨ob,k1,k2,k3,_⟩:=hlow p hp;show(τ2 t).1≠(β2 p.1).1\/(τ2 t).2.1=(τ2 t).2.2;rw[hτ2 t h2,hβ2 _ k3];exact hold.tko t h1 (p.1,ob) k1
 ·intro t ht u hu htu
  show lh (τ2 t) (τ2 u)\/(τ2 t).2.1=(τ2 t).2.2\/(τ2 u).2.1=(τ2 u).2.2;rcases al.1 ht with ht|ht<;>rcases al.1 hu with hu|hu
  ·obtain⟨t',ht',rfl⟩:=aT.1 ht
   obtain⟨u',hu',rfl⟩:=aT.1 hu;rw[hτnew t' (htk t' ht'),hτnew u' (htk u' hu')];exact hH.tkd t' ht' u' hu' (fun e=>htu (by rw[e]))
  ·obtain⟨t',ht',rfl⟩:=aT.1 ht
   obtain⟨h1,h2,h3⟩:=htold u hu;rw[hτnew t' (htk t' ht'),hτ2 u h2];rcases htblock u h1 h3 with k|⟨k1,k2,k3⟩
   ·exact .inr (.inr k)
   ·rcases htmine t' ht' with g|g|⟨i,hi,g⟩|⟨v,hv,g1,g2⟩
    ·exact .inr (.inl g)
    ·exact .inl fun e=>by omega
    ·exact .inl fun e=>k2 i hi (g.trans e)
    ·refine .inl fun e=> ?_
     rcases k3 v hv with k|k
     ·exact g1 k
     ·exact k (g2.trans e)
  ·obtain⟨u',hu',rfl⟩:=aT.1 hu
   obtain⟨h1,h2,h3⟩:=htold t ht;rw[hτnew u' (htk u' hu'),hτ2 t h2];rcases htblock t h1 h3 with k|⟨k1,k2,k3⟩
   ·exact .inr (.inl k)
   ·rcases htmine u' hu' with g|g|⟨i,hi,g⟩|⟨v,hv,g1,g2⟩
    ·exact .inr (.inr g)
    ·exact .inl fun e=>by omega
    ·exact .inl fun e=>k2 i hi (g.trans e.symm)
    ·refine .inl fun e=> ?_
     rcases k3 v hv with k|k
     ·exact g1 k
     ·exact k (g2.trans e.symm)
  ·obtain⟨h1,h2,_⟩:=htold t ht
   obtain⟨h3,h4,_⟩:=htold u hu;rw[hτ2 t h2,hτ2 u h4];exact hold.tkd t h1 u h3 htu
 ·intro b hb
  have hnm:¬(Ctx.took x2 w m.length mt.length).mine b:=fun h=>hb (hmine b h)
  exact(hH.ext b hnm).trans (hold.ext b hb)
end Go.Sy
namespace Go.Sy
variable [aZ]
variable {P : Program} {C : Ctx} {x : Sit} {a : Act} {w : World} {N : Nat} {c c' : CSt} {s : St}
theorem wG(t:Tok):t.ren (fun k=>k)=t:=by cases t<;>rfl
theorem xcf(sv:SV):sv.ren (fun k=>k) (fun k=>k)=sv:=by
 refine SV.rec (motive_1:=fun sv=>sv.ren (fun k=>k) (fun k=>k)=sv) (motive_2:=fun _=>True) (motive_3:=fun l=>SV.renL (fun k=>k) (fun k=>k) l=l)
  ?_ ?_ ?_ ?_ ?_ ?_ ?_ ?_ ?_ ?_ ?_ ?_ ?_ ?_ ?_ ?_ ?_ ?_ ?_ ?_ sv
 all_goals intros
 all_goals first
  |trivial
  |rfl
  |(simp only[SV.ren,SV.renL,wG];done)
  |(simp only[SV.ren,SV.renL, *])
theorem xcb{q:dO}(h:q.small=true):(∀p∈q.os,p.1<1000/\(∀k∈p.2.ids,k<1000)/\∀k∈p.2.toks,k<1000)/\(∀k∈q.r.ids,k<1000)/\(∀k∈q.r.toks,k<1000)/\∀k∈q.tk,k<1000:=by simp only[dO.small,aB,aR,decide_eq_true_eq]at h;obtain⟨⟨⟨h1,h2⟩,h3⟩,h4⟩:=h;exact⟨fun p hp=>⟨(h1 p hp).1.1,(h1 p hp).1.2,(h1 p hp).2⟩,h2,h3,h4⟩
theorem nh{d:Option Nat}{m:List Nat}{mt:List (Option Nat)}{q:dO}{x2 x':Sit}{w':World}{v:Value}(hM:aM C x s a w)(hS:Sim N c s)(hd:∀k,d=some k->k<N)(h:Er x x2 c m mt)
 (hH:cR (Ctx.took x2 w m.length mt.length) x' q.os q.tk w') (hr:Rep x' q.r v) (hwf:∀p∈q.os,p.2.wf=true) (hg:∀i,i<m.length->x'.bk i=x2.bk i) (hm:∀o∈m,inR (d.getD 0) o=false) (hs:q.small=true):
 M C N (jN c d m (cf mt) q) (a.put d v) w':=by
 obtain⟨s1,s2,s3,s4⟩:=xcb hs;have hE:=hS.exact hM;obtain⟨x3,g1,g2,g3,g4,g5,g6,g7⟩:=wE hE.heap h hH hm s1 s4 hg
 let c3:CSt:=⟨df ((d.getD 0+1)*1000) ((d.getD 0+2)*1000) c.tm,qY (eS m (bx ((d.getD 0+1)*1000) ((d.getD 0+2)*1000) c.ob)) (oA (d.getD 0) m q.os),
  qZ (l6 (cf mt) (cg ((d.getD 0+1)*1000) ((d.getD 0+2)*1000) c.tk)) (qS (d.getD 0) q.tk)⟩
 have hI:Inv N c3:=by
  refine⟨fun p hp=> ?_,Av ?_,fun p hp=> ?_⟩
  ·obtain⟨r,hr,e⟩:=ju hp
   rw[e];exact hS.inv.dom r hr
  ·exact ge.sublist ((gW _ _).map cE) (uW hS.inv.so)
  ·rcases mJ hp with e|e
   ·rw[vo]at e
    obtain⟨r,hr,rfl⟩:=aT.1 e;exact yn (hwf r hr)
   ·obtain⟨_,ob,h1,h2⟩:=b9 (jv.1 e).1
    rw[h2];exact po (hS.inv.wf _ h1)
 have hM3:aM C x3 (c3.st N) a w':=by
  refine⟨⟨?_,fun i hi=> ?_⟩,hM.defers,g7.only (fun p hp=> ?_) (jb hI.so) (fun t ht=> ?_)⟩
  ·have:=hE.tm.1;simpa[CSt.st]using this
  ·have hiN:i<N:=by simpa[CSt.st]using hi
   have h1:=hE.tm.2 i (by simpa[CSt.st]using hiN);simp only[CSt.st,aa,aQ,bV hiN,bo,aY]at h1 ⊢;have e:c3.get i=(c.get i).purge ((d.getD 0+1)*1000) ((d.getD 0+2)*1000):=fU _ _ i c.tm;rw[e];exact h1.mono (x':=x3) g2 g5 g6
  ·rcases mJ hp with e|e
   ·exact al.2 (.inl e)
   ·exact al.2 (.inr e)
  ·rcases rE.1 ht with e|e
   ·exact al.2 (.inl e)
   ·exact al.2 (.inr e)
 refine⟨x3,_,hM3.put d (c:=q.r.ren (iO (d.getD 0) m) (kj (d.getD 0))) ?_,(Sim.of hI).put hd _⟩;exact Rep.renF (x:=x') (x2:=x3) (fun b o v hv=>by rw[g1];exact hv) hr (fun k hk=>g3 k (s2 k hk)) (fun t ht=>g4 t (s3 t ht))
theorem xP{call:cU}{g:Nat}{d:Option Nat}{as:List SV}{vs:List Value}(hM:aM C x s a w)(hS:Sim N c s)(hd:∀k,d=some k->k<N)(hsp:∀as os k q,call g as os k=some q->jB P g as os k (· =q))
 (hc:l4 c d (call g (SV.bareL as) [] 0)=some c') (hvs:cd x as vs):Calls P g ⟨vs⟩ w fun en w'=>∃v,en= .returned v/\M C N c' (a.put d v) w':=by
 cases hq:call g (SV.bareL as) [] 0 with
 |none=>rw[hq]at hc;cases hc
 |some q=>
  rw[hq]at hc
  have hb:cd x (SV.bareL as) vs:=by rw[kz];refine⟨by simpa using hvs.1,fun i hi=> ?_⟩;rw[aV _ (by rfl)];exact(hvs.2 i (by simpa using hi)).bare rfl rfl
  obtain⟨_,hS'⟩:=hsp _ _ _ _ hq
  by_cases hbare:q.bare=true
  ·simp only[l4,hbare,nI,an.injEq]at hc
   subst hc;have hcal:=uM (m:=[]) (os:=[]) (mo:=fun k=>k) (mt:=fun k=>k) hM (fun i hi=>by simp at hi) rfl (by simp) (fun i hi=>by simp at hi);refine(hS' (Ctx.callee x w [] (x.back (fun k=>k) (fun k=>k)).bk) x w vs rfl rfl ?_ (by simp) (by simp) hcal hb).mono ?_
   ·rintro b (h|⟨i,hi,_⟩)
    ·exact .inl h
    ·simp at hi
   ·rintro en w' ⟨v,x',q',rfl,hq',hr,hH,hwf,_⟩
    subst hq';simp only[dO.bare,aB,List.isEmpty_iff]at hbare;obtain⟨⟨⟨b1,b2⟩,b3⟩,b4⟩:=hbare
    obtain⟨hG,hA⟩:=xK (m:=[]) (os:=[]) (mo:=fun k=>k) (mt:=fun k=>k) (lo:=0) (hi:=0) (β2:=x.bk) (τ2:=x.τ) hM rfl (fun i hi=>by simp at hi) hH (fun i hi=>by simp at hi) (fun i hi=>by omega) (fun _ _=>rfl) (fun _ _=>rfl)
     (fun p hp=>by rw[b1]at hp;cases hp) (fun p hp=>by rw[b1]at hp;cases hp) (fun p hp=>by rw[b1]at hp;cases hp) (fun p hp=>by rw[b1]at hp;cases hp) (fun t ht=>by rw[b2]at ht;cases ht)
    have hA':cR C ⟨x'.G,x.bk,x.τ⟩ s.ob s.tk w':=by
     refine hA.only (fun p hp=> ?_) hM.heap.nd (fun t ht=> ?_)
     ·exact al.2 (.inr (jv.2 ⟨by rw[Fw];exact hp,by simp⟩))
     ·exact al.2 (.inr (bD.2 ⟨ht,by omega⟩))
    refine⟨v,rfl,⟨x'.G,x.bk,x.τ⟩,_, ?_,hS.put hd q'.r⟩;refine aM.put ⟨cd.grow (x:=x) (x':=⟨x'.G,x.bk,x.τ⟩) hG rfl rfl hM.tm,hM.defers,hA'⟩ d ?_;have:=Rep.renF (x:=x') (x2:=⟨x'.G,x.bk,x.τ⟩) (mo:=fun k=>k) (mt:=fun k=>k) (fun _ _ _ h=>h) hr (fun k hk=>by rw[b3]at hk;cases hk) (fun t ht=>by rw[b4]at ht;cases ht);rwa[xcf]at this
  ·have hbf:q.bare=false:=by simpa using hbare
   simp only[l4,hbf,nI]at hc;cases hsm:q.small with
   |false=>rw[hsm]at hc;cases hc
   |true=>
    rw[hsm]at hc;simp only[xR,an.injEq]at hc;subst hc;have hE:=hS.exact hM;have hT:Er x x c [] []:=⟨rfl,fun i hi=>by simp at hi,fun k hk=>by simp at hk,by simp,fun i hi=>by simp at hi,by simp[cf],fun t ht=>by simp[cf]at ht⟩;refine(hS' (Ctx.took x w 0 0) x w vs rfl rfl ?_ (by simp) (by simp) (rj hE.heap hT rfl (fun i hi=>by simp at hi)) hb).mono ?_
    ·rintro b h;exact h
    ·rintro en w' ⟨v,x',q',rfl,hq',hr,hH,hwf,_⟩
     subst hq';exact⟨v,rfl,nh hM hS hd hT hH hr hwf (fun i hi=>by simp at hi) (fun o ho=>by simp at ho) hsm⟩
theorem wU{call:cU}{sg:Sig}{g:Nat}{d:Option Nat}{as:List SV}{vs:List Value}(hM:aM C x s a w)(hS:Sim N c s)(hd:∀k,d=some k->k<N)(hsp:∀as os k q,call g as os k=some q->jB P g as os k (· =q))
 (hc:jG call sg d g (c,as)=some c') (hvs:cd x as vs):Calls P g ⟨vs⟩ w fun en w'=>∃v,en= .returned v/\M C N c' (a.put d v) w':=by
 simp only[jG]at hc;generalize hz:jP c.tk sg.own 50 0 as=z at hc;obtain⟨as2,mt1⟩:=z;simp only[nt]at hc;generalize dF c 60 [] (SV.idsL as2)=m at hc;cases ho:gp c m with
 |none=>rw[ho]at hc;cases hc
 |some os0=>
  rw[ho]at hc;simp only[lr]at hc;generalize hz2:dQ c.tk (50+mt1.length) os0=z2 at hc;obtain⟨os,mt2⟩:=z2;simp only[nq]at hc;cases hb:(oj (SV.idsL as2++ft os) m&&dr m&&dr (cf (mt1++mt2))&&decide (m.length<=40)&&m.all fun o=> !inR (d.getD 0) o)with
  |false=>rw[hb]at hc;cases hc
  |true=>
   rw[hb]at hc;simp only[np]at hc;simp only[aB,decide_eq_true_eq,aR,dv]at hb;obtain⟨⟨⟨⟨hsub,hmn⟩,htn⟩,hlen⟩,hin⟩:=hb;cases hq:call g (SV.renL (gA m) id as2) (ed (gA m) id os) (mt1.length+mt2.length)with
   |none=>rw[hq]at hc;cases hc
   |some q=>
    rw[hq]at hc;simp only[ou]at hc;cases hsm:q.small with
    |false=>rw[hsm]at hc;cases hc
    |true=>
     rw[hsm]at hc;simp only[wW,an.injEq]at hc;subst hc;have hE:=hS.exact hM;obtain⟨hol,hog⟩:=pE ho
     let τ2:Nat->Nat×Nat×Nat:=fun t=>if 50<=t/\t<50+(mt1++mt2).length then Ok x ((mt1++mt2).getD (t-50) none)else(0,0,0)
     let x1:Sit:=⟨x.G,x.bk,τ2⟩
     let x2:Sit:=⟨x.G,fun i=>x.bk (m.getD i 0),τ2⟩
     have hτ:∀y:Sit,y.τ=τ2->nU x y 50 (mt1++mt2):=by
      intro y hy k hk;rw[hy];show(if _ then _ else _)=_;rw[if_pos ⟨by omega,by omega⟩]
      congr 2;omega
     have hmem:∀i,i<m.length->(m.getD i 0,os0.getD i (.rc []))∈c.ob:=fun i hi=>jg (hog i hi)
     have hsubm:=uS hsub;have hmnd:=jr hmn
     have hT:Er x x2 c m (mt1++mt2):=by
      refine⟨rfl,fun _ _=>rfl,hτ x2 rfl,hmnd,fun i hi=>⟨_,hmem i hi⟩,jr htn,fun t ht=> ?_⟩;rw[fk,al]at ht;rcases ht with ht|ht
      ·have:=oi (tk:=c.tk) (own:=sg.own) (cs:=as) (j:=50) (i:=0) t (by rw[hz];exact ht)
       exact this
      ·have:=mD (tk:=c.tk) (obs:=os0) (j:=50+mt1.length) t (by rw[hz2];exact ht)
       exact this
     have hTx1:=hτ x1 rfl
     have ha1:cd x1 as2 vs:=by have:=lO (x:=x) (x1:=x1) rfl rfl (tk:=c.tk) (own:=sg.own) (j:=50) (i:=0) hvs (by rw[hz];exact hTx1.left);rwa[hz]at this
     have hβ:∀o∈m,x2.bk (gA m o)=x.bk o:=fun o ho=>by show x.bk (m.getD (gA m o) 0)=_;rw[(mm ho).2]
     have ha2:cd x2 (SV.renL (gA m) id as2) vs:=by
      rw[ez];refine⟨by simpa using ha1.1,fun i hi=> ?_⟩;have hi':i<as2.length:=by simpa using hi
      rw[aV _ (by rfl)];exact Rep.renF (x:=x1) (x2:=x2) (fun _ _ _ h=>h) (ha1.2 i hi') (fun k hk=>hβ k (hsubm k (al.2 (.inl (lf hi' k hk))))) (fun t _=>rfl)
     obtain⟨hosl,hosr⟩:=ln (x:=x) (x1:=x1) (w:=w) rfl rfl (tk:=c.tk) (obs:=os0) (j:=50+mt1.length) (f:=fun i=>m.getD i 0)
      (fun i hi=>(hE.heap.obs _ (hmem i (by omega))).1) (by rw[hz2];exact hTx1.right)
     rw[hz2]at hosl hosr;simp only at hosl hosr
     have hob2:∀i,i<m.length->dB x2 w i ((ed (gA m) id os).getD i (.rc [])):=by
      intro i hi;have h1:=hosr i (by omega);have hio:i<os.length:=by omega
      have e:(ed (gA m) id os).getD i (.rc [])=(os.getD i (.rc [])).ren (gA m) id:=by rw[fX,aa,aa,aQ,ab hio];rfl
      rw[e];have hm':=fE (m:=m) hi;have hos:os.getD i (.rc [])∈os:=by rw[aa,ab hio];exact bh _
      have h2:=h1.renF (x2:=x2) (mo:=gA m) (mt:=id) (fun _ _ _ h=>h) (hβ _ hm') (fun k hk=>hβ k (hsubm k (al.2 (.inr (oM hos k hk))))) (fun t _=>rfl);have e2:gA m (m.getD i 0)=i:=ls hmnd (mm hm').1 hi (mm hm').2;rwa[e2]at h2
     have hrl:(ed (gA m) id os).length=m.length:=by rw[fX,aP];omega
     obtain⟨_,hS'⟩:=hsp _ _ _ _ hq;have hl12:mt1.length+mt2.length=(mt1++mt2).length:=by simp
     rw[hl12]at hS';refine(hS' (Ctx.took x2 w m.length (mt1++mt2).length) x2 w vs rfl rfl ?_ (by omega) ?_ (rj hE.heap hT hrl hob2) ha2).mono ?_
     ·rintro b h;rw[hrl];exact h
     ·intro o ho'
      rw[fX]at ho';obtain⟨r,hr,rfl⟩:=aT.1 ho';refine yn ?_
      have:=mC (tk:=c.tk) (obs:=os0) (j:=50+mt1.length) (fun o h'=>by obtain⟨i,hi,rfl⟩:=cr h';have:=hS.inv.wf _ (hmem i (by omega));simpa[aa,ab hi]using this) r (by rw[hz2];exact hr)
      exact this
     ·rintro en w' ⟨v,x',q',rfl,hq',hr,hH,hwf,hg⟩
      subst hq';exact⟨v,rfl,nh hM hS hd hT hH hr hwf (fun i hi=>hg i (by omega)) (fun o ho'=>hin o ho') hsm⟩
theorem uN{call:cU}{sg:Sig}{g:Nat}{d:Option Nat}{as:List SV}{vs:List Value}(hM:aM C x s a w)(hS:Sim N c s)(hd:∀k,d=some k->k<N)(hsp:∀as os k q,call g as os k=some q->jB P g as os k (· =q))
 (hc:io call sg c d g as=some c') (hvs:cd x as vs):Calls P g ⟨vs⟩ w fun en w'=>∃v,en= .returned v/\M C N c' (a.put d v) w':=by
 unfold io at hc;generalize ((SV.idsL as).isEmpty&&sg.own.isEmpty)=b at hc;cases b with
 |true=>exact xP hM hS hd hsp hc hvs
 |false=>simp only[jM]at hc;obtain⟨x1,s1,h1,h2,h3⟩:=jj (l:=iY sg.raw 0 as) hM hS hvs;exact wU h1 h2 hd hsp hc h3
end Go.Sy
