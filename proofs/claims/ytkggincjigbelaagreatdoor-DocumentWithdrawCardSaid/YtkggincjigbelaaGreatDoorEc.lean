/- An engine that steps through Go code with symbolic values: sound by proof. No condition. -/
import Derived.Test.YtkggincjigbelaaGreatDoorEb
import Derived.LoopN
open Array renaming getD_eq_getD_getElem? -> aX, getElem?_eq_getElem -> fy
open Bool renaming and_eq_true -> aw, not_eq_true' -> cT
open List renaming Nodup -> qC, Sublist -> kO, all_eq_true -> aN, contains_eq_mem -> dR, drop_take -> xM, filter_cons -> je, getD_eq_getElem?_getD -> aa, getElem?_append_left -> bA, getElem?_append_right -> bC, getElem?_drop -> bj, getElem?_eq_getElem -> ab, getElem?_eq_none -> dE, getElem?_map -> aI, getElem?_range -> bE, getElem?_set -> fj, getElem?_take -> bx, getElem_mem -> bd, getElem_of_mem -> cV, length_append -> ai, length_cons -> aj, length_drop -> aS, length_map -> aK, length_set -> gH, length_take -> ax, map_append -> c7, map_cons -> aD, mem_append -> ah, mem_cons -> am, mem_cons_of_mem -> an, mem_cons_self -> aB, mem_map -> aM, mem_map_of_mem -> fY, mem_of_mem_take -> bU, mem_singleton -> bW, nodup_cons -> cZ, pairwise_cons -> dl, pairwise_map -> fi, range -> bw, replicate -> az
open Nat renaming add_assoc -> dJ, add_mul -> bt, add_zero -> ek, le_refl -> aP, le_trans -> mG, lt_or_ge -> bQ, min_eq_left -> fA, mod_eq_of_lt -> cr, mul_comm -> co, mul_le_mul_right -> bi, succ_mul -> cP
open Option renaming bind_some -> ct, getD_some -> aV, map_eq_some_iff -> ac, map_some -> bf, some -> al
open Prod renaming fst -> bY
set_option linter.unusedVariables false
set_option linter.unusedSimpArgs false
set_option linter.unnecessarySimpa false
set_option linter.unusedSectionVars false
namespace Go.Sy
variable [aU]
variable {call : cA} {sg : Nat -> Sig} {c : CSt} {d : Option Nat} {k : Nat}
theorem Rg{α:Type}{p:Prop}[Decidable p]{v:α}(h:p):gd p v=some v:=if_pos h
def eC(c:CSt)(d:Option Nat):Option SV->Option CSt
 |some v=>some (c.put d v)
 |none=>none
theorem vZ(v:SV):eC c d (some v)=some (c.put d v):=rfl
theorem v7:eC c d none=none:=rfl
theorem yI(l:List (Nat×SV))(o:List (Nat×aA))(t:List Nat)(v:SV):CSt.put ⟨l,o,t⟩ (some k) v=⟨hJ l k v,o,t⟩:=rfl
theorem yJ(v:SV):CSt.put c none v=c:=rfl
theorem Rf(l:List (Nat×SV))(o:List (Nat×aA))(t:List Nat)(n:Nat):CSt.get ⟨l,o,t⟩ n=dD l n:=rfl
theorem GX(l:List (Nat×SV))(o:List (Nat×aA))(t:List Nat)(n:Nat):CSt.look ⟨l,o,t⟩ n=gp o n:=rfl
theorem Zk(n:Nat):c.ev (.t n)=c.get n:=rfl
theorem Zm(v:SV):c.ev (.c v)=v:=rfl
theorem Zl(g:Nat):c.ev (.f g)= .fn g [] []:=rfl
theorem mn:c.kill []=c:=rfl
theorem wu(l:List (Nat×SV))(o:List (Nat×aA))(t:List Nat)(n:Nat)(r:List Nat):CSt.kill ⟨l,o,t⟩ (n::r)=⟨qu l (n::r),o,t⟩:=rfl
def tE:Option SV->Option li
 |some v=>some {val:=v}
 |none=>none
theorem vx(v:SV):tE (some v)=some {val:=v}:=rfl
theorem vy:tE none=none:=rfl
theorem mz{so:SOp}{o:Option SV}(h:dn c d so=tE o):kL c d (dn c d so)=eC c d o:=by rw[h];cases o<;>rfl
theorem FE(o:Option SV):(match o with|some v=>some {val:=v}|none=>none:Option li)=tE o:=by cases o<;>rfl
def xy:SV->Option SV
 | .ptr o off=>some (.ptr o off)
 | .ap o sz i j=>some (.ap o sz i j)
 | .pp cs=>some (.pp cs)
 | .fn f a b=>some (.fn f a b)
 |_=>none
def M1(ne:Bool):SV->SV->Option SV
 | .bool a,.bool b=>some (.bool (if ne then decide (a≠b)else decide (a=b)))
 |_,_=>none
def MZ(ne:Bool)(ts:List Nat):SV->SV->Option SV
 | .agg cs,.agg ds=>(fv ts cs ds).map fun b=> .bool (if ne then !b else b)
 |_,_=>none
def oY:SV->Option SV
 | .str l=>some (.str l)
 |_=>none
def xD(ne:Bool):SV->Option SV
 | .nili=>some (.bool (!ne))
 |_=>none
def Ik:SV->Option SV
 | .str l=>some (.byt l .no)
 |_=>none
def M2(c:CSt):SV->Option SV
 | .str _=>none
 |v=>(dG c v).map .str
def zP(l:List UInt8):Option Int->Option Int->Option SV
 |some a,some b=>gd (0<=a/\a<=b/\b<=l.length) (.str ((l.take b.toNat).drop a.toNat))
 |_,_=>none
def xj(c:CSt)(lo hi:Option Arg):SV->Option SV
 | .str l=>zP l (iP c lo 0) (iP c hi l.length)
 |_=>none
def xk(c:CSt)(len sz:Nat)(lo hi mx:Option Arg):SV->Option SV
 | .ptr o off=>if off=0 then lg c sz (.psl o sz 0 len (some len)) lo hi mx else none
 |_=>none
def pe(off:Nat):SV->Option SV
 | .ptr o k=>some (.ptr o (k+off))
 | .ap o sz i j=>some (.ap o sz i (j+off))
 | .pp cs=>some (.pp (cs.drop off))
 |_=>none
def MQ(off n:Nat)(ag:Bool):SV->Option SV
 | .agg cs=>gd (off+n<=cs.length) (cR ag n (cs.drop off))
 |_=>none
def lW(sz:Nat):SV->Option Int->Option SV
 | .byt l _,some n=>gd (0<=n/\n<l.length/\sz=1) (.pp [.u8 (l.getD n.toNat 0)])
 | .lst sz' xs _,some n=>gd (0<=n/\n<xs.length/\sz=sz') (.pp (xs.getD n.toNat []))
 | .psl o sz' off k _,some n=>gd (0<=n/\n<k/\sz=sz') (.ap o sz (off+n.toNat) 0)
 |_,_=>none
def mp(len sz o off:Nat)(n:Int):Option aA->Option SV
 |some (.rc _)=>gd (0<=n/\n<len) (.ptr o (off+n.toNat*sz))
 |some _=>gd (off=0/\0<=n/\n<len) (.ap o sz n.toNat 0)
 |none=>none
def km(c:CSt)(len sz:Nat):SV->Option Int->Option SV
 | .ptr o off,some n=>mp len sz o off n (c.look o)
 | .pp cs,some n=>gd (0<=n/\n<len/\cs.length=len*sz) (.pp (cs.drop (n.toNat*sz)))
 |_,_=>none
def xG(len sz:Nat)(ag:Bool):SV->Option Int->Option SV
 | .agg cs,some n=>gd (0<=n/\n<len/\cs.length=len*sz) (cR ag sz (cs.drop (n.toNat*sz)))
 |_,_=>none
def xF:SV->Option Int->Option SV
 | .str l,some n=>gd (0<=n/\n<l.length) (.u8 (l.getD n.toNat 0))
 |_,_=>none
def MY(i:Nat):SV->Option SV
 | .tup vs=>gd (i<vs.length) (vs.getD i .undef)
 |_=>none
def lenC:Option Nat->Option SV
 |some n=>some (.int .i64 (n:Nat))
 |none=>none
def M0:SV->Option SV
 | .psl _ _ _ _ (some m)=>some (.int .i64 m)
 | .byt l t=>if t= .clip then some (.int .i64 l.length)else none
 | .lst _ xs t=>if t= .clip then some (.int .i64 xs.length)else none
 |_=>none
def xA:SV->SV->Option SV
 | .int k a,.int k' b=>if k=k' then some (.int k (if b<a then b else a))else none
 |_,_=>none
def xB:SV->SV->Option SV
 | .int k a,.int k' b=>if k=k' then some (.int k (if a<b then b else a))else none
 |_,_=>none
def ph:Option (List SV)->Option SV
 |some l=>some (.agg l)
 |none=>none
def MJ(sz:Nat):Option (List (List SV))->Option SV
 |some r=>some (.lst sz r .clip)
 |none=>none
def xC:Option (List UInt8)->Option SV
 |some r=>some (.byt r .clip)
 |none=>none
theorem Ss(x:Arg):bX c (.mov x)=some (c.ev x):=rfl
theorem tG(z:List SV)(ps:List (Nat×Nat×Arg)):bX c (.build z ps)=ph (gr z (psC c ps)):=by simp only[bX];cases gr z (psC c ps)<;>rfl
theorem Ic(sz:Nat)(xs:List Arg):bX c (.lit sz xs)=MJ sz (rows sz (evL c xs)):=by simp only[bX];cases rows sz (evL c xs)<;>rfl
theorem zM(xs:List Arg):bX c (.litB xs)=xC (toB (evL c xs)):=by simp only[bX];cases toB (evL c xs)<;>rfl
theorem OH(n:Nat)(ag:Bool)(a:Arg):bX c (.load n ag a)=j0 c n ag (c.ev a):=rfl
theorem OD(x:Arg):bX c (.nchk x)=xy (c.ev x):=rfl
theorem Sz(op:BinOp)(x y:Arg):bX c (.bin op x y)=xQ op (c.ev x) (c.ev y):=rfl
theorem SA(ne:Bool)(x y:Arg):bX c (.beq ne x y)=M1 ne (c.ev x) (c.ev y):=rfl
theorem Sw(ne:Bool)(ts:List Nat)(x y:Arg):bX c (.eqS ne ts x y)=MZ ne ts (c.ev x) (c.ev y):=rfl
theorem XX(op:UnOp)(x:Arg):bX c (.un op x)=qD op (c.ev x):=rfl
theorem FH(q:IntKind)(x:Arg):bX c (.toInt q x)=fN q (c.ev x):=rfl
theorem FG(x:Arg):bX c (.toStr x)=oY (c.ev x):=rfl
theorem OJ(ne:Bool)(x:Arg):bX c (.isni ne x)=xD ne (c.ev x):=rfl
theorem Sp(x:Arg):bX c (.s2b x)=Ik (c.ev x):=rfl
theorem SB(x:Arg):bX c (.b2s x)=M2 c (c.ev x):=rfl
theorem OE(f:Nat)(a b:List Arg):bX c (.mkfn f a b)=some (.fn f (evL c a) (evL c b)):=rfl
theorem zL(x:Arg)(lo hi:Option Arg):bX c (.slcS x lo hi)=xj c lo hi (c.ev x):=by simp only[bX];cases c.ev x<;>rfl
theorem OB(sz:Nat)(x:Arg)(lo hi mx:Option Arg):bX c (.slcL sz x lo hi mx)=lg c sz (c.ev x) lo hi mx:=rfl
theorem OC(len sz:Nat)(x:Arg)(lo hi mx:Option Arg):bX c (.slcA len sz x lo hi mx)=xk c len sz lo hi mx (c.ev x):=rfl
theorem FJ(off:Nat)(x:Arg):bX c (.faddr off x)=pe off (c.ev x):=rfl
theorem Su(off n:Nat)(ag:Bool)(x:Arg):bX c (.fld off n ag x)=MQ off n ag (c.ev x):=rfl
theorem x5(sz:Nat)(x i:Arg):bX c (.iaddrL sz x i)=lW sz (c.ev x) (c.ev i).num:=rfl
theorem pG(len sz:Nat)(x i:Arg):bX c (.iaddrA len sz x i)=km c len sz (c.ev x) (c.ev i).num:=by simp only[bX];unfold km mp;rfl
theorem OL(len sz:Nat)(ag:Bool)(x i:Arg):bX c (.idxA len sz ag x i)=xG len sz ag (c.ev x) (c.ev i).num:=rfl
theorem OK(x i:Arg):bX c (.idxS x i)=xF (c.ev x) (c.ev i).num:=rfl
theorem Sv(x:Arg)(i:Nat):bX c (.ext x i)=MY i (c.ev x):=rfl
theorem Ie(b:Bool)(x:Arg):bX c (.len b x)=lenC (iu b (c.ev x)):=by simp only[bX];cases iu b (c.ev x)<;>rfl
theorem OI(n:Nat):bX c (.lenC n)=some (.int .i64 n):=rfl
theorem Sx(x:Arg):bX c (.cap x)=M0 (c.ev x):=rfl
theorem OF(x y:Arg):bX c (.mini x y)=xA (c.ev x) (c.ev y):=rfl
theorem OG(x y:Arg):bX c (.maxi x y)=xB (c.ev x) (c.ev y):=rfl
def SOp.pure:SOp->Bool
 | .new _| .box _| .mk _ _ _ _| .mkB _ _| .store _ _ _| .app _ _ _ _| .cpy _ _ _| .pick _ _ _| .call _ _| .isnil _ _| .newB _| .slid _| .appO _ _ _ _| .clr _ _=>false
 |_=>true
theorem nI{so:SOp}(h:so.pure=true):dn c d so=tE (bX c so):=by
 cases so<;>first|cases h;done|rfl|exact FE _
theorem bB{so:SOp}(h:so.pure=true):opC call sg c d so=eC c d (bX c so):=by
 have h1:opC call sg c d so=kL c d (dn c d so):=by cases so<;>first|rfl|cases h
 rw[h1];exact mz (nI h)
theorem TV(x:Arg):opC call sg c d (.mov x)=eC c d (some (c.ev x)):=bB rfl
theorem GR(z:List SV)(ps:List (Nat×Nat×Arg)):opC call sg c d (.build z ps)=eC c d (ph (gr z (psC c ps))):=(bB rfl).trans (by rw[tG])
theorem TX(sz:Nat)(xs:List Arg):opC call sg c d (.lit sz xs)=eC c d (MJ sz (rows sz (evL c xs))):=(bB rfl).trans (by rw[Ic])
theorem QL(xs:List Arg):opC call sg c d (.litB xs)=eC c d (xC (toB (evL c xs))):=(bB rfl).trans (by rw[zM])
theorem QK(n:Nat)(ag:Bool)(a:Arg):opC call sg c d (.load n ag a)=eC c d (j0 c n ag (c.ev a)):=bB rfl
theorem QG(x:Arg):opC call sg c d (.nchk x)=eC c d (xy (c.ev x)):=bB rfl
theorem T6(op:BinOp)(x y:Arg):opC call sg c d (.bin op x y)=eC c d (xQ op (c.ev x) (c.ev y)):=bB rfl
theorem T7(ne:Bool)(x y:Arg):opC call sg c d (.beq ne x y)=eC c d (M1 ne (c.ev x) (c.ev y)):=bB rfl
theorem T1(ne:Bool)(ts:List Nat)(x y:Arg):opC call sg c d (.eqS ne ts x y)=eC c d (MZ ne ts (c.ev x) (c.ev y)):=bB rfl
theorem Yk(op:UnOp)(x:Arg):opC call sg c d (.un op x)=eC c d (qD op (c.ev x)):=bB rfl
theorem GN(q:IntKind)(x:Arg):opC call sg c d (.toInt q x)=eC c d (fN q (c.ev x)):=bB rfl
theorem GL(x:Arg):opC call sg c d (.toStr x)=eC c d (oY (c.ev x)):=bB rfl
theorem QF(xs:List Arg):opC call sg c d (.newB xs)=kZ c d (toB (evL c xs)):=rfl
theorem QA(x:Arg):opC call sg c d (.slid x)=m5 c d (c.ev x):=rfl
theorem rx(k:Nat)(l:List UInt8):kZ c (some k) (some l)=some (CSt.app c (some k) {val:= .psl (k+100) 1 0 l.length (some l.length),new:=some (.bar l)}):=rfl
theorem vF(o off n:Nat)(cap:Option Nat):m5 c d (.psl o 1 off n cap)=ly c d o off n cap (c.look o):=rfl
theorem vG(o off n:Nat)(cap:Option Nat)(l:List UInt8):ly c d o off n cap (some (.bar l))=if off+n<=l.length/\cap=some n then some (((c.publish o []).1).put d (.byt ((l.drop off).take n) .clip))else none:=rfl
theorem QN(ne:Bool)(x:Arg):opC call sg c d (.isni ne x)=eC c d (xD ne (c.ev x)):=bB rfl
theorem TT(x:Arg):opC call sg c d (.s2b x)=eC c d (Ik (c.ev x)):=bB rfl
theorem T8(x:Arg):opC call sg c d (.b2s x)=eC c d (M2 c (c.ev x)):=bB rfl
theorem QH(f:Nat)(a b:List Arg):opC call sg c d (.mkfn f a b)=eC c d (some (.fn f (evL c a) (evL c b))):=bB rfl
theorem QB(x:Arg)(lo hi:Option Arg):opC call sg c d (.slcS x lo hi)=eC c d (xj c lo hi (c.ev x)):=(bB rfl).trans (by rw[zL])
theorem QC(sz:Nat)(x:Arg)(lo hi mx:Option Arg):opC call sg c d (.slcL sz x lo hi mx)=eC c d (lg c sz (c.ev x) lo hi mx):=bB rfl
theorem QD(len sz:Nat)(x:Arg)(lo hi mx:Option Arg):opC call sg c d (.slcA len sz x lo hi mx)=eC c d (xk c len sz lo hi mx (c.ev x)):=bB rfl
theorem GQ(off:Nat)(x:Arg):opC call sg c d (.faddr off x)=eC c d (pe off (c.ev x)):=bB rfl
theorem TZ(off n:Nat)(ag:Bool)(x:Arg):opC call sg c d (.fld off n ag x)=eC c d (MQ off n ag (c.ev x)):=bB rfl
theorem yU(sz:Nat)(x i:Arg):opC call sg c d (.iaddrL sz x i)=eC c d (lW sz (c.ev x) (c.ev i).num):=bB rfl
theorem yV(len sz:Nat)(x i:Arg):opC call sg c d (.iaddrA len sz x i)=eC c d (km c len sz (c.ev x) (c.ev i).num):=(bB rfl).trans (by rw[pG])
theorem QP(len sz:Nat)(ag:Bool)(x i:Arg):opC call sg c d (.idxA len sz ag x i)=eC c d (xG len sz ag (c.ev x) (c.ev i).num):=bB rfl
theorem QO(x i:Arg):opC call sg c d (.idxS x i)=eC c d (xF (c.ev x) (c.ev i).num):=bB rfl
theorem T0(x:Arg)(i:Nat):opC call sg c d (.ext x i)=eC c d (MY i (c.ev x)):=bB rfl
theorem TY(b:Bool)(x:Arg):opC call sg c d (.len b x)=eC c d (lenC (iu b (c.ev x))):=(bB rfl).trans (by rw[Ie])
theorem QM(n:Nat):opC call sg c d (.lenC n)=eC c d (some (.int .i64 n)):=bB rfl
theorem T4(x:Arg):opC call sg c d (.cap x)=eC c d (M0 (c.ev x)):=bB rfl
theorem QI(x y:Arg):opC call sg c d (.mini x y)=eC c d (xA (c.ev x) (c.ev y)):=bB rfl
theorem QJ(x y:Arg):opC call sg c d (.maxi x y)=eC c d (xB (c.ev x) (c.ev y)):=bB rfl
def xx(a b:SV):SV->Option SV
 | .bool t=>some (ge t a b)
 |_=>none
theorem Rz(q a b:Arg):dn c d (.pick q a b)=tE (xx (c.ev a) (c.ev b) (c.ev q)):=by simp only[dn];cases c.ev q<;>rfl
theorem QE(q a b:Arg):opC call sg c d (.pick q a b)=eC c d (xx (c.ev a) (c.ev b) (c.ev q)):=mz (Rz q a b)
def o9(ne:Bool):SV->Option SV
 | .byt l _=>gd (l≠ []) (.bool ne)
 | .lst _ xs _=>gd (xs≠ []) (.bool ne)
 | .psl _ _ _ _ _=>some (.bool ne)
 |_=>none
theorem HF(ne:Bool)(x:Arg):dn c d (.isnil ne x)=tE (o9 ne (c.ev x)):=by simp only[dn];cases c.ev x<;>first|rfl|(simp only[o9];unfold gd;split<;>rfl)
theorem GP(ne:Bool)(x:Arg):opC call sg c d (.isnil ne x)=eC c d (o9 ne (c.ev x)):=mz (HF ne x)
def vj(c:CSt)(k:Nat)(o:aA)(v:SV):CSt:=CSt.app c (some k) {val:=v,new:=some o}
theorem HW(l:List (Nat×SV))(ob:List (Nat×aA))(t:List Nat)(o:aA)(v:SV):
 vj ⟨l,ob,t⟩ k o v=⟨hJ (cE (k+100) (k+101) l) k v,gy (bn (k+100) (k+101) ob) (k+100) (o.purge (k+100) (k+101)),bP (k+100) (k+101) t⟩:=rfl
def Xy(c:CSt)(k:Nat)(v:SV):Option aA->Option CSt
 |some o=>some (vj c k o v)
 |none=>none
theorem xd(v:SV)(o:aA):Xy c k v (some o)=some (vj c k o v):=rfl
theorem TU(o:aA):opC call sg c (some k) (.new o)=Xy c k (.ptr (k+100) 0) (gd (o.wf=true) o):=by show kL c (some k) (gd _ _)=_;unfold gd;split<;>rfl
theorem T5(x:Arg):opC call sg c (some k) (.box x)=some (vj c k (.rc (c.ev x).cells) (.ptr (k+100) 0)):=rfl
def mkE(bytes:Nat):SV->SV->Option (Nat×Nat)
 | .int _ n,.int _ m=>gd (0<=n/\n<=m/\bytes*m<=140737488355328/\m<=9223372036854775807) (n.toNat,m.toNat)
 |_,_=>none
def mkS(c:CSt)(k:Nat)(z:List SV):Option (Nat×Nat)->Option CSt
 |some p=>some (vj c k (.arr z.length (az p.2 z)) (.psl (k+100) z.length 0 p.1 (some p.2)))
 |none=>none
theorem Yl(z:List SV)(bytes:Nat)(n m:Arg):opC call sg c (some k) (.mk z bytes n m)=mkS c k z (mkE bytes (c.ev n) (c.ev m)):=by show kL c (some k) (dn c (some k) (.mk z bytes n m))=_;simp only[dn];cases h1:c.ev n<;>cases h2:c.ev m<;>first|rfl|(simp only[mkE];unfold gd;split<;>rfl)
def RN:SV->SV->Option (Nat×Nat)
 | .int _ n,.int _ m=>gd (0<=n/\n<=m/\m<=140737488355328) (n.toNat,m.toNat)
 |_,_=>none
def Xh(c:CSt)(k:Nat):Option (Nat×Nat)->Option CSt
 |some p=>some (vj c k (.bar (az p.2 0)) (.psl (k+100) 1 0 p.1 (some p.2)))
 |none=>none
theorem TW(n m:Arg):opC call sg c (some k) (.mkB n m)=Xh c k (RN (c.ev n) (c.ev m)):=by show kL c (some k) (dn c (some k) (.mkB n m))=_;simp only[dn];cases h1:c.ev n<;>cases h2:c.ev m<;>first|rfl|(simp only[RN];unfold gd;split<;>rfl)
def stC(c:CSt)(n:Nat)(v:List SV):SV->Option (Nat×aA)
 | .ptr o off=>match c.look o with
  |some (.rc cs)=>gd (off+n<=cs.length/\v.length=n/\v.all SV.one=true) (o,.rc (fo cs off v))
  |some (.arr sz xs)=>gd (off=0/\n=xs.length*sz/\v.length=n/\v.all SV.isData=true) (o,.arr sz (ij sz xs.length (v.map SV.data)))
  |some (.bar l)=>match toB v with
   |some l'=>gd (off=0/\n=l.length/\l'.length=n) (o,.bar l')
   |none=>none
  |_=>none
 | .ap o sz i j=>match c.look o with
  |some (.arr sz' xs)=>gd (sz=sz'/\i<xs.length/\j+n<=sz/\v.length=n/\v.all SV.isData=true) (o,.arr sz' (gQ sz xs i j n (v.map SV.data)))
  |some (.bar l)=>match v with
   |[.u8 b]=>gd (sz=1/\j=0/\n=1/\i<l.length) (o,.bar (l.set i b))
   |_=>none
  |_=>none
 |_=>none
def stS(c:CSt):Option (Nat×aA)->Option CSt
 |some p=>some ⟨c.tm,gy c.ob p.1 p.2,c.tk⟩
 |none=>none
theorem yb(l:List (Nat×SV))(ob:List (Nat×aA))(t:List Nat)(p:Nat×aA):stS ⟨l,ob,t⟩ (some p)=some ⟨l,gy ob p.1 p.2,t⟩:=rfl
theorem vD(n:Nat)(v:List SV)(a:SV):ji c n v a=(stC c n v a).map fun p=> {val:= .undef,wr:=[p]}:=by
 cases a with
 |ptr o off=>
  simp only[ji,stC];cases c.look o with
  |none=>rfl
  |some ob=>
   cases ob with
   |rc cs=>simp only;unfold gd;split<;>rfl
   |arr sz' xs=>simp only;unfold gd;split<;>rfl
   |bar l=>simp only;cases toB v<;>first|rfl|(simp only;unfold gd;split<;>rfl)
 |ap o sz i j=>
  simp only[ji,stC];cases c.look o with
  |none=>rfl
  |some ob=>
   cases ob with
   |rc cs=>rfl
   |arr sz' xs=>simp only;unfold gd;split<;>rfl
   |bar l=>
    rcases v with _|⟨u,_|⟨u2,r⟩⟩
    ·rfl
    ·cases u<;>first|rfl|(simp only;unfold gd;split<;>rfl)
    ·cases u<;>rfl
 |_=>rfl
theorem GO(n:Nat)(a x:Arg):opC call sg c none (.store n a x)=if(c.ev x).isDef=true then stS c (stC c n (c.ev x).cells (c.ev a))else none:=by
 show kL c none (dn c none (.store n a x))=_;simp only[dn];split
 ·rw[vD];cases stC c n (c.ev x).cells (c.ev a)<;>rfl
 ·rfl
def apB(c:CSt)(k:Nat)(l:List UInt8)(t:Tok)(z:List SV)(bytes:Nat):Option (List UInt8)->Option CSt
 |some l'=>if z.length=1/\bytes=1/\t.readyC c=true/\l.length+l'.length<=140737488355328 then some (CSt.app c (some k) {val:= .byt (l++l') (.id (k+100)),eat:=t,tok:=true})else none
 |none=>none
def apL(c:CSt)(k:Nat)(sz':Nat)(l:List (List SV))(t:Tok)(z:List SV)(bytes:Nat):Option (List (List SV))->Option CSt
 |some l'=>if z.length=sz'/\t.readyC c=true/\(l.length+l'.length)*bytes<=140737488355328 then some (CSt.app c (some k) {val:= .lst z.length (l++l') (.id (k+100)),eat:=t,tok:=true})else none
 |none=>none
theorem HU(l:List (Nat×SV))(ob:List (Nat×aA))(t:List Nat)(v:SV)(e:Tok):
 CSt.app ⟨l,ob,t⟩ (some k) {val:=v,eat:=e,tok:=true}=⟨hJ (cE (k+100) (k+101) l) k v,bn (k+100) (k+101) ob,kd (bP (k+100) (k+101) (e.eat t)) (k+100)⟩:=rfl
def apS(c:CSt)(k:Nat)(z:List SV)(bytes:Nat)(y:SV):SV->Option CSt
 | .byt l t=>apB c k l t z bytes (dG c y)
 | .lst sz' l t=>apL c k sz' l t z bytes (eI c z.length y)
 |_=>none
theorem T9(z:List SV)(bytes:Nat)(x y:Arg):opC call sg c (some k) (.app z bytes x y)=apS c k z bytes (c.ev y) (c.ev x):=by
 show kL c (some k) (dn c (some k) (.app z bytes x y))=_;simp only[dn];cases c.ev x<;>try rfl
 ·simp only[apS]
  cases dG c (c.ev y)with
  |none=>rfl
  |some l'=>simp only[ct,apB];unfold gd;split<;>rfl
 ·simp only[apS]
  cases eI c z.length (c.ev y)with
  |none=>rfl
  |some l'=>simp only[ct,apL];unfold gd;split<;>rfl
def cpB(o off n:Nat)(sz sz':Nat)(l:List UInt8):Option (List UInt8)->Option (SV×Nat×aA)
 |some l'=>gd (sz=1/\sz'=1/\off+n<=l.length) (.int .i64 (min l'.length n:Nat),o,.bar (l.take off++l'.take n++l.drop (off+(l'.take n).length)))
 |none=>none
def cpL(b:Bool)(o off n:Nat)(sz sz' sz'':Nat)(xs:List (List SV)):Option (List (List SV))->Option (SV×Nat×aA)
 |some l'=>gd (b=true/\sz=sz'/\sz=sz''/\off+n<=xs.length) (.int .i64 (min l'.length n:Nat),o,.arr sz (xs.take off++l'.take n++xs.drop (off+(l'.take n).length)))
 |none=>none
def cp2(b:Bool)(c:CSt)(sz o sz' off n:Nat)(y:SV):Option aA->Option (SV×Nat×aA)
 |some (.bar l)=>cpB o off n sz sz' l (dG c y)
 |some (.arr sz'' xs)=>cpL b o off n sz sz' sz'' xs (eI c sz y)
 |_=>none
def cpC(b:Bool)(c:CSt)(sz:Nat)(y:SV):SV->Option (SV×Nat×aA)
 | .psl o sz' off n _=>cp2 b c sz o sz' off n y (c.look o)
 |_=>none
def cpS(c:CSt)(d:Option Nat):Option (SV×Nat×aA)->Option CSt
 |some p=>some (CSt.put ⟨c.tm,gy c.ob p.2.1 p.2.2,c.tk⟩ d p.1)
 |none=>none
theorem QR(z:List SV)(b:Nat)(x y:Arg):opC call sg c d (.appO z b x y)=nn c d z b y (c.ev x):=rfl
def clA(o off n:Nat)(z:List SV)(sz' sz'':Nat)(xs:List (List SV)):Option (SV×Nat×aA):=gd (0<n/\z.length=sz'/\z.length=sz''/\off+n<=xs.length) (.tup [],o,.arr z.length (xs.take off++az n z++xs.drop (off+n)))
def cl2(z:List SV)(o sz' off n:Nat):Option aA->Option (SV×Nat×aA)
 |some (.arr sz'' xs)=>clA o off n z sz' sz'' xs
 |_=>none
def clC(c:CSt)(z:List SV):SV->Option (SV×Nat×aA)
 | .psl o sz' off n _=>cl2 z o sz' off n (c.look o)
 |_=>none
theorem T3(z:List SV)(x:Arg):opC call sg c d (.clr z x)=cpS c d (clC c z (c.ev x)):=by
 show kL c d (dn c d (.clr z x))=_;simp only[dn];cases c.ev x<;>try rfl
 rename_i o sz' off n cap;simp only[clC];cases c.look o with
 |none=>rfl
 |some ob=>
  cases ob with
  |rc cs=>rfl
  |bar l=>rfl
  |arr sz'' xs=>simp only[cl2,clA];unfold gd;split<;>rfl
theorem T2(sz:Nat)(x y:Arg):opC call sg c d (.cpy sz x y)=cpS c d (cpC y.isT c sz (c.ev y) (c.ev x)):=by
 show kL c d (dn c d (.cpy sz x y))=_;simp only[dn];cases c.ev x<;>try rfl
 rename_i o sz' off n cap;simp only[cpC];cases c.look o with
 |none=>rfl
 |some ob=>
  cases ob with
  |rc cs=>rfl
  |bar l=>
   simp only[cp2];cases dG c (c.ev y)with
   |none=>rfl
   |some l'=>simp only[ct,cpB];unfold gd;split<;>rfl
  |arr sz'' xs=>
   simp only[cp2];cases eI c sz (c.ev y)with
   |none=>rfl
   |some l'=>simp only[ct,cpL];unfold gd;split<;>rfl
def EZ(call:cA)(sg:Nat->Sig)(c:CSt)(d:Option Nat)(as:List SV):SV->Option CSt
 | .fn g a b=>fU call (sg g) c d g (a++as++b)
 |_=>none
theorem QQ(f:Arg)(as:List Arg):opC call sg c d (.call f as)=EZ call sg c d (evL c as) (c.ev f):=by simp only[opC];unfold EZ;rfl
theorem OW(o:SOp):dd call sg c ⟨d,none,o⟩=opC call sg c d o:=rfl
theorem Pw(g:Option (Nat×Bool))(o:SOp)(r:List SI):plC call sg (⟨d,g,o⟩::r) c=nxP call sg r (opC call sg c d o):=by rw[plC]
theorem uM:eH call sg [] c=some c:=by rw[eH]
theorem D2(i:SI)(dead:List Nat)(r:List RI):eH call sg (.op i dead::r) c=nxC call sg dead r (dd call sg c i):=by rw[eH]
theorem uN(g:Nat)(b:Bool)(l:List SI)(dead:List Nat)(r:List RI):eH call sg (.grp g b l dead::r) c=nxC call sg dead r (lX call sg b l c (c.get g)):=by rw[eH]
theorem uK(i:SI)(dead:List Nat)(r:List RI):eH call sg (.tks i dead::r) c=nxC call sg dead r (tI c i):=by rw[eH]
theorem FS(d:Option Nat)(x:Arg):tI c ⟨d,none,.s2b x⟩=FT c d (c.ev x):=rfl
theorem OO(k:Nat)(l:List UInt8):FT c (some k) (.str l)=some (CSt.app c (some k) {val:= .byt l (.id (k+100)),tok:=true}):=rfl
theorem uL(i:SI)(dead:List Nat)(r:List RI):eH call sg (.own i dead::r) c=nxC call sg dead r (ow c i):=by rw[eH]
theorem GB(d:Option Nat)(x:Arg):ow c ⟨d,none,.s2b x⟩=GH c d (c.ev x):=rfl
theorem GC(d:Option Nat)(sz:Nat)(xs:List Arg):ow c ⟨d,none,.lit sz xs⟩=GE c sz d (rows sz (evL c xs)):=rfl
theorem yS(d:Option Nat)(xs:List Arg):ow c ⟨d,none,.litB xs⟩=kZ c d (toB (evL c xs)):=rfl
theorem GD(d:Option Nat)(z:List SV)(b:Nat)(x y:Arg):ow c ⟨d,none,.app z b x y⟩=nn c d z b y (c.ev x):=rfl
theorem uO(q:Dir)(r:List RI):eH call sg (.dir q::r) c=nxC call sg [] r (mX c q):=by rw[eH]
theorem jn(dead:List Nat)(r:List RI):nxC call sg dead r (some c)=eH call sg r (c.kill dead):=by rw[nxC]
theorem jo(dead:List Nat)(r:List RI):nxC call sg dead r none=none:=by rw[nxC]
theorem DZ:plC call sg [] c=some c:=by rw[plC]
theorem uQ(r:List SI):nxP call sg r (some c)=plC call sg r c:=by rw[nxP]
theorem uS(r:List SI):nxP call sg r none=none:=by rw[nxP]
theorem ON:unL c []=c:=rfl
theorem FK(g:Option (Nat×Bool))(o:SOp)(r:List SI):unL c (⟨d,g,o⟩::r)=unL (c.put d (.tup [])) r:=rfl
theorem Uu(b:Bool)(l:List SI):lX call sg b l c (.tup [])=some (unL c l):=rfl
theorem Uv(b t:Bool)(l:List SI):lX call sg b l c (.bool t)=if t=b then plC call sg l c else some (unL c l):=rfl
theorem QS(dead:List Nat)(r:List RI)(p:Prop)[Decidable p](a b:Option CSt):nxC call sg dead r (if p then a else b)=if p then nxC call sg dead r a else nxC call sg dead r b:=by split<;>rfl
theorem Ra(p:Prop)[Decidable p](l l':List (Nat×SV))(o:List (Nat×aA))(t:List Nat):(if p then some (CSt.mk l o t)else some (CSt.mk l' o t))=some (CSt.mk (if p then l else l') o t):=by split<;>rfl
theorem QZ(p:Prop)[Decidable p](n:Nat)(v w:SV)(l l':List (Nat×SV)):(if p then(n,v)::l else(n,w)::l')=(n,if p then v else w)::(if p then l else l'):=by split<;>rfl
theorem G6(p:Prop)[Decidable p]:(if p then([]:List (Nat×SV))else [])=[]:=by split<;>rfl
theorem y5{α:Type}(p:Prop)[Decidable p](a:α):(if p then a else a)=a:=by split<;>rfl
theorem y4(p:Prop)[Decidable p](q:IntKind)(a b:Int):(if p then SV.int q a else SV.int q b)= .int q (if p then a else b):=by split<;>rfl
theorem wA(p:Prop)[Decidable p](a b:Bool):(if p then SV.bool a else SV.bool b)= .bool (if p then a else b):=by split<;>rfl
theorem G5(p:Prop)[Decidable p](a b:UInt8):(if p then SV.u8 a else SV.u8 b)= .u8 (if p then a else b):=by split<;>rfl
theorem wC(t a b:Bool):ge t (.bool a) (.bool b)= .bool (if t=true then a else b):=by cases t<;>rfl
theorem y6(t:Bool)(q:IntKind)(a b:Int):ge t (.int q a) (.int q b)= .int q (if t=true then a else b):=by cases t<;>rfl
theorem G7(t:Bool)(a b:UInt8):ge t (.u8 a) (.u8 b)= .u8 (if t=true then a else b):=by cases t<;>rfl
theorem wB(a b:SV):ge true a b=a:=rfl
theorem rB(a b:SV):ge false a b=b:=rfl
variable {rn : RC -> CSt -> fx}
theorem yW(dead:List Nat):nrm dead (some c)=some (.n,c.kill dead):=rfl
theorem yX(dead:List Nat):nrm dead none=none:=rfl
theorem GS(dead:List Nat)(p:Prop)[Decidable p](a b:Option CSt):nrm dead (if p then a else b)=if p then nrm dead a else nrm dead b:=by split<;>rfl
theorem X3(b:RC):sq rn b (some (.n,c))=rn b c:=rfl
theorem X1(b:RC)(id:Nat):sq rn b (some (.x id,c))=some (.x id,c):=rfl
theorem X2(b:RC):sq rn b (some (.r,c))=some (.r,c):=rfl
theorem FW(b:RC):sq rn b none=none:=rfl
theorem OP(b:RC)(p:Prop)[Decidable p](x y:fx):sq rn b (if p then x else y)=if p then sq rn b x else sq rn b y:=by split<;>rfl
theorem UO(a b:RC)(t:Bool):cnd rn a b c (.bool t)=if t=true then rn a c else rn b c:=rfl
theorem UR(id:Nat):blk id (some (.n,c))=some (.n,c):=rfl
theorem UQ(id:Nat):blk id (some (.r,c))=some (.r,c):=rfl
theorem UP(id id':Nat):blk id (some (.x id',c))=if id'=id then some (.n,c)else some (.x id',c):=rfl
theorem zE(id:Nat):blk id none=none:=rfl
theorem HM(id:Nat)(p:Prop)[Decidable p](x y:fx):blk id (if p then x else y)=if p then blk id x else blk id y:=by split<;>rfl
theorem Yo(b:RC):lp rn b (some (.n,c))=rn (.loop b) c:=rfl
theorem Ym(b:RC)(id:Nat):lp rn b (some (.x id,c))=some (.x id,c):=rfl
theorem Yn(b:RC):lp rn b (some (.r,c))=some (.r,c):=rfl
theorem GV(b:RC):lp rn b none=none:=rfl
theorem QW(b:RC)(p:Prop)[Decidable p](x y:fx):lp rn b (if p then x else y)=if p then lp rn b x else lp rn b y:=by split<;>rfl
theorem yN(a:RC):prD rn a (some c)=rn a c:=rfl
theorem SZ(ds:List Dir):psD ds (some (.n,c))=prD (fun _ c=>some (.n,c)) .skip (gj c ds):=by simp only[psD];cases gj c ds<;>rfl
theorem SX(ds:List Dir)(id:Nat):psD ds (some (.x id,c))=some (.x id,c):=rfl
theorem SY(ds:List Dir):psD ds (some (.r,c))=some (.r,c):=rfl
theorem yM(ds:List Dir):psD ds none=none:=rfl
theorem Gz(ds:List Dir)(p:Prop)[Decidable p](x y:fx):psD ds (if p then x else y)=if p then psD ds x else psD ds y:=by split<;>rfl
theorem zm:gj c []=some c:=rfl
def Xv(ds:List Dir):Option CSt->Option CSt
 |some c=>gj c ds
 |none=>none
theorem wV(q:Dir)(ds:List Dir):gj c (q::ds)=Xv ds (mX c q):=by simp only[gj];cases mX c q<;>rfl
theorem wW(ds:List Dir):Xv ds (some c)=gj c ds:=rfl
theorem UC(F:FnC)(n:Nat):xP F n (some (.n,c))=Ec F.keep F.raw n c (nl c F.rs):=rfl
theorem UB(F:FnC)(n:Nat):xP F n (some (.r,c))=Ec F.keep F.raw n c (nl c F.rs):=rfl
theorem Hm(F:FnC)(n:Nat)(p:Prop)[Decidable p](x y:fx):xP F n (if p then x else y)=if p then xP F n x else xP F n y:=by split<;>rfl
theorem zy(sg:Sig)(g:Nat)(as:List SV):fU call sg c d g as=iv call sg c d g as ((SV.idsL as).isEmpty&&sg.own.isEmpty):=rfl
theorem HJ(sg:Sig)(g:Nat)(as:List SV):iv call sg c d g as true=j2 c d (call g (SV.bareL as) [] 0):=rfl
theorem HK(sg:Sig)(g:Nat)(as:List SV):iv call sg c d g as false=ip call sg d g (dO c as (gI sg.raw 0 as)):=rfl
theorem Ho(q:dp):j2 c d (some q)=la c d q q.bare:=rfl
theorem Hq(q:dp):la c d q true=some (c.put d q.r):=rfl
theorem Hr(q:dp):la c d q false=rJ c d q q.small:=rfl
theorem Hp(q:dp):rJ c d q true=some (iw c d [] [] q):=rfl
theorem HP(r:SV)(os:List (Nat×aA))(tk:List Nat):(dp.mk r os tk).bare=(os.isEmpty&&tk.isEmpty&&r.ids.isEmpty&&r.toks.isEmpty):=rfl
theorem yf(r:SV)(os:List (Nat×aA))(tk:List Nat):(dp.mk r os tk).small=(os.all (fun p=>decide (p.1<1000)&&p.2.ids.all (fun k=>decide (k<1000))&&p.2.toks.all (fun k=>decide (k<1000)))&&r.ids.all (fun k=>decide (k<1000))&&r.toks.all (fun k=>decide (k<1000))&&tk.all (fun k=>decide (k<1000))):=rfl
theorem FX(sg:Sig)(g:Nat)(as:List SV):ip call sg d g (c,as)=kT call c d g (iy c.tk sg.own 50 0 as):=rfl
theorem F5(g:Nat)(as:List SV)(mt1:List (Option Nat)):kT call c d g (as,mt1)=jv call c d g as mt1 (de c 60 [] (SV.idsL as)) (fk c (de c 60 [] (SV.idsL as))):=rfl
theorem F2(g:Nat)(as:List SV)(mt1:List (Option Nat))(m:List Nat)(os:List aA):jv call c d g as mt1 m (some os)=kS call c d g as mt1 m (du c.tk (50+mt1.length) os):=rfl
theorem F1(g:Nat)(as:List SV)(mt1:List (Option Nat))(m:List Nat)(os:List aA)(mt2:List (Option Nat)):kS call c d g as mt1 m (os,mt2)=
 kR call c d g as mt1 m os mt2 (lr (SV.idsL as++eE os) m&&cQ m&&cQ (bN (mt1++mt2))&&decide (m.length<=40)&&m.all fun o=> !inR (d.getD 0) o):=rfl
theorem F0(g:Nat)(as:List SV)(mt1:List (Option Nat))(m:List Nat)(os:List aA)(mt2:List (Option Nat)):kR call c d g as mt1 m os mt2 true=
 lx c d m (bN (mt1++mt2)) (call g (SV.renL (ft m) id as) (dy (ft m) id os) (mt1.length+mt2.length)):=rfl
theorem FZ(m mt:List Nat)(q:dp):lx c d m mt (some q)=qS c d m mt q q.small:=rfl
theorem FY(m mt:List Nat)(q:dp):qS c d m mt q true=some (iw c d m mt q):=rfl
theorem Rq(keep raw:List Nat)(vs:List SV):Ec keep raw k c (some vs)=Hn keep k (dO c vs (gI raw 0 vs)):=rfl
theorem Rj(keep:List Nat)(vs:List SV):Hn keep k (c,vs)=Eb keep k c vs (decide (k=0)&&(SV.idsL vs).isEmpty&&keep.isEmpty):=rfl
theorem Ro(keep:List Nat)(vs:List SV):Eb keep k c vs true=some ⟨hU (SV.bareL vs),[],[]⟩:=rfl
theorem Rp(keep:List Nat)(vs:List SV):Eb keep k c vs false=MU k c (iy c.tk keep 60 0 vs):=rfl
theorem Rn(vs:List SV)(mt1:List (Option Nat)):MU k c (vs,mt1)=MT k c vs mt1 (de c 60 [] (jg k++SV.idsL vs)) (fk c (de c 60 [] (jg k++SV.idsL vs))):=rfl
theorem Rm(vs:List SV)(mt1:List (Option Nat))(m:List Nat)(os:List aA):MT k c vs mt1 m (some os)=MS k vs mt1 m (du c.tk (60+mt1.length) os):=rfl
theorem Rl(vs:List SV)(mt1:List (Option Nat))(m:List Nat)(os:List aA)(mt2:List (Option Nat)):MS k vs mt1 m (os,mt2)=
 MR k vs mt1 m os mt2 (lr (SV.idsL vs++eE os) m&&cQ m&&cQ (bN (mt1++mt2))&&decide (m.take k=jg k)&&(m.drop k).all fun o=>decide (k<=o)):=rfl
theorem Rk(vs:List SV)(mt1:List (Option Nat))(m:List Nat)(os:List aA)(mt2:List (Option Nat)):MR k vs mt1 m os mt2 true=
 some ⟨(hU vs).ren (fG k m) id,(eP 0 (dy (fG k m) id (os.take k)))++(eP (100+k) (dy (fG k m) id (os.drop k))),tks 60 (mt1.length+mt2.length)⟩:=rfl
theorem GJ(v:SV):hU [v]=v:=rfl
theorem GI(v w:SV)(r:List SV):hU (v::w::r)= .tup (v::w::r):=rfl
theorem GK:hU []= .tup []:=rfl
theorem yn(raw:List Nat)(i:Nat)(q:IntKind)(n:Int):j8 raw i (.int q n)=[]:=rfl
theorem vJ(raw:List Nat)(i:Nat)(b:Bool):j8 raw i (.bool b)=[]:=rfl
theorem F8(raw:List Nat)(i:Nat)(b:UInt8):j8 raw i (.u8 b)=[]:=rfl
theorem yj(raw:List Nat)(i:Nat)(l:List UInt8):j8 raw i (.str l)=[]:=rfl
theorem yo(raw:List Nat)(i:Nat)(l:List UInt8)(t:Tok):j8 raw i (.byt l t)=[]:=rfl
theorem ym(raw:List Nat)(i sz:Nat)(l:List (List SV))(t:Tok):j8 raw i (.lst sz l t)=[]:=rfl
theorem vH(raw:List Nat)(i:Nat):j8 raw i .nilp=[]:=rfl
theorem vI(raw:List Nat)(i:Nat):j8 raw i .nili=[]:=rfl
theorem qW(raw:List Nat)(i:Nat):j8 raw i .undef=[]:=rfl
theorem F9(raw:List Nat)(i:Nat)(l:List SV):j8 raw i (.pp l)=[]:=rfl
theorem yk(raw:List Nat)(i o off:Nat):j8 raw i (.ptr o off)=[]:=rfl
theorem Gb(raw:List Nat)(i o sz a b:Nat):j8 raw i (.ap o sz a b)=[]:=rfl
theorem yq(raw:List Nat)(i:Nat)(l:List SV):j8 raw i (.agg l)=if raw.contains i=true then []else o4 l:=rfl
theorem vS:o4 []=[]:=rfl
theorem q6(v:SV)(r:List SV):o4 (v::r)=fD v++o4 r:=rfl
theorem vP(q:IntKind)(n:Int):fD (.int q n)=[]:=rfl
theorem qZ(b:Bool):fD (.bool b)=[]:=rfl
theorem yr(b:UInt8):fD (.u8 b)=[]:=rfl
theorem vL(l:List UInt8):fD (.str l)=[]:=rfl
theorem vQ(l:List UInt8)(t:Tok):fD (.byt l t)=[]:=rfl
theorem vO(sz:Nat)(l:List (List SV))(t:Tok):fD (.lst sz l t)=[]:=rfl
theorem qX:fD .nilp=[]:=rfl
theorem qY:fD .nili=[]:=rfl
theorem pw:fD .undef=[]:=rfl
theorem yu(l:List SV):fD (.pp l)=[]:=rfl
theorem vM(o off:Nat):fD (.ptr o off)=[]:=rfl
theorem yw(o sz a b:Nat):fD (.ap o sz a b)=[]:=rfl
theorem vR(l:List SV):fD (.agg l)=[]:=rfl
theorem vK(l:List SV):fD (.tup l)=[]:=rfl
theorem yv(f:Nat)(a b:List SV):fD (.fn f a b)=[]:=rfl
theorem vN(o sz off n:Nat)(m:Option Nat):fD (.psl o sz off n m)=[o]:=rfl
theorem yi(raw:List Nat)(i:Nat)(l:List SV):j8 raw i (.tup l)=[]:=rfl
theorem Ga(raw:List Nat)(i f:Nat)(a b:List SV):j8 raw i (.fn f a b)=[]:=rfl
theorem yl(raw:List Nat)(i o sz off n:Nat)(m:Option Nat):j8 raw i (.psl o sz off n m)=if raw.contains i=true then []else [o]:=rfl
theorem Hd(p:Prop)[Decidable p](a b v:SV):ge (decide p) (if p then a else b) v=ge (decide p) a v:=by by_cases h:p<;>simp[ge,h]
theorem Hc(p:Prop)[Decidable p](a b v:SV):ge (decide p) v (if ¬p then a else b)=ge (decide p) v a:=by by_cases h:p<;>simp[ge,h]
theorem G9(t:Bool)(a b v:SV):ge t (if t=true then a else b) v=ge t a v:=by cases t<;>simp[ge]
theorem G8(t:Bool)(a b v:SV):ge t v (if t=false then a else b)=ge t v a:=by cases t<;>simp[ge]
theorem Hb(t:Bool)(a b v:SV):ge (!t) (if t=false then a else b) v=ge (!t) a v:=by cases t<;>simp[ge]
theorem Ha(t:Bool)(a b v:SV):ge (!t) v (if t=true then a else b)=ge (!t) v a:=by cases t<;>simp[ge]
theorem HO(p q:Prop)[Decidable p][Decidable q]:(if p then decide q else false)=decide (p/\q):=by by_cases h:p<;>simp[h]
theorem RB(p q:Prop)[Decidable p][Decidable q]:(if p then true else decide q)=decide (p\/q):=by by_cases h:p<;>simp[h]
theorem HR(v:SV):c.app d {val:=v}=c.put d v:=rfl
theorem HS(l:List (Nat×SV))(ob:List (Nat×aA))(t:List Nat)(o:aA)(v:SV):
 CSt.app ⟨l,ob,t⟩ (some k) {val:=v,new:=some o}=⟨hJ (cE (k+100) (k+101) l) k v,gy (bn (k+100) (k+101) ob) (k+100) (o.purge (k+100) (k+101)),bP (k+100) (k+101) t⟩:=rfl
theorem RH(l:List (Nat×SV))(ob:List (Nat×aA))(t:List Nat)(v:SV)(p:Nat×aA):CSt.app ⟨l,ob,t⟩ d {val:=v,wr:=[p]}=CSt.put ⟨l,gy ob p.1 p.2,t⟩ d v:=rfl
theorem zp(l:List (Nat×SV))(ob:List (Nat×aA))(t:List Nat)(p:SV×Nat×aA):cpS ⟨l,ob,t⟩ d (some p)=some (CSt.put ⟨l,gy ob p.2.1 p.2.2,t⟩ d p.1):=rfl
theorem yY(z:List SV)(p:Nat×Nat):mkS c k z (some p)=some (vj c k (.arr z.length (az p.2 z)) (.psl (k+100) z.length 0 p.1 (some p.2))):=rfl
theorem wq(p:Nat×Nat):Xh c k (some p)=some (vj c k (.bar (az p.2 0)) (.psl (k+100) 1 0 p.1 (some p.2))):=rfl
theorem Sc(x:Arg):cB c (.mov x)=some (c.ev x):=by simp only[cB];rw[Ss]
theorem Fw(z:List SV)(ps:List (Nat×Nat×Arg)):cB c (.build z ps)=ph (gr z (psC c ps)):=by simp only[cB];rw[tG]
theorem Sd(sz:Nat)(xs:List Arg):cB c (.lit sz xs)=MJ sz (rows sz (evL c xs)):=by simp only[cB];rw[Ic]
theorem Ow(xs:List Arg):cB c (.litB xs)=xC (toB (evL c xs)):=by simp only[cB];rw[zM]
theorem Ov(n:Nat)(ag:Bool)(a:Arg):cB c (.load n ag a)=j0 c n ag (c.ev a):=by simp only[cB];rw[OH]
theorem Oo(x:Arg):cB c (.nchk x)=xy (c.ev x):=by simp only[cB];rw[OD]
theorem Sk(op:BinOp)(x y:Arg):cB c (.bin op x y)=xQ op (c.ev x) (c.ev y):=by simp only[cB];rw[Sz]
theorem Sl(ne:Bool)(x y:Arg):cB c (.beq ne x y)=M1 ne (c.ev x) (c.ev y):=by simp only[cB];rw[SA]
theorem Sh(ne:Bool)(ts:List Nat)(x y:Arg):cB c (.eqS ne ts x y)=MZ ne ts (c.ev x) (c.ev y):=by simp only[cB];rw[Sw]
theorem XS(op:UnOp)(x:Arg):cB c (.un op x)=qD op (c.ev x):=by simp only[cB];rw[XX]
theorem Fu(q:IntKind)(x:Arg):cB c (.toInt q x)=fN q (c.ev x):=by simp only[cB];rw[FH]
theorem Ft(x:Arg):cB c (.toStr x)=oY (c.ev x):=by simp only[cB];rw[FG]
theorem Oy(ne:Bool)(x:Arg):cB c (.isni ne x)=xD ne (c.ev x):=by simp only[cB];rw[OJ]
theorem Sb(x:Arg):cB c (.s2b x)=Ik (c.ev x):=by simp only[cB];rw[Sp]
theorem Sm(x:Arg):cB c (.b2s x)=M2 c (c.ev x):=by simp only[cB];rw[SB]
theorem Oq(f:Nat)(a b:List Arg):cB c (.mkfn f a b)=some (.fn f (evL c a) (evL c b)):=by simp only[cB];rw[OE]
theorem Ok(x:Arg)(lo hi:Option Arg):cB c (.slcS x lo hi)=xj c lo hi (c.ev x):=by simp only[cB];rw[zL]
theorem Ol(sz:Nat)(x:Arg)(lo hi mx:Option Arg):cB c (.slcL sz x lo hi mx)=lg c sz (c.ev x) lo hi mx:=by simp only[cB];rw[OB]
theorem Om(len sz:Nat)(x:Arg)(lo hi mx:Option Arg):cB c (.slcA len sz x lo hi mx)=xk c len sz lo hi mx (c.ev x):=by simp only[cB];rw[OC]
theorem Fv(off:Nat)(x:Arg):cB c (.faddr off x)=pe off (c.ev x):=by simp only[cB];rw[FJ]
theorem Sf(off n:Nat)(ag:Bool)(x:Arg):cB c (.fld off n ag x)=MQ off n ag (c.ev x):=by simp only[cB];rw[Su]
theorem xY(sz:Nat)(x i:Arg):cB c (.iaddrL sz x i)=lW sz (c.ev x) (c.ev i).num:=by simp only[cB];rw[x5]
theorem xZ(len sz:Nat)(x i:Arg):cB c (.iaddrA len sz x i)=km c len sz (c.ev x) (c.ev i).num:=by simp only[cB];rw[pG]
theorem OA(len sz:Nat)(ag:Bool)(x i:Arg):cB c (.idxA len sz ag x i)=xG len sz ag (c.ev x) (c.ev i).num:=by simp only[cB];rw[OL]
theorem Oz(x i:Arg):cB c (.idxS x i)=xF (c.ev x) (c.ev i).num:=by simp only[cB];rw[OK]
theorem Sg(x:Arg)(i:Nat):cB c (.ext x i)=MY i (c.ev x):=by simp only[cB];rw[Sv]
theorem Se(b:Bool)(x:Arg):cB c (.len b x)=lenC (iu b (c.ev x)):=by simp only[cB];rw[Ie]
theorem Ox(n:Nat):cB c (.lenC n)=some (.int .i64 n):=by simp only[cB];rw[OI]
theorem Sj(x:Arg):cB c (.cap x)=M0 (c.ev x):=by simp only[cB];rw[Sx]
theorem Ot(x y:Arg):cB c (.mini x y)=xA (c.ev x) (c.ev y):=by simp only[cB];rw[OF]
theorem Ou(x y:Arg):cB c (.maxi x y)=xB (c.ev x) (c.ev y):=by simp only[cB];rw[OG]
theorem On(q a b:Arg):cB c (.pick q a b)=xx (c.ev a) (c.ev b) (c.ev q):=by simp only[cB];cases c.ev q<;>rfl
theorem Yf(o:SOp):qv c ⟨d,none,o⟩=cB c o:=rfl
theorem Ye(g:Nat)(b:Bool)(o:SOp):qv c ⟨d,some (g,b),o⟩=qg c o b (c.get g):=rfl
theorem Yh(b t:Bool)(o:SOp):qg c o b (.bool t)=if t=b then cB c o else some (.tup []):=rfl
theorem Yg(b:Bool)(o:SOp):qg c o b (.tup [])=some (.tup []):=rfl
def stG(call:cA)(sg:Nat->Sig)(c:CSt)(d:Option Nat)(o:SOp)(b:Bool):SV->Option CSt
 | .bool t=>if t=b then opC call sg c d o else some (c.put d (.tup []))
 | .tup []=>some (c.put d (.tup []))
 |_=>none
theorem OV(g:Nat)(b:Bool)(o:SOp):dd call sg c ⟨d,some (g,b),o⟩=stG call sg c d o b (c.get g):=by unfold dd stG;rfl
theorem SG(b t:Bool)(o:SOp):stG call sg c d o b (.bool t)=if t=b then opC call sg c d o else some (c.put d (.tup [])):=rfl
theorem SF(b:Bool)(o:SOp):stG call sg c d o b (.tup [])=some (c.put d (.tup [])):=rfl
theorem Rh(b:List Nat)(ps:List FI):dY call sg b [] ps c=some c:=by rw[dY]
theorem YF(b:List Nat)(n:Nat)(i:SI)(r ps:List FI):dY call sg b (⟨n,true,i⟩::r) ps c=ql call sg b r (⟨n,true,i⟩::ps) c i.dst (qv c i):=by rw[dY]
theorem YG(b:List Nat)(n:Nat)(i:SI)(r ps:List FI):dY call sg b (⟨n,false,i⟩::r) ps c=mU call sg b r ps (b.getD n 0) (dd call sg c i):=by rw[dY]
theorem YD(b:List Nat)(r ps:List FI)(v:SV):ql call sg b r ps c d (some v)=dY call sg b r ps (c.put d v):=by rw[ql]
theorem YE(b:List Nat)(r ps:List FI)(m:Nat):mU call sg b r ps m (some c)=mV call sg b r ps (gdP (oB m c ps) c):=by rw[mU]
theorem YH(b:List Nat)(r ps:List FI):mV call sg b r ps (some c)=dY call sg b r ps c:=by rw[mV]
theorem Hh{α:Type}{p:Prop}(v:α)(h:p):gdP p v=some v:=by unfold gdP;exact if_pos h
theorem UW(b:List Nat)(l:List FI)(p:List Nat):gN call sg b l [p] c=dY call sg b (gk l p) [] c:=by rw[gN]
theorem UV(b:List Nat)(l:List FI)(p q:List Nat)(r:List (List Nat)):gN call sg b l (p::q::r) c=lb (dY call sg b (gk l p) [] c) (gN call sg b l (q::r) c):=by rw[gN]
theorem Zp(a a':CSt):lb (some a) (some a')=gdP (a=a') a:=rfl
theorem Ri(m:Nat):oB m c []=True:=rfl
theorem Hl(m:Nat)(p:FI)(r:List FI):oB m c (p::r)=((m/2^p.n % 2=1\/qv c p.i=some (c.get (p.i.dst.getD 0)))/\oB m c r):=rfl
end Go.Sy
namespace Go.Sy
variable [aU]
theorem nE{n:Nat}:∀{l:List (Nat×SV)},(∀p∈l,p.1≠n)->dD l n= .undef
 |[],_=>rfl
 |p::r,h=>by simp only[dD];rw[if_neg (h p (aB ..))];exact nE fun q hq=>h q (an _ hq)
theorem j1(n:Nat)(v:SV)(m:Nat):∀l:List (Nat×SV),dD (hJ l n v) m=if m=n then v else dD l m
 |[]=>by simp only[hJ,dD];by_cases h:n=m<;>simp[h,eq_comm]
 |p::r=>by
  simp only[hJ];split
  ·simp only[dD]
   by_cases h:n=m
   ·simp[h]
   ·rw[if_neg h,if_neg (Ne.symm h)]
  ·split
   ·rename_i h1 h2
    simp only[dD]
    by_cases h:n=m
    ·simp[h]
    ·rw[if_neg h,if_neg (Ne.symm h),if_neg (by omega)]
   ·rename_i h1 h2
    simp only[dD,j1 n v m r]
    by_cases h:p.1=m
    ·rw[if_pos h,if_pos h,if_neg (by omega)]
    ·rw[if_neg h,if_neg h]
theorem jZ{n:Nat}{v:SV}{p:Nat×SV}:∀{l:List (Nat×SV)},p∈hJ l n v->p=(n,v)\/p∈l
 |[],h=>by simpa[hJ]using h
 |q::r,h=>by
  simp only[hJ]at h;split at h
  ·rcases am.1 h with h|h
   ·exact .inl h
   ·exact .inr h
  ·split at h
   ·rcases am.1 h with h|h
    ·exact .inl h
    ·exact .inr (an _ h)
   ·rcases am.1 h with h|h
    ·exact .inr (h ▸ aB ..)
    ·rcases jZ h with h|h
     ·exact .inl h
     ·exact .inr (an _ h)
theorem eW(lo hi n:Nat):∀l:List (Nat×SV),dD (cE lo hi l) n=(dD l n).purge lo hi
 |[]=>by simp[cE,dD,SV.purge]
 |p::r=>by
  simp only[cE,dD];split
  ·rfl
  ·exact eW lo hi n r
theorem h9{lo hi:Nat}{p:Nat×SV}:∀{l:List (Nat×SV)},p∈cE lo hi l->∃q∈l,p.1=q.1
 |q::r,h=>by
  simp only[cE]at h;rcases am.1 h with h|h
  ·exact⟨q,aB ..,by rw[h]⟩
  ·obtain⟨u,h1,h2⟩:=h9 h
   exact⟨u,an _ h1,h2⟩
theorem mh{k:List Nat}{p:Nat×SV}:∀{l:List (Nat×SV)},p∈qu l k->p∈l
 |q::r,h=>by
  simp only[qu]at h;split at h
  ·exact an _ (mh h)
  ·rcases am.1 h with h|h
   ·exact h ▸ aB ..
   ·exact an _ (mh h)
theorem mq(k:List Nat)(n:Nat):∀l:List (Nat×SV),dD (qu l k) n=if k.contains n=true then .undef else dD l n
 |[]=>by simp[qu,dD]
 |p::r=>by
  simp only[qu,dD];split
  ·rename_i h
   rw[mq k n r]
   by_cases hp:p.1=n
   ·subst hp;rw[if_pos h,if_pos h]
   ·rw[if_neg hp]
  ·rename_i h
   simp only[dD,mq k n r]
   by_cases hp:p.1=n
   ·subst hp;rw[if_pos rfl,if_neg h,if_pos rfl]
   ·rw[if_neg hp,if_neg hp]
theorem mr(n:Nat)(v:aA)(m:Nat):∀l:List (Nat×aA),gp (gy l n v) m=if m=n then some v else gp l m
 |[]=>by simp only[gy,gp];by_cases h:n=m<;>simp[h,eq_comm]
 |p::r=>by
  simp only[gy];split
  ·simp only[gp]
   by_cases h:n=m
   ·simp[h]
   ·rw[if_neg h,if_neg (Ne.symm h)]
  ·split
   ·rename_i h1 h2
    simp only[gp]
    by_cases h:n=m
    ·simp[h]
    ·rw[if_neg h,if_neg (Ne.symm h),if_neg (by omega)]
   ·rename_i h1 h2
    simp only[gp,mr n v m r]
    by_cases h:p.1=m
    ·rw[if_pos h,if_pos h,if_neg (by omega)]
    ·rw[if_neg h,if_neg h]
theorem iQ{n:Nat}{v:aA}{p:Nat×aA}:∀{l:List (Nat×aA)},p∈gy l n v->p=(n,v)\/p∈l
 |[],h=>by simpa[gy]using h
 |q::r,h=>by
  simp only[gy]at h;split at h
  ·rcases am.1 h with h|h
   ·exact .inl h
   ·exact .inr h
  ·split at h
   ·rcases am.1 h with h|h
    ·exact .inl h
    ·exact .inr (an _ h)
   ·rcases am.1 h with h|h
    ·exact .inr (h ▸ aB ..)
    ·rcases iQ h with h|h
     ·exact .inl h
     ·exact .inr (an _ h)
theorem oZ{n:Nat}{v:aA}:∀{l:List (Nat×aA)},(l.map bY).Pairwise (· < ·)->((gy l n v).map bY).Pairwise (· < ·)
 |[],_=>by simp[gy]
 |p::r,h=>by
  have h0:=h;simp only[aD,dl]at h;simp only[gy];split
  ·rename_i h1
   rw[aD,dl];refine⟨fun k hk=> ?_,h0⟩;rw[aD]at hk;rcases am.1 hk with e|e
   ·omega
   ·have:=h.1 k e;omega
  ·split
   ·rename_i h1 h2
    rw[aD,dl];exact⟨fun k hk=>by have:=h.1 k hk;omega,h.2⟩
   ·rename_i h1 h2
    rw[aD,dl];refine⟨fun k hk=> ?_,oZ h.2⟩;obtain⟨q,hq,rfl⟩:=aM.1 hk;rcases iQ hq with e|e
    ·rw[e];show p.1<n;omega
    ·exact h.1 _ (fY e)
theorem gU{l:List (Nat×aA)}{n:Nat}{v:aA}(h:gp l n=some v):(n,v)∈l:=by
 induction l with
 |nil=>cases h
 |cons p r ih=>
  simp only[gp]at h;split at h
  ·rename_i hp
   cases h;subst hp;exact aB ..
  ·exact an _ (ih h)
theorem gS:∀{l:List (Nat×aA)},(l.map bY).Nodup->∀{p:Nat×aA},p∈l->gp l p.1=some p.2
 |q::r,hn,p,h=>by
  simp only[aD,cZ]at hn;simp only[gp];rcases am.1 h with e|e
  ·subst e;rw[if_pos rfl]
  ·rw[if_neg (fun e2=>hn.1 (by rw[e2];exact fY e))]
   exact gS hn.2 e
theorem gP{l:List (Nat×aA)}(h:(l.map bY).Pairwise (· < ·)):(l.map bY).Nodup:=h.imp fun h=>Nat.ne_of_lt h
theorem gh(o:Nat):∀l:List (Nat×aA),l.lookup o=gp l o
 |[]=>rfl
 |p::r=>by
  simp only[List.lookup,gp]
  by_cases h:o=p.1
  ·rw[if_pos h.symm];simp[h]
  ·have:(o==p.1)=false:=by simpa using h
   rw[this,if_neg (Ne.symm h)];exact gh o r
theorem ig(lo hi o:Nat):∀l:List (Nat×aA),gp (bn lo hi l) o=if lo<=o/\o<hi then none else(gp l o).map (aA.purge lo hi)
 |[]=>by simp[bn,gp]
 |p::r=>by
  simp only[bn,gp];split
  ·rename_i hp
   rw[ig lo hi o r]
   by_cases h:p.1=o
   ·subst h;rw[if_pos hp,if_pos hp]
   ·rw[if_neg h]
  ·rename_i hp
   simp only[gp,ig lo hi o r]
   by_cases h:p.1=o
   ·subst h;rw[if_pos rfl,if_neg hp,if_pos rfl];rfl
   ·rw[if_neg h,if_neg h]
theorem pL{lo hi:Nat}{l:List (Nat×aA)}(h:(l.map bY).Pairwise (· < ·)):((bn lo hi l).map bY).Pairwise (· < ·):=by rw[dM];exact h.filter _
theorem iR{n t:Nat}:∀{l:List Nat},t∈kd l n↔t=n\/t∈l
 |[]=>by simp[kd]
 |p::r=>by
  simp only[kd];split
  ·simp
  ·split
   ·rename_i h;subst h;simp
   ·simp only[am,iR]
    constructor
    ·rintro(h|h|h)
     ·exact .inr (.inl h)
     ·exact .inl h
     ·exact .inr (.inr h)
    ·rintro(h|h|h)
     ·exact .inr (.inl h)
     ·exact .inl h
     ·exact .inr (.inr h)
theorem mb{lo hi:Nat}{o:aA}(h:o.wf=true):(o.purge lo hi).wf=true:=by cases o<;>simpa[aA.purge,aA.wf]using h
def CSt.st(N:Nat)(c:CSt):St:=⟨(bw N).map c.get,c.ob,c.tk⟩
structure Inv(N:Nat)(c:CSt):Prop where
 dom:∀p∈c.tm,p.1<N
 so:(c.ob.map bY).Pairwise (· < ·)
 wf:∀p∈c.ob,p.2.wf=true
structure Sim(N:Nat)(c:CSt)(s:St):Prop where
 inv:Inv N c
 tm:s.tm=(bw N).map c.get
 look:∀o,s.look o=c.look o
 tk:∀t,t∈s.tk↔t∈c.tk
variable {N : Nat} {c : CSt} {s : St}
theorem Inv.get(h:Inv N c){n:Nat}(hn:N<=n):c.get n= .undef:=nE fun p hp e=>by have:=h.dom p hp;omega
theorem Sim.of(h:Inv N c):Sim N c (c.st N):=⟨h,rfl,fun o=>gh o c.ob,fun _=>Iff.rfl⟩
theorem Sim.get(h:Sim N c s)(n:Nat):s.get n=c.get n:=by
 unfold St.get;rw[h.tm,aa,aI];rcases bQ n N with hn|hn
 ·rw[bE hn];rfl
 ·rw[dE (by simpa using hn),h.inv.get hn];rfl
theorem Sim.ev(h:Sim N c s)(a:Arg):s.ev a=c.ev a:=by
 cases a with
 |t n=>exact h.get n
 |c v=>rfl
 |f g=>rfl
theorem Sim.evL(h:Sim N c s)(l:List Arg):Sy.evL c l=l.map s.ev:=by
 induction l with
 |nil=>rfl
 |cons a r ih=>simp only[Sy.evL,aD,ih,h.ev]
theorem Sim.lookmem(h:Sim N c s){o:Nat}{ob:aA}(hl:c.look o=some ob):ob.wf=true:=h.inv.wf _ (gU hl)
theorem Sim.rows(h:Sim N c s){o sz:Nat}{xs:List (List SV)}(hl:c.look o=some (.arr sz xs)):∀x∈xs,x.length=sz:=by have:=h.lookmem hl;simpa[aA.wf]using this
theorem Inv.put(h:Inv N c){d:Option Nat}(hd:∀k,d=some k->k<N)(v:SV):Inv N (c.put d v):=by
 cases d with
 |none=>exact h
 |some k=>
  refine⟨fun p hp=> ?_,h.so,h.wf⟩;rcases jZ hp with e|e
  ·rw[e];exact hd k rfl
  ·exact h.dom p e
theorem fw(c:CSt)(k:Nat)(v:SV)(n:Nat):(c.put (some k) v).get n=if n=k then v else c.get n:=j1 k v n c.tm
theorem Sim.put(h:Sim N c s){d:Option Nat}(hd:∀k,d=some k->k<N)(v:SV):Sim N (c.put d v) (s.put d v):=by
 cases d with
 |none=>exact h
 |some k=>
  refine⟨h.inv.put hd v, ?_,h.look,h.tk⟩;show s.tm.set k v=_;rw[h.tm];apply List.ext_getElem?;intro i;rw[fj,aI,aI];rcases bQ i N with hi|hi
  ·rw[bE hi]
   simp only[bf,fw,aK,List.length_range]
   by_cases hk:k=i
   ·rw[if_pos hk,if_pos (by omega),if_pos hk.symm]
   ·rw[if_neg hk,if_neg (Ne.symm hk)]
  ·rw[dE (l:=bw N) (by simpa using hi)]
   have:=hd k rfl;rw[if_neg (by omega)];rfl
theorem bv{α:Type}{p:Prop}[Decidable p]{v u:α}(h:gd p v=some u):p/\v=u:=by
 unfold gd at h;split at h
 ·rename_i hp;cases h;exact⟨hp,rfl⟩
 ·cases h
theorem y8{op:BinOp}{k:IntKind}{a b:Int}{v:SV}(h:rC op k a b=some v)(hs:kj op=false):∃p,He op k a b=some (p,v)/\p:=by
 cases op<;>simp only[rC]at h<;>first
  |(cases hs;done)
  |(obtain⟨h1,rfl⟩:=bv h;exact⟨_,rfl,h1⟩)
  |(cases h;exact⟨True,rfl,trivial⟩)
theorem HN{op:BinOp}{a b v:SV}(h:xQ op a b=some v):∃p,rQ op a b=some (p,v)/\p:=by
 unfold xQ at h;split at h
 ·rename_i k a k' b
  split at h
  ·rename_i hc
   by_cases hs:kj op=true
   ·cases op<;>first
     |(cases hs;done)
     |(simp only[rC]at h;obtain⟨h1,rfl⟩:=bv h;exact⟨_,rfl,h1⟩)
   ·have hs':kj op=false:=by simpa using hs
    have hk:k=k':=hc.resolve_left hs;obtain⟨p,h1,h2⟩:=y8 h hs';refine⟨p, ?_,h2⟩;subst hk;cases op<;>first|(cases hs';done)|(simp only[rQ,if_true];exact h1)
  ·cases h
 ·rename_i a k b
  show ∃p,Ig op a b=some (p,v)/\p
  cases op<;>simp only[Es]at h<;>first
   |(cases h;done)
   |(obtain⟨h1,rfl⟩:=bv h;exact⟨_,rfl,h1⟩)
 ·rename_i a b
  show ∃p,xh op a b=some (p,v)/\p
  cases op<;>simp only[r8]at h<;>first
   |(cases h;done)
   |(obtain⟨h1,rfl⟩:=bv h;exact⟨_,rfl,h1⟩)
   |(cases h;exact⟨True,rfl,trivial⟩)
 ·rename_i a b
  show ∃p,Ij op a b=some (p,v)/\p
  cases op<;>simp only[Ev]at h<;>first
   |(cases h;done)
   |(obtain⟨h1,rfl⟩:=bv h;exact⟨_,rfl,h1⟩)
   |(cases h;exact⟨True,rfl,trivial⟩)
 ·cases h
theorem qe(hS:Sim N c s){n:Nat}{ag:Bool}{u v:SV}(h:j0 c n ag u=some v):∃p,gn s n ag u=some (p,v)/\p:=by
 cases u with
 |pp cs=>obtain⟨h1,rfl⟩:=bv h;exact⟨_,rfl,h1⟩
 |ptr o off=>
  simp only[j0]at h;simp only[gn,hS.look];split at h
  ·rename_i cs hl;rw[hl];obtain⟨h1,rfl⟩:=bv h;exact⟨_,rfl,h1⟩
  ·rename_i sz xs hl;rw[hl];obtain⟨⟨h1,h2⟩,rfl⟩:=bv h;subst h1;exact⟨_,rfl,h2,hS.rows hl⟩
  ·rename_i l hl;rw[hl];obtain⟨⟨h1,h2⟩,rfl⟩:=bv h;subst h1;exact⟨_,rfl,h2⟩
  ·cases h
 |ap o sz i j=>
  simp only[j0]at h;simp only[gn,hS.look];split at h
  ·rename_i sz' xs hl
   rw[hl];obtain⟨⟨h1,h2,h3⟩,rfl⟩:=bv h;refine⟨_,rfl,h1,h2,h3, ?_⟩;rw[aa,ab h2,h1];exact hS.rows hl _ (bd _)
  ·rename_i l hl;rw[hl];obtain⟨h1,rfl⟩:=bv h;exact⟨_,rfl,h1⟩
  ·cases h
 |_=>cases h
theorem kf(hS:Sim N c s)(x:Option Arg)(n:Int):gl s x n=iP c x n:=by
 cases x with
 |none=>rfl
 |some a=>simp only[gl,iP,hS.ev]
theorem tP(hS:Sim N c s){sz:Nat}{u v:SV}{lo hi mx:Option Arg}(h:lg c sz u lo hi mx=some v):∃p,g8 s sz u lo hi mx=some (p,v)/\p:=by
 cases u with
 |byt l t=>
  simp only[lg]at h;simp only[g8,kf hS];split at h<;>try (cases h;done)
  rename_i a b m h1 h2 h3;rw[h1,h2,h3];obtain⟨h4,rfl⟩:=bv h;exact⟨_,rfl,h4⟩
 |lst sz' l t=>
  simp only[lg]at h;simp only[g8,kf hS];split at h<;>try (cases h;done)
  rename_i a b m h1 h2 h3;rw[h1,h2,h3];obtain⟨h4,rfl⟩:=bv h;exact⟨_,rfl,h4⟩
 |psl o sz' off n cap=>
  cases cap with
  |none=>
   simp only[lg]at h;simp only[g8,kf hS];split at h<;>try (cases h;done)
   rename_i a b h1 h2;rw[h1,h2];obtain⟨h4,rfl⟩:=bv h;exact⟨_,rfl,h4⟩
  |some cap=>
   simp only[lg]at h;simp only[g8,kf hS];split at h<;>try (cases h;done)
   rename_i a b m h1 h2 h3;rw[h1,h2,h3];obtain⟨h4,rfl⟩:=bv h;exact⟨_,rfl,h4⟩
 |_=>cases h
theorem kC(hS:Sim N c s){u:SV}{l:List UInt8}(h:dG c u=some l):∃p,bytesOf s u=some (p,l)/\p:=by
 cases u with
 |byt l t=>cases h;exact⟨True,rfl,trivial⟩
 |str l=>cases h;exact⟨True,rfl,trivial⟩
 |psl o sz off n cap=>
  simp only[dG]at h;simp only[bytesOf,hS.look];split at h
  ·rename_i l' hl;rw[hl];obtain⟨h1,rfl⟩:=bv h;exact⟨_,rfl,h1⟩
  ·cases h
 |_=>cases h
theorem iN(hS:Sim N c s){u:SV}{sz:Nat}{l:List (List SV)}(h:eI c sz u=some l):∃p,ir s sz u=some (p,l)/\p:=by
 cases u with
 |lst sz' l t=>obtain⟨h1,rfl⟩:=bv h;exact⟨_,rfl,h1⟩
 |psl o sz' off n cap=>
  simp only[eI]at h;simp only[ir,hS.look];split at h
  ·rename_i sz'' xs hl
   rw[hl];obtain⟨⟨h1,h2,h3⟩,rfl⟩:=bv h;exact⟨_,rfl,h1,h2,h3,by rw[h2];exact hS.rows hl⟩
  ·cases h
 |_=>cases h
theorem Pv(hS:Sim N c s)(ps:List (Nat×Nat×Arg)):psC c ps=ps.map fun(o,n,x)=>(o,n,s.ev x):=by
 induction ps with
 |nil=>rfl
 |cons p r ih=>obtain⟨o,n,x⟩:=p;simp only[psC,aD,ih,hS.ev]
theorem FF(hS:Sim N c s){so:SOp}{v:SV}(h:bX c so=some v):∃p,val s so=some (p,v)/\p:=by
 cases so with
 |mov x=>cases h;exact⟨True,by simp only[val,hS.ev],trivial⟩
 |build z ps=>simp only[bX,Pv hS]at h;obtain⟨l,h1,rfl⟩:=ac.1 h;exact⟨True,by simp only[val,h1,bf],trivial⟩
 |lit sz xs=>simp only[bX,hS.evL]at h;obtain⟨l,h1,rfl⟩:=ac.1 h;exact⟨True,by simp only[val,h1,bf],trivial⟩
 |litB xs=>simp only[bX,hS.evL]at h;obtain⟨l,h1,rfl⟩:=ac.1 h;exact⟨True,by simp only[val,h1,bf],trivial⟩
 |load n ag a=>simp only[val,hS.ev];exact qe hS h
 |nchk x=>simp only[bX]at h;simp only[val,hS.ev];cases hx:c.ev x<;>rw[hx]at h<;>first|(cases h;done)|(cases h;exact⟨True,rfl,trivial⟩)
 |bin op x y=>simp only[val,hS.ev];exact HN h
 |beq ne x y=>
  simp only[bX]at h;simp only[val,hS.ev];split at h<;>try (cases h;done)
  rename_i a b h1 h2;cases h;rw[h1,h2];exact⟨True,rfl,trivial⟩
 |eqS ne ts x y=>
  simp only[bX]at h;simp only[val,hS.ev];split at h<;>try (cases h;done)
  rename_i a b h1 h2;obtain⟨l,h3,rfl⟩:=ac.1 h;rw[h1,h2];exact⟨True,by simp only[h3,bf],trivial⟩
 |un op x=>simp only[bX]at h;exact⟨True,by simp only[val,hS.ev,h,bf],trivial⟩
 |toInt k x=>simp only[bX]at h;exact⟨True,by simp only[val,hS.ev,h,bf],trivial⟩
 |toStr x=>
  simp only[bX]at h;simp only[val,hS.ev];split at h<;>try (cases h;done)
  all_goals
   rename_i h1;cases h;rw[h1];exact⟨True,rfl,trivial⟩
 |slid x=>simp only[bX]at h;cases h
 |newB x=>simp only[bX]at h;cases h
 |isni ne x=>
  simp only[bX]at h;simp only[val,hS.ev];split at h<;>try (cases h;done)
  rename_i h1;cases h;rw[h1];exact⟨True,rfl,trivial⟩
 |s2b x=>
  simp only[bX]at h;simp only[val,hS.ev];split at h<;>try (cases h;done)
  rename_i l h1;cases h;rw[h1];exact⟨True,rfl,trivial⟩
 |b2s x=>
  simp only[bX]at h;simp only[val,hS.ev];cases hx:c.ev x with
  |byt l t=>rw[hx]at h;cases h;exact⟨True,rfl,trivial⟩
  |psl o sz off n cap=>
   rw[hx]at h;simp only[dG]at h;simp only[rR,hS.look];obtain⟨l,h1,rfl⟩:=ac.1 h;split at h1
   ·rename_i l' hl;rw[hl];obtain⟨h2,rfl⟩:=bv h1;exact⟨_,rfl,h2⟩
   ·cases h1
  |_=>rw[hx]at h;cases h
 |mkfn f a b=>simp only[bX,hS.evL]at h;cases h;exact⟨True,rfl,trivial⟩
 |slcS x lo hi=>
  simp only[bX]at h;simp only[val,hS.ev];split at h<;>try (cases h;done)
  rename_i l hx;rw[hx];simp only[kf hS];split at h<;>try (cases h;done)
  rename_i a b h1 h2;rw[h1,h2];obtain⟨h4,rfl⟩:=bv h;exact⟨_,rfl,h4⟩
 |slcL sz x lo hi mx=>simp only[val,hS.ev];exact tP hS h
 |slcA len sz x lo hi mx=>
  simp only[bX]at h;simp only[val,hS.ev];split at h<;>try (cases h;done)
  rename_i o off hx;split at h<;>try (cases h;done)
  rename_i ho;subst ho;rw[hx];exact tP hS h
 |faddr off x=>simp only[bX]at h;simp only[val,hS.ev];cases hx:c.ev x<;>rw[hx]at h<;>first|(cases h;done)|(cases h;exact⟨True,rfl,trivial⟩)
 |fld off n ag x=>
  simp only[bX]at h;simp only[val,hS.ev];split at h<;>try (cases h;done)
  rename_i cs hx;rw[hx];obtain⟨h4,rfl⟩:=bv h;exact⟨_,rfl,h4⟩
 |iaddrL sz x i=>
  simp only[bX]at h;simp only[val,hS.ev];split at h<;>try (cases h;done)
  all_goals
   rename_i h1 h2;rw[h1,h2];obtain⟨h4,rfl⟩:=bv h;exact⟨_,rfl,h4⟩
 |iaddrA len sz x i=>
  simp only[bX]at h;simp only[val,hS.ev,hS.look];split at h<;>try (cases h;done)
  ·rename_i o off n h1 h2
   rw[h1,h2];simp only;split at h<;>try (cases h;done)
   ·rename_i cs hl
    rw[hl];obtain⟨h4,rfl⟩:=bv h;exact⟨_,rfl,h4⟩
   ·rename_i ob hno hl
    rw[hl];obtain⟨⟨h4,h5⟩,rfl⟩:=bv h;cases ob with
    |rc cs=>exact absurd rfl (hno cs)
    |_=>simp only[h4,if_true];exact⟨_,rfl,h5⟩
  ·rename_i cs n h1 h2
   rw[h1,h2];obtain⟨h4,rfl⟩:=bv h;exact⟨_,rfl,h4⟩
 |idxA len sz ag x i=>
  simp only[bX]at h;simp only[val,hS.ev];split at h<;>try (cases h;done)
  rename_i h1 h2;rw[h1,h2];obtain⟨h4,rfl⟩:=bv h;exact⟨_,rfl,h4⟩
 |idxS x i=>
  simp only[bX]at h;simp only[val,hS.ev];split at h<;>try (cases h;done)
  rename_i h1 h2;rw[h1,h2];obtain⟨h4,rfl⟩:=bv h;exact⟨_,rfl,h4⟩
 |ext x i=>
  simp only[bX]at h;simp only[val,hS.ev];split at h<;>try (cases h;done)
  rename_i vs hx;rw[hx];obtain⟨h4,rfl⟩:=bv h;exact⟨_,rfl,h4⟩
 |len b x=>simp only[bX]at h;obtain⟨n,h1,rfl⟩:=ac.1 h;exact⟨True,by simp only[val,hS.ev,h1],trivial⟩
 |lenC n=>cases h;exact⟨True,rfl,trivial⟩
 |cap x=>
  simp only[bX]at h;simp only[val,hS.ev];cases hx:c.ev x with
  |psl o sz off n m=>cases m<;>rw[hx]at h<;>cases h;exact⟨True,rfl,trivial⟩
  |byt l t=>rw[hx]at h;simp only at h;split at h<;>cases h;rename_i ht;subst ht;exact⟨True,rfl,trivial⟩
  |lst sz l t=>rw[hx]at h;simp only at h;split at h<;>cases h;rename_i ht;subst ht;exact⟨True,rfl,trivial⟩
  |_=>rw[hx]at h;cases h
 |mini x y=>
  simp only[bX]at h;simp only[val,hS.ev];split at h<;>try (cases h;done)
  rename_i h1 h2;rw[h1,h2];simp only;split at h<;>cases h;rename_i hk;exact⟨True,by rw[if_pos hk],trivial⟩
 |maxi x y=>
  simp only[bX]at h;simp only[val,hS.ev];split at h<;>try (cases h;done)
  rename_i h1 h2;rw[h1,h2];simp only;split at h<;>cases h;rename_i hk;exact⟨True,by rw[if_pos hk],trivial⟩
 |_=>cases h
end Go.Sy
namespace Go.Sy
variable [aU]
variable {P : Program} {C : Ctx} {x : Sit} {a : Act} {w : World} {o : Oper} {so : SOp} {N : Nat} {c c' : CSt} {s : St} {d : Option Nat}
def M(C:Ctx)(N:Nat)(c:CSt):Act->World->Prop:=xL C (Sim N c)
theorem Sim.purge(h:Sim N c s)(lo hi:Nat):Sim N (c.purge lo hi) (s.purge lo hi):=by
 refine⟨⟨fun p hp=> ?_,pL h.inv.so,fun p hp=> ?_⟩, ?_,fun o=> ?_,fun t=> ?_⟩
 ·obtain⟨q,hq,e⟩:=h9 hp
  rw[e];exact h.inv.dom q hq
 ·obtain⟨_,ob,h1,h2⟩:=bL hp
  rw[h2];exact mb (h.inv.wf _ h1)
 ·show SV.purgeL lo hi s.tm=_
  rw[h.tm,cM,List.map_map];apply List.map_congr_left;intro i _;exact(eW lo hi i c.tm).symm
 ·show(bn lo hi s.ob).lookup o=gp (bn lo hi c.ob) o
  have:=h.look o;unfold St.look CSt.look at this;rw[gh]at this ⊢;rw[ig,ig,this]
 ·show t∈bP lo hi s.tk↔t∈bP lo hi c.tk
  rw[bq,bq,h.tk]
theorem Sim.addO(h:Sim N c s)(k:Nat){ob:aA}(hw:ob.wf=true):Sim N ⟨c.tm,gy c.ob k ob,c.tk⟩ (s.addO k ob):=by
 refine⟨⟨h.inv.dom,oZ h.inv.so,fun p hp=> ?_⟩,h.tm,fun o=> ?_,h.tk⟩
 ·rcases iQ hp with e|e
  ·rw[e];exact hw
  ·exact h.inv.wf p e
 ·show((k,ob)::s.ob).lookup o=gp (gy c.ob k ob) o
  have:=h.look o;unfold St.look CSt.look at this;rw[mr];simp only[List.lookup]
  by_cases he:o=k
  ·subst he;simp
  ·have:(o==k)=false:=by simpa using he
   rw[this,if_neg he];exact h.look o
theorem iG(k:Nat)(ob:aA)(o:Nat):∀l:List (Nat×aA),(Sy.setO k ob l).lookup o=if o=k/\(l.lookup k).isSome=true then some ob else l.lookup o
 |[]=>by simp[Sy.setO]
 |p::r=>by
  simp only[Sy.setO]
  by_cases hp:p.1=k
  ·rw[if_pos hp]
   subst hp;simp only[List.lookup]
   by_cases ho:o=p.1
   ·subst ho;simp
   ·have:(o==p.1)=false:=by simpa using ho
    simp[this,ho]
  ·rw[if_neg hp]
   have h1:(k==p.1)=false:=by simpa using Ne.symm hp
   simp only[List.lookup,h1,iG k ob o r]
   by_cases ho:o=p.1
   ·subst ho;simp[hp]
   ·have:(o==p.1)=false:=by simpa using ho
    simp[this]
theorem Sim.setO(h:Sim N c s){k:Nat}{ob:aA}(hl:(c.look k).isSome=true)(hw:ob.wf=true):Sim N ⟨c.tm,gy c.ob k ob,c.tk⟩ (s.setO k ob):=by
 refine⟨⟨h.inv.dom,oZ h.inv.so,fun p hp=> ?_⟩,h.tm,fun o=> ?_,h.tk⟩
 ·rcases iQ hp with e|e
  ·rw[e];exact hw
  ·exact h.inv.wf p e
 ·show(Sy.setO k ob s.ob).lookup o=gp (gy c.ob k ob) o
  rw[mr,iG]
  have h1:(s.ob.lookup k).isSome=true:=by have:=h.look k;unfold St.look at this;rw[this];exact hl
  by_cases he:o=k
  ·rw[if_pos ⟨he,h1⟩,if_pos he]
  ·rw[if_neg (fun e=>he e.1),if_neg he];exact h.look o
theorem Sim.tks(h:Sim N c s){l k:List Nat}(hlk:∀t,t∈l↔t∈k):Sim N ⟨c.tm,c.ob,k⟩ ⟨s.tm,s.ob,l⟩:=⟨⟨h.inv.dom,h.inv.so,h.inv.wf⟩,h.tm,h.look,hlk⟩
theorem yZ{t:Tok}{l k:List Nat}(h:∀t,t∈l↔t∈k)(n:Nat):n∈t.eat l↔n∈t.eat k:=by
 cases t with
 |id t=>simp only[Tok.eat,bq,h]
 |_=>exact h n
structure xS(e:li)(f:Eff):Prop where
 val:f.val=e.val
 wr:f.wr=e.wr
 new:f.new=e.new
 eat:f.eat=e.eat
 tok:f.tok=e.tok
structure xW(c:CSt)(e:li):Prop where
 new:∀ob,e.new=some ob->ob.wf=true
 wr:e.wr=[]\/∃k ob,e.wr=[(k,ob)]/\(c.look k).isSome=true/\ob.wf=true
theorem Sim.app(h:Sim N c s)(hd:∀k,d=some k->k<N){e:li}{f:Eff}(hs:xS e f)(hg:xW c e):Sim N (c.app d e) (s.app d f):=by
 unfold CSt.app St.app;rw[hs.new,hs.tok,hs.val,hs.wr,hs.eat];cases hn:e.new with
 |some ob=>exact((h.purge _ _).addO _ (mb (hg.new ob hn))).put hd _
 |none=>
  cases ht:e.tok with
  |true=>refine Sim.put (c:=⟨_,_,_⟩) ?_ hd _;refine((h.purge (d.getD 0+100) (d.getD 0+100+1)).tks (fun t=> ?_));rw[iR,am,bq,bq,yZ h.tk]
  |false=>
   rcases hg.wr with hw|⟨k,ob,hw,h1,h2⟩
   ·rw[hw];exact h.put hd _
   ·rw[hw];exact(h.setO h1 h2).put hd _
theorem xS.v(v:SV)(p:Prop):xS {val:=v} {pre:=p,val:=v}:=⟨rfl,rfl,rfl,rfl,rfl⟩
theorem xW.v(v:SV):xW c {val:=v}:=⟨fun ob h=>(by cases h),.inl rfl⟩
theorem Oi(n:Nat)(z:List SV):(aA.arr z.length (az n z)).wf=true:=by simp only[aA.wf,aN,decide_eq_true_eq];intro y hy;rw[(List.mem_replicate.1 hy).2]
theorem gO{sz:Nat}{xs:List (List SV)}:(aA.arr sz xs).wf=true↔∀y∈xs,y.length=sz:=by simp only[aA.wf,aN,decide_eq_true_eq]
theorem qz(sz:Nat):∀(m:Nat)(v:List SV),v.length=m*sz->∀y∈ij sz m v,y.length=sz
 |0,_,_,y,hy=>by cases hy
 |m+1,v,h,y,hy=>by
  rw[cP]at h;simp only[ij]at hy;rcases am.1 hy with rfl|hy
  ·rw[ax];omega
  ·exact qz sz m (v.drop sz) (by rw[aS];omega) y hy
theorem vT{sz:Nat}{xs:List (List SV)}{i j n:Nat}{v:List SV}(h:∀y∈xs,y.length=sz)(hi:i<xs.length)(hj:j+n<=sz)(hv:v.length=n):∀y∈gQ sz xs i j n v,y.length=sz:=by
 intro y hy;unfold gQ at hy;split at hy
 ·rename_i hc
  rcases List.mem_or_eq_of_mem_set hy with h1|h1
  ·exact h y h1
  ·rw[h1,hv];exact hc.2
 ·rcases List.mem_or_eq_of_mem_set hy with h1|h1
  ·exact h y h1
  ·have:(xs.getD i []).length=sz:=by
    rw[aa,ab hi];exact h _ (bd _)
   rw[h1];simp only[ai,ax,aS,this,hv];omega
theorem nm(h:Sim N c s){t:Tok}(hr:t.readyC c=true):t.ready s=true:=by
 cases t with
 |no=>cases hr
 |clip=>rfl
 |id t=>simp only[Tok.readyC,dR,decide_eq_true_eq]at hr;simp only[Tok.ready,dR,decide_eq_true_eq];exact(h.tk t).2 hr
theorem F6(hM:aH C x s a w){y:Arg}(hy:y.isT=true):Rep x (s.ev y) (match y with| .t n=>a.tmps.getD n Go.undef|_=>Go.undef):=by
 cases y with
 |t n=>exact hM.slot n
 |_=>cases hy
theorem zj(h:Sim N c s){e:li}(he:dn c d so=some e)(hp:∀q y z,so≠ .pick q y z)(hn:∀ne q,so≠ .isnil ne q)(hcp:∀sz q y,so≠ .cpy sz q y):∃f,eff s d so=some f/\f.pre/\xS e f/\xW c e:=by
 have plain:∀{so:SOp},dn c d so=tE (bX c so)->(eff s d so=match val s so with|some (p,v)=>some {pre:=p,val:=v}|none=>none)->dn c d so=some e->∃f,eff s d so=some f/\f.pre/\xS e f/\xW c e:=by
  intro so h1 h2 h3;rw[h1]at h3;cases hv:bX c so with
  |none=>rw[hv]at h3;cases h3
  |some v=>rw[hv]at h3;cases h3;obtain⟨p,h4,h5⟩:=FF h hv;exact⟨{pre:=p,val:=v},by rw[h2,h4],h5,xS.v v p,xW.v v⟩
 cases so with
 |pick q y z=>exact absurd rfl (hp q y z)
 |isnil ne q=>exact absurd rfl (hn ne q)
 |call _ _=>cases he
 |newB _=>cases he
 |slid _=>cases he
 |new ob=>
  simp only[dn]at he;split at he<;>try (cases he;done)
  obtain⟨h1,rfl⟩:=bv he;exact⟨_,rfl,trivial,⟨rfl,rfl,rfl,rfl,rfl⟩,⟨fun ob' e=>(by cases e;exact h1),.inl rfl⟩⟩
 |box q=>simp only[dn]at he;split at he<;>cases he;exact⟨_,rfl,trivial,⟨rfl,rfl,by simp only[h.ev],rfl,rfl⟩,⟨fun ob' e=>(by cases e;rfl),.inl rfl⟩⟩
 |mk z bytes n m=>
  simp only[dn]at he;simp only[eff,h.ev];split at he<;>try (cases he;done)
  rename_i h1 h2;rw[h1,h2];obtain⟨h1,rfl⟩:=bv he;exact⟨_,rfl,h1,⟨rfl,rfl,rfl,rfl,rfl⟩,⟨fun ob' e=>(by cases e;exact Oi _ z),.inl rfl⟩⟩
 |mkB n m=>
  simp only[dn]at he;simp only[eff,h.ev];split at he<;>try (cases he;done)
  rename_i h1 h2;rw[h1,h2];obtain⟨h1,rfl⟩:=bv he;exact⟨_,rfl,h1,⟨rfl,rfl,rfl,rfl,rfl⟩,⟨fun ob' e=>(by cases e;rfl),.inl rfl⟩⟩
 |store n q y=>
  simp only[dn]at he;simp only[eff,h.ev];split at he<;>try (cases he;done)
  rename_i hdef;rw[hdef];simp only;unfold ji at he;unfold mK;split at he
  ·rename_i o' off hq
   rw[hq];simp only[h.look];split at he<;>try (cases he;done)
   ·rename_i cs hl
    rw[hl];obtain⟨h1,rfl⟩:=bv he;exact⟨_,rfl,h1,⟨rfl,rfl,rfl,rfl,rfl⟩,⟨fun ob' e=>(by cases e),.inr ⟨_,_,rfl,by rw[hl];rfl,rfl⟩⟩⟩
   ·rename_i sz xs hl
    rw[hl];obtain⟨⟨h1,h2,h3,h4⟩,rfl⟩:=bv he
    exact⟨_,rfl,⟨h1,h2,h3,h4⟩,⟨rfl,rfl,rfl,rfl,rfl⟩,
     ⟨fun ob' e=>(by cases e),.inr ⟨_,_,rfl,by rw[hl];rfl,gO.2 (qz sz _ _ (by rw[aK];omega))⟩⟩⟩
   ·rename_i l hl
    rw[hl];simp only at he ⊢;split at he<;>try (cases he;done)
    rename_i l' hv;rw[hv];obtain⟨h1,rfl⟩:=bv he;exact⟨_,rfl,h1,⟨rfl,rfl,rfl,rfl,rfl⟩,⟨fun ob' e=>(by cases e),.inr ⟨_,_,rfl,by rw[hl];rfl,rfl⟩⟩⟩
  ·rename_i o' sz i j hq
   rw[hq];simp only[h.look];split at he<;>try (cases he;done)
   ·rename_i sz' xs hl
    rw[hl];obtain⟨⟨h1,h2,h3,h4,h5⟩,rfl⟩:=bv he
    exact⟨_,rfl,⟨h1,h2,h3,h4,by rw[h1];exact h.rows hl,h5⟩,⟨rfl,rfl,rfl,rfl,rfl⟩,
     ⟨fun ob' e=>(by cases e),.inr ⟨_,_,rfl,by rw[hl];rfl,gO.2 (by subst h1;exact vT (h.rows hl) h2 h3 (by simpa using h4))⟩⟩⟩
   ·rename_i l hl
    rw[hl];simp only at he ⊢;split at he<;>try (cases he;done)
    rename_i b hv;rw[hv];obtain⟨h1,rfl⟩:=bv he;exact⟨_,rfl,h1,⟨rfl,rfl,rfl,rfl,rfl⟩,⟨fun ob' e=>(by cases e),.inr ⟨_,_,rfl,by rw[hl];rfl,rfl⟩⟩⟩
  ·cases he
 |app z bytes q y=>
  simp only[dn]at he;simp only[eff,h.ev];split at he<;>try (cases he;done)
  split at he<;>try (cases he;done)
  ·rename_i l t hq
   rw[hq];obtain⟨l',h1,h2⟩:=Option.bind_eq_some_iff.1 he;obtain⟨p,h3,h4⟩:=kC h h1;obtain⟨⟨g1,g2,g3,g4⟩,rfl⟩:=bv h2;simp only[h3];exact⟨_,rfl,⟨h4,g1,g2,nm h g3,g4⟩,⟨rfl,rfl,rfl,rfl,rfl⟩,⟨fun ob' e=>(by cases e),.inl rfl⟩⟩
  ·rename_i sz' l t hq
   rw[hq];obtain⟨l',h1,h2⟩:=Option.bind_eq_some_iff.1 he;obtain⟨p,h3,h4⟩:=iN h h1;obtain⟨⟨g1,g3,g4⟩,rfl⟩:=bv h2;simp only[h3];exact⟨_,rfl,⟨h4,g1,nm h g3,g4⟩,⟨rfl,rfl,rfl,rfl,rfl⟩,⟨fun ob' e=>(by cases e),.inl rfl⟩⟩
 |cpy sz q y=>exact absurd rfl (hcp sz q y)
 |appO z bytes q y=>cases he
 |clr z q=>
  simp only[dn]at he;simp only[eff,h.ev];split at he<;>try (cases he;done)
  rename_i o' sz' off n cap hq;rw[hq];simp only[h.look];split at he<;>try (cases he;done)
  rename_i sz'' xs hl;rw[hl];obtain⟨⟨g0,g1,g2,g3⟩,rfl⟩:=bv he;have hrows:=h.rows hl;refine⟨_,rfl,⟨g0,g1,g2,g3,by rw[g2];exact hrows⟩,⟨rfl,rfl,rfl,rfl,rfl⟩,⟨fun ob' e=>(by cases e),.inr ⟨_,_,rfl,by rw[hl];rfl,gO.2 ?_⟩⟩⟩;intro r hr;rcases ah.1 hr with hr|hr
  ·rcases ah.1 hr with hr|hr
   ·rw[g2];exact hrows r (bU hr)
   ·rw[(List.mem_replicate.1 hr).2]
  ·rw[g2];exact hrows r (List.mem_of_mem_drop hr)
 |appM z bytes q y=>cases he
 |ovl q y=>cases he
 |_=>exact plain (nI rfl) rfl he
theorem HB(P:Program)(h:Sim N c s)(hM:aH C x s a w){e:li}(he:dn c d so=some e)(hp:∀q y z,so≠ .pick q y z)(hn:∀ne q,so≠ .isnil ne q):∃f,eff s d so=some f/\f.pre/\xS e f/\xW c e:=by
 by_cases hcp:∃sz q y,so= .cpy sz q y
 ·obtain⟨sz,q,y,rfl⟩:=hcp
  simp only[dn]at he;simp only[eff,h.ev];split at he<;>try (cases he;done)
  rename_i o' sz' off n cap hq;rw[hq];simp only[h.look];split at he<;>try (cases he;done)
  ·rename_i l hl
   rw[hl];obtain⟨l',h1,h2⟩:=Option.bind_eq_some_iff.1 he;obtain⟨p,h3,h4⟩:=kC h h1;obtain⟨⟨g1,g2,g3⟩,rfl⟩:=bv h2;simp only[h3];exact⟨_,rfl,⟨h4,g1,g2,g3⟩,⟨rfl,rfl,rfl,rfl,rfl⟩,⟨fun ob' e=>(by cases e),.inr ⟨_,_,rfl,by rw[hl];rfl,rfl⟩⟩⟩
  ·rename_i sz'' xs hl
   rw[hl];obtain⟨l',h1,h2⟩:=Option.bind_eq_some_iff.1 he;obtain⟨p,h3,h4⟩:=iN h h1;obtain⟨⟨g0,g1,g2,g3⟩,rfl⟩:=bv h2;simp only[h3];have hrows:=h.rows hl;obtain⟨_,hl',_⟩:=md (P:=P) hM (F6 hM g0) (by rw[h.ev];exact h3) h4;refine⟨_,rfl,⟨h4,g1,g2,g3,by rw[g2];exact hrows⟩,⟨rfl,rfl,rfl,rfl,rfl⟩,⟨fun ob' e=>(by cases e),.inr ⟨_,_,rfl,by rw[hl];rfl,gO.2 ?_⟩⟩⟩;intro r hr;rcases ah.1 hr with hr|hr
   ·rcases ah.1 hr with hr|hr
    ·rw[g2];exact hrows r (bU hr)
    ·exact hl' r (bU hr)
   ·rw[g2];exact hrows r (List.mem_of_mem_drop hr)
 ·exact zj h he hp hn (fun sz q y e=>hcp ⟨sz,q,y,e⟩)
theorem S3(h:M C N c a w)(hr:bh P o=some so)(hd:∀k,o.dst=some k->k<N)(hc:kL c o.dst (dn c o.dst so)=some c'){K:Act->World->Prop}{Q:Exit->Act->World->Prop}(hK:∀a w,M C N c' a w->K a w):o.wp P a w K Q:=by
 obtain⟨x,s,hM,hS⟩:=h;cases he:dn c o.dst so with
 |none=>rw[he]at hc;cases hc
 |some e=>
  rw[he]at hc;simp only[kL,al.injEq]at hc;subst hc
  by_cases hp:∃q y z,so= .pick q y z
  ·obtain⟨q,y,z,rfl⟩:=hp
   simp only[dn]at he;split at he<;>cases he;rename_i t ht;have hd':=wU hM hr (t:=t) (by rw[hS.ev];exact ht);refine cD hd' (k:=Sim N (c.app o.dst {val:=ge t (c.ev y) (c.ev z)})) ?_ hK;have:(if t=true then s.ev y else s.ev z)=ge t (c.ev y) (c.ev z):=by rw[hS.ev,hS.ev];rfl
   rw[this];exact hS.put hd _
  ·by_cases hn:∃ne q,so= .isnil ne q
   ·obtain⟨ne,q,rfl⟩:=hn
    have key:∃b,b=ne/\bF P C o a w (s.put o.dst (.bool b)):=by
     refine rM hM hr (K:=fun b=>b=ne) ?_;rw[hS.ev];simp only[dn]at he;split at he<;>try (cases he;done)
     ·rename_i l t hl
      obtain⟨h1,_⟩:=bv he
      try rw[hl]
      intro b hb;cases b
      ·cases ne<;>rfl
      ·exact absurd (hb rfl) h1
     ·rename_i sz l t hl
      obtain⟨h1,_⟩:=bv he
      try rw[hl]
      intro b hb;cases b
      ·cases ne<;>rfl
      ·exact absurd (hb rfl) h1
     ·rename_i hl
      first
       |rw[hl]
       |rfl
    obtain⟨b,rfl,hd'⟩:=key;refine cD hd' (k:=Sim N (c.app o.dst e)) ?_ hK
    have:e= {val:= .bool b}:=by
     simp only[dn]at he;split at he
     ·obtain⟨_,h2⟩:=bv he;exact h2.symm
     ·obtain⟨_,h2⟩:=bv he;exact h2.symm
     ·exact(al.inj he).symm
     ·cases he
    rw[this];exact hS.put hd _
   ·obtain⟨f,h1,h2,h3,h4⟩:=HB P hS hM he (fun q y z e=>hp ⟨q,y,z,e⟩) (fun ne q e=>hn ⟨ne,q,e⟩)
    exact cD (Hy hM hr h1 h2) (k:=Sim N (c.app o.dst e)) (hS.app hd h3 h4) hK
end Go.Sy
namespace Go.Sy
variable [aU]
variable {P : Program} {C : Ctx} {x : Sit} {a : Act} {w : World} {N : Nat} {c c' : CSt} {s : St}
theorem Sim.exact(h:Sim N c s)(hM:aH C x s a w):aH C x (c.st N) a w:=
 ⟨by show bM x ((bw N).map c.get) _;rw[<-h.tm];exact hM.tm,hM.defers,hM.heap.only (fun p hp=>by have h1:=gS (gP h.inv.so) hp;have h2:s.look p.1=some p.2:=(h.look p.1).trans h1;exact cy h2) (gP h.inv.so) (fun t ht=>(h.tk t).2 ht)⟩
theorem M.slots(h:M C N c a w)(hi:Inv N c')(ho:c'.ob=c.ob)(ht:c'.tk=c.tk)(hg:∀i,c'.get i=c.get i\/c'.get i= .undef):M C N c' a w:=by
 obtain⟨x,s,hM,hS⟩:=h;have hE:=hS.exact hM;refine⟨x,c'.st N,⟨⟨?_,fun i hi'=> ?_⟩,hM.defers, ?_⟩,Sim.of hi⟩
 ·have:=hE.tm.1;simpa[CSt.st]using this
 ·have h1:=hE.tm.2 i (by simpa[CSt.st]using hi')
  have hiN:i<N:=by simpa[CSt.st]using hi'
  simp only[CSt.st,aa,aI,bE hiN,bf,aV]at h1 ⊢;rcases hg i with e|e
  ·rw[e];exact h1
  ·rw[e];exact .undef _
 ·show cx C x c'.ob c'.tk w
  rw[ho,ht];exact hE.heap
theorem Inv.kill(h:Inv N c)(l:List Nat):Inv N (c.kill l):=by
 cases l with
 |nil=>exact h
 |cons n r=>exact⟨fun p hp=>h.dom p (mh hp),h.so,h.wf⟩
theorem M.kill(h:M C N c a w)(l:List Nat):M C N (c.kill l) a w:=by
 have hi:Inv N c:=by obtain⟨x,s,_,hS⟩:=h;exact hS.inv
 cases l with
 |nil=>exact h
 |cons n r=>
  refine h.slots (hi.kill _) rfl rfl fun i=> ?_
  have e:=mq (n::r) i c.tm
  by_cases hc:(n::r).contains i=true
  ·exact .inr (e.trans (if_pos hc))
  ·exact .inl (e.trans (if_neg hc))
theorem M.purge(h:M C N c a w)(lo hi:Nat):M C N (c.purge lo hi) a w:=by obtain⟨x,s,hM,hS⟩:=h;exact⟨x,_,hM.purge lo hi,hS.purge lo hi⟩
theorem M.gc:∀{l:List Nat}{c:CSt},M C N c a w->M C N (gcC c l) a w
 |[],_,h=>h
 |o::r,c,h=>by show M C N (gcC (c.purge o (o+1)) r) a w;exact M.gc (h.purge o (o+1))
theorem jN{o:Nat}{obj:aA}(cs:List SV):SV.pubL o obj cs=cs.map (SV.pub o obj):=by
 induction cs with
 |nil=>rfl
 |cons c r ih=>simp only[SV.pubL,aD,ih]
theorem Rep.pub{x x':Sit}{o:Nat}{obj:aA}(hβ:x'.bk=x.bk)(hτ:x'.τ=x.τ)(hG:∀b i u,x.G b i=some u->x'.G b i=some u)
 (hcell:∀k,k<obj.size->∃u,x'.G ((x.bk o).1) k=some u/\bO x'.G (obj.cell k) u) (hwf:obj.wf=true) {sv:SV} {v:Value} (h:Rep x sv v):Rep x' (sv.pub o obj) v:=by
 induction h with
 |undef v=>exact .undef v
 |dat s v h ht=>
  have:s.pub o obj=s:=by cases h<;>rfl
  rw[this];exact(Rep.dat s v h ht).grow hG hβ hτ
 |ptr o' off=>
  simp only[SV.pub];split
  ·exact .undef _
  ·rw[<-hβ];exact .ptr o' off
 |ap o' sz i j=>
  simp only[SV.pub];split
  ·exact .undef _
  ·rw[<-hβ];exact .ap o' sz i j
 |psl o' sz off n cap off' cap' hoff hn hcp hkp=>
  simp only[SV.pub];split
  ·rename_i ho
   subst ho;cases obj with
   |rc cs=>exact .undef _
   |arr sz' xs=>
    simp only[rk];split
    ·rename_i hc
     obtain⟨rfl,hb⟩:=hc;have hrows:=gO.1 hwf;have h1:=leP.psl (o:=o') (cap:=cap) hb hrows x x' _ hβ hτ hG (fun k hk=>hcell k hk) (.psl o' sz' off n cap off' cap' hoff hn hcp hkp);split
     ·rename_i hcap
      have hcn:=hcp _ hcap;obtain⟨b,cq,he,_,hD,_⟩:=h1.lst_inv;exact .dat _ _ (hD.tok (.lst sz' ((xs.drop off).take n) .clip) (.inr ⟨sz',_,_,_,rfl,rfl⟩)) ⟨_,n,by rw[<-hcn]⟩
     ·exact h1
    ·exact .undef _
   |bar l=>
    simp only[rk];split
    ·rename_i hc
     obtain⟨rfl,hb⟩:=hc;have hlen:((l.drop off).take n).length=n:=by simp;omega
     have hD:∀t,bO x'.G (.byt ((l.drop off).take n) t) (.slice (some ⟨(x.bk o').1,off',none⟩) n cap'):=by
      intro t;refine .byt _ t _ _ _ _ hlen.symm hn fun i hi=> ?_
      have hoff':off'=off:=by omega
      obtain⟨u,hu,hr⟩:=hcell (off+i) (by simp only[aA.size];omega);rw[hoff',hu];simp only[aA.cell]at hr
      have e:((l.drop off).take n).getD i 0=l.getD (off+i) 0:=by simp only[aa,bx,if_pos hi,bj]
      rw[e];cases hr with
      |u8 b=>rfl
     split
     ·rename_i hcap
      have hcn:=hcp _ hcap;exact .dat _ _ (hD .clip) ⟨_,n,by rw[<-hcn]⟩
     ·exact .dat _ _ (hD .no) trivial
    ·exact .undef _
  ·rw[<-hβ]at hkp ⊢;exact .psl o' sz off n cap off' cap' hoff hn hcp hkp
 |agg cs vs hl _ ih=>simp only[SV.pub,jN];exact .agg _ _ (by simpa using hl) fun i hi=>by rw[aO _ (by rfl)];exact ih i (by simpa using hi)
 |tup cs vs hl _ ih=>simp only[SV.pub,jN];exact .tup _ _ (by simpa using hl) fun i hi=>by rw[aO _ (by rfl)];exact ih i (by simpa using hi)
 |fn f c1 c2 v1 v2 hl1 _ hl2 _ ih1 ih2=>simp only[SV.pub,jN];exact .fn _ _ _ _ _ (by simpa using hl1) (fun i hi=>by rw[aO _ (by rfl)];exact ih1 i (by simpa using hi)) (by simpa using hl2) (fun i hi=>by rw[aO _ (by rfl)];exact ih2 i (by simpa using hi))
theorem iS{o:Nat}{obj:aA}{p:Nat×aA}:∀{l:List (Nat×aA)},p∈jm o obj l->p.1≠o/\∃q,(p.1,q)∈l/\p.2=kY o obj q
 |q::r,h=>by
  simp only[jm]at h;split at h
  ·obtain⟨h1,u,h2,h3⟩:=iS h
   exact⟨h1,u,an _ h2,h3⟩
  ·rename_i hq
   rcases am.1 h with e|e
   ·rw[e];exact⟨hq,q.2,aB ..,rfl⟩
   ·obtain⟨h1,u,h2,h3⟩:=iS e
    exact⟨h1,u,an _ h2,h3⟩
theorem mv{o:Nat}{obj:aA}:∀l:List (Nat×aA),(jm o obj l).map bY=(l.map bY).filter fun k=>decide (k≠o)
 |[]=>rfl
 |p::r=>by
  simp only[jm,aD,je]
  by_cases h:p.1=o
  ·rw[if_pos h,mv r];simp[h]
  ·rw[if_neg h,aD,mv r];simp[h]
theorem mg{o:Nat}{obj:aA}{p:Nat×SV}:∀{l:List (Nat×SV)},p∈jD o obj l->∃q∈l,p.1=q.1
 |q::r,h=>by
  simp only[jD]at h;rcases am.1 h with e|e
  ·exact⟨q,aB ..,by rw[e]⟩
  ·obtain⟨u,h1,h2⟩:=mg e
   exact⟨u,an _ h1,h2⟩
theorem iV{o:Nat}{obj:aA}(n:Nat):∀l:List (Nat×SV),dD (jD o obj l) n=(dD l n).pub o obj
 |[]=>rfl
 |p::r=>by
  simp only[jD,dD];split
  ·rfl
  ·exact iV n r
theorem Oj{o:Nat}{obj q:aA}(h:q.wf=true):(kY o obj q).wf=true:=by cases q<;>simpa[kY,aA.wf]using h
theorem lH{o:Nat}{obj0 obj:aA}(hl:c.look o=some obj0)(hnr:∀cs,obj≠ .rc cs)(hnr0:∀cs,obj0≠ .rc cs)(hle:obj.size<=obj0.size)(hcl:∀k,k<obj.size->obj.cell k=obj0.cell k)(hwf:obj.wf=true)(hM:aH C x s a w)(hS:Sim N c s):
 ∃x',(x'.bk=x.bk/\x'.τ=x.τ/\(∀b i u,x.G b i=some u->x'.G b i=some u)/\(∀i,obj.size<=i->x'.G ((x.bk o).1) i=none)/\(∀k,k<obj.size->∃u,x'.G ((x.bk o).1) k=some u/\bO x'.G (obj.cell k) u))/\(∀sv v,Rep x sv v->Rep x' (sv.pub o obj) v)/\∃s',aH C x' s' a w/\Sim N ⟨jD o obj c.tm,jm o obj c.ob,c.tk⟩ s'/\(∀p∈s'.ob,(x.bk o).1≠(x'.bk p.1).1):=by
 have hls:s.look o=some obj0:=(hS.look o).trans hl;obtain⟨cc,e,fl,fh,hO,hsz,hr⟩:=dQ hM hls;have hob:=hM.heap.obs _ (cy hls)
 let x':Sit:= {x with G:=fun b i=>if b=(x.bk o).1/\i<obj.size then some (cc.getD i Go.undef)else x.G b i}
 have hG:∀b i u,x.G b i=some u->x'.G b i=some u:=by intro b i u hu;show(if _ then _ else _)=_;rw[if_neg];exact hu;rintro⟨rfl,_⟩;have h0:=hob.2.2 i;simp only at h0;rw[h0]at hu;cases hu
 have hcell:∀k,k<obj.size->∃u,x'.G ((x.bk o).1) k=some u/\bO x'.G (obj.cell k) u:=by
  intro k hk;refine⟨cc.getD k Go.undef,if_pos ⟨rfl,hk⟩,bO.mono hG ?_⟩;have:=hr k (by omega);rw[hcl k hk];cases obj0 with
  |rc cs=>exact absurd rfl (hnr0 cs)
  |arr sz xs=>exact this
  |bar l=>exact this
 have hpub:∀sv v,Rep x sv v->Rep x' (sv.pub o obj) v:=fun sv v h=>Rep.pub (x:=x) (x':=x') rfl rfl hG hcell hwf h
 have hH:=hM.heap
 have hinv:Inv N ⟨jD o obj c.tm,jm o obj c.ob,c.tk⟩:=by
  refine⟨fun p hp=> ?_, ?_,fun p hp=> ?_⟩
  ·obtain⟨q,hq,e⟩:=mg hp;rw[e];exact hS.inv.dom q hq
  ·show((jm o obj c.ob).map bY).Pairwise _
   rw[mv];exact hS.inv.so.filter _
  ·obtain⟨_,q,h2,h3⟩:=iS hp;rw[h3];exact Oj (hS.inv.wf _ h2)
 have hmem:∀p∈jm o obj c.ob,p.1≠o/\∃q,(p.1,q)∈s.ob/\p.2=kY o obj q:=by intro p hp;obtain⟨h1,q,h2,h3⟩:=iS hp;have h4:=gS (gP hS.inv.so) h2;exact⟨h1,q,cy ((hS.look p.1).trans h4),h3⟩
 have hne:∀p∈jm o obj c.ob,(x.bk p.1).1≠(x.bk o).1:=fun p hp e=>by obtain⟨h1,q,h2,_⟩:=hmem p hp;exact h1 (hH.inj (p.1,q) h2 _ (cy hls) e)
 refine⟨x',⟨rfl,rfl,hG,fun i hi=> ?_,hcell⟩,hpub,_,⟨⟨?_,fun i hi=> ?_⟩,hM.defers, ?_⟩,Sim.of hinv,fun p hp=>(hne p hp).symm⟩
 ·show(if _ then _ else _)=_
  rw[if_neg (by rintro⟨_,h⟩;omega)];exact hob.2.2 i
 ·have:=hM.tm.1;rw[hS.tm]at this;simpa[CSt.st]using this
 ·have hiN:i<N:=by simpa[CSt.st]using hi
  have h1:=hM.tm.2 i (by rw[hS.tm];simpa using hiN);rw[hS.tm]at h1;simp only[CSt.st,aa,aI,bE hiN,bf,aV]at h1 ⊢;have:(CSt.mk (jD o obj c.tm) (jm o obj c.ob) c.tk).get i=(c.get i).pub o obj:=iV i c.tm;rw[this];exact hpub _ _ h1
 ·refine⟨
   ?_,fun b i v hv=>hG _ _ _ (hH.g0 b i v hv), ?_,hH.new, ?_,gP hinv.so, ?_, ?_,fun n hn p hp=> ?_,fun n hn m hm=>hH.tkd n ((hS.tk n).2 hn) m ((hS.tk m).2 hm),hH.os,hH.tape,hH.output,hH.size,hH.ext,hH.pin,hH.lay⟩
  ·intro b i v hv
   replace hv:(if b=(x.bk o).1/\i<obj.size then some (cc.getD i Go.undef)else x.G b i)=some v:=hv;split at hv
   ·rename_i hbi
    obtain⟨rfl,hi⟩:=hbi;cases hv;rw[hO.cell,aX,fy (by omega)];rfl
   ·exact hH.per b i v hv
  ·intro b i v hv
   replace hv:(if b=(x.bk o).1/\i<obj.size then some (cc.getD i Go.undef)else x.G b i)=some v:=hv;split at hv
   ·rename_i hbi
    exact .inr (hbi.1 ▸ hob.2.1)
   ·exact hH.gm b i v hv
  ·intro p hp
   obtain⟨h1,q,h2,h3⟩:=hmem p hp;obtain⟨g1,g2,g3⟩:=hH.obs _ h2;refine⟨?_,g2,fun off=> ?_⟩
   ·obtain⟨c',e',fl',fh',hO',hs',hr'⟩:=g1
    rw[h3];refine⟨c',e',fl',fh',hO', ?_,fun k hk=> ?_⟩
    ·cases q<;>first|exact hs'|exact⟨by simpa[kY,aA.size,jN]using hs'.1,hs'.2.1,fun h=>by cases h⟩
    ·cases q with
     |rc cs=>
      have hk':k<cs.length:=by simpa[kY,aA.size,jN]using hk
      have:=hr' k hk';simp only[kY,bI,jN]at this ⊢;rw[aO _ (by rfl)];exact hpub _ _ this
     |arr sz xs=>exact bO.mono hG (hr' k hk)
     |bar l=>exact bO.mono hG (hr' k hk)
   ·show(if _ then _ else _)=_
    rw[if_neg (fun h=>hne p hp h.1)];exact g3 off
  ·intro p hp q hq hpq
   obtain⟨_,p',hp',_⟩:=hmem p hp;obtain⟨_,q',hq',_⟩:=hmem q hq;exact hH.inj (p.1,p') hp' (q.1,q') hq' hpq
  ·intro n hn'
   have hn:=(hS.tk n).2 hn';rcases hH.tks n hn with h|⟨h1,h2,h3⟩
   ·exact .inl h
   ·by_cases hlh:(x.τ n).2.1=(x.τ n).2.2
    ·exact .inl hlh
    ·refine .inr ⟨h1,h2,fun off h4 h5=> ?_⟩
     show(if _ then _ else _)=_;rw[if_neg (fun h=>(hH.tko n hn _ (cy hls)).elim (fun hb=>hb h.1) hlh)];exact h3 off h4 h5
  ·obtain⟨_,q,h2,_⟩:=hmem p hp
   exact hH.tko n ((hS.tk n).2 hn) (p.1,q) h2
theorem lI{o:Nat}{obj:aA}(hl:c.look o=some obj)(hnr:∀cs,obj≠ .rc cs)(hM:aH C x s a w)(hS:Sim N c s):
 ∃x',(x'.bk=x.bk/\x'.τ=x.τ)/\(∀sv v,Rep x sv v->Rep x' (sv.pub o obj) v)/\∃s',aH C x' s' a w/\Sim N ⟨jD o obj c.tm,jm o obj c.ob,c.tk⟩ s':=by
 obtain⟨x',h1,h2,s',h3,h4,_⟩:=lH hl hnr hnr (aP _) (fun _ _=>rfl) (hS.lookmem hl) hM hS;exact⟨x',⟨h1.1,h1.2.1⟩,h2,s',h3,h4⟩
theorem v8{o:Nat}{obj:aA}(hl:c.look o=some obj)(hnr:∀cs,obj≠ .rc cs)(hM:aH C x s a w)(hS:Sim N c s):
 ∃x',(∀sv v,Rep x sv v->Rep x' (sv.pub o obj) v)/\∃s',aH C x' s' a w/\Sim N ⟨jD o obj c.tm,jm o obj c.ob,c.tk⟩ s':=by
 obtain⟨x',_,h⟩:=lI hl hnr hM hS;exact⟨x',h⟩
theorem jl{vs:List SV}{us:List Value}{o:Nat}(hM:aH C x s a w)(hS:Sim N c s)(hv:bM x vs us):
 ∃x' s',aH C x' s' a w/\Sim N (c.publish o vs).1 s'/\bM x' (c.publish o vs).2 us:=by
 unfold CSt.publish
 have go:∀{obj:aA},c.look o=some obj->(∀cs,obj≠ .rc cs)->∃x' s',aH C x' s' a w/\Sim N ⟨jD o obj c.tm,jm o obj c.ob,c.tk⟩ s'/\bM x' (SV.pubL o obj vs) us:=by intro obj hl hnr;obtain⟨x',hp,s',h1,h2⟩:=v8 hl hnr hM hS;refine⟨x',s',h1,h2, ?_⟩;rw[jN];refine⟨by simpa using hv.1,fun i hi=> ?_⟩;rw[aO _ (by rfl)];exact hp _ _ (hv.2 i (by simpa using hi))
 split
 ·rename_i sz xs hl;exact go hl (fun cs e=>by cases e)
 ·rename_i l hl;exact go hl (fun cs e=>by cases e)
 ·exact⟨x,s,hM,hS,hv⟩
theorem gW{us:List Value}:∀{l:List Nat}{c:CSt}{s:St}{x:Sit}{vs:List SV},aH C x s a w->Sim N c s->bM x vs us->
 ∃x' s',aH C x' s' a w/\Sim N (dO c vs l).1 s'/\bM x' (dO c vs l).2 us
 |[],_,_,_,_,hM,hS,hv=>⟨_,_,hM,hS,hv⟩
 |o::r,c,s,x,vs,hM,hS,hv=>by obtain⟨x1,s1,h1,h2,h3⟩:=jl (o:=o) hM hS hv;simp only[dO];exact gW h1 h2 h3
theorem M.pub(h:M C N c a w)(o:Nat):M C N (c.publish o []).1 a w:=by obtain⟨x,s,hM,hS⟩:=h;obtain⟨x',s',h1,h2,_⟩:=jl (o:=o) (vs:=[]) (us:=[]) hM hS ⟨rfl,fun i hi=>by simp at hi⟩;exact⟨x',s',h1,h2⟩
theorem FO(hM:aH C x s a w)(hS:Sim N c s)(id b lo hi:Nat)(hv:lo=hi\/((∃c e fl fh,dV w b c e fl fh/\hi<=c.size)/\C.mine b/\∀o,lo<=o->o<hi->x.G b o=none))
 (hob:∀p∈s.ob,b≠(x.bk p.1).1) (htk:∀u∈s.tk,jr (b,lo,hi) (x.τ u)\/(x.τ u).2.1=(x.τ u).2.2) {n:Nat} (hn:n<N) {v:SV}
 (hval:Rep (x.newT id b lo hi) v (a.tmps.toList.getD n Go.undef)):
 M C N ⟨hJ (cE id (id+1) c.tm) n v,bn id (id+1) c.ob,kd (bP id (id+1) c.tk) id⟩ a w:=by
 have hadd:cx C (x.newT id b lo hi) (bn id (id+1) s.ob) (id::bP id (id+1) s.tk) w:=
  hM.heap.addT id b lo hi hv (.inr fun p hp _=>hob p hp) (.inr fun u hu _=>htk u hu)
 have hM1:aH C (x.newT id b lo hi) ⟨SV.purgeL id (id+1) s.tm,bn id (id+1) s.ob,id::bP id (id+1) s.tk⟩ a w:=
  ⟨bM.mono (x:=x) (x':=x.newT id b lo hi) (lo:=id) (hi:=id+1) (fun _ _ _ h=>h) (fun _ _=>rfl) (Sit.newT_ne x id _ _ _) hM.tm,hM.defers,hadd⟩
 have hS1:Sim N ⟨cE id (id+1) c.tm,bn id (id+1) c.ob,kd (bP id (id+1) c.tk) id⟩ ⟨SV.purgeL id (id+1) s.tm,bn id (id+1) s.ob,id::bP id (id+1) s.tk⟩:=
  (hS.purge id (id+1)).tks (fun u=>by rw[iR,am,bq,bq,hS.tk])
 refine⟨x.newT id b lo hi,_, ?_,hS1.put (d:=some n) (fun k e=>by cases e;exact hn) v⟩;refine⟨⟨?_,fun i hi=> ?_⟩,hM1.defers,hM1.heap⟩
 ·have:=hM1.tm.1;simpa[St.put]using this
 ·simp only[St.put,gH]at hi
  simp only[St.put,aa,fj]
  by_cases hni:n=i
  ·subst hni
   rw[if_pos rfl,if_pos hi];rw[<-aa];exact hval
  ·rw[if_neg hni]
   have:=hM1.tm.2 i hi;simp only[aa]at this;exact this
theorem qG(h:M C N c a w){n id o sz off k cp:Nat}(hg:c.get n= .psl o sz off k (some cp))(hc:FQ c n id o sz off k cp (c.look o)=some c')(hn:n<N):M C N c' a w:=by
 cases hl:c.look o with
 |none=>rw[hl]at hc;cases hc;exact h
 |some obj0=>
  rw[hl]at hc
  have main:∀(obj:aA)(v:SV),(∀cs,obj≠ .rc cs)->(∀cs,obj0≠ .rc cs)->obj.size=(off+k)*sz->(off+cp)*sz<=obj0.size->k<=cp->(∀k,k<obj.size->obj.cell k=obj0.cell k)->obj.wf=true->
   (∀(x':Sit)(off':Nat),(cp=0\/off'=off*sz)->(∀k,k<obj.size->∃u,x'.G ((x'.bk o).1) k=some u/\bO x'.G (obj.cell k) u)->bO x'.G v (.slice (some ⟨(x'.bk o).1,off',none⟩) k cp))->
   (∀x v',Et x v v'=cJ x sz (.id id) v')->
   M C N (xw c n id o obj v) a w:=by
   intro obj v hnr hnr0 hsz hle hk hcl hwf hD htok;obtain⟨x,s,hM,hS⟩:=h;have hle':obj.size<=obj0.size:=by rw[hsz];exact mG (bi _ (by omega)) hle
   obtain⟨x',⟨hβ,hτ,hG,hfree,hcell⟩,hpub,s',hM',hS',hne⟩:=lH hl hnr hnr0 hle' hcl hwf hM hS;have hls:s.look o=some obj0:=(hS.look o).trans hl;obtain⟨cc,e,fl,fh,hO,hosz,_⟩:=dQ hM hls;have hob:=hM.heap.obs _ (cy hls);have hslot:=hM.slot n;rw[hS.get,hg]at hslot;obtain⟨cp',hkc,hcc,off',he,hoff⟩:=hslot.psl_inv;obtain rfl:=hcc _ rfl
   have hval0:a.tmps.toList.getD n Go.undef= .slice (some ⟨(x.bk o).1,off',none⟩) k cp:=by rw[<-he];simp[aX,aa]
   refine FO hM' hS' id ((x.bk o).1) ((off+k)*sz) ((off+cp)*sz) (.inr ⟨⟨cc,e,fl,fh,hO,by omega⟩,hob.2.1,fun i h1 h2=>hfree i (by omega)⟩) (fun p hp=>hne p hp) (fun u hu=> ?_) hn ?_
   ·have hu':=(hS'.tk u).1 hu
    have hu2:=(hS.tk u).2 hu';rw[hτ];exact(hM.heap.tko u hu2 _ (cy hls)).imp (fun h e=>h e.symm) (fun h=>h)
   ·rw[hval0]
    have h1:=hD (x'.newT id ((x.bk o).1) ((off+k)*sz) ((off+cp)*sz)) off' hoff (by show ∀k,k<obj.size->∃u,x'.G ((x'.bk o).1) k=some u/\bO x'.G (obj.cell k) u;rw[hβ];exact hcell)
    have e1:(x'.newT id ((x.bk o).1) ((off+k)*sz) ((off+cp)*sz)).bk o=x.bk o:=by show x'.bk o=_;rw[hβ]
    rw[e1]at h1;refine .dat _ _ h1 ?_;rw[htok];refine⟨_,k,cp,rfl, ?_⟩
    by_cases hcz:cp=0
    ·exact .inl (by omega)
    ·refine .inr ⟨_,off',rfl, ?_⟩
     rw[Sit.newT_eq,hoff.resolve_left hcz,bt,bt]
  cases obj0 with
  |rc cs=>cases hc;exact h
  |bar l=>
   simp only[FQ]at hc;split at hc<;>cases hc
   ·rename_i hcond
    obtain⟨rfl,h2,h3⟩:=hcond;refine main (.bar (l.take (off+k))) (.byt ((l.drop off).take k) (.id id)) (fun cs e=>by cases e) (fun cs e=>by cases e) (by simp only[aA.size,ax];omega) (by simp only[aA.size];omega) h3 (fun i hi=> ?_) rfl (fun x' off' hoff hcell=> ?_) (fun _ _=>rfl)
    ·simp only[aA.size,ax]at hi
     simp only[aA.cell,aa,bx,if_pos (show i<off+k by omega)]
    ·have hlen:((l.drop off).take k).length=k:=by simp;omega
     refine .byt _ _ _ _ _ _ hlen.symm h3 fun i hi=> ?_
     have hoff':off'=off:=by omega
     obtain⟨u,hu,hr⟩:=hcell (off+i) (by simp only[aA.size,ax];omega);rw[hoff',hu];simp only[aA.cell]at hr
     have e1:((l.drop off).take k).getD i 0=(l.take (off+k)).getD (off+i) 0:=by simp only[aa,bx,if_pos hi,bj,if_pos (show off+i<off+k by omega)]
     rw[e1];cases hr with
     |u8 b=>rfl
   ·exact h
  |arr sz' xs=>
   simp only[FQ]at hc;split at hc<;>cases hc
   ·rename_i hcond
    obtain⟨rfl,h2,h3⟩:=hcond;have hwf0:∀y∈xs,y.length=sz':=by obtain⟨x,s,hM,hS⟩:=h;exact gO.1 (hS.lookmem hl)
    have hwt:∀y∈xs.take (off+k),y.length=sz':=fun y hy=>hwf0 y (bU hy)
    have hrow:(xs.drop off).take k=(xs.take (off+k)).drop off:=by rw[xM,Nat.add_sub_cancel_left]
    refine main (.arr sz' (xs.take (off+k))) (.lst sz' ((xs.drop off).take k) (.id id)) (fun cs e=>by cases e) (fun cs e=>by cases e) (by simp only[aA.size,ax];congr 1;omega) (by simp only[aA.size];exact bi _ h2) h3 (fun i hi=> ?_) (gO.2 hwt) (fun x' off' hoff hcell=> ?_) (fun _ _=>rfl)
    ·simp only[aA.size,ax]at hi
     simp only[aA.cell,aa,bx];have hd:i/sz'<off+k:=Nat.div_lt_of_lt_mul (by rw[co];exact Nat.lt_of_lt_of_le hi (bi _ (Nat.min_le_left _ _)));rw[if_pos hd]
    ·have hlen:((xs.drop off).take k).length=k:=by simp;omega
     have hgr:∀i,i<k->((xs.drop off).take k).getD i []=(xs.take (off+k)).getD (off+i) []:=fun i hi=>by simp only[aa,bx,if_pos hi,bj,if_pos (show off+i<off+k by omega)]
     have hrl:∀i,i<k->((xs.drop off).take k).getD i []∈xs.take (off+k):=fun i hi=>by rw[hgr i hi,aa,ab (show off+i<(xs.take (off+k)).length by rw[ax];omega)];exact bd _
     have hcl:∀i j,i<k->j<sz'->∃u,x'.G ((x'.bk o).1) (off'+i*sz'+j)=some u/\bO x'.G ((((xs.drop off).take k).getD i []).getD j .undef) u:=by
      intro i j hi hj;have hoff':off'=off*sz':=hoff.resolve_left (by omega)
      have hlt:(off+i)*sz'+j<(off+k)*sz':=by have:=bi sz' (show off+i+1<=off+k by omega);rw[bt,Nat.one_mul]at this;omega
      obtain⟨u,hu,hr⟩:=hcell ((off+i)*sz'+j) (by simp only[aA.size,ax];rw[fA (by omega)];exact hlt);refine⟨u,by rw[hoff',<-bt];exact hu, ?_⟩;simp only[aA.cell]at hr;have e1:((off+i)*sz'+j)/sz'=off+i:=by rw[co,Nat.mul_add_div (by omega),Nat.div_eq_of_lt hj,ek]
      have e2:((off+i)*sz'+j) % sz'=j:=by rw[co,Nat.mul_add_mod,cr hj]
      rw[e1,e2]at hr;rw[hgr i hi];exact hr
     refine .lst _ _ _ _ _ _ _ (fun i j=>(x'.G ((x'.bk o).1) (off'+i*sz'+j)).getD Go.undef) hlen.symm h3 (fun i hi=>hwt _ (hrl i hi)) (fun i j hi hj=> ?_) (fun i j hi hj=> ?_)
     ·obtain⟨u,hu,_⟩:=hcl i j hi hj
      rw[hu];rfl
     ·obtain⟨u,hu,hr⟩:=hcl i j hi hj
      rw[hu];exact hr
   ·exact h
theorem iX(hM:aH C x s a w)(hS:Sim N c s)(id:Nat)(t:Option Nat)(ht:∀k,t=some k->k∈c.tk){n:Nat}(hn:n<N){v:SV}
 (hv:∀u,Rep x (c.get n) u->Rep (x.newT id ((t.elim (0,0,0) x.τ)).1 ((t.elim (0,0,0) x.τ)).2.1 ((t.elim (0,0,0) x.τ)).2.2) v u):
 M C N ⟨hJ (cE id (id+1) c.tm) n v,bn id (id+1) c.ob,kd (bP id (id+1) (t.elim c.tk fun k=>bP k (k+1) c.tk)) id⟩ a w:=by
 generalize hT:t.elim (0,0,0) x.τ=T at hv;generalize hL:(t.elim c.tk fun k=>bP k (k+1) c.tk)=L;have hH:=hM.heap
 have hLs:∀u∈L,u∈s.tk/\∀k,t=some k->u≠k:=by
  intro u hu;rw[<-hL]at hu;cases t with
  |none=>exact⟨(hS.tk u).2 hu,fun k e=>by cases e⟩
  |some k=>obtain⟨h1,h2⟩:=bq.1 hu;exact⟨(hS.tk u).2 h1,fun k' e=>by cases e;omega⟩
 have hadd:cx C (x.newT id T.1 T.2.1 T.2.2) (bn id (id+1) s.ob) (id::bP id (id+1) L) w:=by
  refine(hH.sub (tk':=L) (kO.refl _) (fun u hu=>(hLs u hu).1)).addT id T.1 T.2.1 T.2.2 ?_ ?_ ?_
  ·cases t with
   |none=>subst hT;exact .inl rfl
   |some k=>have:=hH.tks k ((hS.tk k).2 (ht k rfl));unfold fL at this;subst hT;exact this
  ·cases t with
   |none=>subst hT;exact .inl rfl
   |some k=>
    by_cases hc:(x.τ k).2.1=(x.τ k).2.2
    ·subst hT;exact .inl hc
    ·subst hT
     exact .inr fun p hp _=>(hH.tko k ((hS.tk k).2 (ht k rfl)) p hp).resolve_right hc
  ·cases t with
   |none=>subst hT;exact .inl rfl
   |some k=>
    by_cases hc:(x.τ k).2.1=(x.τ k).2.2
    ·subst hT;exact .inl hc
    ·subst hT
     refine .inr fun u hu _=> ?_
     obtain⟨h1,h2⟩:=hLs u hu;rcases hH.tkd k ((hS.tk k).2 (ht k rfl)) u h1 (fun e=>h2 k rfl e.symm)with h|h|h
     ·exact .inl h
     ·exact absurd h hc
     ·exact .inr h
 have hM1:aH C (x.newT id T.1 T.2.1 T.2.2) ⟨SV.purgeL id (id+1) s.tm,bn id (id+1) s.ob,id::bP id (id+1) L⟩ a w:=
  ⟨bM.mono (x:=x) (x':=x.newT id T.1 T.2.1 T.2.2) (lo:=id) (hi:=id+1) (fun _ _ _ h=>h) (fun _ _=>rfl) (Sit.newT_ne x id _ _ _) hM.tm,hM.defers,hadd⟩
 have hS1:Sim N ⟨cE id (id+1) c.tm,bn id (id+1) c.ob,kd (bP id (id+1) L) id⟩ ⟨SV.purgeL id (id+1) s.tm,bn id (id+1) s.ob,id::bP id (id+1) L⟩:=
  (hS.purge id (id+1)).tks (fun u=>by rw[iR,am])
 refine⟨x.newT id T.1 T.2.1 T.2.2,_, ?_,hS1.put (d:=some n) (fun k e=>by cases e;exact hn) v⟩;have hlt:n<s.tm.length:=by rw[hS.tm];simpa using hn
 refine⟨⟨?_,fun i hi=> ?_⟩,hM1.defers,hM1.heap⟩
 ·have:=hM1.tm.1;simpa[St.put]using this
 ·simp only[St.put,gH]at hi
  simp only[St.put,aa,fj]
  by_cases hni:n=i
  ·subst hni
   rw[if_pos rfl,if_pos hi];refine hv _ ?_;have:=hM.tm.2 n hlt;have e:s.tm.getD n .undef=c.get n:=hS.get n;rw[e]at this;rw[<-aa];exact this
  ·rw[if_neg hni,<-aa,<-aa]
   exact hM1.tm.2 i hi
theorem qH(h:M C N c a w){n id:Nat}(hc:FR c n id (c.get n)=some c'):M C N c' a w:=by
 have hnN:c.get n≠ .undef->n<N:=by
  obtain⟨x,s,hM,hS⟩:=h;intro hne;rcases bQ n N with h1|h1
  ·exact h1
  ·exact absurd (hS.inv.get h1) hne
 cases hg:c.get n with
 |byt l t=>
  rw[hg]at hc;have hN:=hnN (by rw[hg];exact fun e=>by cases e);cases t with
  |no=>cases hc;exact h
  |clip=>
   cases hc;obtain⟨x,s,hM,hS⟩:=h;refine iX hM hS id none (fun k e=>by cases e) hN fun u hu=> ?_
   rw[hg]at hu;exact leT.byt id l x u hu
  |id t=>
   simp only[FR]at hc;split at hc
   ·cases hc;exact h
   ·split at hc<;>cases hc
    rename_i h1 h2;obtain⟨x,s,hM,hS⟩:=h;refine iX hM hS id (some t) (fun k e=>by cases e;simpa using h2) hN fun u hu=> ?_
    rw[hg]at hu;obtain⟨b,cap,he,_,hD,hsp⟩:=hu.byt_inv;refine .dat _ _ (hD.tok (.byt l (.id id)) (.inl ⟨l,_,_,rfl,rfl⟩)) ?_;obtain⟨a',n',cap',he',hh⟩:=hsp;refine⟨a',n',cap',he',hh.imp (fun h=>h) ?_⟩;rintro⟨b,off,h3,h4⟩;exact⟨b,off,h3,by rw[Sit.newT_eq];exact h4⟩
 |lst sz xs t=>
  rw[hg]at hc;have hN:=hnN (by rw[hg];exact fun e=>by cases e);cases t with
  |no=>cases hc;exact h
  |clip=>
   cases hc;obtain⟨x,s,hM,hS⟩:=h;refine iX hM hS id none (fun k e=>by cases e) hN fun u hu=> ?_
   rw[hg]at hu;exact leT.lst id sz xs x u hu
  |id t=>
   simp only[FR]at hc;split at hc
   ·cases hc;exact h
   ·split at hc<;>cases hc
    rename_i h1 h2;obtain⟨x,s,hM,hS⟩:=h;refine iX hM hS id (some t) (fun k e=>by cases e;simpa using h2) hN fun u hu=> ?_
    rw[hg]at hu;obtain⟨b,cap,he,_,hD,hsp⟩:=hu.lst_inv;refine .dat _ _ (hD.tok (.lst sz xs (.id id)) (.inr ⟨sz,xs,_,_,rfl,rfl⟩)) ?_;obtain⟨a',n',cap',he',hh⟩:=hsp;refine⟨a',n',cap',he',hh.imp (fun h=>h) ?_⟩;rintro⟨b,off,h3,h4⟩;exact⟨b,off,h3,by rw[Sit.newT_eq];exact h4⟩
 |psl o sz off k cp=>
  rw[hg]at hc;have hN:=hnN (by rw[hg];exact fun e=>by cases e);cases cp with
  |none=>cases hc;exact h
  |some cp=>exact qG h hg hc hN
 |_=>rw[hg]at hc;cases hc;exact h
theorem aH.retag(hM:aH C x s a w)(n:Nat){v:SV}(hval:Rep x v (a.tmps.toList.getD n Go.undef)):aH C x (s.put (some n) v) a w:=by
 refine⟨⟨?_,fun i hi=> ?_⟩,hM.defers,hM.heap⟩
 ·have:=hM.tm.1;simpa[St.put]using this
 ·simp only[St.put,gH]at hi
  simp only[St.put,aa,fj]
  by_cases hni:n=i
  ·subst hni
   rw[if_pos rfl,if_pos hi];rw[<-aa];exact hval
  ·rw[if_neg hni]
   have:=hM.tm.2 i hi;simp only[aa]at this;exact this
theorem cx.move{ob:List (Nat×aA)}{tk:List Nat}(h:cx C x ob tk w){o d:Nat}(hd100:100<=d){obj:aA}(ho:(o,obj)∈ob)(hnr:∀cs,obj≠ .rc cs):
 cx C (x.newO d (x.bk o).1 (x.bk o).2) ((d,obj)::bn d (d+1) (bn o (o+1) ob)) (bP d (d+1) (bP o (o+1) tk)) w:=by
 have hβ:=Sit.newO_ne x d (x.bk o).1 (k:=(x.bk o).2);obtain⟨⟨c,e,fl,fh,hO,hs,hr⟩,hm,hg⟩:=h.obs _ ho;have hd2:(x.newO d (x.bk o).1 (x.bk o).2).bk d=x.bk o:=if_pos rfl
 have hob:∀p∈bn d (d+1) (bn o (o+1) ob),(x.newO d (x.bk o).1 (x.bk o).2).bk p.1=x.bk p.1/\∃q,(p.1,q)∈ob/\p.1≠o/\¬(d<=p.1/\p.1<d+1)/\p.2=(q.purge o (o+1)).purge d (d+1):=by intro p hp;obtain⟨h1,q,h2,h3⟩:=bL hp;obtain⟨h4,q',h5,h6⟩:=bL h2;simp only at h4 h5 h6;exact⟨hβ _ h1,q',h5,by omega,h1,by rw[h3,h6]⟩
 have htk:∀t∈bP d (d+1) (bP o (o+1) tk),t∈tk:=fun t ht=>(bq.1 (bq.1 ht).1).1
 refine⟨h.per,h.g0,h.gm,h.new, ?_, ?_, ?_,fun t ht=>h.tks t (htk t ht), ?_,fun t ht u hu=>h.tkd t (htk t ht) u (htk u hu),h.os,h.tape,h.output,h.size,h.ext,fun i hi=>by rw[hβ i (by omega)];exact h.pin i hi,h.lay⟩
 ·intro p hp
  rcases am.1 hp with rfl|hp
  ·refine⟨⟨c,e,fl,fh,by rw[hd2];exact hO,by rw[hd2];exact hs,fun k hk=> ?_⟩,by rw[hd2];exact hm,fun off=>by rw[hd2];exact hg off⟩
   have:=hr k hk;cases obj with
   |rc cs=>exact absurd rfl (hnr cs)
   |arr sz xs=>exact this
   |bar l=>exact this
  ·obtain⟨he,q,h1,h2,h3,h4⟩:=hob p hp
   obtain⟨h5,h6,h7⟩:=h.obs _ h1;refine⟨?_,by rw[he];exact h6,fun off=>by rw[he];exact h7 off⟩;have e1:=h5.of_heap (x':=x) (w':=w) (lo:=o) (hi:=o+1) rfl (fun _ _ _ h=>h) (fun _ _=>rfl) (fun _ _=>rfl) (by omega);have e2:=e1.of_heap (x':=x.newO d (x.bk o).1 (x.bk o).2) (w':=w) (lo:=d) (hi:=d+1) rfl (fun _ _ _ h=>h) hβ (fun _ _=>rfl) h3;rw[h4];exact e2
 ·rw[aD,cZ,dM,dM]
  refine⟨fun hmem=> ?_,(h.nd.filter _).filter _⟩;have:=(List.mem_filter.1 hmem).2;simp at this
 ·intro p hp q hq hpq
  rcases am.1 hp with rfl|hp<;>rcases am.1 hq with rfl|hq
  ·rfl
  ·obtain⟨he,q',h1,h2,_⟩:=hob q hq
   rw[hd2,he]at hpq;exact absurd (h.inj (o,obj) ho (q.1,q') h1 hpq).symm h2
  ·obtain⟨he,q',h1,h2,_⟩:=hob p hp
   rw[hd2,he]at hpq;exact absurd (h.inj (p.1,q') h1 (o,obj) ho hpq) h2
  ·obtain⟨he,q1,h1,_⟩:=hob p hp
   obtain⟨he',q2,h2,_⟩:=hob q hq;rw[he,he']at hpq;exact h.inj (p.1,q1) h1 (q.1,q2) h2 hpq
 ·intro t ht p hp
  rcases am.1 hp with rfl|hp
  ·show(x.τ t).1≠((x.newO d (x.bk o).1 (x.bk o).2).bk d).1\/_
   rw[hd2];exact h.tko t (htk t ht) (o,obj) ho
  ·obtain⟨he,q,h1,_⟩:=hob p hp
   show(x.τ t).1≠((x.newO d (x.bk o).1 (x.bk o).2).bk p.1).1\/_;rw[he];exact h.tko t (htk t ht) (p.1,q) h1
theorem aH.move(hM:aH C x s a w){o d:Nat}(hd100:100<=d){obj:aA}(hl:s.look o=some obj)(hnr:∀cs,obj≠ .rc cs):
 aH C (x.newO d (x.bk o).1 (x.bk o).2) (((s.purge o (o+1)).purge d (d+1)).addO d obj) a w:=
 ⟨bM.mono (x:=x) (x':=x.newO d (x.bk o).1 (x.bk o).2) (lo:=d) (hi:=d+1) (fun _ _ _ h=>h) (Sit.newO_ne x d _) (fun _ _=>rfl) (hM.purge o (o+1)).tm,hM.defers,hM.heap.move hd100 (cy hl) hnr⟩
theorem p8{n id o sz off k:Nat}{cap:Option Nat}{obj:aA}(hM:aH C x s a w)(hS:Sim N c s)(hn:n<N)(hid:100<=id)(hg:c.get n= .psl o sz off k cap)(hl:c.look o=some obj)(hnr:∀cs,obj≠ .rc cs):
 M C N (mvC c n id o sz off k cap obj) a w:=by
 have hM1:=hM.move hid (by rw[hS.look];exact hl) hnr;have hS1:=(((hS.purge o (o+1)).purge id (id+1)).addO id (hS.lookmem hl)).put (d:=some n) (fun k e=>by cases e;exact hn) (.psl id sz off k cap);refine⟨x.newO id (x.bk o).1 (x.bk o).2,_, ?_,hS1⟩
 have hv:Rep x (.psl o sz off k cap) (a.tmps.toList.getD n Go.undef):=by have:=hM.tm.2 n (by rw[hS.tm];simpa using hn);rw[show s.tm.getD n .undef=c.get n from hS.get n,hg]at this;exact this
 obtain⟨cap',h1,h2,off',he,h3,h4⟩:=hv.psl_invA;refine hM1.retag n ?_;rw[he];have hd2:(x.newO id (x.bk o).1 (x.bk o).2).bk id=x.bk o:=if_pos rfl;have:=Rep.psl (x:=x.newO id (x.bk o).1 (x.bk o).2) id sz off k cap off' cap' h3 h1 h2 (by rw[hd2];exact h4);rw[hd2]at this;exact this
theorem rt(h:M C N c a w){n id:Nat}(hid:100<=id)(hc:MG c n id (c.get n)=some c'):M C N c' a w:=by
 obtain⟨x,s,hM,hS⟩:=h;cases hg:c.get n with
 |psl o sz off k cap=>
  rw[hg]at hc
  have hn:n<N:=by
   rcases bQ n N with h|h
   ·exact h
   ·rw[hS.inv.get h]at hg;cases hg
  simp only[MG]at hc;split at hc
  ·cases hc;exact⟨x,s,hM,hS⟩
  ·cases hl:c.look o with
   |none=>rw[hl]at hc;cases hc;exact⟨x,s,hM,hS⟩
   |some obj=>
    rw[hl]at hc;cases obj with
    |rc cs=>cases hc;exact⟨x,s,hM,hS⟩
    |arr sz' xs=>cases hc;exact p8 hM hS hn hid hg hl (fun cs e=>by cases e)
    |bar l=>cases hc;exact p8 hM hS hn hid hg hl (fun cs e=>by cases e)
 |_=>rw[hg]at hc;cases hc;exact⟨x,s,hM,hS⟩
theorem l0(h:M C N c a w){q:Dir}(hc:mX c q=some c'):M C N c' a w:=by
 cases q with
 |kill l=>cases hc;exact h.kill l
 |gc l=>cases hc;exact h.gc
 |gcr lo hi=>cases hc;exact h.purge lo hi
 |pubo o=>cases hc;exact h.pub _
 |pub n=>
  simp only[mX]at hc;split at hc<;>cases hc
  ·exact h.pub _
  ·exact h
 |tok n id=>
  simp only[mX]at hc;split at hc
  ·cases hc
  ·exact qH h hc
 |obj n id=>
  simp only[mX]at hc;split at hc
  ·cases hc
  ·exact rt h (by omega) hc
theorem iI:∀{l:List Dir}{c:CSt},M C N c a w->gj c l=some c'->M C N c' a w
 |[],_,h,hc=>by cases hc;exact h
 |q::r,c,h,hc=>by
  simp only[gj]at hc;split at hc
  ·rename_i c1 h1;exact iI (l0 h h1) hc
  ·cases hc
end Go.Sy
namespace Go.Sy
variable [aU]
variable {P : Program} {C : Ctx} {x : Sit} {a : Act} {w : World} {N : Nat} {c c' : CSt} {s : St}
def ik(P:Program)(f:Nat)(args:List SV)(os:List aA)(k:Nat)(R:dp->Prop):Prop:=
 dx P f=true/\∀(C:Ctx)(x:Sit)(w:World)(vs:List Value),C.w0=w->C.G0=x.G->
  (∀b,C.mine b->w.heap.size<=b\/(∃i,i<os.length/\(x.bk i).1=b)\/(∃t,50<=t/\t<50+k/\(x.τ t).2.1≠(x.τ t).2.2/\(x.τ t).1=b))->os.length<=40->
  (∀o∈os,o.wf=true)->cx C x (idx os) (tks 50 k) w->bM x args vs->
  Calls P f ⟨vs⟩ w fun e w'=>∃v x' q,e= .returned v/\R q/\Rep x' q.r v/\cx C x' q.os q.tk w'/\(∀p∈q.os,p.2.wf=true)/\∀i,i<os.length->x'.bk i=x.bk i
theorem iW(cs:List SV):SV.bareL cs=cs.map SV.bare:=by
 induction cs with
 |nil=>rfl
 |cons c r ih=>simp only[SV.bareL,aD,ih]
theorem Rep.bare{x x':Sit}(hG:x'.G=x.G)(hβ:x'.bk=x.bk){sv:SV}{v:Value}(h:Rep x sv v):Rep x' sv.bare v:=by
 induction h with
 |undef v=>exact .undef v
 |dat s v h ht=>
  have h':=h.toData;rw[<-hG]at h';cases s with
  |byt l t=>exact .dat _ _ h' trivial
  |lst sz xs t=>exact .dat _ _ h' trivial
  |undef=>exact .undef v
  |bool b=>exact .dat _ _ h' trivial
  |int k n=>exact .dat _ _ h' trivial
  |u8 b=>exact .dat _ _ h' trivial
  |str l=>exact .dat _ _ h' trivial
  |nilp=>exact .dat _ _ h' trivial
  |nili=>exact .dat _ _ h' trivial
  |pp cs=>exact .dat _ _ h' trivial
  |ptr o off=>cases h
  |ap o sz i j=>cases h
  |psl o sz off n cap=>cases h
  |agg cs=>cases h
  |tup cs=>cases h
  |fn f a b=>cases h
 |ptr o off=>simp only[SV.bare];rw[<-hβ];exact .ptr o off
 |ap o sz i j=>simp only[SV.bare];rw[<-hβ];exact .ap o sz i j
 |psl o sz off n cap off' cap' h hn hc hk=>simp only[SV.bare];rw[<-hβ]at hk ⊢;exact .psl o sz off n cap off' cap' h hn hc hk
 |agg cs vs hl _ ih=>simp only[SV.bare,iW];exact .agg _ _ (by simpa using hl) fun i hi=>by rw[aO _ (by rfl)];exact ih i (by simpa using hi)
 |tup cs vs hl _ ih=>simp only[SV.bare,iW];exact .tup _ _ (by simpa using hl) fun i hi=>by rw[aO _ (by rfl)];exact ih i (by simpa using hi)
 |fn f c1 c2 v1 v2 hl1 _ hl2 _ ih1 ih2=>simp only[SV.bare,iW];exact .fn _ _ _ _ _ (by simpa using hl1) (fun i hi=>by rw[aO _ (by rfl)];exact ih1 i (by simpa using hi)) (by simpa using hl2) (fun i hi=>by rw[aO _ (by rfl)];exact ih2 i (by simpa using hi))
def Eu(x:Sit):Option Nat->Nat×Nat×Nat
 |none=>(0,0,0)
 |some t=>x.τ t
def lh(x x1:Sit)(j:Nat)(l:List (Option Nat)):Prop:=∀k,k<l.length->x1.τ (j+k)=Eu x (l.getD k none)
theorem lh.left{x x1:Sit}{j:Nat}{l r:List (Option Nat)}(h:lh x x1 j (l++r)):lh x x1 j l:=fun k hk=>by have:=h k (by simp;omega);rwa[aa,bA hk,<-aa]at this
theorem lh.right{x x1:Sit}{j:Nat}{l r:List (Option Nat)}(h:lh x x1 j (l++r)):lh x x1 (j+l.length) r:=fun k hk=>by have:=h (l.length+k) (by simp;omega);rw[aa,bC (by omega),<-aa]at this;rw[dJ,this];congr 2;omega
theorem i7{t:Nat}:∀{l:List (Option Nat)},t∈bN l↔some t∈l
 |[]=>by simp[bN]
 |none::r=>by simp[bN,i7]
 |some u::r=>by simp[bN,i7]
theorem eB(l r:List (Option Nat)):bN (l++r)=bN l++bN r:=by
 induction l with
 |nil=>rfl
 |cons o l ih=>cases o<;>simp[bN,ih]
theorem wz{x x1:Sit}(hG:x1.G=x.G)(hβ:x1.bk=x.bk){v:SV}{u:Value}(h:Rep x v u):Rep x1 v.kclip u:=by
 have hb:=h.bare hG hβ;cases v with
 |lst sz xs t=>
  cases t with
  |no=>exact hb
  |id u=>exact hb
  |clip=>
   cases xs with
   |cons y r=>exact hb
   |nil=>obtain⟨b,cap,he,_,hD,hsp⟩:=h.lst_inv;obtain⟨a',n',he'⟩:=hsp;rw[<-hG]at hD;exact .dat _ _ (hD.tok (.lst _ [] .clip) (.inr ⟨_,[],_,_,rfl,rfl⟩)) ⟨a',n',he'⟩
 |byt l t=>
  cases t with
  |no=>exact hb
  |id u=>exact hb
  |clip=>
   cases l with
   |cons y r=>exact hb
   |nil=>obtain⟨b,cap,he,_,hD,hsp⟩:=h.byt_inv;obtain⟨a',n',he'⟩:=hsp;rw[<-hG]at hD;exact .dat _ _ (hD.tok (.byt [] .clip) (.inl ⟨[],_,_,rfl,rfl⟩)) ⟨a',n',he'⟩
 |_=>exact hb
theorem rA{x x1:Sit}(hG:x1.G=x.G)(hβ:x1.bk=x.bk){cs:List SV}{u:Value}(h:Rep x (.agg cs) u):Rep x1 (.agg (cs.map SV.kclip)) u:=by
 cases h with
 |dat _ _ h _=>cases h
 |agg _ vs hl h=>
  refine .agg _ vs (by rw[aK];exact hl) fun i hi=> ?_
  rw[aK]at hi;have h1:=wz hG hβ (h i hi);rw[aa,ab hi,aV]at h1;rw[aa,aI,ab hi,bf,aV];exact h1
theorem iM{x x1:Sit}(hG:x1.G=x.G)(hβ:x1.bk=x.bk){tk:List Nat}{j:Nat}{v:SV}{u:Value}(h:Rep x v u)(ht:lh x x1 j (ix tk j v).2):Rep x1 (ix tk j v).1 u:=by
 have hb:=h.bare hG hβ;cases v with
 |byt l t=>
  cases t with
  |no=>exact hb
  |clip=>have e:=ht 0 (by simp[ix]);obtain⟨b,cap,he,_,hD,hsp⟩:=h.byt_inv;obtain⟨a',n',he'⟩:=hsp;rw[<-hG]at hD;exact .dat _ _ (hD.tok (.byt l (.id j)) (.inl ⟨l,_,_,rfl,rfl⟩)) ⟨a',n',n',he',.inl rfl⟩
  |id t=>
   by_cases hc:tk.contains t=true
   ·have e:=ht 0 (by simp only[ix,hc,if_true,aj];omega)
    simp only[ix,hc,if_true]at e ⊢;obtain⟨b,cap,he,_,hD,hsp⟩:=h.byt_inv;obtain⟨a',n',cap',he',hh⟩:=hsp;rw[<-hG]at hD;refine .dat _ _ (hD.tok (.byt l (.id j)) (.inl ⟨l,_,_,rfl,rfl⟩)) ⟨a',n',cap',he',hh.imp id ?_⟩;rintro⟨b,off,h1,h2⟩;exact⟨b,off,h1,by rw[ek]at e;rw[e];exact h2⟩
   ·simp only[ix,hc,if_false];exact hb
 |lst sz xs t=>
  cases t with
  |no=>exact hb
  |clip=>obtain⟨b,cap,he,_,hD,hsp⟩:=h.lst_inv;obtain⟨a',n',he'⟩:=hsp;rw[<-hG]at hD;exact .dat _ _ (hD.tok (.lst sz xs (.id j)) (.inr ⟨sz,xs,_,_,rfl,rfl⟩)) ⟨a',n',n',he',.inl rfl⟩
  |id t=>
   by_cases hc:tk.contains t=true
   ·have e:=ht 0 (by simp only[ix,hc,if_true,aj];omega)
    simp only[ix,hc,if_true]at e ⊢;obtain⟨b,cap,he,_,hD,hsp⟩:=h.lst_inv;obtain⟨a',n',cap',he',hh⟩:=hsp;rw[<-hG]at hD;refine .dat _ _ (hD.tok (.lst sz xs (.id j)) (.inr ⟨sz,xs,_,_,rfl,rfl⟩)) ⟨a',n',cap',he',hh.imp id ?_⟩;rintro⟨b,off,h1,h2⟩;exact⟨b,off,h1,by rw[ek]at e;rw[e];exact h2⟩
   ·simp only[ix,hc,if_false];exact hb
 |agg cs=>exact rA hG hβ h
 |_=>exact hb
theorem ln{tk:List Nat}{j:Nat}{v:SV}:∀t∈bN (ix tk j v).2,t∈tk:=by
 intro t ht;cases v with
 |byt l q=>
  cases q with
  |id u=>
   by_cases hc:tk.contains u=true
   ·simp only[ix,hc,if_true,bN,bW]at ht;subst ht;simpa using hc
   ·simp only[ix,hc,if_false,bN]at ht;cases ht
  |_=>cases ht
 |lst sz xs q=>
  cases q with
  |id u=>
   by_cases hc:tk.contains u=true
   ·simp only[ix,hc,if_true,bN,bW]at ht;subst ht;simpa using hc
   ·simp only[ix,hc,if_false,bN]at ht;cases ht
  |_=>cases ht
 |_=>cases ht
theorem cI{x:Sit}{v:SV}{u:Value}{cs:List SV}{us:List Value}:bM x (v::cs) (u::us)↔Rep x v u/\bM x cs us:=by
 constructor
 ·intro h
  exact⟨h.2 0 (by simp),by simpa using h.1,fun i hi=>by simpa using h.2 (i+1) (by simpa using hi)⟩
 ·rintro⟨h1,h2⟩
  exact⟨by simp[h2.1],fun i hi=>by
   cases i with
   |zero=>exact h1
   |succ i=>simpa using h2.2 i (by simpa using hi)⟩
theorem x6{x x1:Sit}(hG:x1.G=x.G)(hβ:x1.bk=x.bk){tk:List Nat}{j:Nat}{v:SV}{u:Value}(h:Rep x v u)(ht:lh x x1 j (ni tk j v).2):Rep x1 (ni tk j v).1 u:=by
 cases v with
 |lst sz xs t=>
  cases t with
  |clip=>
   cases hx:xs.isEmpty with
   |true=>simp only[ni,oW,hx,oX];obtain⟨b,cap,he,_,hD,hsp⟩:=h.lst_inv;rw[<-hG]at hD;exact .dat _ _ hD hsp
   |false=>simp only[ni,oW,hx,oX]at ht ⊢;exact iM (tk:=tk) hG hβ h ht
  |no=>exact iM hG hβ h ht
  |id t=>exact iM hG hβ h ht
 |_=>exact iM hG hβ h ht
theorem FP{tk:List Nat}{j:Nat}{v:SV}:∀t∈bN (ni tk j v).2,t∈tk:=by
 cases v with
 |lst sz xs t=>
  cases t with
  |clip=>
   cases hx:xs.isEmpty with
   |true=>intro t ht;simp[ni,oW,hx,oX,bN]at ht
   |false=>intro t ht;simp[ni,oW,hx,oX,bN]at ht
  |no=>exact ln
  |id t=>exact ln
 |_=>exact ln
theorem jQ{x x1:Sit}(hG:x1.G=x.G)(hβ:x1.bk=x.bk){tk own:List Nat}:∀{cs:List SV}{us:List Value}{j i:Nat},bM x cs us->lh x x1 j (iy tk own j i cs).2->bM x1 (iy tk own j i cs).1 us
 |[],[],_,_,_,_=>⟨rfl,fun i hi=>by simp[iy]at hi⟩
 |[],_::_,_,_,h,_=>absurd h.1 (by simp)
 |_::_,[],_,_,h,_=>absurd h.1 (by simp)
 |v::r,u::us,j,i,h,ht=>by
  obtain⟨h1,h2⟩:=cI.1 h;simp only[iy]at ht ⊢;split
  ·rename_i hc
   rw[if_pos hc]at ht;exact cI.2 ⟨x6 hG hβ h1 ht.left,jQ hG hβ h2 ht.right⟩
  ·rename_i hc
   rw[if_neg hc]at ht;exact cI.2 ⟨h1.bare hG hβ,jQ hG hβ h2 ht⟩
theorem lq{tk own:List Nat}:∀{cs:List SV}{j i:Nat},∀t∈bN (iy tk own j i cs).2,t∈tk
 |[],_,_,t,ht=>by cases ht
 |v::r,j,i,t,ht=>by
  simp only[iy]at ht;split at ht
  ·rw[eB,ah]at ht
   exact ht.elim (FP t) (lq t)
  ·exact lq t ht
theorem pH{x x1:Sit}(hG:x1.G=x.G)(hβ:x1.bk=x.bk){tk:List Nat}:∀{cs:List SV}{j:Nat}{f:Nat->Value},(∀k,k<cs.length->Rep x (cs.getD k .undef) (f k))->lh x x1 j (n9 tk j cs).2->
 (n9 tk j cs).1.length=cs.length/\∀k,k<cs.length->Rep x1 ((n9 tk j cs).1.getD k .undef) (f k)
 |[],_,_,_,_=>⟨rfl,fun i hi=>by simp at hi⟩
 |v::r,j,f,h,ht=>by
  simp only[n9]at ht ⊢;obtain⟨h1,h2⟩:=pH (f:=fun k=>f (k+1)) hG hβ (fun k hk=>by simpa using h (k+1) (by simpa using hk)) ht.right;refine⟨by simp[h1],fun k hk=> ?_⟩;cases k with
  |zero=>exact iM hG hβ (h 0 (by simp)) ht.left
  |succ k=>simpa using h2 k (by simpa using hk)
theorem tH{tk:List Nat}:∀{cs:List SV}{j:Nat},∀t∈bN (n9 tk j cs).2,t∈tk
 |[],_,t,ht=>by cases ht
 |v::r,j,t,ht=>by simp only[n9]at ht;rw[eB,ah]at ht;exact ht.elim (ln t) (tH t)
theorem vA{x x1:Sit}(hG:x1.G=x.G)(hβ:x1.bk=x.bk){tk:List Nat}{j o:Nat}{ob:aA}(h:cY x w o ob)(ht:lh x x1 j (io tk j ob).2):cY x1 w o (io tk j ob).1:=by
 obtain⟨cc,e,fl,fh,hO,hs,hr⟩:=h;cases ob with
 |rc cs=>obtain⟨h1,h2⟩:=pH (f:=fun k=>cc.getD k Go.undef) hG hβ hr ht;exact⟨cc,e,fl,fh,by rw[hβ];exact hO,by rw[hβ];simp only[io,aA.size,h1]at hs ⊢;exact hs,fun k hk=>h2 k (by simpa only[io,aA.size,h1]using hk)⟩
 |arr sz xs=>exact⟨cc,e,fl,fh,by rw[hβ];exact hO,by rw[hβ];exact hs,fun k hk=>by have:=hr k hk;simp only[io,bI]at this ⊢;rw[hG];exact this⟩
 |bar l=>exact⟨cc,e,fl,fh,by rw[hβ];exact hO,by rw[hβ];exact hs,fun k hk=>by have:=hr k hk;simp only[io,bI]at this ⊢;rw[hG];exact this⟩
theorem x7{tk:List Nat}{j:Nat}{ob:aA}(h:ob.wf=true):(io tk j ob).1.wf=true:=by cases ob<;>first|rfl|exact h
theorem x8{tk:List Nat}{j:Nat}{ob:aA}:∀t∈bN (io tk j ob).2,t∈tk:=by
 intro t ht;cases ob with
 |rc cs=>exact tH t ht
 |_=>cases ht
theorem jt{x x1:Sit}(hG:x1.G=x.G)(hβ:x1.bk=x.bk){tk:List Nat}:∀{obs:List aA}{j:Nat}{f:Nat->Nat},(∀k,k<obs.length->cY x w (f k) (obs.getD k (.rc [])))->lh x x1 j (du tk j obs).2->
 (du tk j obs).1.length=obs.length/\∀k,k<obs.length->cY x1 w (f k) ((du tk j obs).1.getD k (.rc []))
 |[],_,_,_,_=>⟨rfl,fun i hi=>by simp at hi⟩
 |v::r,j,f,h,ht=>by
  simp only[du]at ht ⊢;obtain⟨h1,h2⟩:=jt (f:=fun k=>f (k+1)) hG hβ (fun k hk=>by simpa using h (k+1) (by simpa using hk)) ht.right;refine⟨by simp[h1],fun k hk=> ?_⟩;cases k with
  |zero=>exact vA hG hβ (h 0 (by simp)) ht.left
  |succ k=>simpa using h2 k (by simpa using hk)
theorem kt{tk:List Nat}:∀{obs:List aA}{j:Nat},∀t∈bN (du tk j obs).2,t∈tk
 |[],_,t,ht=>by cases ht
 |v::r,j,t,ht=>by simp only[du]at ht;rw[eB,ah]at ht;exact ht.elim (x8 t) (kt t)
theorem kr{tk:List Nat}:∀{obs:List aA}{j:Nat},(∀o∈obs,o.wf=true)->∀o∈(du tk j obs).1,o.wf=true
 |[],_,_,o,ho=>by cases ho
 |v::r,j,h,o,ho=>by
  simp only[du]at ho;rcases am.1 ho with e|e
  ·rw[e];exact x7 (h v (aB ..))
  ·exact kr (fun o h'=>h o (an _ h')) o e
theorem ki{m:List Nat}{o:Nat}(h:o∈m):ft m o<m.length/\m.getD (ft m o) 0=o:=by
 induction m with
 |nil=>cases h
 |cons p r ih=>
  simp only[ft];split
  ·rename_i hp;subst hp;simp
  ·rename_i hp
   obtain⟨h1,h2⟩:=ih ((am.1 h).resolve_left (Ne.symm hp));exact⟨by simpa using h1,by simpa using h2⟩
theorem hZ{l:List Nat}(h:cQ l=true):l.Nodup:=by
 induction l with
 |nil=>exact List.nodup_nil
 |cons p r ih=>simp only[cQ,aw,cT,dR,decide_eq_false_iff_not]at h;exact cZ.2 ⟨h.1,ih h.2⟩
theorem pI{l r:List Nat}(h:lr l r=true):∀o∈l,o∈r:=by intro o ho;simp only[lr,aN,dR,decide_eq_true_eq]at h;exact h o ho
theorem mm:∀{m:List Nat}{os:List aA},fk c m=some os->os.length=m.length/\∀i,i<m.length->c.look (m.getD i 0)=some (os.getD i (.rc []))
 |[],os,h=>by cases h;exact⟨rfl,fun i hi=>by simp at hi⟩
 |o::r,os,h=>by
  simp only[fk]at h;split at h<;>cases h;rename_i ob l h1 h2;obtain⟨h3,h4⟩:=mm h2;refine⟨by simp[h3],fun i hi=> ?_⟩;cases i with
  |zero=>exact h1
  |succ i=>simpa using h4 i (by simpa using hi)
theorem eZ(mo mt:Nat->Nat)(l:List aA):dy mo mt l=l.map fun o=>o.ren mo mt:=by
 induction l with
 |nil=>rfl
 |cons p r ih=>simp only[dy,aD,ih]
theorem lO{l:List aA}{o:aA}(h:o∈l):∀k∈o.ids,k∈eE l:=by
 induction l with
 |nil=>cases h
 |cons p r ih=>
  intro k hk;simp only[eE,ah];rcases am.1 h with e|e
  ·subst e;exact .inl hk
  ·exact .inr (ih e k hk)
theorem kI{l:List (Option Nat)}(h:(bN l).Nodup):∀{i j:Nat}{t u:Nat},i≠j->l.getD i none=some t->l.getD j none=some u->t≠u:=by
 have key:∀{l:List (Option Nat)},(bN l).Nodup->∀{i j:Nat}{t u:Nat},i<j->l.getD i none=some t->l.getD j none=some u->t≠u:=by
  intro l;induction l with
  |nil=>intro _ i j t u _ h1;simp at h1
  |cons o r ih=>
   intro hn i j t u hij h1 h2
   have hr:(bN r).Nodup:=by cases o with
    |none=>exact hn
    |some q=>exact(cZ.1 hn).2
   cases j with
   |zero=>omega
   |succ j=>
    rw[List.getD_cons_succ]at h2;cases i with
    |zero=>
     rw[List.getD_cons_zero]at h1;subst h1
     have h3:some u∈r:=by
      rw[aa]at h2;cases hj:r[j]? with
      |none=>rw[hj]at h2;cases h2
      |some q=>rw[hj]at h2;cases h2;exact List.mem_of_getElem? hj
     intro e;subst e;exact(cZ.1 hn).1 (i7.2 h3)
    |succ i=>rw[List.getD_cons_succ]at h1;exact ih hr (by omega) h1 h2
 intro i j t u hij h1 h2;rcases Nat.lt_or_gt_of_ne hij with h3|h3
 ·exact key h h3 h1 h2
 ·exact(key h h3 h2 h1).symm
theorem il{b n t:Nat}:t∈tks b n↔b<=t/\t<b+n:=by
 unfold tks
 have:∀n k,k∈jg n↔k<n:=by
  intro n;induction n with
  |zero=>intro k;simp[jg]
  |succ n ih=>intro k;simp only[jg,ah,ih,bW];omega
 simp only[aM,this];constructor
 ·rintro⟨k,h,rfl⟩;omega
 ·rintro⟨h1,h2⟩;exact⟨t-b,by omega,by omega⟩
structure xR(x x2:Sit)(c:CSt)(m:List Nat)(mt:List (Option Nat)):Prop where
 G:x2.G=x.G
 bk:∀i,i<m.length->x2.bk i=x.bk (m.getD i 0)
 τ:lh x x2 50 mt
 nd:m.Nodup
 ob:∀i,i<m.length->∃ob,(m.getD i 0,ob)∈c.ob
 tnd:(bN mt).Nodup
 tk:∀t∈bN mt,t∈c.tk
def Ctx.took(x2:Sit)(w:World)(n k:Nat):Ctx:=
 ⟨w,x2.G,fun b=>w.heap.size<=b\/(∃i,i<n/\(x2.bk i).1=b)\/(∃t,50<=t/\t<50+k/\(x2.τ t).2.1≠(x2.τ t).2.2/\(x2.τ t).1=b),x2.bk⟩
theorem eK{m:List Nat}{i:Nat}(h:i<m.length):m.getD i 0∈m:=by rw[aa,ab h];exact bd _
theorem jx{m:List Nat}(h:m.Nodup){i j:Nat}(hi:i<m.length)(hj:j<m.length)(e:m.getD i 0=m.getD j 0):i=j:=by rw[aa,aa,ab hi,ab hj]at e;exact nt h hi hj e
theorem gq{l:List (Option Nat)}{i t:Nat}(h:l.getD i none=some t):t∈bN l:=by
 rw[aa]at h;cases hj:l[i]? with
 |none=>rw[hj]at h;cases h
 |some q=>rw[hj]at h;cases h;exact i7.2 (List.mem_of_getElem? hj)
theorem xR.tok{x2:Sit}{m:List Nat}{mt:List (Option Nat)}(h:xR x x2 c m mt){t:Nat}(h1:50<=t)(h2:t<50+mt.length):
 (x2.τ t).2.1=(x2.τ t).2.2\/∃u,mt.getD (t-50) none=some u/\x2.τ t=x.τ u/\u∈c.tk/\u∈bN mt:=by
 have e:=h.τ (t-50) (by omega);rw[show 50+(t-50)=t by omega]at e;cases hu:mt.getD (t-50) none with
 |none=>rw[hu]at e;rw[e];exact .inl rfl
 |some u=>rw[hu]at e;exact .inr ⟨u,rfl,e,h.tk u (gq hu),gq hu⟩
theorem nh{x2:Sit}{m:List Nat}{mt:List (Option Nat)}(hH:cx C x c.ob c.tk w)(h:xR x x2 c m mt){objs:List aA}(hl:objs.length=m.length)
 (ho:∀i,i<m.length->cY x2 w i (objs.getD i (.rc []))):cx (Ctx.took x2 w m.length mt.length) x2 (idx objs) (tks 50 mt.length) w:=by
 refine⟨fun b o v hv=>hH.per b o v (by rw[<-h.G];exact hv),fun _ _ _ hv=>hv,fun _ _ _ hv=> .inl hv,fun b hb=> .inl hb, ?_,kw objs, ?_, ?_, ?_, ?_,rfl,rfl,rfl,aP _,fun _ _=>rfl,fun _ _=>rfl,hH.lay.mono (fun b o v hv=>by show x2.G b o=some v;rw[h.G];exact hH.g0 b o v hv)⟩
 ·intro p hp
  obtain⟨h1,h2⟩:=gB.1 hp;rw[hl]at h1;obtain⟨ob,h3⟩:=h.ob p.1 h1;refine⟨by rw[h2];exact ho p.1 h1,.inr (.inl ⟨p.1,h1,rfl⟩),fun off=> ?_⟩;rw[h.G,h.bk _ h1];exact(hH.obs _ h3).2.2 off
 ·intro p hp q hq hpq
  obtain⟨h1,_⟩:=gB.1 hp;obtain⟨h2,_⟩:=gB.1 hq;rw[hl]at h1 h2;rw[h.bk _ h1,h.bk _ h2]at hpq;obtain⟨o1,g1⟩:=h.ob _ h1;obtain⟨o2,g2⟩:=h.ob _ h2;exact jx h.nd h1 h2 (hH.inj _ g1 _ g2 hpq)
 ·intro t ht
  obtain⟨h1,h2⟩:=il.1 ht;rcases h.tok h1 h2 with h3|⟨u,_,h4,h5,_⟩
  ·exact .inl h3
  ·by_cases hne:(x2.τ t).2.1=(x2.τ t).2.2
   ·exact .inl hne
   ·have:=hH.tks u h5
    unfold fL at this ⊢;rw[h4]at hne ⊢;rcases this with g|⟨g1,g2,g3⟩
    ·exact absurd g hne
    ·exact .inr ⟨g1,.inr (.inr ⟨t,h1,h2,by rw[h4];exact hne,by rw[h4]⟩),by rw[h.G];exact g3⟩
 ·intro t ht p hp
  obtain⟨h1,h2⟩:=il.1 ht;obtain⟨h6,_⟩:=gB.1 hp;rw[hl]at h6;rcases h.tok h1 h2 with h3|⟨u,_,h4,h5,_⟩
  ·exact .inr h3
  ·obtain⟨o1,g1⟩:=h.ob _ h6
   rw[h4,h.bk _ h6];exact hH.tko u h5 _ g1
 ·intro t ht u hu htu
  obtain⟨h1,h2⟩:=il.1 ht;obtain⟨h3,h4⟩:=il.1 hu;rcases h.tok h1 h2 with g|⟨t',g1,g2,g3,_⟩
  ·exact .inr (.inl g)
  ·rcases h.tok h3 h4 with k|⟨u',k1,k2,k3,_⟩
   ·exact .inr (.inr k)
   ·rw[g2,k2]
    exact hH.tkd t' g3 u' k3 (kI h.tnd (by omega) g1 k1)
end Go.Sy
namespace Go.Sy
variable [aU]
variable {P : Program} {C : Ctx} {x : Sit} {a : Act} {w : World} {N : Nat} {c c' : CSt} {s : St}
theorem yH(d:Nat)(l:List Nat):m6 d l=l.map (iO d):=by
 induction l with
 |nil=>rfl
 |cons p r ih=>simp only[m6,aD,ih]
theorem ky{k:List Nat}{t:Nat}:∀{l:List Nat},t∈j4 k l↔t∈l/\t∉k
 |[]=>by simp[j4]
 |p::r=>by
  simp only[j4];split
  ·rename_i hc
   have hp:p∈k:=by simpa using hc
   rw[ky,am];constructor
   ·rintro⟨h1,h2⟩;exact⟨.inr h1,h2⟩
   ·rintro⟨h1|h1,h2⟩
    ·exact absurd (h1 ▸ hp) h2
    ·exact⟨h1,h2⟩
  ·rename_i hc
   have hp:p∉k:=by simpa using hc
   rw[am,ky,am];constructor
   ·rintro(h1|⟨h1,h2⟩)
    ·exact⟨.inl h1,h1 ▸ hp⟩
    ·exact⟨.inr h1,h2⟩
   ·rintro⟨h1|h1,h2⟩
    ·exact .inl h1
    ·exact .inr ⟨h1,h2⟩
theorem nv{t:Nat}:∀{r l:List Nat},t∈m9 l r↔t∈r\/t∈l
 |[],l=>by simp[m9]
 |p::r,l=>by
  simp only[m9];rw[nv,iR,am];constructor
  ·rintro(h|h|h)
   ·exact .inl (.inr h)
   ·exact .inl (.inl h)
   ·exact .inr h
  ·rintro((h|h)|h)
   ·exact .inr (.inl h)
   ·exact .inl h
   ·exact .inr (.inr h)
theorem kx{p:Nat×aA}:∀{r l:List (Nat×aA)},p∈m7 l r->p∈r\/p∈l
 |[],l,h=> .inr h
 |q::r,l,h=>by
  simp only[m7]at h;rcases kx h with e|e
  ·exact .inl (an _ e)
  ·rcases iQ e with e|e
   ·exact .inl (e ▸ aB ..)
   ·exact .inr e
theorem tN:∀{r l:List (Nat×aA)},(l.map bY).Pairwise (· < ·)->((m7 l r).map bY).Pairwise (· < ·)
 |[],_,h=>h
 |_::r,_,h=>tN (r:=r) (oZ h)
theorem sf{mo mt:Nat->Nat}{o:aA}(h:o.wf=true):(o.ren mo mt).wf=true:=by cases o<;>first|rfl|exact h
theorem qE{x2:Sit}{m:List Nat}{mt:List (Option Nat)}(hold:cx C x c.ob c.tk w)(h:xR x x2 c m mt){x':Sit}{w':World}{q:dp}(hH:cx (Ctx.took x2 w m.length mt.length) x' q.os q.tk w'){D:Nat}
 (hm:∀o∈m,inR D o=false) (hos:∀p∈q.os,p.1<1000/\(∀k∈p.2.ids,k<1000)/\∀k∈p.2.toks,k<1000) (htk:∀t∈q.tk,t<1000) (hg:∀i,i<m.length->x'.bk i=x2.bk i):
 ∃x3:Sit,x3.G=x'.G/\(∀b o v,x.G b o=some v->x3.G b o=some v)/\(∀k,k<1000->x3.bk (gw D m k)=x'.bk k)/\(∀k,k<1000->x3.τ (iO D k)=x'.τ k)/\
  (∀k,¬((D+1)*1000<=k/\k<(D+2)*1000)->x3.bk k=x.bk k)/\(∀k,¬((D+1)*1000<=k/\k<(D+2)*1000)->x3.τ k=x.τ k)/\
  cx C x3 (lD D m q.os++dZ m (bn ((D+1)*1000) ((D+2)*1000) c.ob)) (m6 D q.tk++j4 (bN mt) (bP ((D+1)*1000) ((D+2)*1000) c.tk)) w':=by
 let lo:=(D+1)*1000
 let hi:=(D+2)*1000
 have hlo:lo=(D+1)*1000:=rfl;have hhi:hi=(D+2)*1000:=rfl
 let β2:Nat->Nat×Nat:=fun k=>if inR D k then x'.bk (k-lo)else x.bk k
 let τ2:Nat->Nat×Nat×Nat:=fun k=>if inR D k then x'.τ (k-lo)else x.τ k
 have hin:∀k,k<1000->inR D (lo+k)=true:=by intro k hk;simp only[inR,aw,decide_eq_true_eq];omega
 have hout:∀k,¬(lo<=k/\k<hi)->inR D k=false:=by intro k hk;rw[Bool.eq_false_iff];intro h;simp only[inR,aw,decide_eq_true_eq]at h;exact hk h
 have hβ2:∀k,¬(lo<=k/\k<hi)->β2 k=x.bk k:=fun k hk=>by simp only[β2];rw[hout k hk];rfl
 have hτ2:∀k,¬(lo<=k/\k<hi)->τ2 k=x.τ k:=fun k hk=>by simp only[τ2];rw[hout k hk];rfl
 have hβnew:∀k,k<1000->β2 (gw D m k)=x'.bk k:=by
  intro k hk
  by_cases hkm:k<m.length
  ·have h1:gw D m k=m.getD k 0:=if_pos hkm
   simp only[β2];rw[h1,hm _ (eK hkm),hg k hkm,h.bk k hkm];rfl
  ·have h1:gw D m k=lo+k:=if_neg hkm
   simp only[β2];rw[h1,hin k hk,if_pos rfl];congr 1;omega
 have hτnew:∀k,k<1000->τ2 (iO D k)=x'.τ k:=by intro k hk;have h1:iO D k=lo+k:=rfl;simp only[τ2];rw[h1,hin k hk,if_pos rfl];congr 1;omega
 have hG:∀b o v,x.G b o=some v->x'.G b o=some v:=fun b o v hv=>hH.g0 b o v (by show x2.G b o=_;rw[h.G];exact hv)
 refine⟨⟨x'.G,β2,τ2⟩,rfl,hG,hβnew,hτnew,hβ2,hτ2, ?_⟩;rw[pT,yH]
 have hmine:∀b,(Ctx.took x2 w m.length mt.length).mine b->C.mine b:=by
  rintro b (h1|⟨i,hi,rfl⟩|⟨t,h1,h2,h3,rfl⟩)
  ·exact hold.new b (mG hold.size h1)
  ·obtain⟨ob,hob⟩:=h.ob i hi
   rw[h.bk i hi];exact(hold.obs _ hob).2.1
  ·rcases h.tok h1 h2 with g|⟨u,_,g1,g2,_⟩
   ·exact absurd g h3
   ·rw[g1]at h3 ⊢
    rcases hold.tks u g2 with k|⟨_,k,_⟩
    ·exact absurd k h3
    ·exact k
 have hkeep:∀b,b<w.heap.size->(∀i,i<m.length->(x.bk (m.getD i 0)).1≠b)->(∀u∈bN mt,(x.τ u).2.1=(x.τ u).2.2\/(x.τ u).1≠b)->w'.heap[b]? =w.heap[b]? /\((∀off,x.G b off=none)->∀off,x'.G b off=none)/\
  (∀off,x.G b off=none->x'.G b off=none):=by
  intro b hb hne hnt
  have hnm:¬(Ctx.took x2 w m.length mt.length).mine b:=by
   rintro(h1|⟨i,hi,h1⟩|⟨t,h1,h2,h3,h4⟩)
   ·omega
   ·rw[h.bk i hi]at h1;exact hne i hi h1
   ·rcases h.tok h1 h2 with g|⟨u,_,g1,_,g3⟩
    ·exact h3 g
    ·rw[g1]at h3 h4
     rcases hnt u g3 with k|k
     ·exact h3 k
     ·exact k h4
  have one:∀off,x.G b off=none->x'.G b off=none:=by
   intro off ho;cases hg:x'.G b off with
   |none=>rfl
   |some v=>
    rcases hH.gm b off v hg with h1|h1
    ·change x2.G b off=some v at h1;rw[h.G,ho]at h1;cases h1
    ·exact absurd h1 hnm
  exact⟨hH.ext b hnm,fun h off=>one off (h off),one⟩
 have hlow:∀p∈dZ m (bn lo hi c.ob),∃ob,(p.1,ob)∈c.ob/\p.2=ob.purge lo hi/\¬(lo<=p.1/\p.1<hi)/\p.1∉m/\(∀i,i<m.length->(x.bk (m.getD i 0)).1≠(x.bk p.1).1)/\(∀u∈bN mt,(x.τ u).2.1=(x.τ u).2.2\/(x.τ u).1≠(x.bk p.1).1)/\(x.bk p.1).1<w.heap.size:=by
  intro p hp;obtain⟨h1,h2⟩:=ia.1 hp;obtain⟨h3,ob,h4,h5⟩:=bL h1;refine⟨ob,h4,h5,h3,h2,fun i hi e=> ?_,fun u hu=> ?_, ?_⟩
  ·obtain⟨ob',hob'⟩:=h.ob i hi
   have:=hold.inj _ hob' _ h4 e;simp only at this;apply h2;rw[<-this];exact eK hi
  ·exact(hold.tko u (h.tk u hu) _ h4).symm
  ·obtain⟨⟨c,e,fl,fh,hO,_⟩,_⟩:=hold.obs _ h4
   exact hO.lt
 have hnew:∀p∈q.os.map (fun p=>(gw D m p.1,p.2.ren (gw D m) (iO D))),∃r∈q.os,p=(gw D m r.1,r.2.ren (gw D m) (iO D))/\β2 p.1=x'.bk r.1:=by intro p hp;obtain⟨r,hr,rfl⟩:=aM.1 hp;exact⟨r,hr,rfl,hβnew _ (hos r hr).1⟩
 have hnewmine:∀r∈q.os,w.heap.size<=(x'.bk r.1).1\/(∃i,i<m.length/\(x.bk (m.getD i 0)).1=(x'.bk r.1).1)\/(∃u∈bN mt,(x.τ u).2.1≠(x.τ u).2.2/\(x.τ u).1=(x'.bk r.1).1):=by
  intro r hr;rcases (hH.obs r hr).2.1 with h1|⟨i,hi,h1⟩|⟨t,h1,h2,h3,h4⟩
  ·exact .inl h1
  ·exact .inr (.inl ⟨i,hi,by rw[<-h.bk i hi];exact h1⟩)
  ·rcases h.tok h1 h2 with g|⟨u,_,g1,_,g3⟩
   ·exact absurd g h3
   ·rw[g1]at h3 h4;exact .inr (.inr ⟨u,g3,h3,h4⟩)
 have htmine:∀t∈q.tk,(x'.τ t).2.1=(x'.τ t).2.2\/w.heap.size<=(x'.τ t).1\/(∃i,i<m.length/\(x.bk (m.getD i 0)).1=(x'.τ t).1)\/(∃u∈bN mt,(x.τ u).2.1≠(x.τ u).2.2/\(x.τ u).1=(x'.τ t).1):=by
  intro t ht;rcases hH.tks t ht with k|⟨_,k,_⟩
  ·exact .inl k
  ·right
   rcases k with h1|⟨i,hi,h1⟩|⟨t',h1,h2,h3,h4⟩
   ·exact .inl h1
   ·exact .inr (.inl ⟨i,hi,by rw[<-h.bk i hi];exact h1⟩)
   ·rcases h.tok h1 h2 with g|⟨u,_,g1,_,g3⟩
    ·exact absurd g h3
    ·rw[g1]at h3 h4;exact .inr (.inr ⟨u,g3,h3,h4⟩)
 have htold:∀t∈j4 (bN mt) (bP lo hi c.tk),t∈c.tk/\¬(lo<=t/\t<hi)/\t∉bN mt:=fun t ht=>by obtain⟨h1,h2⟩:=ky.1 ht;obtain⟨h3,h4⟩:=bq.1 h1;exact⟨h3,h4,h2⟩
 have htblock:∀t∈c.tk,t∉bN mt->(x.τ t).2.1=(x.τ t).2.2\/((x.τ t).1<w.heap.size/\(∀i,i<m.length->(x.bk (m.getD i 0)).1≠(x.τ t).1)/\(∀u∈bN mt,(x.τ u).2.1=(x.τ u).2.2\/(x.τ u).1≠(x.τ t).1)):=by
  intro t ht hnt;rcases hold.tks t ht with h1|⟨⟨c,e,fl,fh,hO,_⟩,_⟩
  ·exact .inl h1
  ·by_cases he:(x.τ t).2.1=(x.τ t).2.2
   ·exact .inl he
   ·refine .inr ⟨hO.lt,fun i hi e'=> ?_,fun u hu=> ?_⟩
    ·obtain⟨ob,hob⟩:=h.ob i hi
     rcases hold.tko t ht _ hob with h1|h1
     ·exact h1 e'.symm
     ·exact he h1
    ·rcases hold.tkd u (h.tk u hu) t ht (fun e=>hnt (e ▸ hu))with k|k|k
     ·exact .inr k
     ·exact .inl k
     ·exact absurd k he
 refine⟨hH.per,fun b o v hv=>hG _ _ _ (hold.g0 b o v hv), ?_,hold.new, ?_, ?_, ?_, ?_, ?_, ?_,hH.os.trans hold.os,hH.tape.trans hold.tape,hH.output.trans hold.output,mG hold.size hH.size, ?_,fun i hi=>(hβ2 i (by omega)).trans (hold.pin i hi),hold.lay⟩
 ·intro b o v hv
  rcases hH.gm b o v hv with h1|h1
  ·exact hold.gm b o v (by rw[<-h.G];exact h1)
  ·exact .inr (hmine b h1)
 ·intro p hp
  rcases ah.1 hp with hp|hp
  ·obtain⟨r,hr,rfl,hb⟩:=hnew p hp
   obtain⟨h1,h2,h3⟩:=hH.obs r hr;refine⟨h1.renF (x2:=⟨x'.G,β2,τ2⟩) (fun _ _ _ h=>h) (hβnew _ (hos r hr).1) (fun k hk=>hβnew k ((hos r hr).2.1 k hk)) (fun t ht=>hτnew t ((hos r hr).2.2 t ht)), ?_,fun off=> ?_⟩
   ·show C.mine (β2 (gw D m r.1)).1;rw[hβnew _ (hos r hr).1];exact hmine _ h2
   ·show x'.G (β2 (gw D m r.1)).1 off=none;rw[hβnew _ (hos r hr).1];exact h3 off
  ·obtain⟨ob,h1,h2,h3,h4,h5,h6,h7⟩:=hlow p hp
   obtain⟨g1,g2,g3⟩:=hold.obs _ h1;obtain⟨k1,k2,_⟩:=hkeep _ h7 h5 h6;have hb:β2 p.1=x.bk p.1:=hβ2 _ h3;refine⟨?_,by show C.mine (β2 p.1).1;rw[hb];exact g2,fun off=>by show x'.G (β2 p.1).1 off=none;rw[hb];exact k2 g3 off⟩;rw[h2];exact cY.of_heap (x':=⟨x'.G,β2,τ2⟩) g1 k1 hG hβ2 hτ2 h3
 ·rw[c7,List.nodup_append]
  refine⟨?_, ?_, ?_⟩
  ·rw[List.map_map]
   have hnd':=fi.1 hH.nd;refine fi.2 (List.Pairwise.imp_of_mem (fun{p r} hp hr hne=> ?_) hnd');intro e;simp only[Function.comp]at e;have:(x'.bk p.1).1=(x'.bk r.1).1:=by rw[<-hβnew _ (hos p hp).1,<-hβnew _ (hos r hr).1,e]
   exact hne (hH.inj p hp r hr this)
  ·have h1:(dZ m (bn lo hi c.ob)).Sublist (bn lo hi c.ob):=fJ _ _
   refine qC.sublist (h1.map bY) ?_;rw[dM];exact hold.nd.filter _
  ·intro o1 h1 o2 h2 e
   subst e;obtain⟨p,hp,rfl⟩:=aM.1 h1;obtain⟨r,hr,hre⟩:=aM.1 h2;obtain⟨u,hu,rfl⟩:=aM.1 hp;obtain⟨ob,k1,k2,k3,k4,_⟩:=hlow r hr;simp only at hre
   by_cases hum:u.1<m.length
   ·apply k4;rw[hre];show gw D m u.1∈m;unfold gw;rw[if_pos hum];exact eK hum
   ·apply k3;rw[hre];show lo<=gw D m u.1/\gw D m u.1<hi
    unfold gw;rw[if_neg hum];have:=(hos u hu).1;omega
 ·intro p hp r hr hpr
  change (β2 p.1).1=(β2 r.1).1 at hpr;rcases ah.1 hp with hp|hp<;>rcases ah.1 hr with hr|hr
  ·obtain⟨p',hp',rfl,hb⟩:=hnew p hp
   obtain⟨r',hr',rfl,hb'⟩:=hnew r hr;rw[hb,hb']at hpr;have:=hH.inj p' hp' r' hr' hpr;simp only;rw[this]
  ·obtain⟨p',hp',rfl,hb⟩:=hnew p hp
   obtain⟨ob,k1,k2,k3,k4,k5,k6,k7⟩:=hlow r hr;rw[hb,hβ2 _ k3]at hpr;rcases hnewmine p' hp' with h1|⟨i,hi,h1⟩|⟨u,hu,h1,h2⟩
   ·omega
   ·exact absurd (h1.trans hpr) (k5 i hi)
   ·rcases k6 u hu with g|g
    ·exact absurd g h1
    ·exact absurd (h2.trans hpr) g
  ·obtain⟨r',hr',rfl,hb⟩:=hnew r hr
   obtain⟨ob,k1,k2,k3,k4,k5,k6,k7⟩:=hlow p hp;rw[hb,hβ2 _ k3]at hpr;rcases hnewmine r' hr' with h1|⟨i,hi,h1⟩|⟨u,hu,h1,h2⟩
   ·omega
   ·exact absurd (h1.trans hpr.symm) (k5 i hi)
   ·rcases k6 u hu with g|g
    ·exact absurd g h1
    ·exact absurd (h2.trans hpr.symm) g
  ·obtain⟨ob,k1,k2,k3,_⟩:=hlow p hp
   obtain⟨ob',k1',k2',k3',_⟩:=hlow r hr;rw[hβ2 _ k3,hβ2 _ k3']at hpr;exact hold.inj (p.1,ob) k1 (r.1,ob') k1' hpr
 ·intro t ht
  rcases ah.1 ht with ht|ht
  ·obtain⟨u,hu,rfl⟩:=aM.1 ht
   have:=hH.tks u hu;unfold fL at this ⊢;simp only[hτnew u (htk u hu)];exact this.imp id fun⟨h1,h2,h3⟩=>⟨h1,hmine _ h2,h3⟩
  ·obtain⟨h1,h2,h3⟩:=htold t ht
   have:=hold.tks t h1;unfold fL at this ⊢;simp only[hτ2 t h2];rcases this with g|⟨⟨c,e,fl,fh,hO,hc⟩,h4,h5⟩
   ·exact .inl g
   ·rcases htblock t h1 h3 with g|⟨k1,k2,k3⟩
    ·exact .inl g
    ·obtain⟨g1,_,g2⟩:=hkeep _ k1 k2 k3
     exact .inr ⟨⟨c,e,fl,fh,hO.of_heap g1,hc⟩,h4,fun o ho1 ho2=>g2 o (h5 o ho1 ho2)⟩
 ·intro t ht p hp
  rcases ah.1 ht with ht|ht<;>rcases ah.1 hp with hp|hp
  ·obtain⟨u,hu,rfl⟩:=aM.1 ht
   obtain⟨r,hr,rfl,hb⟩:=hnew p hp;show(τ2 (iO D u)).1≠(β2 (gw D m r.1)).1\/(τ2 (iO D u)).2.1=(τ2 (iO D u)).2.2;rw[hτnew u (htk u hu),hβnew _ (hos r hr).1];exact hH.tko u hu r hr
  ·obtain⟨u,hu,rfl⟩:=aM.1 ht
   obtain⟨ob,k1,k2,k3,k4,k5,k6,k7⟩:=hlow p hp;show(τ2 (iO D u)).1≠(β2 p.1).1\/(τ2 (iO D u)).2.1=(τ2 (iO D u)).2.2;rw[hτnew u (htk u hu),hβ2 _ k3];rcases htmine u hu with g|g|⟨i,hi,g⟩|⟨v,hv,g1,g2⟩
   ·exact .inr g
   ·left;intro e;omega
   ·left;intro e;exact k5 i hi (g.trans e)
   ·left;intro e
    rcases k6 v hv with k|k
    ·exact g1 k
    ·exact k (g2.trans e)
  ·obtain⟨h1,h2,h3⟩:=htold t ht
   obtain⟨r,hr,rfl,hb⟩:=hnew p hp;show(τ2 t).1≠(β2 (gw D m r.1)).1\/(τ2 t).2.1=(τ2 t).2.2;rw[hτ2 t h2,hβnew _ (hos r hr).1];rcases htblock t h1 h3 with g|⟨k1,k2,k3⟩
   ·exact .inr g
   ·left;intro e
    rcases hnewmine r hr with g|⟨i,hi,g⟩|⟨v,hv,g1,g2⟩
    ·omega
    ·exact k2 i hi (g.trans e.symm)
    ·rcases k3 v hv with k|k
     ·exact g1 k
     ·exact k (g2.trans e.symm)
  ·obtain⟨h1,h2,h3⟩:=htold t ht
   obtain⟨ob,k1,k2,k3,_⟩:=hlow p hp;show(τ2 t).1≠(β2 p.1).1\/(τ2 t).2.1=(τ2 t).2.2;rw[hτ2 t h2,hβ2 _ k3];exact hold.tko t h1 (p.1,ob) k1
 ·intro t ht u hu htu
  show jr (τ2 t) (τ2 u)\/(τ2 t).2.1=(τ2 t).2.2\/(τ2 u).2.1=(τ2 u).2.2;rcases ah.1 ht with ht|ht<;>rcases ah.1 hu with hu|hu
  ·obtain⟨t',ht',rfl⟩:=aM.1 ht
   obtain⟨u',hu',rfl⟩:=aM.1 hu;rw[hτnew t' (htk t' ht'),hτnew u' (htk u' hu')];exact hH.tkd t' ht' u' hu' (fun e=>htu (by rw[e]))
  ·obtain⟨t',ht',rfl⟩:=aM.1 ht
   obtain⟨h1,h2,h3⟩:=htold u hu;rw[hτnew t' (htk t' ht'),hτ2 u h2];rcases htblock u h1 h3 with k|⟨k1,k2,k3⟩
   ·exact .inr (.inr k)
   ·rcases htmine t' ht' with g|g|⟨i,hi,g⟩|⟨v,hv,g1,g2⟩
    ·exact .inr (.inl g)
    ·exact .inl fun e=>by omega
    ·exact .inl fun e=>k2 i hi (g.trans e)
    ·refine .inl fun e=> ?_
     rcases k3 v hv with k|k
     ·exact g1 k
     ·exact k (g2.trans e)
  ·obtain⟨u',hu',rfl⟩:=aM.1 hu
   obtain⟨h1,h2,h3⟩:=htold t ht;rw[hτnew u' (htk u' hu'),hτ2 t h2];rcases htblock t h1 h3 with k|⟨k1,k2,k3⟩
   ·exact .inr (.inl k)
   ·rcases htmine u' hu' with g|g|⟨i,hi,g⟩|⟨v,hv,g1,g2⟩
    ·exact .inr (.inr g)
    ·exact .inl fun e=>by omega
    ·exact .inl fun e=>k2 i hi (g.trans e.symm)
    ·refine .inl fun e=> ?_
     rcases k3 v hv with k|k
     ·exact g1 k
     ·exact k (g2.trans e.symm)
  ·obtain⟨h1,h2,_⟩:=htold t ht
   obtain⟨h3,h4,_⟩:=htold u hu;rw[hτ2 t h2,hτ2 u h4];exact hold.tkd t h1 u h3 htu
 ·intro b hb
  have hnm:¬(Ctx.took x2 w m.length mt.length).mine b:=fun h=>hb (hmine b h)
  exact(hH.ext b hnm).trans (hold.ext b hb)
end Go.Sy
namespace Go.Sy
variable [aU]
variable {P : Program} {C : Ctx} {x : Sit} {a : Act} {w : World} {N : Nat} {c c' : CSt} {s : St}
theorem qF(t:Tok):t.ren (fun k=>k)=t:=by cases t<;>rfl
theorem OY(sv:SV):sv.ren (fun k=>k) (fun k=>k)=sv:=by
 refine SV.rec (motive_1:=fun sv=>sv.ren (fun k=>k) (fun k=>k)=sv) (motive_2:=fun _=>True) (motive_3:=fun l=>SV.renL (fun k=>k) (fun k=>k) l=l)
  ?_ ?_ ?_ ?_ ?_ ?_ ?_ ?_ ?_ ?_ ?_ ?_ ?_ ?_ ?_ ?_ ?_ ?_ ?_ ?_ sv
 all_goals intros
 all_goals first
  |trivial
  |rfl
  |(simp only[SV.ren,SV.renL,qF];done)
  |(simp only[SV.ren,SV.renL, *])
theorem OS{q:dp}(h:q.small=true):(∀p∈q.os,p.1<1000/\(∀k∈p.2.ids,k<1000)/\∀k∈p.2.toks,k<1000)/\(∀k∈q.r.ids,k<1000)/\(∀k∈q.r.toks,k<1000)/\∀k∈q.tk,k<1000:=by simp only[dp.small,aw,aN,decide_eq_true_eq]at h;obtain⟨⟨⟨h1,h2⟩,h3⟩,h4⟩:=h;exact⟨fun p hp=>⟨(h1 p hp).1.1,(h1 p hp).1.2,(h1 p hp).2⟩,h2,h3,h4⟩
theorem kN{d:Option Nat}{m:List Nat}{mt:List (Option Nat)}{q:dp}{x2 x':Sit}{w':World}{v:Value}(hM:aH C x s a w)(hS:Sim N c s)(hd:∀k,d=some k->k<N)(h:xR x x2 c m mt)
 (hH:cx (Ctx.took x2 w m.length mt.length) x' q.os q.tk w') (hr:Rep x' q.r v) (hwf:∀p∈q.os,p.2.wf=true) (hg:∀i,i<m.length->x'.bk i=x2.bk i) (hm:∀o∈m,inR (d.getD 0) o=false) (hs:q.small=true):
 M C N (iw c d m (bN mt) q) (a.put d v) w':=by
 obtain⟨s1,s2,s3,s4⟩:=OS hs;have hE:=hS.exact hM;obtain⟨x3,g1,g2,g3,g4,g5,g6,g7⟩:=qE hE.heap h hH hm s1 s4 hg
 let c3:CSt:=⟨cE ((d.getD 0+1)*1000) ((d.getD 0+2)*1000) c.tm,m7 (dZ m (bn ((d.getD 0+1)*1000) ((d.getD 0+2)*1000) c.ob)) (lD (d.getD 0) m q.os),
  m9 (j4 (bN mt) (bP ((d.getD 0+1)*1000) ((d.getD 0+2)*1000) c.tk)) (m6 (d.getD 0) q.tk)⟩
 have hI:Inv N c3:=by
  refine⟨fun p hp=> ?_,tN ?_,fun p hp=> ?_⟩
  ·obtain⟨r,hr,e⟩:=h9 hp
   rw[e];exact hS.inv.dom r hr
  ·exact List.Pairwise.sublist ((fJ _ _).map bY) (pL hS.inv.so)
  ·rcases kx hp with e|e
   ·rw[pT]at e
    obtain⟨r,hr,rfl⟩:=aM.1 e;exact sf (hwf r hr)
   ·obtain⟨_,ob,h1,h2⟩:=bL (ia.1 e).1
    rw[h2];exact mb (hS.inv.wf _ h1)
 have hM3:aH C x3 (c3.st N) a w':=by
  refine⟨⟨?_,fun i hi=> ?_⟩,hM.defers,g7.only (fun p hp=> ?_) (gP hI.so) (fun t ht=> ?_)⟩
  ·have:=hE.tm.1;simpa[CSt.st]using this
  ·have hiN:i<N:=by simpa[CSt.st]using hi
   have h1:=hE.tm.2 i (by simpa[CSt.st]using hiN);simp only[CSt.st,aa,aI,bE hiN,bf,aV]at h1 ⊢;have e:c3.get i=(c.get i).purge ((d.getD 0+1)*1000) ((d.getD 0+2)*1000):=eW _ _ i c.tm;rw[e];exact h1.mono (x':=x3) g2 g5 g6
  ·rcases kx hp with e|e
   ·exact ah.2 (.inl e)
   ·exact ah.2 (.inr e)
  ·rcases nv.1 ht with e|e
   ·exact ah.2 (.inl e)
   ·exact ah.2 (.inr e)
 refine⟨x3,_,hM3.put d (c:=q.r.ren (gw (d.getD 0) m) (iO (d.getD 0))) ?_,(Sim.of hI).put hd _⟩;exact Rep.renF (x:=x') (x2:=x3) (fun b o v hv=>by rw[g1];exact hv) hr (fun k hk=>g3 k (s2 k hk)) (fun t ht=>g4 t (s3 t ht))
theorem rH{call:cA}{g:Nat}{d:Option Nat}{as:List SV}{vs:List Value}(hM:aH C x s a w)(hS:Sim N c s)(hd:∀k,d=some k->k<N)(hsp:∀as os k q,call g as os k=some q->ik P g as os k (· =q))
 (hc:j2 c d (call g (SV.bareL as) [] 0)=some c') (hvs:bM x as vs):Calls P g ⟨vs⟩ w fun en w'=>∃v,en= .returned v/\M C N c' (a.put d v) w':=by
 cases hq:call g (SV.bareL as) [] 0 with
 |none=>rw[hq]at hc;cases hc
 |some q=>
  rw[hq]at hc
  have hb:bM x (SV.bareL as) vs:=by rw[iW];refine⟨by simpa using hvs.1,fun i hi=> ?_⟩;rw[aO _ (by rfl)];exact(hvs.2 i (by simpa using hi)).bare rfl rfl
  obtain⟨_,hS'⟩:=hsp _ _ _ _ hq
  by_cases hbare:q.bare=true
  ·simp only[j2,hbare,la,al.injEq]at hc
   subst hc;have hcal:=pA (m:=[]) (os:=[]) (mo:=fun k=>k) (mt:=fun k=>k) hM (fun i hi=>by simp at hi) rfl (by simp) (fun i hi=>by simp at hi);refine(hS' (Ctx.callee x w [] (x.back (fun k=>k) (fun k=>k)).bk) x w vs rfl rfl ?_ (by simp) (by simp) hcal hb).mono ?_
   ·rintro b (h|⟨i,hi,_⟩)
    ·exact .inl h
    ·simp at hi
   ·rintro en w' ⟨v,x',q',rfl,hq',hr,hH,hwf,_⟩
    subst hq';simp only[dp.bare,aw,List.isEmpty_iff]at hbare;obtain⟨⟨⟨b1,b2⟩,b3⟩,b4⟩:=hbare
    obtain⟨hG,hA⟩:=rD (m:=[]) (os:=[]) (mo:=fun k=>k) (mt:=fun k=>k) (lo:=0) (hi:=0) (β2:=x.bk) (τ2:=x.τ) hM rfl (fun i hi=>by simp at hi) hH (fun i hi=>by simp at hi) (fun i hi=>by omega) (fun _ _=>rfl) (fun _ _=>rfl)
     (fun p hp=>by rw[b1]at hp;cases hp) (fun p hp=>by rw[b1]at hp;cases hp) (fun p hp=>by rw[b1]at hp;cases hp) (fun p hp=>by rw[b1]at hp;cases hp) (fun t ht=>by rw[b2]at ht;cases ht)
    have hA':cx C ⟨x'.G,x.bk,x.τ⟩ s.ob s.tk w':=by
     refine hA.only (fun p hp=> ?_) hM.heap.nd (fun t ht=> ?_)
     ·exact ah.2 (.inr (ia.2 ⟨by rw[yK];exact hp,by simp⟩))
     ·exact ah.2 (.inr (bq.2 ⟨ht,by omega⟩))
    refine⟨v,rfl,⟨x'.G,x.bk,x.τ⟩,_, ?_,hS.put hd q'.r⟩;refine aH.put ⟨bM.grow (x:=x) (x':=⟨x'.G,x.bk,x.τ⟩) hG rfl rfl hM.tm,hM.defers,hA'⟩ d ?_;have:=Rep.renF (x:=x') (x2:=⟨x'.G,x.bk,x.τ⟩) (mo:=fun k=>k) (mt:=fun k=>k) (fun _ _ _ h=>h) hr (fun k hk=>by rw[b3]at hk;cases hk) (fun t ht=>by rw[b4]at ht;cases ht);rwa[OY]at this
  ·have hbf:q.bare=false:=by simpa using hbare
   simp only[j2,hbf,la]at hc;cases hsm:q.small with
   |false=>rw[hsm]at hc;cases hc
   |true=>
    rw[hsm]at hc;simp only[rJ,al.injEq]at hc;subst hc;have hE:=hS.exact hM;have hT:xR x x c [] []:=⟨rfl,fun i hi=>by simp at hi,fun k hk=>by simp at hk,by simp,fun i hi=>by simp at hi,by simp[bN],fun t ht=>by simp[bN]at ht⟩;refine(hS' (Ctx.took x w 0 0) x w vs rfl rfl ?_ (by simp) (by simp) (nh hE.heap hT rfl (fun i hi=>by simp at hi)) hb).mono ?_
    ·rintro b h;exact h
    ·rintro en w' ⟨v,x',q',rfl,hq',hr,hH,hwf,_⟩
     subst hq';exact⟨v,rfl,kN hM hS hd hT hH hr hwf (fun i hi=>by simp at hi) (fun o ho=>by simp at ho) hsm⟩
theorem qQ{call:cA}{sg:Sig}{g:Nat}{d:Option Nat}{as:List SV}{vs:List Value}(hM:aH C x s a w)(hS:Sim N c s)(hd:∀k,d=some k->k<N)(hsp:∀as os k q,call g as os k=some q->ik P g as os k (· =q))
 (hc:ip call sg d g (c,as)=some c') (hvs:bM x as vs):Calls P g ⟨vs⟩ w fun en w'=>∃v,en= .returned v/\M C N c' (a.put d v) w':=by
 simp only[ip]at hc;generalize hz:iy c.tk sg.own 50 0 as=z at hc;obtain⟨as2,mt1⟩:=z;simp only[kT]at hc;generalize de c 60 [] (SV.idsL as2)=m at hc;cases ho:fk c m with
 |none=>rw[ho]at hc;cases hc
 |some os0=>
  rw[ho]at hc;simp only[jv]at hc;generalize hz2:du c.tk (50+mt1.length) os0=z2 at hc;obtain⟨os,mt2⟩:=z2;simp only[kS]at hc;cases hb:(lr (SV.idsL as2++eE os) m&&cQ m&&cQ (bN (mt1++mt2))&&decide (m.length<=40)&&m.all fun o=> !inR (d.getD 0) o)with
  |false=>rw[hb]at hc;cases hc
  |true=>
   rw[hb]at hc;simp only[kR]at hc;simp only[aw,decide_eq_true_eq,aN,cT]at hb;obtain⟨⟨⟨⟨hsub,hmn⟩,htn⟩,hlen⟩,hin⟩:=hb;cases hq:call g (SV.renL (ft m) id as2) (dy (ft m) id os) (mt1.length+mt2.length)with
   |none=>rw[hq]at hc;cases hc
   |some q=>
    rw[hq]at hc;simp only[lx]at hc;cases hsm:q.small with
    |false=>rw[hsm]at hc;cases hc
    |true=>
     rw[hsm]at hc;simp only[qS,al.injEq]at hc;subst hc;have hE:=hS.exact hM;obtain⟨hol,hog⟩:=mm ho
     let τ2:Nat->Nat×Nat×Nat:=fun t=>if 50<=t/\t<50+(mt1++mt2).length then Eu x ((mt1++mt2).getD (t-50) none)else(0,0,0)
     let x1:Sit:=⟨x.G,x.bk,τ2⟩
     let x2:Sit:=⟨x.G,fun i=>x.bk (m.getD i 0),τ2⟩
     have hτ:∀y:Sit,y.τ=τ2->lh x y 50 (mt1++mt2):=by
      intro y hy k hk;rw[hy];show(if _ then _ else _)=_;rw[if_pos ⟨by omega,by omega⟩]
      congr 2;omega
     have hmem:∀i,i<m.length->(m.getD i 0,os0.getD i (.rc []))∈c.ob:=fun i hi=>gU (hog i hi)
     have hsubm:=pI hsub;have hmnd:=hZ hmn
     have hT:xR x x2 c m (mt1++mt2):=by
      refine⟨rfl,fun _ _=>rfl,hτ x2 rfl,hmnd,fun i hi=>⟨_,hmem i hi⟩,hZ htn,fun t ht=> ?_⟩;rw[eB,ah]at ht;rcases ht with ht|ht
      ·have:=lq (tk:=c.tk) (own:=sg.own) (cs:=as) (j:=50) (i:=0) t (by rw[hz];exact ht)
       exact this
      ·have:=kt (tk:=c.tk) (obs:=os0) (j:=50+mt1.length) t (by rw[hz2];exact ht)
       exact this
     have hTx1:=hτ x1 rfl
     have ha1:bM x1 as2 vs:=by have:=jQ (x:=x) (x1:=x1) rfl rfl (tk:=c.tk) (own:=sg.own) (j:=50) (i:=0) hvs (by rw[hz];exact hTx1.left);rwa[hz]at this
     have hβ:∀o∈m,x2.bk (ft m o)=x.bk o:=fun o ho=>by show x.bk (m.getD (ft m o) 0)=_;rw[(ki ho).2]
     have ha2:bM x2 (SV.renL (ft m) id as2) vs:=by
      rw[dL];refine⟨by simpa using ha1.1,fun i hi=> ?_⟩;have hi':i<as2.length:=by simpa using hi
      rw[aO _ (by rfl)];exact Rep.renF (x:=x1) (x2:=x2) (fun _ _ _ h=>h) (ha1.2 i hi') (fun k hk=>hβ k (hsubm k (ah.2 (.inl (jp hi' k hk))))) (fun t _=>rfl)
     obtain⟨hosl,hosr⟩:=jt (x:=x) (x1:=x1) (w:=w) rfl rfl (tk:=c.tk) (obs:=os0) (j:=50+mt1.length) (f:=fun i=>m.getD i 0)
      (fun i hi=>(hE.heap.obs _ (hmem i (by omega))).1) (by rw[hz2];exact hTx1.right)
     rw[hz2]at hosl hosr;simp only at hosl hosr
     have hob2:∀i,i<m.length->cY x2 w i ((dy (ft m) id os).getD i (.rc [])):=by
      intro i hi;have h1:=hosr i (by omega);have hio:i<os.length:=by omega
      have e:(dy (ft m) id os).getD i (.rc [])=(os.getD i (.rc [])).ren (ft m) id:=by rw[eZ,aa,aa,aI,ab hio];rfl
      rw[e];have hm':=eK (m:=m) hi;have hos:os.getD i (.rc [])∈os:=by rw[aa,ab hio];exact bd _
      have h2:=h1.renF (x2:=x2) (mo:=ft m) (mt:=id) (fun _ _ _ h=>h) (hβ _ hm') (fun k hk=>hβ k (hsubm k (ah.2 (.inr (lO hos k hk))))) (fun t _=>rfl);have e2:ft m (m.getD i 0)=i:=jx hmnd (ki hm').1 hi (ki hm').2;rwa[e2]at h2
     have hrl:(dy (ft m) id os).length=m.length:=by rw[eZ,aK];omega
     obtain⟨_,hS'⟩:=hsp _ _ _ _ hq;have hl12:mt1.length+mt2.length=(mt1++mt2).length:=by simp
     rw[hl12]at hS';refine(hS' (Ctx.took x2 w m.length (mt1++mt2).length) x2 w vs rfl rfl ?_ (by omega) ?_ (nh hE.heap hT hrl hob2) ha2).mono ?_
     ·rintro b h;rw[hrl];exact h
     ·intro o ho'
      rw[eZ]at ho';obtain⟨r,hr,rfl⟩:=aM.1 ho';refine sf ?_
      have:=kr (tk:=c.tk) (obs:=os0) (j:=50+mt1.length) (fun o h'=>by obtain⟨i,hi,rfl⟩:=cV h';have:=hS.inv.wf _ (hmem i (by omega));simpa[aa,ab hi]using this) r (by rw[hz2];exact hr)
      exact this
     ·rintro en w' ⟨v,x',q',rfl,hq',hr,hH,hwf,hg⟩
      subst hq';exact⟨v,rfl,kN hM hS hd hT hH hr hwf (fun i hi=>hg i (by omega)) (fun o ho'=>hin o ho') hsm⟩
theorem pB{call:cA}{sg:Sig}{g:Nat}{d:Option Nat}{as:List SV}{vs:List Value}(hM:aH C x s a w)(hS:Sim N c s)(hd:∀k,d=some k->k<N)(hsp:∀as os k q,call g as os k=some q->ik P g as os k (· =q))
 (hc:fU call sg c d g as=some c') (hvs:bM x as vs):Calls P g ⟨vs⟩ w fun en w'=>∃v,en= .returned v/\M C N c' (a.put d v) w':=by
 unfold fU at hc;generalize ((SV.idsL as).isEmpty&&sg.own.isEmpty)=b at hc;cases b with
 |true=>exact rH hM hS hd hsp hc hvs
 |false=>simp only[iv]at hc;obtain⟨x1,s1,h1,h2,h3⟩:=gW (l:=gI sg.raw 0 as) hM hS hvs;exact qQ h1 h2 hd hsp hc h3
end Go.Sy
