/- An engine that steps through Go code with symbolic values: sound by proof. No condition. -/
import Derived.Test.YtkcjdeofknkndaaGreatDoorEbIt
import Derived.LoopN
open Array renaming getD_eq_getD_getElem? -> bt, getElem?_eq_getElem -> gR
open Bool renaming and_eq_true -> az, not_eq_true' -> dB
open List renaming Nodup -> ww, Pairwise -> eD, Sublist -> nJ, all_eq_true -> aY, contains_eq_mem -> eX, filter_cons -> kX, getD_cons_succ -> bY, getD_cons_zero -> bL, getD_eq_getElem?_getD -> aa, getElem?_append_left -> bG, getElem?_append_right -> bZ, getElem?_drop -> bE, getElem?_eq_getElem -> ab, getElem?_eq_none -> kj, getElem?_map -> aT, getElem?_range -> cI, getElem?_set -> gD, getElem?_take -> bV, getElem_mem -> bp, getElem_of_mem -> cf, length_append -> af, length_cons -> aC, length_drop -> aH, length_map -> au, length_set -> dr, length_take -> aj, map_append -> cn, map_cons -> aI, mem_append -> al, mem_cons -> an, mem_cons_of_mem -> aq, mem_cons_self -> aD, mem_map -> aV, mem_map_of_mem -> ip, mem_of_mem_drop -> ED, mem_of_mem_take -> bM, mem_singleton -> ba, nodup_cons -> ed, pairwise_cons -> bQ, pairwise_map -> gC, range -> cj, replicate -> am
open Nat renaming add_assoc -> eL, add_mul -> bI, add_zero -> eK, le_refl -> aQ, le_trans -> cM, lt_or_ge -> bX, min_eq_left -> dS, mod_eq_of_lt -> dV, mul_comm -> cL, mul_le_mul_right -> bF, succ_mul -> dP
open Option renaming bind_some -> cZ, getD_some -> bB, map_eq_some_iff -> ah, map_some -> bx, some -> aw
open Prod renaming fst -> cQ
set_option linter.unusedVariables false
set_option linter.unusedSimpArgs false
set_option linter.unnecessarySimpa false
set_option linter.unusedSectionVars false
namespace Go.Sy
variable [bg]
variable {call : de} {sg : Nat -> Sig} {c : CSt} {d : Option Nat} {k : Nat}
theorem xeO{α:Type}{p:Prop}[Decidable p]{v:α}(h:p):gd p v=some v:=if_pos h
def fG(c:CSt)(d:Option Nat):Option SV->Option CSt
 |some v=>some (c.put d v)
 |none=>none
theorem DU(v:SV):fG c d (some v)=some (c.put d v):=rfl
theorem DV:fG c d none=none:=rfl
theorem Gc(l:List (Nat×SV))(o:List (Nat×aG))(t:List Nat)(v:SV):CSt.put ⟨l,o,t⟩ (some k) v=⟨ji l k v,o,t⟩:=rfl
theorem Gd(v:SV):CSt.put c none v=c:=rfl
theorem xeN(l:List (Nat×SV))(o:List (Nat×aG))(t:List Nat)(n:Nat):CSt.get ⟨l,o,t⟩ n=eE l n:=rfl
theorem SH(l:List (Nat×SV))(o:List (Nat×aG))(t:List Nat)(n:Nat):CSt.look ⟨l,o,t⟩ n=iG o n:=rfl
theorem xm6(n:Nat):c.ev (.t n)=c.get n:=rfl
theorem xm8(v:SV):c.ev (.c v)=v:=rfl
theorem xm7(g:Nat):c.ev (.f g)= .fn g [] []:=rfl
theorem pV:c.kill []=c:=rfl
theorem D5(l:List (Nat×SV))(o:List (Nat×aG))(t:List Nat)(n:Nat)(r:List Nat):CSt.kill ⟨l,o,t⟩ (n::r)=⟨wi l (n::r),o,t⟩:=rfl
def An:Option SV->Option ov
 |some v=>some {val:=v}
 |none=>none
theorem Dr(v:SV):An (some v)=some {val:=v}:=rfl
theorem Ds:An none=none:=rfl
theorem qf{so:SOp}{o:Option SV}(h:dT c d so=An o):nz c d (dT c d so)=fG c d o:=by rw[h];cases o<;>rfl
theorem Ra(o:Option SV):(match o with|some v=>some {val:=v}|none=>none:Option ov)=An o:=by cases o<;>rfl
def EU:SV->Option SV
 | .ptr o off=>some (.ptr o off)
 | .ap o sz i j=>some (.ap o sz i j)
 | .pp cs=>some (.pp cs)
 | .fn f a b=>some (.fn f a b)
 |_=>none
def xao(ne:Bool):SV->SV->Option SV
 | .bool a,.bool b=>some (.bool (if ne then decide (a≠b)else decide (a=b)))
 |_,_=>none
def xag(ne:Bool)(ts:List Nat):SV->SV->Option SV
 | .agg cs,.agg ds=>(gO ts cs ds).map fun b=> .bool (if ne then !b else b)
 |_,_=>none
def ub:SV->Option SV
 | .str l=>some (.str l)
 |_=>none
def EZ(ne:Bool):SV->Option SV
 | .nili=>some (.bool (!ne))
 |_=>none
def T7:SV->Option SV
 | .str l=>some (.byt l .no)
 |_=>none
def xap(c:CSt):SV->Option SV
 | .str _=>none
 |v=>(eH c v).map .str
def Hu(l:List UInt8):Option Int->Option Int->Option SV
 |some a,some b=>gd (0<=a/\a<=b/\b<=l.length) (.str ((l.take b.toNat).drop a.toNat))
 |_,_=>none
def EH(c:CSt)(lo hi:Option Arg):SV->Option SV
 | .str l=>Hu l (ks c lo 0) (ks c hi l.length)
 |_=>none
def EI(c:CSt)(len sz:Nat)(lo hi mx:Option Arg):SV->Option SV
 | .ptr o off=>if off=0 then ol c sz (.psl o sz 0 len (some len)) lo hi mx else none
 |_=>none
def uC(off:Nat):SV->Option SV
 | .ptr o k=>some (.ptr o (k+off))
 | .ap o sz i j=>some (.ap o sz i (j+off))
 | .pp cs=>some (.pp (cs.drop off))
 |_=>none
def Z5(off n:Nat)(ag:Bool):SV->Option SV
 | .agg cs=>gd (off+n<=cs.length) (dz ag n (cs.drop off))
 |_=>none
def pj(sz:Nat):SV->Option Int->Option SV
 | .byt l _,some n=>gd (0<=n/\n<l.length/\sz=1) (.pp [.u8 (l.getD n.toNat 0)])
 | .lst sz' xs _,some n=>gd (0<=n/\n<xs.length/\sz=sz') (.pp (xs.getD n.toNat []))
 | .psl o sz' off k _,some n=>gd (0<=n/\n<k/\sz=sz') (.ap o sz (off+n.toNat) 0)
 |_,_=>none
def pX(len sz o off:Nat)(n:Int):Option aG->Option SV
 |some (.rc _)=>gd (0<=n/\n<len) (.ptr o (off+n.toNat*sz))
 |some _=>gd (off=0/\0<=n/\n<len) (.ap o sz n.toNat 0)
 |none=>none
def mI(c:CSt)(len sz:Nat):SV->Option Int->Option SV
 | .ptr o off,some n=>pX len sz o off n (c.look o)
 | .pp cs,some n=>gd (0<=n/\n<len/\cs.length=len*sz) (.pp (cs.drop (n.toNat*sz)))
 |_,_=>none
def E2(len sz:Nat)(ag:Bool):SV->Option Int->Option SV
 | .agg cs,some n=>gd (0<=n/\n<len/\cs.length=len*sz) (dz ag sz (cs.drop (n.toNat*sz)))
 |_,_=>none
def E1:SV->Option Int->Option SV
 | .str l,some n=>gd (0<=n/\n<l.length) (.u8 (l.getD n.toNat 0))
 |_,_=>none
def xaf(i:Nat):SV->Option SV
 | .tup vs=>gd (i<vs.length) (vs.getD i .undef)
 |_=>none
def lenC:Option Nat->Option SV
 |some n=>some (.int .i64 (n:Nat))
 |none=>none
def xal:SV->Option SV
 | .psl _ _ _ _ (some m)=>some (.int .i64 m)
 | .byt l t=>if t= .clip then some (.int .i64 l.length)else none
 | .lst _ xs t=>if t= .clip then some (.int .i64 xs.length)else none
 |_=>none
def EV:SV->SV->Option SV
 | .int k a,.int k' b=>if k=k' then some (.int k (if b<a then b else a))else none
 |_,_=>none
def EW:SV->SV->Option SV
 | .int k a,.int k' b=>if k=k' then some (.int k (if a<b then b else a))else none
 |_,_=>none
def uF:Option (List SV)->Option SV
 |some l=>some (.agg l)
 |none=>none
def ZY(sz:Nat):Option (List (List SV))->Option SV
 |some r=>some (.lst sz r .clip)
 |none=>none
def EX:Option (List UInt8)->Option SV
 |some r=>some (.byt r .clip)
 |none=>none
theorem xf3(x:Arg):cP c (.mov x)=some (c.ev x):=rfl
theorem Ap(z:List SV)(ps:List (Nat×Nat×Arg)):cP c (.build z ps)=uF (iI z (psC c ps)):=by simp only[cP];cases iI z (psC c ps)<;>rfl
theorem T4(sz:Nat)(xs:List Arg):cP c (.lit sz xs)=ZY sz (rows sz (evL c xs)):=by simp only[cP];cases rows sz (evL c xs)<;>rfl
theorem Hr(xs:List Arg):cP c (.litB xs)=EX (toB (evL c xs)):=by simp only[cP];cases toB (evL c xs)<;>rfl
theorem xb5(n:Nat)(ag:Bool)(a:Arg):cP c (.load n ag a)=mm c n ag (c.ev a):=rfl
theorem xb1(x:Arg):cP c (.nchk x)=EU (c.ev x):=rfl
theorem xf8(op:BinOp)(x y:Arg):cP c (.bin op x y)=Fj op (c.ev x) (c.ev y):=rfl
theorem xf9(ne:Bool)(x y:Arg):cP c (.beq ne x y)=xao ne (c.ev x) (c.ev y):=rfl
theorem xf6(ne:Bool)(ts:List Nat)(x y:Arg):cP c (.eqS ne ts x y)=xag ne ts (c.ev x) (c.ev y):=rfl
theorem xlr(op:UnOp)(x:Arg):cP c (.un op x)=wx op (c.ev x):=rfl
theorem Rd(q:IntKind)(x:Arg):cP c (.toInt q x)=ib q (c.ev x):=rfl
theorem Rc(x:Arg):cP c (.toStr x)=ub (c.ev x):=rfl
theorem xb7(ne:Bool)(x:Arg):cP c (.isni ne x)=EZ ne (c.ev x):=rfl
theorem xf2(x:Arg):cP c (.s2b x)=T7 (c.ev x):=rfl
theorem xga(x:Arg):cP c (.b2s x)=xap c (c.ev x):=rfl
theorem xb2(f:Nat)(a b:List Arg):cP c (.mkfn f a b)=some (.fn f (evL c a) (evL c b)):=rfl
theorem Hq(x:Arg)(lo hi:Option Arg):cP c (.slcS x lo hi)=EH c lo hi (c.ev x):=by simp only[cP];cases c.ev x<;>rfl
theorem xbZ(sz:Nat)(x:Arg)(lo hi mx:Option Arg):cP c (.slcL sz x lo hi mx)=ol c sz (c.ev x) lo hi mx:=rfl
theorem xb0(len sz:Nat)(x:Arg)(lo hi mx:Option Arg):cP c (.slcA len sz x lo hi mx)=EI c len sz lo hi mx (c.ev x):=rfl
theorem Re(off:Nat)(x:Arg):cP c (.faddr off x)=uC off (c.ev x):=rfl
theorem xf4(off n:Nat)(ag:Bool)(x:Arg):cP c (.fld off n ag x)=Z5 off n ag (c.ev x):=rfl
theorem FB(sz:Nat)(x i:Arg):cP c (.iaddrL sz x i)=pj sz (c.ev x) (c.ev i).num:=rfl
theorem vb(len sz:Nat)(x i:Arg):cP c (.iaddrA len sz x i)=mI c len sz (c.ev x) (c.ev i).num:=by simp only[cP];unfold mI pX;rfl
theorem xb9(len sz:Nat)(ag:Bool)(x i:Arg):cP c (.idxA len sz ag x i)=E2 len sz ag (c.ev x) (c.ev i).num:=rfl
theorem xb8(x i:Arg):cP c (.idxS x i)=E1 (c.ev x) (c.ev i).num:=rfl
theorem xf5(x:Arg)(i:Nat):cP c (.ext x i)=xaf i (c.ev x):=rfl
theorem T5(b:Bool)(x:Arg):cP c (.len b x)=lenC (jN b (c.ev x)):=by simp only[cP];cases jN b (c.ev x)<;>rfl
theorem xb6(n:Nat):cP c (.lenC n)=some (.int .i64 n):=rfl
theorem xf7(x:Arg):cP c (.cap x)=xal (c.ev x):=rfl
theorem xb3(x y:Arg):cP c (.mini x y)=EV (c.ev x) (c.ev y):=rfl
theorem xb4(x y:Arg):cP c (.maxi x y)=EW (c.ev x) (c.ev y):=rfl
def SOp.pure:SOp->Bool
 | .new _| .box _| .mk _ _ _ _| .mkB _ _| .store _ _ _| .app _ _ _ _| .cpy _ _ _| .pick _ _ _| .call _ _| .isnil _ _| .newB _| .slid _| .appO _ _ _ _| .clr _ _=>false
 |_=>true
theorem sh{so:SOp}(h:so.pure=true):dT c d so=An (cP c so):=by
 cases so<;>first|cases h;done|rfl|exact Ra _
theorem cd{so:SOp}(h:so.pure=true):opC call sg c d so=fG c d (cP c so):=by
 have h1:opC call sg c d so=nz c d (dT c d so):=by cases so<;>first|rfl|cases h
 rw[h1];exact qf (sh h)
theorem xhM(x:Arg):opC call sg c d (.mov x)=fG c d (some (c.ev x)):=cd rfl
theorem Sz(z:List SV)(ps:List (Nat×Nat×Arg)):opC call sg c d (.build z ps)=fG c d (uF (iI z (psC c ps))):=(cd rfl).trans (by rw[Ap])
theorem xhO(sz:Nat)(xs:List Arg):opC call sg c d (.lit sz xs)=fG c d (ZY sz (rows sz (evL c xs))):=(cd rfl).trans (by rw[T4])
theorem xer(xs:List Arg):opC call sg c d (.litB xs)=fG c d (EX (toB (evL c xs))):=(cd rfl).trans (by rw[Hr])
theorem xeq(n:Nat)(ag:Bool)(a:Arg):opC call sg c d (.load n ag a)=fG c d (mm c n ag (c.ev a)):=cd rfl
theorem xem(x:Arg):opC call sg c d (.nchk x)=fG c d (EU (c.ev x)):=cd rfl
theorem xhX(op:BinOp)(x y:Arg):opC call sg c d (.bin op x y)=fG c d (Fj op (c.ev x) (c.ev y)):=cd rfl
theorem xhY(ne:Bool)(x y:Arg):opC call sg c d (.beq ne x y)=fG c d (xao ne (c.ev x) (c.ev y)):=cd rfl
theorem xhS(ne:Bool)(ts:List Nat)(x y:Arg):opC call sg c d (.eqS ne ts x y)=fG c d (xag ne ts (c.ev x) (c.ev y)):=cd rfl
theorem xlL(op:UnOp)(x:Arg):opC call sg c d (.un op x)=fG c d (wx op (c.ev x)):=cd rfl
theorem Su(q:IntKind)(x:Arg):opC call sg c d (.toInt q x)=fG c d (ib q (c.ev x)):=cd rfl
theorem Ss(x:Arg):opC call sg c d (.toStr x)=fG c d (ub (c.ev x)):=cd rfl
theorem xel(xs:List Arg):opC call sg c d (.newB xs)=nS c d (toB (evL c xs)):=rfl
theorem xeg(x:Arg):opC call sg c d (.slid x)=qW c d (c.ev x):=rfl
theorem xo(k:Nat)(l:List UInt8):nS c (some k) (some l)=some (CSt.app c (some k) {val:= .psl (k+100) 1 0 l.length (some l.length),new:=some (.bar l)}):=rfl
theorem Dy(o off n:Nat)(cap:Option Nat):qW c d (.psl o 1 off n cap)=oJ c d o off n cap (c.look o):=rfl
theorem Dz(o off n:Nat)(cap:Option Nat)(l:List UInt8):oJ c d o off n cap (some (.bar l))=if off+n<=l.length/\cap=some n then some (((c.publish o []).1).put d (.byt ((l.drop off).take n) .clip))else none:=rfl
theorem xet(ne:Bool)(x:Arg):opC call sg c d (.isni ne x)=fG c d (EZ ne (c.ev x)):=cd rfl
theorem xhK(x:Arg):opC call sg c d (.s2b x)=fG c d (T7 (c.ev x)):=cd rfl
theorem xhZ(x:Arg):opC call sg c d (.b2s x)=fG c d (xap c (c.ev x)):=cd rfl
theorem xen(f:Nat)(a b:List Arg):opC call sg c d (.mkfn f a b)=fG c d (some (.fn f (evL c a) (evL c b))):=cd rfl
theorem xeh(x:Arg)(lo hi:Option Arg):opC call sg c d (.slcS x lo hi)=fG c d (EH c lo hi (c.ev x)):=(cd rfl).trans (by rw[Hq])
theorem xei(sz:Nat)(x:Arg)(lo hi mx:Option Arg):opC call sg c d (.slcL sz x lo hi mx)=fG c d (ol c sz (c.ev x) lo hi mx):=cd rfl
theorem xej(len sz:Nat)(x:Arg)(lo hi mx:Option Arg):opC call sg c d (.slcA len sz x lo hi mx)=fG c d (EI c len sz lo hi mx (c.ev x)):=cd rfl
theorem Sx(off:Nat)(x:Arg):opC call sg c d (.faddr off x)=fG c d (uC off (c.ev x)):=cd rfl
theorem xhQ(off n:Nat)(ag:Bool)(x:Arg):opC call sg c d (.fld off n ag x)=fG c d (Z5 off n ag (c.ev x)):=cd rfl
theorem Gn(sz:Nat)(x i:Arg):opC call sg c d (.iaddrL sz x i)=fG c d (pj sz (c.ev x) (c.ev i).num):=cd rfl
theorem Gp(len sz:Nat)(x i:Arg):opC call sg c d (.iaddrA len sz x i)=fG c d (mI c len sz (c.ev x) (c.ev i).num):=(cd rfl).trans (by rw[vb])
theorem xev(len sz:Nat)(ag:Bool)(x i:Arg):opC call sg c d (.idxA len sz ag x i)=fG c d (E2 len sz ag (c.ev x) (c.ev i).num):=cd rfl
theorem xeu(x i:Arg):opC call sg c d (.idxS x i)=fG c d (E1 (c.ev x) (c.ev i).num):=cd rfl
theorem xhR(x:Arg)(i:Nat):opC call sg c d (.ext x i)=fG c d (xaf i (c.ev x)):=cd rfl
theorem xhP(b:Bool)(x:Arg):opC call sg c d (.len b x)=fG c d (lenC (jN b (c.ev x))):=(cd rfl).trans (by rw[T5])
theorem xes(n:Nat):opC call sg c d (.lenC n)=fG c d (some (.int .i64 n)):=cd rfl
theorem xhV(x:Arg):opC call sg c d (.cap x)=fG c d (xal (c.ev x)):=cd rfl
theorem xeo(x y:Arg):opC call sg c d (.mini x y)=fG c d (EV (c.ev x) (c.ev y)):=cd rfl
theorem xep(x y:Arg):opC call sg c d (.maxi x y)=fG c d (EW (c.ev x) (c.ev y)):=cd rfl
def ES(a b:SV):SV->Option SV
 | .bool t=>some (ir t a b)
 |_=>none
theorem xfe(q a b:Arg):dT c d (.pick q a b)=An (ES (c.ev a) (c.ev b) (c.ev q)):=by simp only[dT];cases c.ev q<;>rfl
theorem xek(q a b:Arg):opC call sg c d (.pick q a b)=fG c d (ES (c.ev a) (c.ev b) (c.ev q)):=qf (xfe q a b)
def uA(ne:Bool):SV->Option SV
 | .byt l _=>gd (l≠ []) (.bool ne)
 | .lst _ xs _=>gd (xs≠ []) (.bool ne)
 | .psl _ _ _ _ _=>some (.bool ne)
 |_=>none
theorem Tt(ne:Bool)(x:Arg):dT c d (.isnil ne x)=An (uA ne (c.ev x)):=by simp only[dT];cases c.ev x<;>first|rfl|(simp only[uA];unfold gd;split<;>rfl)
theorem Sw(ne:Bool)(x:Arg):opC call sg c d (.isnil ne x)=fG c d (uA ne (c.ev x)):=qf (Tt ne x)
def De(c:CSt)(k:Nat)(o:aG)(v:SV):CSt:=CSt.app c (some k) {val:=v,new:=some o}
theorem TZ(l:List (Nat×SV))(ob:List (Nat×aG))(t:List Nat)(o:aG)(v:SV):
 De ⟨l,ob,t⟩ k o v=⟨ji (dl (k+100) (k+101) l) k v,iM (bH (k+100) (k+101) ob) (k+100) (o.purge (k+100) (k+101)),cE (k+100) (k+101) t⟩:=rfl
def xk3(c:CSt)(k:Nat)(v:SV):Option aG->Option CSt
 |some o=>some (De c k o v)
 |none=>none
theorem EC(v:SV)(o:aG):xk3 c k v (some o)=some (De c k o v):=rfl
theorem xhL(o:aG):opC call sg c (some k) (.new o)=xk3 c k (.ptr (k+100) 0) (gd (o.wf=true) o):=by show nz c (some k) (gd _ _)=_;unfold gd;split<;>rfl
theorem xhW(x:Arg):opC call sg c (some k) (.box x)=some (De c k (.rc (c.ev x).cells) (.ptr (k+100) 0)):=rfl
def mkE(bytes:Nat):SV->SV->Option (Nat×Nat)
 | .int _ n,.int _ m=>gd (0<=n/\n<=m/\bytes*m<=140737488355328/\m<=9223372036854775807) (n.toNat,m.toNat)
 |_,_=>none
def mkS(c:CSt)(k:Nat)(z:List SV):Option (Nat×Nat)->Option CSt
 |some p=>some (De c k (.arr z.length (am p.2 z)) (.psl (k+100) z.length 0 p.1 (some p.2)))
 |none=>none
theorem xlM(z:List SV)(bytes:Nat)(n m:Arg):opC call sg c (some k) (.mk z bytes n m)=mkS c k z (mkE bytes (c.ev n) (c.ev m)):=by show nz c (some k) (dT c (some k) (.mk z bytes n m))=_;simp only[dT];cases h1:c.ev n<;>cases h2:c.ev m<;>first|rfl|(simp only[mkE];unfold gd;split<;>rfl)
def xft:SV->SV->Option (Nat×Nat)
 | .int _ n,.int _ m=>gd (0<=n/\n<=m/\m<=140737488355328) (n.toNat,m.toNat)
 |_,_=>none
def xkK(c:CSt)(k:Nat):Option (Nat×Nat)->Option CSt
 |some p=>some (De c k (.bar (am p.2 0)) (.psl (k+100) 1 0 p.1 (some p.2)))
 |none=>none
theorem xhN(n m:Arg):opC call sg c (some k) (.mkB n m)=xkK c k (xft (c.ev n) (c.ev m)):=by show nz c (some k) (dT c (some k) (.mkB n m))=_;simp only[dT];cases h1:c.ev n<;>cases h2:c.ev m<;>first|rfl|(simp only[xft];unfold gd;split<;>rfl)
def stC(c:CSt)(n:Nat)(v:List SV):SV->Option (Nat×aG)
 | .ptr o off=>match c.look o with
  |some (.rc cs)=>gd (off+n<=cs.length/\v.length=n/\v.all SV.one=true) (o,.rc (gI cs off v))
  |some (.arr sz xs)=>gd (off=0/\n=xs.length*sz/\v.length=n/\v.all SV.isData=true) (o,.arr sz (jt sz xs.length (v.map SV.data)))
  |some (.bar l)=>match toB v with
   |some l'=>gd (off=0/\n=l.length/\l'.length=n) (o,.bar l')
   |none=>none
  |_=>none
 | .ap o sz i j=>match c.look o with
  |some (.arr sz' xs)=>gd (sz=sz'/\i<xs.length/\j+n<=sz/\v.length=n/\v.all SV.isData=true) (o,.arr sz' (fI sz xs i j n (v.map SV.data)))
  |some (.bar l)=>match v with
   |[.u8 b]=>gd (sz=1/\j=0/\n=1/\i<l.length) (o,.bar (l.set i b))
   |_=>none
  |_=>none
 |_=>none
def stS(c:CSt):Option (Nat×aG)->Option CSt
 |some p=>some ⟨c.tm,iM c.ob p.1 p.2,c.tk⟩
 |none=>none
theorem FH(l:List (Nat×SV))(ob:List (Nat×aG))(t:List Nat)(p:Nat×aG):stS ⟨l,ob,t⟩ (some p)=some ⟨l,iM ob p.1 p.2,t⟩:=rfl
theorem Dw(n:Nat)(v:List SV)(a:SV):ld c n v a=(stC c n v a).map fun p=> {val:= .undef,wr:=[p]}:=by
 cases a with
 |ptr o off=>
  simp only[ld,stC];cases c.look o with
  |none=>rfl
  |some ob=>
   cases ob with
   |rc cs=>simp only;unfold gd;split<;>rfl
   |arr sz' xs=>simp only;unfold gd;split<;>rfl
   |bar l=>simp only;cases toB v<;>first|rfl|(simp only;unfold gd;split<;>rfl)
 |ap o sz i j=>
  simp only[ld,stC];cases c.look o with
  |none=>rfl
  |some ob=>
   cases ob with
   |rc cs=>rfl
   |arr sz' xs=>simp only;unfold gd;split<;>rfl
   |bar l=>
    rcases v with _|⟨u,_|⟨u2,r⟩⟩
    ·rfl
    ·cases u<;>first|rfl|(simp only;unfold gd;split<;>rfl)
    ·cases u<;>rfl
 |_=>rfl
theorem Sv(n:Nat)(a x:Arg):opC call sg c none (.store n a x)=if(c.ev x).isDef=true then stS c (stC c n (c.ev x).cells (c.ev a))else none:=by
 show nz c none (dT c none (.store n a x))=_;simp only[dT];split
 ·rw[Dw];cases stC c n (c.ev x).cells (c.ev a)<;>rfl
 ·rfl
def apB(c:CSt)(k:Nat)(l:List UInt8)(t:Tok)(z:List SV)(bytes:Nat):Option (List UInt8)->Option CSt
 |some l'=>if z.length=1/\bytes=1/\t.readyC c=true/\l.length+l'.length<=140737488355328 then some (CSt.app c (some k) {val:= .byt (l++l') (.id (k+100)),eat:=t,tok:=true})else none
 |none=>none
def apL(c:CSt)(k:Nat)(sz':Nat)(l:List (List SV))(t:Tok)(z:List SV)(bytes:Nat):Option (List (List SV))->Option CSt
 |some l'=>if z.length=sz'/\t.readyC c=true/\(l.length+l'.length)*bytes<=140737488355328 then some (CSt.app c (some k) {val:= .lst z.length (l++l') (.id (k+100)),eat:=t,tok:=true})else none
 |none=>none
theorem TY(l:List (Nat×SV))(ob:List (Nat×aG))(t:List Nat)(v:SV)(e:Tok):
 CSt.app ⟨l,ob,t⟩ (some k) {val:=v,eat:=e,tok:=true}=⟨ji (dl (k+100) (k+101) l) k v,bH (k+100) (k+101) ob,mB (cE (k+100) (k+101) (e.eat t)) (k+100)⟩:=rfl
def apS(c:CSt)(k:Nat)(z:List SV)(bytes:Nat)(y:SV):SV->Option CSt
 | .byt l t=>apB c k l t z bytes (eH c y)
 | .lst sz' l t=>apL c k sz' l t z bytes (fN c z.length y)
 |_=>none
theorem xh0(z:List SV)(bytes:Nat)(x y:Arg):opC call sg c (some k) (.app z bytes x y)=apS c k z bytes (c.ev y) (c.ev x):=by
 show nz c (some k) (dT c (some k) (.app z bytes x y))=_;simp only[dT];cases c.ev x<;>try rfl
 ·simp only[apS]
  cases eH c (c.ev y)with
  |none=>rfl
  |some l'=>simp only[cZ,apB];unfold gd;split<;>rfl
 ·simp only[apS]
  cases fN c z.length (c.ev y)with
  |none=>rfl
  |some l'=>simp only[cZ,apL];unfold gd;split<;>rfl
def cpB(o off n:Nat)(sz sz':Nat)(l:List UInt8):Option (List UInt8)->Option (SV×Nat×aG)
 |some l'=>gd (sz=1/\sz'=1/\off+n<=l.length) (.int .i64 (min l'.length n:Nat),o,.bar (l.take off++l'.take n++l.drop (off+(l'.take n).length)))
 |none=>none
def cpL(b:Bool)(o off n:Nat)(sz sz' sz'':Nat)(xs:List (List SV)):Option (List (List SV))->Option (SV×Nat×aG)
 |some l'=>gd (b=true/\sz=sz'/\sz=sz''/\off+n<=xs.length) (.int .i64 (min l'.length n:Nat),o,.arr sz (xs.take off++l'.take n++xs.drop (off+(l'.take n).length)))
 |none=>none
def cp2(b:Bool)(c:CSt)(sz o sz' off n:Nat)(y:SV):Option aG->Option (SV×Nat×aG)
 |some (.bar l)=>cpB o off n sz sz' l (eH c y)
 |some (.arr sz'' xs)=>cpL b o off n sz sz' sz'' xs (fN c sz y)
 |_=>none
def cpC(b:Bool)(c:CSt)(sz:Nat)(y:SV):SV->Option (SV×Nat×aG)
 | .psl o sz' off n _=>cp2 b c sz o sz' off n y (c.look o)
 |_=>none
def cpS(c:CSt)(d:Option Nat):Option (SV×Nat×aG)->Option CSt
 |some p=>some (CSt.put ⟨c.tm,iM c.ob p.2.1 p.2.2,c.tk⟩ d p.1)
 |none=>none
theorem xex(z:List SV)(b:Nat)(x y:Arg):opC call sg c d (.appO z b x y)=rG c d z b y (c.ev x):=rfl
def clA(o off n:Nat)(z:List SV)(sz' sz'':Nat)(xs:List (List SV)):Option (SV×Nat×aG):=gd (0<n/\z.length=sz'/\z.length=sz''/\off+n<=xs.length) (.tup [],o,.arr z.length (xs.take off++am n z++xs.drop (off+n)))
def cl2(z:List SV)(o sz' off n:Nat):Option aG->Option (SV×Nat×aG)
 |some (.arr sz'' xs)=>clA o off n z sz' sz'' xs
 |_=>none
def clC(c:CSt)(z:List SV):SV->Option (SV×Nat×aG)
 | .psl o sz' off n _=>cl2 z o sz' off n (c.look o)
 |_=>none
theorem xhU(z:List SV)(x:Arg):opC call sg c d (.clr z x)=cpS c d (clC c z (c.ev x)):=by
 show nz c d (dT c d (.clr z x))=_;simp only[dT];cases c.ev x<;>try rfl
 rename_i o sz' off n cap;simp only[clC];cases c.look o with
 |none=>rfl
 |some ob=>
  cases ob with
  |rc cs=>rfl
  |bar l=>rfl
  |arr sz'' xs=>simp only[cl2,clA];unfold gd;split<;>rfl
theorem xhT(sz:Nat)(x y:Arg):opC call sg c d (.cpy sz x y)=cpS c d (cpC y.isT c sz (c.ev y) (c.ev x)):=by
 show nz c d (dT c d (.cpy sz x y))=_;simp only[dT];cases c.ev x<;>try rfl
 rename_i o sz' off n cap;simp only[cpC];cases c.look o with
 |none=>rfl
 |some ob=>
  cases ob with
  |rc cs=>rfl
  |bar l=>
   simp only[cp2];cases eH c (c.ev y)with
   |none=>rfl
   |some l'=>simp only[cZ,cpB];unfold gd;split<;>rfl
  |arr sz'' xs=>
   simp only[cp2];cases fN c sz (c.ev y)with
   |none=>rfl
   |some l'=>simp only[cZ,cpL];unfold gd;split<;>rfl
def Qy(call:de)(sg:Nat->Sig)(c:CSt)(d:Option Nat)(as:List SV):SV->Option CSt
 | .fn g a b=>ik call (sg g) c d g (a++as++b)
 |_=>none
theorem xew(f:Arg)(as:List Arg):opC call sg c d (.call f as)=Qy call sg c d (evL c as) (c.ev f):=by simp only[opC];unfold Qy;rfl
theorem xci(o:SOp):dJ call sg c ⟨d,none,o⟩=opC call sg c d o:=rfl
theorem xdq(g:Option (Nat×Bool))(o:SOp)(r:List SI):plC call sg (⟨d,g,o⟩::r) c=nxP call sg r (opC call sg c d o):=by rw[plC]
theorem CT:fL call sg [] c=some c:=by rw[fL]
theorem Pb(i:SI)(dead:List Nat)(r:List RI):fL call sg (.op i dead::r) c=nxC call sg dead r (dJ call sg c i):=by rw[fL]
theorem CU(g:Nat)(b:Bool)(l:List SI)(dead:List Nat)(r:List RI):fL call sg (.grp g b l dead::r) c=nxC call sg dead r (pm call sg b l c (c.get g)):=by rw[fL]
theorem CR(i:SI)(dead:List Nat)(r:List RI):fL call sg (.tks i dead::r) c=nxC call sg dead r (Ar c i):=by rw[fL]
theorem Rm(d:Option Nat)(x:Arg):Ar c ⟨d,none,.s2b x⟩=Rn c d (c.ev x):=rfl
theorem xcb(k:Nat)(l:List UInt8):Rn c (some k) (.str l)=some (CSt.app c (some k) {val:= .byt l (.id (k+100)),tok:=true}):=rfl
theorem CS(i:SI)(dead:List Nat)(r:List RI):fL call sg (.own i dead::r) c=nxC call sg dead r (s6 c i):=by rw[fL]
theorem Sf(d:Option Nat)(x:Arg):s6 c ⟨d,none,.s2b x⟩=Sl c d (c.ev x):=rfl
theorem Sg(d:Option Nat)(sz:Nat)(xs:List Arg):s6 c ⟨d,none,.lit sz xs⟩=Si c sz d (rows sz (evL c xs)):=rfl
theorem Gl(d:Option Nat)(xs:List Arg):s6 c ⟨d,none,.litB xs⟩=nS c d (toB (evL c xs)):=rfl
theorem Sh(d:Option Nat)(z:List SV)(b:Nat)(x y:Arg):s6 c ⟨d,none,.app z b x y⟩=rG c d z b y (c.ev x):=rfl
theorem CV(q:Dir)(r:List RI):fL call sg (.dir q::r) c=nxC call sg [] r (qQ c q):=by rw[fL]
theorem lk(dead:List Nat)(r:List RI):nxC call sg dead r (some c)=fL call sg r (c.kill dead):=by rw[nxC]
theorem ll(dead:List Nat)(r:List RI):nxC call sg dead r none=none:=by rw[nxC]
theorem O8:plC call sg [] c=some c:=by rw[plC]
theorem CY(r:List SI):nxP call sg r (some c)=plC call sg r c:=by rw[nxP]
theorem CZ(r:List SI):nxP call sg r none=none:=by rw[nxP]
theorem xca:unL c []=c:=rfl
theorem Rf(g:Option (Nat×Bool))(o:SOp)(r:List SI):unL c (⟨d,g,o⟩::r)=unL (c.put d (.tup [])) r:=rfl
theorem xil(b:Bool)(l:List SI):pm call sg b l c (.tup [])=some (unL c l):=rfl
theorem xim(b t:Bool)(l:List SI):pm call sg b l c (.bool t)=if t=b then plC call sg l c else some (unL c l):=rfl
theorem xey(dead:List Nat)(r:List RI)(p:Prop)[Decidable p](a b:Option CSt):nxC call sg dead r (if p then a else b)=if p then nxC call sg dead r a else nxC call sg dead r b:=by split<;>rfl
theorem xeH(p:Prop)[Decidable p](l l':List (Nat×SV))(o:List (Nat×aG))(t:List Nat):(if p then some (CSt.mk l o t)else some (CSt.mk l' o t))=some (CSt.mk (if p then l else l') o t):=by split<;>rfl
theorem xeG(p:Prop)[Decidable p](n:Nat)(v w:SV)(l l':List (Nat×SV)):(if p then(n,v)::l else(n,w)::l')=(n,if p then v else w)::(if p then l else l'):=by split<;>rfl
theorem SN(p:Prop)[Decidable p]:(if p then([]:List (Nat×SV))else [])=[]:=by split<;>rfl
theorem GH{α:Type}(p:Prop)[Decidable p](a:α):(if p then a else a)=a:=by split<;>rfl
theorem GG(p:Prop)[Decidable p](q:IntKind)(a b:Int):(if p then SV.int q a else SV.int q b)= .int q (if p then a else b):=by split<;>rfl
theorem Ea(p:Prop)[Decidable p](a b:Bool):(if p then SV.bool a else SV.bool b)= .bool (if p then a else b):=by split<;>rfl
theorem SM(p:Prop)[Decidable p](a b:UInt8):(if p then SV.u8 a else SV.u8 b)= .u8 (if p then a else b):=by split<;>rfl
theorem Ec(t a b:Bool):ir t (.bool a) (.bool b)= .bool (if t=true then a else b):=by cases t<;>rfl
theorem GI(t:Bool)(q:IntKind)(a b:Int):ir t (.int q a) (.int q b)= .int q (if t=true then a else b):=by cases t<;>rfl
theorem SP(t:Bool)(a b:UInt8):ir t (.u8 a) (.u8 b)= .u8 (if t=true then a else b):=by cases t<;>rfl
theorem Eb(a b:SV):ir true a b=a:=rfl
theorem xz(a b:SV):ir false a b=b:=rfl
variable {rn : RC -> CSt -> gQ}
theorem Gr(dead:List Nat):nrm dead (some c)=some (.n,c.kill dead):=rfl
theorem Gs(dead:List Nat):nrm dead none=none:=rfl
theorem SE(dead:List Nat)(p:Prop)[Decidable p](a b:Option CSt):nrm dead (if p then a else b)=if p then nrm dead a else nrm dead b:=by split<;>rfl
theorem xlv(b:RC):sq rn b (some (.n,c))=rn b c:=rfl
theorem xlt(b:RC)(id:Nat):sq rn b (some (.x id,c))=some (.x id,c):=rfl
theorem xlu(b:RC):sq rn b (some (.r,c))=some (.r,c):=rfl
theorem Rq(b:RC):sq rn b none=none:=rfl
theorem xcd(b:RC)(p:Prop)[Decidable p](x y:gQ):sq rn b (if p then x else y)=if p then sq rn b x else sq rn b y:=by split<;>rfl
theorem xiu(a b:RC)(t:Bool):cnd rn a b c (.bool t)=if t=true then rn a c else rn b c:=rfl
theorem xix(id:Nat):blk id (some (.n,c))=some (.n,c):=rfl
theorem xiw(id:Nat):blk id (some (.r,c))=some (.r,c):=rfl
theorem xiv(id id':Nat):blk id (some (.x id',c))=if id'=id then some (.n,c)else some (.x id',c):=rfl
theorem Hl(id:Nat):blk id none=none:=rfl
theorem TO(id:Nat)(p:Prop)[Decidable p](x y:gQ):blk id (if p then x else y)=if p then blk id x else blk id y:=by split<;>rfl
theorem xlU(b:RC):lp rn b (some (.n,c))=rn (.loop b) c:=rfl
theorem xlS(b:RC)(id:Nat):lp rn b (some (.x id,c))=some (.x id,c):=rfl
theorem xlT(b:RC):lp rn b (some (.r,c))=some (.r,c):=rfl
theorem SG(b:RC):lp rn b none=none:=rfl
theorem xeC(b:RC)(p:Prop)[Decidable p](x y:gQ):lp rn b (if p then x else y)=if p then lp rn b x else lp rn b y:=by split<;>rfl
theorem Gh(a:RC):prD rn a (some c)=rn a c:=rfl
theorem xgx(ds:List Dir):psD ds (some (.n,c))=prD (fun _ c=>some (.n,c)) .skip (iA c ds):=by simp only[psD];cases iA c ds<;>rfl
theorem xgv(ds:List Dir)(id:Nat):psD ds (some (.x id,c))=some (.x id,c):=rfl
theorem xgw(ds:List Dir):psD ds (some (.r,c))=some (.r,c):=rfl
theorem Gg(ds:List Dir):psD ds none=none:=rfl
theorem Se(ds:List Dir)(p:Prop)[Decidable p](x y:gQ):psD ds (if p then x else y)=if p then psD ds x else psD ds y:=by split<;>rfl
theorem G5:iA c []=some c:=rfl
def xk2(ds:List Dir):Option CSt->Option CSt
 |some c=>iA c ds
 |none=>none
theorem Eu(q:Dir)(ds:List Dir):iA c (q::ds)=xk2 ds (qQ c q):=by simp only[iA];cases qQ c q<;>rfl
theorem Ew(ds:List Dir):xk2 ds (some c)=iA c ds:=rfl
theorem xio(F:FnC)(n:Nat):Fe F n (some (.n,c))=Pk F.keep F.raw n c (rE c F.rs):=rfl
theorem xin(F:FnC)(n:Nat):Fe F n (some (.r,c))=Pk F.keep F.raw n c (rE c F.rs):=rfl
theorem S5(F:FnC)(n:Nat)(p:Prop)[Decidable p](x y:gQ):Fe F n (if p then x else y)=if p then Fe F n x else Fe F n y:=by split<;>rfl
theorem Hh(sg:Sig)(g:Nat)(as:List SV):ik call sg c d g as=jO call sg c d g as ((SV.idsL as).isEmpty&&sg.own.isEmpty):=rfl
theorem TJ(sg:Sig)(g:Nat)(as:List SV):jO call sg c d g as true=mr c d (call g (SV.bareL as) [] 0):=rfl
theorem TK(sg:Sig)(g:Nat)(as:List SV):jO call sg c d g as false=jF call sg d g (eP c as (iS sg.raw 0 as)):=rfl
theorem S7(q:eA):mr c d (some q)=nU c d q q.bare:=rfl
theorem S9(q:eA):nU c d q true=some (c.put d q.r):=rfl
theorem Ta(q:eA):nU c d q false=xH c d q q.small:=rfl
theorem S8(q:eA):xH c d q true=some (jP c d [] [] q):=rfl
theorem TS(r:SV)(os:List (Nat×aG))(tk:List Nat):(eA.mk r os tk).bare=(os.isEmpty&&tk.isEmpty&&r.ids.isEmpty&&r.toks.isEmpty):=rfl
theorem FK(r:SV)(os:List (Nat×aG))(tk:List Nat):(eA.mk r os tk).small=(os.all (fun p=>decide (p.1<1000)&&p.2.ids.all (fun k=>decide (k<1000))&&p.2.toks.all (fun k=>decide (k<1000)))&&r.ids.all (fun k=>decide (k<1000))&&r.toks.all (fun k=>decide (k<1000))&&tk.all (fun k=>decide (k<1000))):=rfl
theorem Rt(sg:Sig)(g:Nat)(as:List SV):jF call sg d g (c,as)=nN call c d g (jT c.tk sg.own 50 0 as):=rfl
theorem Rz(g:Nat)(as:List SV)(mt1:List (Option Nat)):nN call c d g (as,mt1)=lA call c d g as mt1 (dL c 60 [] (SV.idsL as)) (gF c (dL c 60 [] (SV.idsL as))):=rfl
theorem Ry(g:Nat)(as:List SV)(mt1:List (Option Nat))(m:List Nat)(os:List aG):lA call c d g as mt1 m (some os)=nM call c d g as mt1 m (dZ c.tk (50+mt1.length) os):=rfl
theorem Rx(g:Nat)(as:List SV)(mt1:List (Option Nat))(m:List Nat)(os:List aG)(mt2:List (Option Nat)):nM call c d g as mt1 m (os,mt2)=
 nL call c d g as mt1 m os mt2 (oC (SV.idsL as++fJ os) m&&dy m&&dy (cD (mt1++mt2))&&decide (m.length<=40)&&m.all fun o=> !inR (d.getD 0) o):=rfl
theorem Rw(g:Nat)(as:List SV)(mt1:List (Option Nat))(m:List Nat)(os:List aG)(mt2:List (Option Nat)):nL call c d g as mt1 m os mt2 true=
 oI c d m (cD (mt1++mt2)) (call g (SV.renL (gM m) id as) (ee (gM m) id os) (mt1.length+mt2.length)):=rfl
theorem Rv(m mt:List Nat)(q:eA):oI c d m mt (some q)=wJ c d m mt q q.small:=rfl
theorem Ru(m mt:List Nat)(q:eA):wJ c d m mt q true=some (jP c d m mt q):=rfl
theorem xeY(keep raw:List Nat)(vs:List SV):Pk keep raw k c (some vs)=S6 keep k (eP c vs (iS raw 0 vs)):=rfl
theorem xeR(keep:List Nat)(vs:List SV):S6 keep k (c,vs)=Pj keep k c vs (decide (k=0)&&(SV.idsL vs).isEmpty&&keep.isEmpty):=rfl
theorem xeW(keep:List Nat)(vs:List SV):Pj keep k c vs true=some ⟨jk (SV.bareL vs),[],[]⟩:=rfl
theorem xeX(keep:List Nat)(vs:List SV):Pj keep k c vs false=Z9 k c (jT c.tk keep 60 0 vs):=rfl
theorem xeV(vs:List SV)(mt1:List (Option Nat)):Z9 k c (vs,mt1)=Z8 k c vs mt1 (dL c 60 [] (kZ k++SV.idsL vs)) (gF c (dL c 60 [] (kZ k++SV.idsL vs))):=rfl
theorem xeU(vs:List SV)(mt1:List (Option Nat))(m:List Nat)(os:List aG):Z8 k c vs mt1 m (some os)=Z7 k vs mt1 m (dZ c.tk (60+mt1.length) os):=rfl
theorem xeT(vs:List SV)(mt1:List (Option Nat))(m:List Nat)(os:List aG)(mt2:List (Option Nat)):Z7 k vs mt1 m (os,mt2)=
 Z6 k vs mt1 m os mt2 (oC (SV.idsL vs++fJ os) m&&dy m&&dy (cD (mt1++mt2))&&decide (m.take k=kZ k)&&(m.drop k).all fun o=>decide (k<=o)):=rfl
theorem xeS(vs:List SV)(mt1:List (Option Nat))(m:List Nat)(os:List aG)(mt2:List (Option Nat)):Z6 k vs mt1 m os mt2 true=
 some ⟨(jk vs).ren (gV k m) id,(fU 0 (ee (gV k m) id (os.take k)))++(fU (100+k) (ee (gV k m) id (os.drop k))),tks 60 (mt1.length+mt2.length)⟩:=rfl
theorem Sn(v:SV):jk [v]=v:=rfl
theorem Sm(v w:SV)(r:List SV):jk (v::w::r)= .tup (v::w::r):=rfl
theorem Sp:jk []= .tup []:=rfl
theorem FR(raw:List Nat)(i:Nat)(q:IntKind)(n:Int):mA raw i (.int q n)=[]:=rfl
theorem DC(raw:List Nat)(i:Nat)(b:Bool):mA raw i (.bool b)=[]:=rfl
theorem RD(raw:List Nat)(i:Nat)(b:UInt8):mA raw i (.u8 b)=[]:=rfl
theorem FN(raw:List Nat)(i:Nat)(l:List UInt8):mA raw i (.str l)=[]:=rfl
theorem FS(raw:List Nat)(i:Nat)(l:List UInt8)(t:Tok):mA raw i (.byt l t)=[]:=rfl
theorem FQ(raw:List Nat)(i sz:Nat)(l:List (List SV))(t:Tok):mA raw i (.lst sz l t)=[]:=rfl
theorem DA(raw:List Nat)(i:Nat):mA raw i .nilp=[]:=rfl
theorem DB(raw:List Nat)(i:Nat):mA raw i .nili=[]:=rfl
theorem wN(raw:List Nat)(i:Nat):mA raw i .undef=[]:=rfl
theorem RE(raw:List Nat)(i:Nat)(l:List SV):mA raw i (.pp l)=[]:=rfl
theorem FO(raw:List Nat)(i o off:Nat):mA raw i (.ptr o off)=[]:=rfl
theorem RG(raw:List Nat)(i o sz a b:Nat):mA raw i (.ap o sz a b)=[]:=rfl
theorem FT(raw:List Nat)(i:Nat)(l:List SV):mA raw i (.agg l)=if raw.contains i=true then []else ud l:=rfl
theorem DM:ud []=[]:=rfl
theorem wS(v:SV)(r:List SV):ud (v::r)=gT v++ud r:=rfl
theorem DJ(q:IntKind)(n:Int):gT (.int q n)=[]:=rfl
theorem wQ(b:Bool):gT (.bool b)=[]:=rfl
theorem FU(b:UInt8):gT (.u8 b)=[]:=rfl
theorem DE(l:List UInt8):gT (.str l)=[]:=rfl
theorem DK(l:List UInt8)(t:Tok):gT (.byt l t)=[]:=rfl
theorem DI(sz:Nat)(l:List (List SV))(t:Tok):gT (.lst sz l t)=[]:=rfl
theorem wO:gT .nilp=[]:=rfl
theorem wP:gT .nili=[]:=rfl
theorem uU:gT .undef=[]:=rfl
theorem FV(l:List SV):gT (.pp l)=[]:=rfl
theorem DF(o off:Nat):gT (.ptr o off)=[]:=rfl
theorem FX(o sz a b:Nat):gT (.ap o sz a b)=[]:=rfl
theorem DL(l:List SV):gT (.agg l)=[]:=rfl
theorem DD(l:List SV):gT (.tup l)=[]:=rfl
theorem FW(f:Nat)(a b:List SV):gT (.fn f a b)=[]:=rfl
theorem DH(o sz off n:Nat)(m:Option Nat):gT (.psl o sz off n m)=[o]:=rfl
theorem FM(raw:List Nat)(i:Nat)(l:List SV):mA raw i (.tup l)=[]:=rfl
theorem RF(raw:List Nat)(i f:Nat)(a b:List SV):mA raw i (.fn f a b)=[]:=rfl
theorem FP(raw:List Nat)(i o sz off n:Nat)(m:Option Nat):mA raw i (.psl o sz off n m)=if raw.contains i=true then []else [o]:=rfl
theorem SX(p:Prop)[Decidable p](a b v:SV):ir (decide p) (if p then a else b) v=ir (decide p) a v:=by by_cases h:p<;>simp[ir,h]
theorem SW(p:Prop)[Decidable p](a b v:SV):ir (decide p) v (if ¬p then a else b)=ir (decide p) v a:=by by_cases h:p<;>simp[ir,h]
theorem SR(t:Bool)(a b v:SV):ir t (if t=true then a else b) v=ir t a v:=by cases t<;>simp[ir]
theorem SQ(t:Bool)(a b v:SV):ir t v (if t=false then a else b)=ir t v a:=by cases t<;>simp[ir]
theorem SU(t:Bool)(a b v:SV):ir (!t) (if t=false then a else b) v=ir (!t) a v:=by cases t<;>simp[ir]
theorem SS(t:Bool)(a b v:SV):ir (!t) v (if t=true then a else b)=ir (!t) v a:=by cases t<;>simp[ir]
theorem TR(p q:Prop)[Decidable p][Decidable q]:(if p then decide q else false)=decide (p/\q):=by by_cases h:p<;>simp[h]
theorem xfn(p q:Prop)[Decidable p][Decidable q]:(if p then true else decide q)=decide (p\/q):=by by_cases h:p<;>simp[h]
theorem TV(v:SV):c.app d {val:=v}=c.put d v:=rfl
theorem TW(l:List (Nat×SV))(ob:List (Nat×aG))(t:List Nat)(o:aG)(v:SV):
 CSt.app ⟨l,ob,t⟩ (some k) {val:=v,new:=some o}=⟨ji (dl (k+100) (k+101) l) k v,iM (bH (k+100) (k+101) ob) (k+100) (o.purge (k+100) (k+101)),cE (k+100) (k+101) t⟩:=rfl
theorem xfo(l:List (Nat×SV))(ob:List (Nat×aG))(t:List Nat)(v:SV)(p:Nat×aG):CSt.app ⟨l,ob,t⟩ d {val:=v,wr:=[p]}=CSt.put ⟨l,iM ob p.1 p.2,t⟩ d v:=rfl
theorem Hc(l:List (Nat×SV))(ob:List (Nat×aG))(t:List Nat)(p:SV×Nat×aG):cpS ⟨l,ob,t⟩ d (some p)=some (CSt.put ⟨l,iM ob p.2.1 p.2.2,t⟩ d p.1):=rfl
theorem Gx(z:List SV)(p:Nat×Nat):mkS c k z (some p)=some (De c k (.arr z.length (am p.2 z)) (.psl (k+100) z.length 0 p.1 (some p.2))):=rfl
theorem D3(p:Nat×Nat):xkK c k (some p)=some (De c k (.bar (am p.2 0)) (.psl (k+100) 1 0 p.1 (some p.2))):=rfl
theorem xfQ(x:Arg):df c (.mov x)=some (c.ev x):=by simp only[df];rw[xf3]
theorem QW(z:List SV)(ps:List (Nat×Nat×Arg)):df c (.build z ps)=uF (iI z (psC c ps)):=by simp only[df];rw[Ap]
theorem xfR(sz:Nat)(xs:List Arg):df c (.lit sz xs)=ZY sz (rows sz (evL c xs)):=by simp only[df];rw[T4]
theorem xbT(xs:List Arg):df c (.litB xs)=EX (toB (evL c xs)):=by simp only[df];rw[Hr]
theorem xbS(n:Nat)(ag:Bool)(a:Arg):df c (.load n ag a)=mm c n ag (c.ev a):=by simp only[df];rw[xb5]
theorem xbO(x:Arg):df c (.nchk x)=EU (c.ev x):=by simp only[df];rw[xb1]
theorem xfX(op:BinOp)(x y:Arg):df c (.bin op x y)=Fj op (c.ev x) (c.ev y):=by simp only[df];rw[xf8]
theorem xfY(ne:Bool)(x y:Arg):df c (.beq ne x y)=xao ne (c.ev x) (c.ev y):=by simp only[df];rw[xf9]
theorem xfV(ne:Bool)(ts:List Nat)(x y:Arg):df c (.eqS ne ts x y)=xag ne ts (c.ev x) (c.ev y):=by simp only[df];rw[xf6]
theorem xll(op:UnOp)(x:Arg):df c (.un op x)=wx op (c.ev x):=by simp only[df];rw[xlr]
theorem QU(q:IntKind)(x:Arg):df c (.toInt q x)=ib q (c.ev x):=by simp only[df];rw[Rd]
theorem QT(x:Arg):df c (.toStr x)=ub (c.ev x):=by simp only[df];rw[Rc]
theorem xbV(ne:Bool)(x:Arg):df c (.isni ne x)=EZ ne (c.ev x):=by simp only[df];rw[xb7]
theorem xfP(x:Arg):df c (.s2b x)=T7 (c.ev x):=by simp only[df];rw[xf2]
theorem xfZ(x:Arg):df c (.b2s x)=xap c (c.ev x):=by simp only[df];rw[xga]
theorem xbP(f:Nat)(a b:List Arg):df c (.mkfn f a b)=some (.fn f (evL c a) (evL c b)):=by simp only[df];rw[xb2]
theorem xbK(x:Arg)(lo hi:Option Arg):df c (.slcS x lo hi)=EH c lo hi (c.ev x):=by simp only[df];rw[Hq]
theorem xbL(sz:Nat)(x:Arg)(lo hi mx:Option Arg):df c (.slcL sz x lo hi mx)=ol c sz (c.ev x) lo hi mx:=by simp only[df];rw[xbZ]
theorem xbM(len sz:Nat)(x:Arg)(lo hi mx:Option Arg):df c (.slcA len sz x lo hi mx)=EI c len sz lo hi mx (c.ev x):=by simp only[df];rw[xb0]
theorem QV(off:Nat)(x:Arg):df c (.faddr off x)=uC off (c.ev x):=by simp only[df];rw[Re]
theorem xfT(off n:Nat)(ag:Bool)(x:Arg):df c (.fld off n ag x)=Z5 off n ag (c.ev x):=by simp only[df];rw[xf4]
theorem Fv(sz:Nat)(x i:Arg):df c (.iaddrL sz x i)=pj sz (c.ev x) (c.ev i).num:=by simp only[df];rw[FB]
theorem Fw(len sz:Nat)(x i:Arg):df c (.iaddrA len sz x i)=mI c len sz (c.ev x) (c.ev i).num:=by simp only[df];rw[vb]
theorem xbX(len sz:Nat)(ag:Bool)(x i:Arg):df c (.idxA len sz ag x i)=E2 len sz ag (c.ev x) (c.ev i).num:=by simp only[df];rw[xb9]
theorem xbW(x i:Arg):df c (.idxS x i)=E1 (c.ev x) (c.ev i).num:=by simp only[df];rw[xb8]
theorem xfU(x:Arg)(i:Nat):df c (.ext x i)=xaf i (c.ev x):=by simp only[df];rw[xf5]
theorem xfS(b:Bool)(x:Arg):df c (.len b x)=lenC (jN b (c.ev x)):=by simp only[df];rw[T5]
theorem xbU(n:Nat):df c (.lenC n)=some (.int .i64 n):=by simp only[df];rw[xb6]
theorem xfW(x:Arg):df c (.cap x)=xal (c.ev x):=by simp only[df];rw[xf7]
theorem xbQ(x y:Arg):df c (.mini x y)=EV (c.ev x) (c.ev y):=by simp only[df];rw[xb3]
theorem xbR(x y:Arg):df c (.maxi x y)=EW (c.ev x) (c.ev y):=by simp only[df];rw[xb4]
theorem xbN(q a b:Arg):df c (.pick q a b)=ES (c.ev a) (c.ev b) (c.ev q):=by simp only[df];cases c.ev q<;>rfl
theorem xlG(o:SOp):qv c ⟨d,none,o⟩=df c o:=rfl
theorem xlF(g:Nat)(b:Bool)(o:SOp):qv c ⟨d,some (g,b),o⟩=qg c o b (c.get g):=rfl
theorem xlI(b t:Bool)(o:SOp):qg c o b (.bool t)=if t=b then df c o else some (.tup []):=rfl
theorem xlH(b:Bool)(o:SOp):qg c o b (.tup [])=some (.tup []):=rfl
def stG(call:de)(sg:Nat->Sig)(c:CSt)(d:Option Nat)(o:SOp)(b:Bool):SV->Option CSt
 | .bool t=>if t=b then opC call sg c d o else some (c.put d (.tup []))
 | .tup []=>some (c.put d (.tup []))
 |_=>none
theorem xch(g:Nat)(b:Bool)(o:SOp):dJ call sg c ⟨d,some (g,b),o⟩=stG call sg c d o b (c.get g):=by unfold dJ stG;rfl
theorem xgd(b t:Bool)(o:SOp):stG call sg c d o b (.bool t)=if t=b then opC call sg c d o else some (c.put d (.tup [])):=rfl
theorem xgc(b:Bool)(o:SOp):stG call sg c d o b (.tup [])=some (c.put d (.tup [])):=rfl
theorem xeP(b:List Nat)(ps:List FI):fk call sg b [] ps c=some c:=by rw[fk]
theorem xmt(b:List Nat)(n:Nat)(i:SI)(r ps:List FI):fk call sg b (⟨n,true,i⟩::r) ps c=vT call sg b r (⟨n,true,i⟩::ps) c i.dst (qv c i):=by rw[fk]
theorem xmu(b:List Nat)(n:Nat)(i:SI)(r ps:List FI):fk call sg b (⟨n,false,i⟩::r) ps c=qL call sg b r ps (b.getD n 0) (dJ call sg c i):=by rw[fk]
theorem xmr(b:List Nat)(r ps:List FI)(v:SV):vT call sg b r ps c d (some v)=fk call sg b r ps (c.put d v):=by rw[vT]
theorem xms(b:List Nat)(r ps:List FI)(m:Nat):qL call sg b r ps m (some c)=qM call sg b r ps (gdP (tt m c ps) c):=by rw[qL]
theorem xmv(b:List Nat)(r ps:List FI):qM call sg b r ps (some c)=fk call sg b r ps c:=by rw[qM]
theorem S0{α:Type}{p:Prop}(v:α)(h:p):gdP p v=some v:=by unfold gdP;exact if_pos h
theorem xiA(b:List Nat)(l:List FI)(p:List Nat):iY call sg b l [p] c=fk call sg b (iD l p) [] c:=by rw[iY]
theorem xiz(b:List Nat)(l:List FI)(p q:List Nat)(r:List (List Nat)):iY call sg b l (p::q::r) c=nZ (fk call sg b (iD l p) [] c) (iY call sg b l (q::r) c):=by rw[iY]
theorem xnd(a a':CSt):nZ (some a) (some a')=gdP (a=a') a:=rfl
theorem xeQ(m:Nat):tt m c []=True:=rfl
theorem S4(m:Nat)(p:FI)(r:List FI):tt m c (p::r)=((m/2^p.n % 2=1\/qv c p.i=some (c.get (p.i.dst.getD 0)))/\tt m c r):=rfl
end Go.Sy
namespace Go.Sy
variable [bg]
theorem rX{n:Nat}:∀{l:List (Nat×SV)},(∀p∈l,p.1≠n)->eE l n= .undef
 |[],_=>rfl
 |p::r,h=>by simp only[eE];rw[if_neg (h p (aD ..))];exact rX fun q hq=>h q (aq _ hq)
theorem mq(n:Nat)(v:SV)(m:Nat):∀l:List (Nat×SV),eE (ji l n v) m=if m=n then v else eE l m
 |[]=>by simp only[ji,eE];by_cases h:n=m<;>simp[h,eq_comm]
 |p::r=>by
  simp only[ji];split
  ·simp only[eE]
   by_cases h:n=m
   ·simp[h]
   ·rw[if_neg h,if_neg (Ne.symm h)]
  ·split
   ·rename_i h1 h2
    simp only[eE]
    by_cases h:n=m
    ·simp[h]
    ·rw[if_neg h,if_neg (Ne.symm h),if_neg (by omega)]
   ·rename_i h1 h2
    simp only[eE,mq n v m r]
    by_cases h:p.1=m
    ·rw[if_pos h,if_pos h,if_neg (by omega)]
    ·rw[if_neg h,if_neg h]
theorem ml{n:Nat}{v:SV}{p:Nat×SV}:∀{l:List (Nat×SV)},p∈ji l n v->p=(n,v)\/p∈l
 |[],h=>by simpa[ji]using h
 |q::r,h=>by
  simp only[ji]at h;split at h
  ·rcases an.1 h with h|h
   ·exact .inl h
   ·exact .inr h
  ·split at h
   ·rcases an.1 h with h|h
    ·exact .inl h
    ·exact .inr (aq _ h)
   ·rcases an.1 h with h|h
    ·exact .inr (h ▸ aD ..)
    ·rcases ml h with h|h
     ·exact .inl h
     ·exact .inr (aq _ h)
theorem gj(lo hi n:Nat):∀l:List (Nat×SV),eE (dl lo hi l) n=(eE l n).purge lo hi
 |[]=>by simp[dl,eE,SV.purge]
 |p::r=>by
  simp only[dl,eE];split
  ·rfl
  ·exact gj lo hi n r
theorem jm{lo hi:Nat}{p:Nat×SV}:∀{l:List (Nat×SV)},p∈dl lo hi l->∃q∈l,p.1=q.1
 |q::r,h=>by
  simp only[dl]at h;rcases an.1 h with h|h
  ·exact⟨q,aD ..,by rw[h]⟩
  ·obtain⟨u,h1,h2⟩:=jm h
   exact⟨u,aq _ h1,h2⟩
theorem pS{k:List Nat}{p:Nat×SV}:∀{l:List (Nat×SV)},p∈wi l k->p∈l
 |q::r,h=>by
  simp only[wi]at h;split at h
  ·exact aq _ (pS h)
  ·rcases an.1 h with h|h
   ·exact h ▸ aD ..
   ·exact aq _ (pS h)
theorem pZ(k:List Nat)(n:Nat):∀l:List (Nat×SV),eE (wi l k) n=if k.contains n=true then .undef else eE l n
 |[]=>by simp[wi,eE]
 |p::r=>by
  simp only[wi,eE];split
  ·rename_i h
   rw[pZ k n r]
   by_cases hp:p.1=n
   ·subst hp;rw[if_pos h,if_pos h]
   ·rw[if_neg hp]
  ·rename_i h
   simp only[eE,pZ k n r]
   by_cases hp:p.1=n
   ·subst hp;rw[if_pos rfl,if_neg h,if_pos rfl]
   ·rw[if_neg hp,if_neg hp]
theorem p6(n:Nat)(v:aG)(m:Nat):∀l:List (Nat×aG),iG (iM l n v) m=if m=n then some v else iG l m
 |[]=>by simp only[iM,iG];by_cases h:n=m<;>simp[h,eq_comm]
 |p::r=>by
  simp only[iM];split
  ·simp only[iG]
   by_cases h:n=m
   ·simp[h]
   ·rw[if_neg h,if_neg (Ne.symm h)]
  ·split
   ·rename_i h1 h2
    simp only[iG]
    by_cases h:n=m
    ·simp[h]
    ·rw[if_neg h,if_neg (Ne.symm h),if_neg (by omega)]
   ·rename_i h1 h2
    simp only[iG,p6 n v m r]
    by_cases h:p.1=m
    ·rw[if_pos h,if_pos h,if_neg (by omega)]
    ·rw[if_neg h,if_neg h]
theorem kt{n:Nat}{v:aG}{p:Nat×aG}:∀{l:List (Nat×aG)},p∈iM l n v->p=(n,v)\/p∈l
 |[],h=>by simpa[iM]using h
 |q::r,h=>by
  simp only[iM]at h;split at h
  ·rcases an.1 h with h|h
   ·exact .inl h
   ·exact .inr h
  ·split at h
   ·rcases an.1 h with h|h
    ·exact .inl h
    ·exact .inr (aq _ h)
   ·rcases an.1 h with h|h
    ·exact .inr (h ▸ aD ..)
    ·rcases kt h with h|h
     ·exact .inl h
     ·exact .inr (aq _ h)
theorem uc{n:Nat}{v:aG}:∀{l:List (Nat×aG)},(l.map cQ).Pairwise (· < ·)->((iM l n v).map cQ).Pairwise (· < ·)
 |[],_=>by simp[iM]
 |p::r,h=>by
  have h0:=h;simp only[aI,bQ]at h;simp only[iM];split
  ·rename_i h1
   rw[aI,bQ];refine⟨fun k hk=> ?_,h0⟩;rw[aI]at hk;rcases an.1 hk with e|e
   ·omega
   ·have:=h.1 k e;omega
  ·split
   ·rename_i h1 h2
    rw[aI,bQ];exact⟨fun k hk=>by have:=h.1 k hk;omega,h.2⟩
   ·rename_i h1 h2
    rw[aI,bQ];refine⟨fun k hk=> ?_,uc h.2⟩;obtain⟨q,hq,rfl⟩:=aV.1 hk;rcases kt hq with e|e
    ·rw[e];show p.1<n;omega
    ·exact h.1 _ (ip e)
theorem i9{l:List (Nat×aG)}{n:Nat}{v:aG}(h:iG l n=some v):(n,v)∈l:=by
 induction l with
 |nil=>cases h
 |cons p r ih=>
  simp only[iG]at h;split at h
  ·rename_i hp
   cases h;subst hp;exact aD ..
  ·exact aq _ (ih h)
theorem i5:∀{l:List (Nat×aG)},(l.map cQ).Nodup->∀{p:Nat×aG},p∈l->iG l p.1=some p.2
 |q::r,hn,p,h=>by
  simp only[aI,ed]at hn;simp only[iG];rcases an.1 h with e|e
  ·subst e;rw[if_pos rfl]
  ·rw[if_neg (fun e2=>hn.1 (by rw[e2];exact ip e))]
   exact i5 hn.2 e
theorem i0{l:List (Nat×aG)}(h:(l.map cQ).Pairwise (· < ·)):(l.map cQ).Nodup:=h.imp fun h=>Nat.ne_of_lt h
theorem iy(o:Nat):∀l:List (Nat×aG),l.lookup o=iG l o
 |[]=>rfl
 |p::r=>by
  simp only[List.lookup,iG]
  by_cases h:o=p.1
  ·rw[if_pos h.symm];simp[h]
  ·have:(o==p.1)=false:=by simpa using h
   rw[this,if_neg (Ne.symm h)];exact iy o r
theorem jq(lo hi o:Nat):∀l:List (Nat×aG),iG (bH lo hi l) o=if lo<=o/\o<hi then none else(iG l o).map (aG.purge lo hi)
 |[]=>by simp[bH,iG]
 |p::r=>by
  simp only[bH,iG];split
  ·rename_i hp
   rw[jq lo hi o r]
   by_cases h:p.1=o
   ·subst h;rw[if_pos hp,if_pos hp]
   ·rw[if_neg h]
  ·rename_i hp
   simp only[iG,jq lo hi o r]
   by_cases h:p.1=o
   ·subst h;rw[if_pos rfl,if_neg hp,if_pos rfl];rfl
   ·rw[if_neg h,if_neg h]
theorem vg{lo hi:Nat}{l:List (Nat×aG)}(h:(l.map cQ).Pairwise (· < ·)):((bH lo hi l).map cQ).Pairwise (· < ·):=by rw[eN];exact h.filter _
theorem ku{n t:Nat}:∀{l:List Nat},t∈mB l n↔t=n\/t∈l
 |[]=>by simp[mB]
 |p::r=>by
  simp only[mB];split
  ·simp
  ·split
   ·rename_i h;subst h;simp
   ·simp only[an,ku]
    constructor
    ·rintro(h|h|h)
     ·exact .inr (.inl h)
     ·exact .inl h
     ·exact .inr (.inr h)
    ·rintro(h|h|h)
     ·exact .inr (.inl h)
     ·exact .inl h
     ·exact .inr (.inr h)
theorem pL{lo hi:Nat}{o:aG}(h:o.wf=true):(o.purge lo hi).wf=true:=by cases o<;>simpa[aG.purge,aG.wf]using h
def CSt.st(N:Nat)(c:CSt):St:=⟨(cj N).map c.get,c.ob,c.tk⟩
structure Inv(N:Nat)(c:CSt):Prop where
 dom:∀p∈c.tm,p.1<N
 so:(c.ob.map cQ).Pairwise (· < ·)
 wf:∀p∈c.ob,p.2.wf=true
structure Sim(N:Nat)(c:CSt)(s:St):Prop where
 inv:Inv N c
 tm:s.tm=(cj N).map c.get
 look:∀o,s.look o=c.look o
 tk:∀t,t∈s.tk↔t∈c.tk
variable {N : Nat} {c : CSt} {s : St}
theorem Inv.get(h:Inv N c){n:Nat}(hn:N<=n):c.get n= .undef:=rX fun p hp e=>by have:=h.dom p hp;omega
theorem Sim.of(h:Inv N c):Sim N c (c.st N):=⟨h,rfl,fun o=>iy o c.ob,fun _=>Iff.rfl⟩
theorem Sim.get(h:Sim N c s)(n:Nat):s.get n=c.get n:=by
 unfold St.get;rw[h.tm,aa,aT];rcases bX n N with hn|hn
 ·rw[cI hn];rfl
 ·rw[kj (by simpa using hn),h.inv.get hn];rfl
theorem Sim.ev(h:Sim N c s)(a:Arg):s.ev a=c.ev a:=by
 cases a with
 |t n=>exact h.get n
 |c v=>rfl
 |f g=>rfl
theorem Sim.evL(h:Sim N c s)(l:List Arg):Sy.evL c l=l.map s.ev:=by
 induction l with
 |nil=>rfl
 |cons a r ih=>simp only[Sy.evL,aI,ih,h.ev]
theorem Sim.lookmem(h:Sim N c s){o:Nat}{ob:aG}(hl:c.look o=some ob):ob.wf=true:=h.inv.wf _ (i9 hl)
theorem Sim.rows(h:Sim N c s){o sz:Nat}{xs:List (List SV)}(hl:c.look o=some (.arr sz xs)):∀x∈xs,x.length=sz:=by have:=h.lookmem hl;simpa[aG.wf]using this
theorem Inv.put(h:Inv N c){d:Option Nat}(hd:∀k,d=some k->k<N)(v:SV):Inv N (c.put d v):=by
 cases d with
 |none=>exact h
 |some k=>
  refine⟨fun p hp=> ?_,h.so,h.wf⟩;rcases ml hp with e|e
  ·rw[e];exact hd k rfl
  ·exact h.dom p e
theorem gP(c:CSt)(k:Nat)(v:SV)(n:Nat):(c.put (some k) v).get n=if n=k then v else c.get n:=mq k v n c.tm
theorem Sim.put(h:Sim N c s){d:Option Nat}(hd:∀k,d=some k->k<N)(v:SV):Sim N (c.put d v) (s.put d v):=by
 cases d with
 |none=>exact h
 |some k=>
  refine⟨h.inv.put hd v, ?_,h.look,h.tk⟩;show s.tm.set k v=_;rw[h.tm];apply List.ext_getElem?;intro i;rw[gD,aT,aT];rcases bX i N with hi|hi
  ·rw[cI hi]
   simp only[bx,gP,au,List.length_range]
   by_cases hk:k=i
   ·rw[if_pos hk,if_pos (by omega),if_pos hk.symm]
   ·rw[if_neg hk,if_neg (Ne.symm hk)]
  ·rw[kj (l:=cj N) (by simpa using hi)]
   have:=hd k rfl;rw[if_neg (by omega)];rfl
theorem bS{α:Type}{p:Prop}[Decidable p]{v u:α}(h:gd p v=some u):p/\v=u:=by
 unfold gd at h;split at h
 ·rename_i hp;cases h;exact⟨hp,rfl⟩
 ·cases h
theorem GL{op:BinOp}{k:IntKind}{a b:Int}{v:SV}(h:xA op k a b=some v)(hs:mH op=false):∃p,SY op k a b=some (p,v)/\p:=by
 cases op<;>simp only[xA]at h<;>first
  |(cases hs;done)
  |(obtain⟨h1,rfl⟩:=bS h;exact⟨_,rfl,h1⟩)
  |(cases h;exact⟨True,rfl,trivial⟩)
theorem TQ{op:BinOp}{a b v:SV}(h:Fj op a b=some v):∃p,xQ op a b=some (p,v)/\p:=by
 unfold Fj at h;split at h
 ·rename_i k a k' b
  split at h
  ·rename_i hc
   by_cases hs:mH op=true
   ·cases op<;>first
     |(cases hs;done)
     |(simp only[xA]at h;obtain⟨h1,rfl⟩:=bS h;exact⟨_,rfl,h1⟩)
   ·have hs':mH op=false:=by simpa using hs
    have hk:k=k':=hc.resolve_left hs;obtain⟨p,h1,h2⟩:=GL h hs';refine⟨p, ?_,h2⟩;subst hk;cases op<;>first|(cases hs';done)|(simp only[xQ,if_true];exact h1)
  ·cases h
 ·rename_i a b
  show ∃p,EF op a b=some (p,v)/\p
  cases op<;>simp only[yb]at h<;>first
   |(cases h;done)
   |(obtain⟨h1,rfl⟩:=bS h;exact⟨_,rfl,h1⟩)
   |(cases h;exact⟨True,rfl,trivial⟩)
 ·rename_i a b
  show ∃p,T6 op a b=some (p,v)/\p
  cases op<;>simp only[PC]at h<;>first
   |(cases h;done)
   |(obtain⟨h1,rfl⟩:=bS h;exact⟨_,rfl,h1⟩)
   |(cases h;exact⟨True,rfl,trivial⟩)
 ·cases h
theorem vI(hS:Sim N c s){n:Nat}{ag:Bool}{u v:SV}(h:mm c n ag u=some v):∃p,iF s n ag u=some (p,v)/\p:=by
 cases u with
 |pp cs=>obtain⟨h1,rfl⟩:=bS h;exact⟨_,rfl,h1⟩
 |ptr o off=>
  simp only[mm]at h;simp only[iF,hS.look];split at h
  ·rename_i cs hl;rw[hl];obtain⟨h1,rfl⟩:=bS h;exact⟨_,rfl,h1⟩
  ·rename_i sz xs hl;rw[hl];obtain⟨⟨h1,h2⟩,rfl⟩:=bS h;subst h1;exact⟨_,rfl,h2,hS.rows hl⟩
  ·rename_i l hl;rw[hl];obtain⟨⟨h1,h2⟩,rfl⟩:=bS h;subst h1;exact⟨_,rfl,h2⟩
  ·cases h
 |ap o sz i j=>
  simp only[mm]at h;simp only[iF,hS.look];split at h
  ·rename_i sz' xs hl
   rw[hl];obtain⟨⟨h1,h2,h3⟩,rfl⟩:=bS h;refine⟨_,rfl,h1,h2,h3, ?_⟩;rw[aa,ab h2,h1];exact hS.rows hl _ (bp _)
  ·rename_i l hl;rw[hl];obtain⟨h1,rfl⟩:=bS h;exact⟨_,rfl,h1⟩
  ·cases h
 |_=>cases h
theorem mE(hS:Sim N c s)(x:Option Arg)(n:Int):iE s x n=ks c x n:=by
 cases x with
 |none=>rfl
 |some a=>simp only[iE,ks,hS.ev]
theorem AB(hS:Sim N c s){sz:Nat}{u v:SV}{lo hi mx:Option Arg}(h:ol c sz u lo hi mx=some v):∃p,jh s sz u lo hi mx=some (p,v)/\p:=by
 cases u with
 |byt l t=>
  simp only[ol]at h;simp only[jh,mE hS];split at h<;>try (cases h;done)
  rename_i a b m h1 h2 h3;rw[h1,h2,h3];obtain⟨h4,rfl⟩:=bS h;exact⟨_,rfl,h4⟩
 |lst sz' l t=>
  simp only[ol]at h;simp only[jh,mE hS];split at h<;>try (cases h;done)
  rename_i a b m h1 h2 h3;rw[h1,h2,h3];obtain⟨h4,rfl⟩:=bS h;exact⟨_,rfl,h4⟩
 |psl o sz' off n cap=>
  cases cap with
  |none=>
   simp only[ol]at h;simp only[jh,mE hS];split at h<;>try (cases h;done)
   rename_i a b h1 h2;rw[h1,h2];obtain⟨h4,rfl⟩:=bS h;exact⟨_,rfl,h4⟩
  |some cap=>
   simp only[ol]at h;simp only[jh,mE hS];split at h<;>try (cases h;done)
   rename_i a b m h1 h2 h3;rw[h1,h2,h3];obtain⟨h4,rfl⟩:=bS h;exact⟨_,rfl,h4⟩
 |_=>cases h
theorem nh(hS:Sim N c s){u:SV}{l:List UInt8}(h:eH c u=some l):∃p,bytesOf s u=some (p,l)/\p:=by
 cases u with
 |byt l t=>cases h;exact⟨True,rfl,trivial⟩
 |str l=>cases h;exact⟨True,rfl,trivial⟩
 |psl o sz off n cap=>
  simp only[eH]at h;simp only[bytesOf,hS.look];split at h
  ·rename_i l' hl;rw[hl];obtain⟨h1,rfl⟩:=bS h;exact⟨_,rfl,h1⟩
  ·cases h
 |_=>cases h
theorem ko(hS:Sim N c s){u:SV}{sz:Nat}{l:List (List SV)}(h:fN c sz u=some l):∃p,jH s sz u=some (p,l)/\p:=by
 cases u with
 |lst sz' l t=>obtain⟨h1,rfl⟩:=bS h;exact⟨_,rfl,h1⟩
 |psl o sz' off n cap=>
  simp only[fN]at h;simp only[jH,hS.look];split at h
  ·rename_i sz'' xs hl
   rw[hl];obtain⟨⟨h1,h2,h3⟩,rfl⟩:=bS h;exact⟨_,rfl,h1,h2,h3,by rw[h2];exact hS.rows hl⟩
  ·cases h
 |_=>cases h
theorem xdp(hS:Sim N c s)(ps:List (Nat×Nat×Arg)):psC c ps=ps.map fun(o,n,x)=>(o,n,s.ev x):=by
 induction ps with
 |nil=>rfl
 |cons p r ih=>obtain⟨o,n,x⟩:=p;simp only[psC,aI,ih,hS.ev]
theorem Rb(hS:Sim N c s){so:SOp}{v:SV}(h:cP c so=some v):∃p,val s so=some (p,v)/\p:=by
 cases so with
 |mov x=>cases h;exact⟨True,by simp only[val,hS.ev],trivial⟩
 |build z ps=>simp only[cP,xdp hS]at h;obtain⟨l,h1,rfl⟩:=ah.1 h;exact⟨True,by simp only[val,h1,bx],trivial⟩
 |lit sz xs=>simp only[cP,hS.evL]at h;obtain⟨l,h1,rfl⟩:=ah.1 h;exact⟨True,by simp only[val,h1,bx],trivial⟩
 |litB xs=>simp only[cP,hS.evL]at h;obtain⟨l,h1,rfl⟩:=ah.1 h;exact⟨True,by simp only[val,h1,bx],trivial⟩
 |load n ag a=>simp only[val,hS.ev];exact vI hS h
 |nchk x=>simp only[cP]at h;simp only[val,hS.ev];cases hx:c.ev x<;>rw[hx]at h<;>first|(cases h;done)|(cases h;exact⟨True,rfl,trivial⟩)
 |bin op x y=>simp only[val,hS.ev];exact TQ h
 |beq ne x y=>
  simp only[cP]at h;simp only[val,hS.ev];split at h<;>try (cases h;done)
  rename_i a b h1 h2;cases h;rw[h1,h2];exact⟨True,rfl,trivial⟩
 |eqS ne ts x y=>
  simp only[cP]at h;simp only[val,hS.ev];split at h<;>try (cases h;done)
  rename_i a b h1 h2;obtain⟨l,h3,rfl⟩:=ah.1 h;rw[h1,h2];exact⟨True,by simp only[h3,bx],trivial⟩
 |un op x=>simp only[cP]at h;exact⟨True,by simp only[val,hS.ev,h,bx],trivial⟩
 |toInt k x=>simp only[cP]at h;exact⟨True,by simp only[val,hS.ev,h,bx],trivial⟩
 |toStr x=>
  simp only[cP]at h;simp only[val,hS.ev];split at h<;>try (cases h;done)
  all_goals
   rename_i h1;cases h;rw[h1];exact⟨True,rfl,trivial⟩
 |slid x=>simp only[cP]at h;cases h
 |newB x=>simp only[cP]at h;cases h
 |isni ne x=>
  simp only[cP]at h;simp only[val,hS.ev];split at h<;>try (cases h;done)
  rename_i h1;cases h;rw[h1];exact⟨True,rfl,trivial⟩
 |s2b x=>
  simp only[cP]at h;simp only[val,hS.ev];split at h<;>try (cases h;done)
  rename_i l h1;cases h;rw[h1];exact⟨True,rfl,trivial⟩
 |b2s x=>
  simp only[cP]at h;simp only[val,hS.ev];cases hx:c.ev x with
  |byt l t=>rw[hx]at h;cases h;exact⟨True,rfl,trivial⟩
  |psl o sz off n cap=>
   rw[hx]at h;simp only[eH]at h;simp only[xS,hS.look];obtain⟨l,h1,rfl⟩:=ah.1 h;split at h1
   ·rename_i l' hl;rw[hl];obtain⟨h2,rfl⟩:=bS h1;exact⟨_,rfl,h2⟩
   ·cases h1
  |_=>rw[hx]at h;cases h
 |mkfn f a b=>simp only[cP,hS.evL]at h;cases h;exact⟨True,rfl,trivial⟩
 |slcS x lo hi=>
  simp only[cP]at h;simp only[val,hS.ev];split at h<;>try (cases h;done)
  rename_i l hx;rw[hx];simp only[mE hS];split at h<;>try (cases h;done)
  rename_i a b h1 h2;rw[h1,h2];obtain⟨h4,rfl⟩:=bS h;exact⟨_,rfl,h4⟩
 |slcL sz x lo hi mx=>simp only[val,hS.ev];exact AB hS h
 |slcA len sz x lo hi mx=>
  simp only[cP]at h;simp only[val,hS.ev];split at h<;>try (cases h;done)
  rename_i o off hx;split at h<;>try (cases h;done)
  rename_i ho;subst ho;rw[hx];exact AB hS h
 |faddr off x=>simp only[cP]at h;simp only[val,hS.ev];cases hx:c.ev x<;>rw[hx]at h<;>first|(cases h;done)|(cases h;exact⟨True,rfl,trivial⟩)
 |fld off n ag x=>
  simp only[cP]at h;simp only[val,hS.ev];split at h<;>try (cases h;done)
  rename_i cs hx;rw[hx];obtain⟨h4,rfl⟩:=bS h;exact⟨_,rfl,h4⟩
 |iaddrL sz x i=>
  simp only[cP]at h;simp only[val,hS.ev];split at h<;>try (cases h;done)
  all_goals
   rename_i h1 h2;rw[h1,h2];obtain⟨h4,rfl⟩:=bS h;exact⟨_,rfl,h4⟩
 |iaddrA len sz x i=>
  simp only[cP]at h;simp only[val,hS.ev,hS.look];split at h<;>try (cases h;done)
  ·rename_i o off n h1 h2
   rw[h1,h2];simp only;split at h<;>try (cases h;done)
   ·rename_i cs hl
    rw[hl];obtain⟨h4,rfl⟩:=bS h;exact⟨_,rfl,h4⟩
   ·rename_i ob hno hl
    rw[hl];obtain⟨⟨h4,h5⟩,rfl⟩:=bS h;cases ob with
    |rc cs=>exact absurd rfl (hno cs)
    |_=>simp only[h4,if_true];exact⟨_,rfl,h5⟩
  ·rename_i cs n h1 h2
   rw[h1,h2];obtain⟨h4,rfl⟩:=bS h;exact⟨_,rfl,h4⟩
 |idxA len sz ag x i=>
  simp only[cP]at h;simp only[val,hS.ev];split at h<;>try (cases h;done)
  rename_i h1 h2;rw[h1,h2];obtain⟨h4,rfl⟩:=bS h;exact⟨_,rfl,h4⟩
 |idxS x i=>
  simp only[cP]at h;simp only[val,hS.ev];split at h<;>try (cases h;done)
  rename_i h1 h2;rw[h1,h2];obtain⟨h4,rfl⟩:=bS h;exact⟨_,rfl,h4⟩
 |ext x i=>
  simp only[cP]at h;simp only[val,hS.ev];split at h<;>try (cases h;done)
  rename_i vs hx;rw[hx];obtain⟨h4,rfl⟩:=bS h;exact⟨_,rfl,h4⟩
 |len b x=>simp only[cP]at h;obtain⟨n,h1,rfl⟩:=ah.1 h;exact⟨True,by simp only[val,hS.ev,h1],trivial⟩
 |lenC n=>cases h;exact⟨True,rfl,trivial⟩
 |cap x=>
  simp only[cP]at h;simp only[val,hS.ev];cases hx:c.ev x with
  |psl o sz off n m=>cases m<;>rw[hx]at h<;>cases h;exact⟨True,rfl,trivial⟩
  |byt l t=>rw[hx]at h;simp only at h;split at h<;>cases h;rename_i ht;subst ht;exact⟨True,rfl,trivial⟩
  |lst sz l t=>rw[hx]at h;simp only at h;split at h<;>cases h;rename_i ht;subst ht;exact⟨True,rfl,trivial⟩
  |_=>rw[hx]at h;cases h
 |mini x y=>
  simp only[cP]at h;simp only[val,hS.ev];split at h<;>try (cases h;done)
  rename_i h1 h2;rw[h1,h2];simp only;split at h<;>cases h;rename_i hk;exact⟨True,by rw[if_pos hk],trivial⟩
 |maxi x y=>
  simp only[cP]at h;simp only[val,hS.ev];split at h<;>try (cases h;done)
  rename_i h1 h2;rw[h1,h2];simp only;split at h<;>cases h;rename_i hk;exact⟨True,by rw[if_pos hk],trivial⟩
 |_=>cases h
end Go.Sy
namespace Go.Sy
variable [bg]
variable {P : Program} {C : Ctx} {x : Sit} {a : Act} {w : World} {o : Oper} {so : SOp} {N : Nat} {c c' : CSt} {s : St} {d : Option Nat}
def M(C:Ctx)(N:Nat)(c:CSt):Act->World->Prop:=E8 C (Sim N c)
theorem Sim.purge(h:Sim N c s)(lo hi:Nat):Sim N (c.purge lo hi) (s.purge lo hi):=by
 refine⟨⟨fun p hp=> ?_,vg h.inv.so,fun p hp=> ?_⟩, ?_,fun o=> ?_,fun t=> ?_⟩
 ·obtain⟨q,hq,e⟩:=jm hp
  rw[e];exact h.inv.dom q hq
 ·obtain⟨_,ob,h1,h2⟩:=cC hp
  rw[h2];exact pL (h.inv.wf _ h1)
 ·show SV.purgeL lo hi s.tm=_
  rw[h.tm,dv,List.map_map];apply List.map_congr_left;intro i _;exact(gj lo hi i c.tm).symm
 ·show(bH lo hi s.ob).lookup o=iG (bH lo hi c.ob) o
  have:=h.look o;unfold St.look CSt.look at this;rw[iy]at this ⊢;rw[jq,jq,this]
 ·show t∈cE lo hi s.tk↔t∈cE lo hi c.tk
  rw[bK,bK,h.tk]
theorem Sim.addO(h:Sim N c s)(k:Nat){ob:aG}(hw:ob.wf=true):Sim N ⟨c.tm,iM c.ob k ob,c.tk⟩ (s.addO k ob):=by
 refine⟨⟨h.inv.dom,uc h.inv.so,fun p hp=> ?_⟩,h.tm,fun o=> ?_,h.tk⟩
 ·rcases kt hp with e|e
  ·rw[e];exact hw
  ·exact h.inv.wf p e
 ·show((k,ob)::s.ob).lookup o=iG (iM c.ob k ob) o
  have:=h.look o;unfold St.look CSt.look at this;rw[p6];simp only[List.lookup]
  by_cases he:o=k
  ·subst he;simp
  ·have:(o==k)=false:=by simpa using he
   rw[this,if_neg he];exact h.look o
theorem kb(k:Nat)(ob:aG)(o:Nat):∀l:List (Nat×aG),(Sy.setO k ob l).lookup o=if o=k/\(l.lookup k).isSome=true then some ob else l.lookup o
 |[]=>by simp[Sy.setO]
 |p::r=>by
  simp only[Sy.setO]
  by_cases hp:p.1=k
  ·rw[if_pos hp]
   subst hp;simp only[List.lookup]
   by_cases ho:o=p.1
   ·subst ho;simp
   ·have:(o==p.1)=false:=by simpa using ho
    simp[this,ho]
  ·rw[if_neg hp]
   have h1:(k==p.1)=false:=by simpa using Ne.symm hp
   simp only[List.lookup,h1,kb k ob o r]
   by_cases ho:o=p.1
   ·subst ho;simp[hp]
   ·have:(o==p.1)=false:=by simpa using ho
    simp[this]
theorem Sim.setO(h:Sim N c s){k:Nat}{ob:aG}(hl:(c.look k).isSome=true)(hw:ob.wf=true):Sim N ⟨c.tm,iM c.ob k ob,c.tk⟩ (s.setO k ob):=by
 refine⟨⟨h.inv.dom,uc h.inv.so,fun p hp=> ?_⟩,h.tm,fun o=> ?_,h.tk⟩
 ·rcases kt hp with e|e
  ·rw[e];exact hw
  ·exact h.inv.wf p e
 ·show(Sy.setO k ob s.ob).lookup o=iG (iM c.ob k ob) o
  rw[p6,kb]
  have h1:(s.ob.lookup k).isSome=true:=by have:=h.look k;unfold St.look at this;rw[this];exact hl
  by_cases he:o=k
  ·rw[if_pos ⟨he,h1⟩,if_pos he]
  ·rw[if_neg (fun e=>he e.1),if_neg he];exact h.look o
theorem Sim.tks(h:Sim N c s){l k:List Nat}(hlk:∀t,t∈l↔t∈k):Sim N ⟨c.tm,c.ob,k⟩ ⟨s.tm,s.ob,l⟩:=⟨⟨h.inv.dom,h.inv.so,h.inv.wf⟩,h.tm,h.look,hlk⟩
theorem Gz{t:Tok}{l k:List Nat}(h:∀t,t∈l↔t∈k)(n:Nat):n∈t.eat l↔n∈t.eat k:=by
 cases t with
 |id t=>simp only[Tok.eat,bK,h]
 |_=>exact h n
structure Fo(e:ov)(f:Eff):Prop where
 val:f.val=e.val
 wr:f.wr=e.wr
 new:f.new=e.new
 eat:f.eat=e.eat
 tok:f.tok=e.tok
structure Fu(c:CSt)(e:ov):Prop where
 new:∀ob,e.new=some ob->ob.wf=true
 wr:e.wr=[]\/∃k ob,e.wr=[(k,ob)]/\(c.look k).isSome=true/\ob.wf=true
theorem Sim.app(h:Sim N c s)(hd:∀k,d=some k->k<N){e:ov}{f:Eff}(hs:Fo e f)(hg:Fu c e):Sim N (c.app d e) (s.app d f):=by
 unfold CSt.app St.app;rw[hs.new,hs.tok,hs.val,hs.wr,hs.eat];cases hn:e.new with
 |some ob=>exact((h.purge _ _).addO _ (pL (hg.new ob hn))).put hd _
 |none=>
  cases ht:e.tok with
  |true=>refine Sim.put (c:=⟨_,_,_⟩) ?_ hd _;refine((h.purge (d.getD 0+100) (d.getD 0+100+1)).tks (fun t=> ?_));rw[ku,an,bK,bK,Gz h.tk]
  |false=>
   rcases hg.wr with hw|⟨k,ob,hw,h1,h2⟩
   ·rw[hw];exact h.put hd _
   ·rw[hw];exact(h.setO h1 h2).put hd _
theorem Fo.v(v:SV)(p:Prop):Fo {val:=v} {pre:=p,val:=v}:=⟨rfl,rfl,rfl,rfl,rfl⟩
theorem Fu.v(v:SV):Fu c {val:=v}:=⟨fun ob h=>(by cases h),.inl rfl⟩
theorem xbI(n:Nat)(z:List SV):(aG.arr z.length (am n z)).wf=true:=by simp only[aG.wf,aY,decide_eq_true_eq];intro y hy;rw[(List.mem_replicate.1 hy).2]
theorem iZ{sz:Nat}{xs:List (List SV)}:(aG.arr sz xs).wf=true↔∀y∈xs,y.length=sz:=by simp only[aG.wf,aY,decide_eq_true_eq]
theorem wm(sz:Nat):∀(m:Nat)(v:List SV),v.length=m*sz->∀y∈jt sz m v,y.length=sz
 |0,_,_,y,hy=>by cases hy
 |m+1,v,h,y,hy=>by
  rw[dP]at h;simp only[jt]at hy;rcases an.1 hy with rfl|hy
  ·rw[aj];omega
  ·exact wm sz m (v.drop sz) (by rw[aH];omega) y hy
theorem DN{sz:Nat}{xs:List (List SV)}{i j n:Nat}{v:List SV}(h:∀y∈xs,y.length=sz)(hi:i<xs.length)(hj:j+n<=sz)(hv:v.length=n):∀y∈fI sz xs i j n v,y.length=sz:=by
 intro y hy;unfold fI at hy;split at hy
 ·rename_i hc
  rcases List.mem_or_eq_of_mem_set hy with h1|h1
  ·exact h y h1
  ·rw[h1,hv];exact hc.2
 ·rcases List.mem_or_eq_of_mem_set hy with h1|h1
  ·exact h y h1
  ·have:(xs.getD i []).length=sz:=by
    rw[aa,ab hi];exact h _ (bp _)
   rw[h1];simp only[af,aj,aH,this,hv];omega
theorem rF(h:Sim N c s){t:Tok}(hr:t.readyC c=true):t.ready s=true:=by
 cases t with
 |no=>cases hr
 |clip=>rfl
 |id t=>simp only[Tok.readyC,eX,decide_eq_true_eq]at hr;simp only[Tok.ready,eX,decide_eq_true_eq];exact(h.tk t).2 hr
theorem RA(hM:aP C x s a w){y:Arg}(hy:y.isT=true):Rep x (s.ev y) (match y with| .t n=>a.tmps.getD n Go.undef|_=>Go.undef):=by
 cases y with
 |t n=>exact hM.slot n
 |_=>cases hy
theorem G2(h:Sim N c s){e:ov}(he:dT c d so=some e)(hp:∀q y z,so≠ .pick q y z)(hn:∀ne q,so≠ .isnil ne q)(hcp:∀sz q y,so≠ .cpy sz q y):∃f,eff s d so=some f/\f.pre/\Fo e f/\Fu c e:=by
 have plain:∀{so:SOp},dT c d so=An (cP c so)->(eff s d so=match val s so with|some (p,v)=>some {pre:=p,val:=v}|none=>none)->dT c d so=some e->∃f,eff s d so=some f/\f.pre/\Fo e f/\Fu c e:=by
  intro so h1 h2 h3;rw[h1]at h3;cases hv:cP c so with
  |none=>rw[hv]at h3;cases h3
  |some v=>rw[hv]at h3;cases h3;obtain⟨p,h4,h5⟩:=Rb h hv;exact⟨{pre:=p,val:=v},by rw[h2,h4],h5,Fo.v v p,Fu.v v⟩
 cases so with
 |pick q y z=>exact absurd rfl (hp q y z)
 |isnil ne q=>exact absurd rfl (hn ne q)
 |call _ _=>cases he
 |newB _=>cases he
 |slid _=>cases he
 |new ob=>
  simp only[dT]at he;split at he<;>try (cases he;done)
  obtain⟨h1,rfl⟩:=bS he;exact⟨_,rfl,trivial,⟨rfl,rfl,rfl,rfl,rfl⟩,⟨fun ob' e=>(by cases e;exact h1),.inl rfl⟩⟩
 |box q=>simp only[dT]at he;split at he<;>cases he;exact⟨_,rfl,trivial,⟨rfl,rfl,by simp only[h.ev],rfl,rfl⟩,⟨fun ob' e=>(by cases e;rfl),.inl rfl⟩⟩
 |mk z bytes n m=>
  simp only[dT]at he;simp only[eff,h.ev];split at he<;>try (cases he;done)
  rename_i h1 h2;rw[h1,h2];obtain⟨h1,rfl⟩:=bS he;exact⟨_,rfl,h1,⟨rfl,rfl,rfl,rfl,rfl⟩,⟨fun ob' e=>(by cases e;exact xbI _ z),.inl rfl⟩⟩
 |mkB n m=>
  simp only[dT]at he;simp only[eff,h.ev];split at he<;>try (cases he;done)
  rename_i h1 h2;rw[h1,h2];obtain⟨h1,rfl⟩:=bS he;exact⟨_,rfl,h1,⟨rfl,rfl,rfl,rfl,rfl⟩,⟨fun ob' e=>(by cases e;rfl),.inl rfl⟩⟩
 |store n q y=>
  simp only[dT]at he;simp only[eff,h.ev];split at he<;>try (cases he;done)
  rename_i hdef;rw[hdef];simp only;unfold ld at he;unfold qp;split at he
  ·rename_i o' off hq
   rw[hq];simp only[h.look];split at he<;>try (cases he;done)
   ·rename_i cs hl
    rw[hl];obtain⟨h1,rfl⟩:=bS he;exact⟨_,rfl,h1,⟨rfl,rfl,rfl,rfl,rfl⟩,⟨fun ob' e=>(by cases e),.inr ⟨_,_,rfl,by rw[hl];rfl,rfl⟩⟩⟩
   ·rename_i sz xs hl
    rw[hl];obtain⟨⟨h1,h2,h3,h4⟩,rfl⟩:=bS he
    exact⟨_,rfl,⟨h1,h2,h3,h4⟩,⟨rfl,rfl,rfl,rfl,rfl⟩,
     ⟨fun ob' e=>(by cases e),.inr ⟨_,_,rfl,by rw[hl];rfl,iZ.2 (wm sz _ _ (by rw[au];omega))⟩⟩⟩
   ·rename_i l hl
    rw[hl];simp only at he ⊢;split at he<;>try (cases he;done)
    rename_i l' hv;rw[hv];obtain⟨h1,rfl⟩:=bS he;exact⟨_,rfl,h1,⟨rfl,rfl,rfl,rfl,rfl⟩,⟨fun ob' e=>(by cases e),.inr ⟨_,_,rfl,by rw[hl];rfl,rfl⟩⟩⟩
  ·rename_i o' sz i j hq
   rw[hq];simp only[h.look];split at he<;>try (cases he;done)
   ·rename_i sz' xs hl
    rw[hl];obtain⟨⟨h1,h2,h3,h4,h5⟩,rfl⟩:=bS he
    exact⟨_,rfl,⟨h1,h2,h3,h4,by rw[h1];exact h.rows hl,h5⟩,⟨rfl,rfl,rfl,rfl,rfl⟩,
     ⟨fun ob' e=>(by cases e),.inr ⟨_,_,rfl,by rw[hl];rfl,iZ.2 (by subst h1;exact DN (h.rows hl) h2 h3 (by simpa using h4))⟩⟩⟩
   ·rename_i l hl
    rw[hl];simp only at he ⊢;split at he<;>try (cases he;done)
    rename_i b hv;rw[hv];obtain⟨h1,rfl⟩:=bS he;exact⟨_,rfl,h1,⟨rfl,rfl,rfl,rfl,rfl⟩,⟨fun ob' e=>(by cases e),.inr ⟨_,_,rfl,by rw[hl];rfl,rfl⟩⟩⟩
  ·cases he
 |app z bytes q y=>
  simp only[dT]at he;simp only[eff,h.ev];split at he<;>try (cases he;done)
  split at he<;>try (cases he;done)
  ·rename_i l t hq
   rw[hq];obtain⟨l',h1,h2⟩:=Option.bind_eq_some_iff.1 he;obtain⟨p,h3,h4⟩:=nh h h1;obtain⟨⟨g1,g2,g3,g4⟩,rfl⟩:=bS h2;simp only[h3];exact⟨_,rfl,⟨h4,g1,g2,rF h g3,g4⟩,⟨rfl,rfl,rfl,rfl,rfl⟩,⟨fun ob' e=>(by cases e),.inl rfl⟩⟩
  ·rename_i sz' l t hq
   rw[hq];obtain⟨l',h1,h2⟩:=Option.bind_eq_some_iff.1 he;obtain⟨p,h3,h4⟩:=ko h h1;obtain⟨⟨g1,g3,g4⟩,rfl⟩:=bS h2;simp only[h3];exact⟨_,rfl,⟨h4,g1,rF h g3,g4⟩,⟨rfl,rfl,rfl,rfl,rfl⟩,⟨fun ob' e=>(by cases e),.inl rfl⟩⟩
 |cpy sz q y=>exact absurd rfl (hcp sz q y)
 |appO z bytes q y=>cases he
 |clr z q=>
  simp only[dT]at he;simp only[eff,h.ev];split at he<;>try (cases he;done)
  rename_i o' sz' off n cap hq;rw[hq];simp only[h.look];split at he<;>try (cases he;done)
  rename_i sz'' xs hl;rw[hl];obtain⟨⟨g0,g1,g2,g3⟩,rfl⟩:=bS he;have hrows:=h.rows hl;refine⟨_,rfl,⟨g0,g1,g2,g3,by rw[g2];exact hrows⟩,⟨rfl,rfl,rfl,rfl,rfl⟩,⟨fun ob' e=>(by cases e),.inr ⟨_,_,rfl,by rw[hl];rfl,iZ.2 ?_⟩⟩⟩;intro r hr;rcases al.1 hr with hr|hr
  ·rcases al.1 hr with hr|hr
   ·rw[g2];exact hrows r (bM hr)
   ·rw[(List.mem_replicate.1 hr).2]
  ·rw[g2];exact hrows r (ED hr)
 |appM z bytes q y=>cases he
 |ovl q y=>cases he
 |_=>exact plain (sh rfl) rfl he
theorem Tp(P:Program)(h:Sim N c s)(hM:aP C x s a w){e:ov}(he:dT c d so=some e)(hp:∀q y z,so≠ .pick q y z)(hn:∀ne q,so≠ .isnil ne q):∃f,eff s d so=some f/\f.pre/\Fo e f/\Fu c e:=by
 by_cases hcp:∃sz q y,so= .cpy sz q y
 ·obtain⟨sz,q,y,rfl⟩:=hcp
  simp only[dT]at he;simp only[eff,h.ev];split at he<;>try (cases he;done)
  rename_i o' sz' off n cap hq;rw[hq];simp only[h.look];split at he<;>try (cases he;done)
  ·rename_i l hl
   rw[hl];obtain⟨l',h1,h2⟩:=Option.bind_eq_some_iff.1 he;obtain⟨p,h3,h4⟩:=nh h h1;obtain⟨⟨g1,g2,g3⟩,rfl⟩:=bS h2;simp only[h3];exact⟨_,rfl,⟨h4,g1,g2,g3⟩,⟨rfl,rfl,rfl,rfl,rfl⟩,⟨fun ob' e=>(by cases e),.inr ⟨_,_,rfl,by rw[hl];rfl,rfl⟩⟩⟩
  ·rename_i sz'' xs hl
   rw[hl];obtain⟨l',h1,h2⟩:=Option.bind_eq_some_iff.1 he;obtain⟨p,h3,h4⟩:=ko h h1;obtain⟨⟨g0,g1,g2,g3⟩,rfl⟩:=bS h2;simp only[h3];have hrows:=h.rows hl;obtain⟨_,hl',_⟩:=pN (P:=P) hM (RA hM g0) (by rw[h.ev];exact h3) h4;refine⟨_,rfl,⟨h4,g1,g2,g3,by rw[g2];exact hrows⟩,⟨rfl,rfl,rfl,rfl,rfl⟩,⟨fun ob' e=>(by cases e),.inr ⟨_,_,rfl,by rw[hl];rfl,iZ.2 ?_⟩⟩⟩;intro r hr;rcases al.1 hr with hr|hr
   ·rcases al.1 hr with hr|hr
    ·rw[g2];exact hrows r (bM hr)
    ·exact hl' r (bM hr)
   ·rw[g2];exact hrows r (ED hr)
 ·exact G2 h he hp hn (fun sz q y e=>hcp ⟨sz,q,y,e⟩)
theorem xgy(h:M C N c a w)(hr:bA P o=some so)(hd:∀k,o.dst=some k->k<N)(hc:nz c o.dst (dT c o.dst so)=some c'){K:Act->World->Prop}{Q:Exit->Act->World->Prop}(hK:∀a w,M C N c' a w->K a w):o.wp P a w K Q:=by
 obtain⟨x,s,hM,hS⟩:=h;cases he:dT c o.dst so with
 |none=>rw[he]at hc;cases hc
 |some e=>
  rw[he]at hc;simp only[nz,aw.injEq]at hc;subst hc
  by_cases hp:∃q y z,so= .pick q y z
  ·obtain⟨q,y,z,rfl⟩:=hp
   simp only[dT]at he;split at he<;>cases he;rename_i t ht;have hd':=Et hM hr (t:=t) (by rw[hS.ev];exact ht);refine dk hd' (k:=Sim N (c.app o.dst {val:=ir t (c.ev y) (c.ev z)})) ?_ hK;have:(if t=true then s.ev y else s.ev z)=ir t (c.ev y) (c.ev z):=by rw[hS.ev,hS.ev];rfl
   rw[this];exact hS.put hd _
  ·by_cases hn:∃ne q,so= .isnil ne q
   ·obtain⟨ne,q,rfl⟩:=hn
    have key:∃b,b=ne/\cx P C o a w (s.put o.dst (.bool b)):=by
     refine xK hM hr (K:=fun b=>b=ne) ?_;rw[hS.ev];simp only[dT]at he;split at he<;>try (cases he;done)
     ·rename_i l t hl
      obtain⟨h1,_⟩:=bS he
      try rw[hl]
      intro b hb;cases b
      ·cases ne<;>rfl
      ·exact absurd (hb rfl) h1
     ·rename_i sz l t hl
      obtain⟨h1,_⟩:=bS he
      try rw[hl]
      intro b hb;cases b
      ·cases ne<;>rfl
      ·exact absurd (hb rfl) h1
     ·rename_i hl
      first
       |rw[hl]
       |rfl
    obtain⟨b,rfl,hd'⟩:=key;refine dk hd' (k:=Sim N (c.app o.dst e)) ?_ hK
    have:e= {val:= .bool b}:=by
     simp only[dT]at he;split at he
     ·obtain⟨_,h2⟩:=bS he;exact h2.symm
     ·obtain⟨_,h2⟩:=bS he;exact h2.symm
     ·exact(aw.inj he).symm
     ·cases he
    rw[this];exact hS.put hd _
   ·obtain⟨f,h1,h2,h3,h4⟩:=Tp P hS hM he (fun q y z e=>hp ⟨q,y,z,e⟩) (fun ne q e=>hn ⟨ne,q,e⟩)
    exact dk (Tn hM hr h1 h2) (k:=Sim N (c.app o.dst e)) (hS.app hd h3 h4) hK
end Go.Sy
namespace Go.Sy
variable [bg]
variable {P : Program} {C : Ctx} {x : Sit} {a : Act} {w : World} {N : Nat} {c c' : CSt} {s : St}
theorem Sim.exact(h:Sim N c s)(hM:aP C x s a w):aP C x (c.st N) a w:=
 ⟨by show cH x ((cj N).map c.get) _;rw[<-h.tm];exact hM.tm,hM.defers,hM.heap.only (fun p hp=>by have h1:=i5 (i0 h.inv.so) hp;have h2:s.look p.1=some p.2:=(h.look p.1).trans h1;exact db h2) (i0 h.inv.so) (fun t ht=>(h.tk t).2 ht)⟩
theorem M.slots(h:M C N c a w)(hi:Inv N c')(ho:c'.ob=c.ob)(ht:c'.tk=c.tk)(hg:∀i,c'.get i=c.get i\/c'.get i= .undef):M C N c' a w:=by
 obtain⟨x,s,hM,hS⟩:=h;have hE:=hS.exact hM;refine⟨x,c'.st N,⟨⟨?_,fun i hi'=> ?_⟩,hM.defers, ?_⟩,Sim.of hi⟩
 ·have:=hE.tm.1;simpa[CSt.st]using this
 ·have h1:=hE.tm.2 i (by simpa[CSt.st]using hi')
  have hiN:i<N:=by simpa[CSt.st]using hi'
  simp only[CSt.st,aa,aT,cI hiN,bx,bB]at h1 ⊢;rcases hg i with e|e
  ·rw[e];exact h1
  ·rw[e];exact .undef _
 ·show da C x c'.ob c'.tk w
  rw[ho,ht];exact hE.heap
theorem Inv.kill(h:Inv N c)(l:List Nat):Inv N (c.kill l):=by
 cases l with
 |nil=>exact h
 |cons n r=>exact⟨fun p hp=>h.dom p (pS hp),h.so,h.wf⟩
theorem M.kill(h:M C N c a w)(l:List Nat):M C N (c.kill l) a w:=by
 have hi:Inv N c:=by obtain⟨x,s,_,hS⟩:=h;exact hS.inv
 cases l with
 |nil=>exact h
 |cons n r=>
  refine h.slots (hi.kill _) rfl rfl fun i=> ?_
  have e:=pZ (n::r) i c.tm
  by_cases hc:(n::r).contains i=true
  ·exact .inr (e.trans (if_pos hc))
  ·exact .inl (e.trans (if_neg hc))
theorem M.purge(h:M C N c a w)(lo hi:Nat):M C N (c.purge lo hi) a w:=by obtain⟨x,s,hM,hS⟩:=h;exact⟨x,_,hM.purge lo hi,hS.purge lo hi⟩
theorem M.gc:∀{l:List Nat}{c:CSt},M C N c a w->M C N (gcC c l) a w
 |[],_,h=>h
 |o::r,c,h=>by show M C N (gcC (c.purge o (o+1)) r) a w;exact M.gc (h.purge o (o+1))
theorem lY{o:Nat}{obj:aG}(cs:List SV):SV.pubL o obj cs=cs.map (SV.pub o obj):=by
 induction cs with
 |nil=>rfl
 |cons c r ih=>simp only[SV.pubL,aI,ih]
theorem Rep.pub{x x':Sit}{o:Nat}{obj:aG}(hβ:x'.bk=x.bk)(hτ:x'.τ=x.τ)(hG:∀b i u,x.G b i=some u->x'.G b i=some u)
 (hcell:∀k,k<obj.size->∃u,x'.G ((x.bk o).1) k=some u/\cS x'.G (obj.cell k) u) (hwf:obj.wf=true) {sv:SV} {v:Value} (h:Rep x sv v):Rep x' (sv.pub o obj) v:=by
 induction h with
 |undef v=>exact .undef v
 |dat s v h ht=>
  have:s.pub o obj=s:=by cases h<;>rfl
  rw[this];exact(Rep.dat s v h ht).grow hG hβ hτ
 |ptr o' off=>
  simp only[SV.pub];split
  ·exact .undef _
  ·rw[<-hβ];exact .ptr o' off
 |ap o' sz i j=>
  simp only[SV.pub];split
  ·exact .undef _
  ·rw[<-hβ];exact .ap o' sz i j
 |psl o' sz off n cap off' cap' hoff hn hcp hkp=>
  simp only[SV.pub];split
  ·rename_i ho
   subst ho;cases obj with
   |rc cs=>exact .undef _
   |arr sz' xs=>
    simp only[xe];split
    ·rename_i hc
     obtain⟨rfl,hb⟩:=hc;have hrows:=iZ.1 hwf;have h1:=leP.psl (o:=o') (cap:=cap) hb hrows x x' _ hβ hτ hG (fun k hk=>hcell k hk) (.psl o' sz' off n cap off' cap' hoff hn hcp hkp);split
     ·rename_i hcap
      have hcn:=hcp _ hcap;obtain⟨b,cq,he,_,hD,_⟩:=h1.lst_inv;exact .dat _ _ (hD.tok (.lst sz' ((xs.drop off).take n) .clip) (.inr ⟨sz',_,_,_,rfl,rfl⟩)) ⟨_,n,by rw[<-hcn]⟩
     ·exact h1
    ·exact .undef _
   |bar l=>
    simp only[xe];split
    ·rename_i hc
     obtain⟨rfl,hb⟩:=hc;have hlen:((l.drop off).take n).length=n:=by simp;omega
     have hD:∀t,cS x'.G (.byt ((l.drop off).take n) t) (.slice (some ⟨(x.bk o').1,off',none⟩) n cap'):=by
      intro t;refine .byt _ t _ _ _ _ hlen.symm hn fun i hi=> ?_
      have hoff':off'=off:=by omega
      obtain⟨u,hu,hr⟩:=hcell (off+i) (by simp only[aG.size];omega);rw[hoff',hu];simp only[aG.cell]at hr
      have e:((l.drop off).take n).getD i 0=l.getD (off+i) 0:=by simp only[aa,bV,if_pos hi,bE]
      rw[e];cases hr with
      |u8 b=>rfl
     split
     ·rename_i hcap
      have hcn:=hcp _ hcap;exact .dat _ _ (hD .clip) ⟨_,n,by rw[<-hcn]⟩
     ·exact .dat _ _ (hD .no) trivial
    ·exact .undef _
  ·rw[<-hβ]at hkp ⊢;exact .psl o' sz off n cap off' cap' hoff hn hcp hkp
 |agg cs vs hl _ ih=>simp only[SV.pub,lY];exact .agg _ _ (by simpa using hl) fun i hi=>by rw[aW _ (by rfl)];exact ih i (by simpa using hi)
 |tup cs vs hl _ ih=>simp only[SV.pub,lY];exact .tup _ _ (by simpa using hl) fun i hi=>by rw[aW _ (by rfl)];exact ih i (by simpa using hi)
 |fn f c1 c2 v1 v2 hl1 _ hl2 _ ih1 ih2=>simp only[SV.pub,lY];exact .fn _ _ _ _ _ (by simpa using hl1) (fun i hi=>by rw[aW _ (by rfl)];exact ih1 i (by simpa using hi)) (by simpa using hl2) (fun i hi=>by rw[aW _ (by rfl)];exact ih2 i (by simpa using hi))
theorem kv{o:Nat}{obj:aG}{p:Nat×aG}:∀{l:List (Nat×aG)},p∈lj o obj l->p.1≠o/\∃q,(p.1,q)∈l/\p.2=nR o obj q
 |q::r,h=>by
  simp only[lj]at h;split at h
  ·obtain⟨h1,u,h2,h3⟩:=kv h
   exact⟨h1,u,aq _ h2,h3⟩
  ·rename_i hq
   rcases an.1 h with e|e
   ·rw[e];exact⟨hq,q.2,aD ..,rfl⟩
   ·obtain⟨h1,u,h2,h3⟩:=kv e
    exact⟨h1,u,aq _ h2,h3⟩
theorem qa{o:Nat}{obj:aG}:∀l:List (Nat×aG),(lj o obj l).map cQ=(l.map cQ).filter fun k=>decide (k≠o)
 |[]=>rfl
 |p::r=>by
  simp only[lj,aI,kX]
  by_cases h:p.1=o
  ·rw[if_pos h,qa r];simp[h]
  ·rw[if_neg h,aI,qa r];simp[h]
theorem pR{o:Nat}{obj:aG}{p:Nat×SV}:∀{l:List (Nat×SV)},p∈lK o obj l->∃q∈l,p.1=q.1
 |q::r,h=>by
  simp only[lK]at h;rcases an.1 h with e|e
  ·exact⟨q,aD ..,by rw[e]⟩
  ·obtain⟨u,h1,h2⟩:=pR e
   exact⟨u,aq _ h1,h2⟩
theorem kz{o:Nat}{obj:aG}(n:Nat):∀l:List (Nat×SV),eE (lK o obj l) n=(eE l n).pub o obj
 |[]=>rfl
 |p::r=>by
  simp only[lK,eE];split
  ·rfl
  ·exact kz n r
theorem xbJ{o:Nat}{obj q:aG}(h:q.wf=true):(nR o obj q).wf=true:=by cases q<;>simpa[nR,aG.wf]using h
theorem oT{o:Nat}{obj0 obj:aG}(hl:c.look o=some obj0)(hnr:∀cs,obj≠ .rc cs)(hnr0:∀cs,obj0≠ .rc cs)(hle:obj.size<=obj0.size)(hcl:∀k,k<obj.size->obj.cell k=obj0.cell k)(hwf:obj.wf=true)(hM:aP C x s a w)(hS:Sim N c s):
 ∃x',(x'.bk=x.bk/\x'.τ=x.τ/\(∀b i u,x.G b i=some u->x'.G b i=some u)/\(∀i,obj.size<=i->x'.G ((x.bk o).1) i=none)/\(∀k,k<obj.size->∃u,x'.G ((x.bk o).1) k=some u/\cS x'.G (obj.cell k) u))/\(∀sv v,Rep x sv v->Rep x' (sv.pub o obj) v)/\∃s',aP C x' s' a w/\Sim N ⟨lK o obj c.tm,lj o obj c.ob,c.tk⟩ s'/\(∀p∈s'.ob,(x.bk o).1≠(x'.bk p.1).1):=by
 have hls:s.look o=some obj0:=(hS.look o).trans hl;obtain⟨cc,e,fl,fh,hO,hsz,hr⟩:=eU hM hls;have hob:=hM.heap.obs _ (db hls)
 let x':Sit:= {x with G:=fun b i=>if b=(x.bk o).1/\i<obj.size then some (cc.getD i Go.undef)else x.G b i}
 have hG:∀b i u,x.G b i=some u->x'.G b i=some u:=by intro b i u hu;show(if _ then _ else _)=_;rw[if_neg];exact hu;rintro⟨rfl,_⟩;have h0:=hob.2.2 i;simp only at h0;rw[h0]at hu;cases hu
 have hcell:∀k,k<obj.size->∃u,x'.G ((x.bk o).1) k=some u/\cS x'.G (obj.cell k) u:=by
  intro k hk;refine⟨cc.getD k Go.undef,if_pos ⟨rfl,hk⟩,cS.mono hG ?_⟩;have:=hr k (by omega);rw[hcl k hk];cases obj0 with
  |rc cs=>exact absurd rfl (hnr0 cs)
  |arr sz xs=>exact this
  |bar l=>exact this
 have hpub:∀sv v,Rep x sv v->Rep x' (sv.pub o obj) v:=fun sv v h=>Rep.pub (x:=x) (x':=x') rfl rfl hG hcell hwf h
 have hH:=hM.heap
 have hinv:Inv N ⟨lK o obj c.tm,lj o obj c.ob,c.tk⟩:=by
  refine⟨fun p hp=> ?_, ?_,fun p hp=> ?_⟩
  ·obtain⟨q,hq,e⟩:=pR hp;rw[e];exact hS.inv.dom q hq
  ·show((lj o obj c.ob).map cQ).Pairwise _
   rw[qa];exact hS.inv.so.filter _
  ·obtain⟨_,q,h2,h3⟩:=kv hp;rw[h3];exact xbJ (hS.inv.wf _ h2)
 have hmem:∀p∈lj o obj c.ob,p.1≠o/\∃q,(p.1,q)∈s.ob/\p.2=nR o obj q:=by intro p hp;obtain⟨h1,q,h2,h3⟩:=kv hp;have h4:=i5 (i0 hS.inv.so) h2;exact⟨h1,q,db ((hS.look p.1).trans h4),h3⟩
 have hne:∀p∈lj o obj c.ob,(x.bk p.1).1≠(x.bk o).1:=fun p hp e=>by obtain⟨h1,q,h2,_⟩:=hmem p hp;exact h1 (hH.inj (p.1,q) h2 _ (db hls) e)
 refine⟨x',⟨rfl,rfl,hG,fun i hi=> ?_,hcell⟩,hpub,_,⟨⟨?_,fun i hi=> ?_⟩,hM.defers, ?_⟩,Sim.of hinv,fun p hp=>(hne p hp).symm⟩
 ·show(if _ then _ else _)=_
  rw[if_neg (by rintro⟨_,h⟩;omega)];exact hob.2.2 i
 ·have:=hM.tm.1;rw[hS.tm]at this;simpa[CSt.st]using this
 ·have hiN:i<N:=by simpa[CSt.st]using hi
  have h1:=hM.tm.2 i (by rw[hS.tm];simpa using hiN);rw[hS.tm]at h1;simp only[CSt.st,aa,aT,cI hiN,bx,bB]at h1 ⊢;have:(CSt.mk (lK o obj c.tm) (lj o obj c.ob) c.tk).get i=(c.get i).pub o obj:=kz i c.tm;rw[this];exact hpub _ _ h1
 ·refine⟨
   ?_,fun b i v hv=>hG _ _ _ (hH.g0 b i v hv), ?_,hH.new, ?_,i0 hinv.so, ?_, ?_,fun n hn p hp=> ?_,fun n hn m hm=>hH.tkd n ((hS.tk n).2 hn) m ((hS.tk m).2 hm),hH.os,hH.tape,hH.output,hH.size,hH.ext,hH.pin,hH.lay⟩
  ·intro b i v hv
   replace hv:(if b=(x.bk o).1/\i<obj.size then some (cc.getD i Go.undef)else x.G b i)=some v:=hv;split at hv
   ·rename_i hbi
    obtain⟨rfl,hi⟩:=hbi;cases hv;rw[hO.cell,bt,gR (by omega)];rfl
   ·exact hH.per b i v hv
  ·intro b i v hv
   replace hv:(if b=(x.bk o).1/\i<obj.size then some (cc.getD i Go.undef)else x.G b i)=some v:=hv;split at hv
   ·rename_i hbi
    exact .inr (hbi.1 ▸ hob.2.1)
   ·exact hH.gm b i v hv
  ·intro p hp
   obtain⟨h1,q,h2,h3⟩:=hmem p hp;obtain⟨g1,g2,g3⟩:=hH.obs _ h2;refine⟨?_,g2,fun off=> ?_⟩
   ·obtain⟨c',e',fl',fh',hO',hs',hr'⟩:=g1
    rw[h3];refine⟨c',e',fl',fh',hO', ?_,fun k hk=> ?_⟩
    ·cases q<;>first|exact hs'|exact⟨by simpa[nR,aG.size,lY]using hs'.1,hs'.2.1,fun h=>by cases h⟩
    ·cases q with
     |rc cs=>
      have hk':k<cs.length:=by simpa[nR,aG.size,lY]using hk
      have:=hr' k hk';simp only[nR,cA,lY]at this ⊢;rw[aW _ (by rfl)];exact hpub _ _ this
     |arr sz xs=>exact cS.mono hG (hr' k hk)
     |bar l=>exact cS.mono hG (hr' k hk)
   ·show(if _ then _ else _)=_
    rw[if_neg (fun h=>hne p hp h.1)];exact g3 off
  ·intro p hp q hq hpq
   obtain⟨_,p',hp',_⟩:=hmem p hp;obtain⟨_,q',hq',_⟩:=hmem q hq;exact hH.inj (p.1,p') hp' (q.1,q') hq' hpq
  ·intro n hn'
   have hn:=(hS.tk n).2 hn';rcases hH.tks n hn with h|⟨h1,h2,h3⟩
   ·exact .inl h
   ·by_cases hlh:(x.τ n).2.1=(x.τ n).2.2
    ·exact .inl hlh
    ·refine .inr ⟨h1,h2,fun off h4 h5=> ?_⟩
     show(if _ then _ else _)=_;rw[if_neg (fun h=>(hH.tko n hn _ (db hls)).elim (fun hb=>hb h.1) hlh)];exact h3 off h4 h5
  ·obtain⟨_,q,h2,_⟩:=hmem p hp
   exact hH.tko n ((hS.tk n).2 hn) (p.1,q) h2
theorem oU{o:Nat}{obj:aG}(hl:c.look o=some obj)(hnr:∀cs,obj≠ .rc cs)(hM:aP C x s a w)(hS:Sim N c s):
 ∃x',(x'.bk=x.bk/\x'.τ=x.τ)/\(∀sv v,Rep x sv v->Rep x' (sv.pub o obj) v)/\∃s',aP C x' s' a w/\Sim N ⟨lK o obj c.tm,lj o obj c.ob,c.tk⟩ s':=by
 obtain⟨x',h1,h2,s',h3,h4,_⟩:=oT hl hnr hnr (aQ _) (fun _ _=>rfl) (hS.lookmem hl) hM hS;exact⟨x',⟨h1.1,h1.2.1⟩,h2,s',h3,h4⟩
theorem DW{o:Nat}{obj:aG}(hl:c.look o=some obj)(hnr:∀cs,obj≠ .rc cs)(hM:aP C x s a w)(hS:Sim N c s):
 ∃x',(∀sv v,Rep x sv v->Rep x' (sv.pub o obj) v)/\∃s',aP C x' s' a w/\Sim N ⟨lK o obj c.tm,lj o obj c.ob,c.tk⟩ s':=by
 obtain⟨x',_,h⟩:=oU hl hnr hM hS;exact⟨x',h⟩
theorem li{vs:List SV}{us:List Value}{o:Nat}(hM:aP C x s a w)(hS:Sim N c s)(hv:cH x vs us):
 ∃x' s',aP C x' s' a w/\Sim N (c.publish o vs).1 s'/\cH x' (c.publish o vs).2 us:=by
 unfold CSt.publish
 have go:∀{obj:aG},c.look o=some obj->(∀cs,obj≠ .rc cs)->∃x' s',aP C x' s' a w/\Sim N ⟨lK o obj c.tm,lj o obj c.ob,c.tk⟩ s'/\cH x' (SV.pubL o obj vs) us:=by intro obj hl hnr;obtain⟨x',hp,s',h1,h2⟩:=DW hl hnr hM hS;refine⟨x',s',h1,h2, ?_⟩;rw[lY];refine⟨by simpa using hv.1,fun i hi=> ?_⟩;rw[aW _ (by rfl)];exact hp _ _ (hv.2 i (by simpa using hi))
 split
 ·rename_i sz xs hl;exact go hl (fun cs e=>by cases e)
 ·rename_i l hl;exact go hl (fun cs e=>by cases e)
 ·exact⟨x,s,hM,hS,hv⟩
theorem jc{us:List Value}:∀{l:List Nat}{c:CSt}{s:St}{x:Sit}{vs:List SV},aP C x s a w->Sim N c s->cH x vs us->
 ∃x' s',aP C x' s' a w/\Sim N (eP c vs l).1 s'/\cH x' (eP c vs l).2 us
 |[],_,_,_,_,hM,hS,hv=>⟨_,_,hM,hS,hv⟩
 |o::r,c,s,x,vs,hM,hS,hv=>by obtain⟨x1,s1,h1,h2,h3⟩:=li (o:=o) hM hS hv;simp only[eP];exact jc h1 h2 h3
theorem M.pub(h:M C N c a w)(o:Nat):M C N (c.publish o []).1 a w:=by obtain⟨x,s,hM,hS⟩:=h;obtain⟨x',s',h1,h2,_⟩:=li (o:=o) (vs:=[]) (us:=[]) hM hS ⟨rfl,fun i hi=>by simp at hi⟩;exact⟨x',s',h1,h2⟩
theorem Rh(hM:aP C x s a w)(hS:Sim N c s)(id b lo hi:Nat)(hv:lo=hi\/((∃c e fl fh,fj w b c e fl fh/\hi<=c.size)/\C.mine b/\∀o,lo<=o->o<hi->x.G b o=none))
 (hob:∀p∈s.ob,b≠(x.bk p.1).1) (htk:∀u∈s.tk,lx (b,lo,hi) (x.τ u)\/(x.τ u).2.1=(x.τ u).2.2) {n:Nat} (hn:n<N) {v:SV}
 (hval:Rep (x.newT id b lo hi) v (a.tmps.toList.getD n Go.undef)):
 M C N ⟨ji (dl id (id+1) c.tm) n v,bH id (id+1) c.ob,mB (cE id (id+1) c.tk) id⟩ a w:=by
 have hadd:da C (x.newT id b lo hi) (bH id (id+1) s.ob) (id::cE id (id+1) s.tk) w:=
  hM.heap.addT id b lo hi hv (.inr fun p hp _=>hob p hp) (.inr fun u hu _=>htk u hu)
 have hM1:aP C (x.newT id b lo hi) ⟨SV.purgeL id (id+1) s.tm,bH id (id+1) s.ob,id::cE id (id+1) s.tk⟩ a w:=
  ⟨cH.mono (x:=x) (x':=x.newT id b lo hi) (lo:=id) (hi:=id+1) (fun _ _ _ h=>h) (fun _ _=>rfl) (Sit.newT_ne x id _ _ _) hM.tm,hM.defers,hadd⟩
 have hS1:Sim N ⟨dl id (id+1) c.tm,bH id (id+1) c.ob,mB (cE id (id+1) c.tk) id⟩ ⟨SV.purgeL id (id+1) s.tm,bH id (id+1) s.ob,id::cE id (id+1) s.tk⟩:=
  (hS.purge id (id+1)).tks (fun u=>by rw[ku,an,bK,bK,hS.tk])
 refine⟨x.newT id b lo hi,_, ?_,hS1.put (d:=some n) (fun k e=>by cases e;exact hn) v⟩;refine⟨⟨?_,fun i hi=> ?_⟩,hM1.defers,hM1.heap⟩
 ·have:=hM1.tm.1;simpa[St.put]using this
 ·simp only[St.put,dr]at hi
  simp only[St.put,aa,gD]
  by_cases hni:n=i
  ·subst hni
   rw[if_pos rfl,if_pos hi];rw[<-aa];exact hval
  ·rw[if_neg hni]
   have:=hM1.tm.2 i hi;simp only[aa]at this;exact this
theorem wA(h:M C N c a w){n id o sz off k cp:Nat}(hg:c.get n= .psl o sz off k (some cp))(hc:Rj c n id o sz off k cp (c.look o)=some c')(hn:n<N):M C N c' a w:=by
 cases hl:c.look o with
 |none=>rw[hl]at hc;cases hc;exact h
 |some obj0=>
  rw[hl]at hc
  have main:∀(obj:aG)(v:SV),(∀cs,obj≠ .rc cs)->(∀cs,obj0≠ .rc cs)->obj.size=(off+k)*sz->(off+cp)*sz<=obj0.size->k<=cp->(∀k,k<obj.size->obj.cell k=obj0.cell k)->obj.wf=true->
   (∀(x':Sit)(off':Nat),(cp=0\/off'=off*sz)->(∀k,k<obj.size->∃u,x'.G ((x'.bk o).1) k=some u/\cS x'.G (obj.cell k) u)->cS x'.G v (.slice (some ⟨(x'.bk o).1,off',none⟩) k cp))->
   (∀x v',PA x v v'=dq x sz (.id id) v')->
   M C N (ER c n id o obj v) a w:=by
   intro obj v hnr hnr0 hsz hle hk hcl hwf hD htok;obtain⟨x,s,hM,hS⟩:=h;have hle':obj.size<=obj0.size:=by rw[hsz];exact cM (bF _ (by omega)) hle
   obtain⟨x',⟨hβ,hτ,hG,hfree,hcell⟩,hpub,s',hM',hS',hne⟩:=oT hl hnr hnr0 hle' hcl hwf hM hS;have hls:s.look o=some obj0:=(hS.look o).trans hl;obtain⟨cc,e,fl,fh,hO,hosz,_⟩:=eU hM hls;have hob:=hM.heap.obs _ (db hls);have hslot:=hM.slot n;rw[hS.get,hg]at hslot;obtain⟨cp',hkc,hcc,off',he,hoff⟩:=hslot.psl_inv;obtain rfl:=hcc _ rfl
   have hval0:a.tmps.toList.getD n Go.undef= .slice (some ⟨(x.bk o).1,off',none⟩) k cp:=by rw[<-he];simp[bt,aa]
   refine Rh hM' hS' id ((x.bk o).1) ((off+k)*sz) ((off+cp)*sz) (.inr ⟨⟨cc,e,fl,fh,hO,by omega⟩,hob.2.1,fun i h1 h2=>hfree i (by omega)⟩) (fun p hp=>hne p hp) (fun u hu=> ?_) hn ?_
   ·have hu':=(hS'.tk u).1 hu
    have hu2:=(hS.tk u).2 hu';rw[hτ];exact(hM.heap.tko u hu2 _ (db hls)).imp (fun h e=>h e.symm) (fun h=>h)
   ·rw[hval0]
    have h1:=hD (x'.newT id ((x.bk o).1) ((off+k)*sz) ((off+cp)*sz)) off' hoff (by show ∀k,k<obj.size->∃u,x'.G ((x'.bk o).1) k=some u/\cS x'.G (obj.cell k) u;rw[hβ];exact hcell)
    have e1:(x'.newT id ((x.bk o).1) ((off+k)*sz) ((off+cp)*sz)).bk o=x.bk o:=by show x'.bk o=_;rw[hβ]
    rw[e1]at h1;refine .dat _ _ h1 ?_;rw[htok];refine⟨_,k,cp,rfl, ?_⟩
    by_cases hcz:cp=0
    ·exact .inl (by omega)
    ·refine .inr ⟨_,off',rfl, ?_⟩
     rw[Sit.newT_eq,hoff.resolve_left hcz,bI,bI]
  cases obj0 with
  |rc cs=>cases hc;exact h
  |bar l=>
   simp only[Rj]at hc;split at hc<;>cases hc
   ·rename_i hcond
    obtain⟨rfl,h2,h3⟩:=hcond;refine main (.bar (l.take (off+k))) (.byt ((l.drop off).take k) (.id id)) (fun cs e=>by cases e) (fun cs e=>by cases e) (by simp only[aG.size,aj];omega) (by simp only[aG.size];omega) h3 (fun i hi=> ?_) rfl (fun x' off' hoff hcell=> ?_) (fun _ _=>rfl)
    ·simp only[aG.size,aj]at hi
     simp only[aG.cell,aa,bV,if_pos (show i<off+k by omega)]
    ·have hlen:((l.drop off).take k).length=k:=by simp;omega
     refine .byt _ _ _ _ _ _ hlen.symm h3 fun i hi=> ?_
     have hoff':off'=off:=by omega
     obtain⟨u,hu,hr⟩:=hcell (off+i) (by simp only[aG.size,aj];omega);rw[hoff',hu];simp only[aG.cell]at hr
     have e1:((l.drop off).take k).getD i 0=(l.take (off+k)).getD (off+i) 0:=by simp only[aa,bV,if_pos hi,bE,if_pos (show off+i<off+k by omega)]
     rw[e1];cases hr with
     |u8 b=>rfl
   ·exact h
  |arr sz' xs=>
   simp only[Rj]at hc;split at hc<;>cases hc
   ·rename_i hcond
    obtain⟨rfl,h2,h3⟩:=hcond;have hwf0:∀y∈xs,y.length=sz':=by obtain⟨x,s,hM,hS⟩:=h;exact iZ.1 (hS.lookmem hl)
    have hwt:∀y∈xs.take (off+k),y.length=sz':=fun y hy=>hwf0 y (bM hy)
    have hrow:(xs.drop off).take k=(xs.take (off+k)).drop off:=by rw[List.drop_take,Nat.add_sub_cancel_left]
    refine main (.arr sz' (xs.take (off+k))) (.lst sz' ((xs.drop off).take k) (.id id)) (fun cs e=>by cases e) (fun cs e=>by cases e) (by simp only[aG.size,aj];congr 1;omega) (by simp only[aG.size];exact bF _ h2) h3 (fun i hi=> ?_) (iZ.2 hwt) (fun x' off' hoff hcell=> ?_) (fun _ _=>rfl)
    ·simp only[aG.size,aj]at hi
     simp only[aG.cell,aa,bV];have hd:i/sz'<off+k:=Nat.div_lt_of_lt_mul (by rw[cL];exact Nat.lt_of_lt_of_le hi (bF _ (Nat.min_le_left _ _)));rw[if_pos hd]
    ·have hlen:((xs.drop off).take k).length=k:=by simp;omega
     have hgr:∀i,i<k->((xs.drop off).take k).getD i []=(xs.take (off+k)).getD (off+i) []:=fun i hi=>by simp only[aa,bV,if_pos hi,bE,if_pos (show off+i<off+k by omega)]
     have hrl:∀i,i<k->((xs.drop off).take k).getD i []∈xs.take (off+k):=fun i hi=>by rw[hgr i hi,aa,ab (show off+i<(xs.take (off+k)).length by rw[aj];omega)];exact bp _
     have hcl:∀i j,i<k->j<sz'->∃u,x'.G ((x'.bk o).1) (off'+i*sz'+j)=some u/\cS x'.G ((((xs.drop off).take k).getD i []).getD j .undef) u:=by
      intro i j hi hj;have hoff':off'=off*sz':=hoff.resolve_left (by omega)
      have hlt:(off+i)*sz'+j<(off+k)*sz':=by have:=bF sz' (show off+i+1<=off+k by omega);rw[bI,Nat.one_mul]at this;omega
      obtain⟨u,hu,hr⟩:=hcell ((off+i)*sz'+j) (by simp only[aG.size,aj];rw[dS (by omega)];exact hlt);refine⟨u,by rw[hoff',<-bI];exact hu, ?_⟩;simp only[aG.cell]at hr;have e1:((off+i)*sz'+j)/sz'=off+i:=by rw[cL,Nat.mul_add_div (by omega),Nat.div_eq_of_lt hj,eK]
      have e2:((off+i)*sz'+j) % sz'=j:=by rw[cL,Nat.mul_add_mod,dV hj]
      rw[e1,e2]at hr;rw[hgr i hi];exact hr
     refine .lst _ _ _ _ _ _ _ (fun i j=>(x'.G ((x'.bk o).1) (off'+i*sz'+j)).getD Go.undef) hlen.symm h3 (fun i hi=>hwt _ (hrl i hi)) (fun i j hi hj=> ?_) (fun i j hi hj=> ?_)
     ·obtain⟨u,hu,_⟩:=hcl i j hi hj
      rw[hu];rfl
     ·obtain⟨u,hu,hr⟩:=hcl i j hi hj
      rw[hu];exact hr
   ·exact h
theorem kH(hM:aP C x s a w)(hS:Sim N c s)(id:Nat)(t:Option Nat)(ht:∀k,t=some k->k∈c.tk){n:Nat}(hn:n<N){v:SV}
 (hv:∀u,Rep x (c.get n) u->Rep (x.newT id ((t.elim (0,0,0) x.τ)).1 ((t.elim (0,0,0) x.τ)).2.1 ((t.elim (0,0,0) x.τ)).2.2) v u):
 M C N ⟨ji (dl id (id+1) c.tm) n v,bH id (id+1) c.ob,mB (cE id (id+1) (t.elim c.tk fun k=>cE k (k+1) c.tk)) id⟩ a w:=by
 generalize hT:t.elim (0,0,0) x.τ=T at hv;generalize hL:(t.elim c.tk fun k=>cE k (k+1) c.tk)=L;have hH:=hM.heap
 have hLs:∀u∈L,u∈s.tk/\∀k,t=some k->u≠k:=by
  intro u hu;rw[<-hL]at hu;cases t with
  |none=>exact⟨(hS.tk u).2 hu,fun k e=>by cases e⟩
  |some k=>obtain⟨h1,h2⟩:=bK.1 hu;exact⟨(hS.tk u).2 h1,fun k' e=>by cases e;omega⟩
 have hadd:da C (x.newT id T.1 T.2.1 T.2.2) (bH id (id+1) s.ob) (id::cE id (id+1) L) w:=by
  refine(hH.sub (tk':=L) (nJ.refl _) (fun u hu=>(hLs u hu).1)).addT id T.1 T.2.1 T.2.2 ?_ ?_ ?_
  ·cases t with
   |none=>subst hT;exact .inl rfl
   |some k=>have:=hH.tks k ((hS.tk k).2 (ht k rfl));unfold ia at this;subst hT;exact this
  ·cases t with
   |none=>subst hT;exact .inl rfl
   |some k=>
    by_cases hc:(x.τ k).2.1=(x.τ k).2.2
    ·subst hT;exact .inl hc
    ·subst hT
     exact .inr fun p hp _=>(hH.tko k ((hS.tk k).2 (ht k rfl)) p hp).resolve_right hc
  ·cases t with
   |none=>subst hT;exact .inl rfl
   |some k=>
    by_cases hc:(x.τ k).2.1=(x.τ k).2.2
    ·subst hT;exact .inl hc
    ·subst hT
     refine .inr fun u hu _=> ?_
     obtain⟨h1,h2⟩:=hLs u hu;rcases hH.tkd k ((hS.tk k).2 (ht k rfl)) u h1 (fun e=>h2 k rfl e.symm)with h|h|h
     ·exact .inl h
     ·exact absurd h hc
     ·exact .inr h
 have hM1:aP C (x.newT id T.1 T.2.1 T.2.2) ⟨SV.purgeL id (id+1) s.tm,bH id (id+1) s.ob,id::cE id (id+1) L⟩ a w:=
  ⟨cH.mono (x:=x) (x':=x.newT id T.1 T.2.1 T.2.2) (lo:=id) (hi:=id+1) (fun _ _ _ h=>h) (fun _ _=>rfl) (Sit.newT_ne x id _ _ _) hM.tm,hM.defers,hadd⟩
 have hS1:Sim N ⟨dl id (id+1) c.tm,bH id (id+1) c.ob,mB (cE id (id+1) L) id⟩ ⟨SV.purgeL id (id+1) s.tm,bH id (id+1) s.ob,id::cE id (id+1) L⟩:=
  (hS.purge id (id+1)).tks (fun u=>by rw[ku,an])
 refine⟨x.newT id T.1 T.2.1 T.2.2,_, ?_,hS1.put (d:=some n) (fun k e=>by cases e;exact hn) v⟩;have hlt:n<s.tm.length:=by rw[hS.tm];simpa using hn
 refine⟨⟨?_,fun i hi=> ?_⟩,hM1.defers,hM1.heap⟩
 ·have:=hM1.tm.1;simpa[St.put]using this
 ·simp only[St.put,dr]at hi
  simp only[St.put,aa,gD]
  by_cases hni:n=i
  ·subst hni
   rw[if_pos rfl,if_pos hi];refine hv _ ?_;have:=hM.tm.2 n hlt;have e:s.tm.getD n .undef=c.get n:=hS.get n;rw[e]at this;rw[<-aa];exact this
  ·rw[if_neg hni,<-aa,<-aa]
   exact hM1.tm.2 i hi
theorem wB(h:M C N c a w){n id:Nat}(hc:Rk c n id (c.get n)=some c'):M C N c' a w:=by
 have hnN:c.get n≠ .undef->n<N:=by
  obtain⟨x,s,hM,hS⟩:=h;intro hne;rcases bX n N with h1|h1
  ·exact h1
  ·exact absurd (hS.inv.get h1) hne
 cases hg:c.get n with
 |byt l t=>
  rw[hg]at hc;have hN:=hnN (by rw[hg];exact fun e=>by cases e);cases t with
  |no=>cases hc;exact h
  |clip=>
   cases hc;obtain⟨x,s,hM,hS⟩:=h;refine kH hM hS id none (fun k e=>by cases e) hN fun u hu=> ?_
   rw[hg]at hu;exact leT.byt id l x u hu
  |id t=>
   simp only[Rk]at hc;split at hc
   ·cases hc;exact h
   ·split at hc<;>cases hc
    rename_i h1 h2;obtain⟨x,s,hM,hS⟩:=h;refine kH hM hS id (some t) (fun k e=>by cases e;simpa using h2) hN fun u hu=> ?_
    rw[hg]at hu;obtain⟨b,cap,he,_,hD,hsp⟩:=hu.byt_inv;refine .dat _ _ (hD.tok (.byt l (.id id)) (.inl ⟨l,_,_,rfl,rfl⟩)) ?_;obtain⟨a',n',cap',he',hh⟩:=hsp;refine⟨a',n',cap',he',hh.imp (fun h=>h) ?_⟩;rintro⟨b,off,h3,h4⟩;exact⟨b,off,h3,by rw[Sit.newT_eq];exact h4⟩
 |lst sz xs t=>
  rw[hg]at hc;have hN:=hnN (by rw[hg];exact fun e=>by cases e);cases t with
  |no=>cases hc;exact h
  |clip=>
   cases hc;obtain⟨x,s,hM,hS⟩:=h;refine kH hM hS id none (fun k e=>by cases e) hN fun u hu=> ?_
   rw[hg]at hu;exact leT.lst id sz xs x u hu
  |id t=>
   simp only[Rk]at hc;split at hc
   ·cases hc;exact h
   ·split at hc<;>cases hc
    rename_i h1 h2;obtain⟨x,s,hM,hS⟩:=h;refine kH hM hS id (some t) (fun k e=>by cases e;simpa using h2) hN fun u hu=> ?_
    rw[hg]at hu;obtain⟨b,cap,he,_,hD,hsp⟩:=hu.lst_inv;refine .dat _ _ (hD.tok (.lst sz xs (.id id)) (.inr ⟨sz,xs,_,_,rfl,rfl⟩)) ?_;obtain⟨a',n',cap',he',hh⟩:=hsp;refine⟨a',n',cap',he',hh.imp (fun h=>h) ?_⟩;rintro⟨b,off,h3,h4⟩;exact⟨b,off,h3,by rw[Sit.newT_eq];exact h4⟩
 |psl o sz off k cp=>
  rw[hg]at hc;have hN:=hnN (by rw[hg];exact fun e=>by cases e);cases cp with
  |none=>cases hc;exact h
  |some cp=>exact wA h hg hc hN
 |_=>rw[hg]at hc;cases hc;exact h
theorem aP.retag(hM:aP C x s a w)(n:Nat){v:SV}(hval:Rep x v (a.tmps.toList.getD n Go.undef)):aP C x (s.put (some n) v) a w:=by
 refine⟨⟨?_,fun i hi=> ?_⟩,hM.defers,hM.heap⟩
 ·have:=hM.tm.1;simpa[St.put]using this
 ·simp only[St.put,dr]at hi
  simp only[St.put,aa,gD]
  by_cases hni:n=i
  ·subst hni
   rw[if_pos rfl,if_pos hi];rw[<-aa];exact hval
  ·rw[if_neg hni]
   have:=hM.tm.2 i hi;simp only[aa]at this;exact this
theorem da.move{ob:List (Nat×aG)}{tk:List Nat}(h:da C x ob tk w){o d:Nat}(hd100:100<=d){obj:aG}(ho:(o,obj)∈ob)(hnr:∀cs,obj≠ .rc cs):
 da C (x.newO d (x.bk o).1 (x.bk o).2) ((d,obj)::bH d (d+1) (bH o (o+1) ob)) (cE d (d+1) (cE o (o+1) tk)) w:=by
 have hβ:=Sit.newO_ne x d (x.bk o).1 (k:=(x.bk o).2);obtain⟨⟨c,e,fl,fh,hO,hs,hr⟩,hm,hg⟩:=h.obs _ ho;have hd2:(x.newO d (x.bk o).1 (x.bk o).2).bk d=x.bk o:=if_pos rfl
 have hob:∀p∈bH d (d+1) (bH o (o+1) ob),(x.newO d (x.bk o).1 (x.bk o).2).bk p.1=x.bk p.1/\∃q,(p.1,q)∈ob/\p.1≠o/\¬(d<=p.1/\p.1<d+1)/\p.2=(q.purge o (o+1)).purge d (d+1):=by intro p hp;obtain⟨h1,q,h2,h3⟩:=cC hp;obtain⟨h4,q',h5,h6⟩:=cC h2;simp only at h4 h5 h6;exact⟨hβ _ h1,q',h5,by omega,h1,by rw[h3,h6]⟩
 have htk:∀t∈cE d (d+1) (cE o (o+1) tk),t∈tk:=fun t ht=>(bK.1 (bK.1 ht).1).1
 refine⟨h.per,h.g0,h.gm,h.new, ?_, ?_, ?_,fun t ht=>h.tks t (htk t ht), ?_,fun t ht u hu=>h.tkd t (htk t ht) u (htk u hu),h.os,h.tape,h.output,h.size,h.ext,fun i hi=>by rw[hβ i (by omega)];exact h.pin i hi,h.lay⟩
 ·intro p hp
  rcases an.1 hp with rfl|hp
  ·refine⟨⟨c,e,fl,fh,by rw[hd2];exact hO,by rw[hd2];exact hs,fun k hk=> ?_⟩,by rw[hd2];exact hm,fun off=>by rw[hd2];exact hg off⟩
   have:=hr k hk;cases obj with
   |rc cs=>exact absurd rfl (hnr cs)
   |arr sz xs=>exact this
   |bar l=>exact this
  ·obtain⟨he,q,h1,h2,h3,h4⟩:=hob p hp
   obtain⟨h5,h6,h7⟩:=h.obs _ h1;refine⟨?_,by rw[he];exact h6,fun off=>by rw[he];exact h7 off⟩;have e1:=h5.of_heap (x':=x) (w':=w) (lo:=o) (hi:=o+1) rfl (fun _ _ _ h=>h) (fun _ _=>rfl) (fun _ _=>rfl) (by omega);have e2:=e1.of_heap (x':=x.newO d (x.bk o).1 (x.bk o).2) (w':=w) (lo:=d) (hi:=d+1) rfl (fun _ _ _ h=>h) hβ (fun _ _=>rfl) h3;rw[h4];exact e2
 ·rw[aI,ed,eN,eN]
  refine⟨fun hmem=> ?_,(h.nd.filter _).filter _⟩;have:=(List.mem_filter.1 hmem).2;simp at this
 ·intro p hp q hq hpq
  rcases an.1 hp with rfl|hp<;>rcases an.1 hq with rfl|hq
  ·rfl
  ·obtain⟨he,q',h1,h2,_⟩:=hob q hq
   rw[hd2,he]at hpq;exact absurd (h.inj (o,obj) ho (q.1,q') h1 hpq).symm h2
  ·obtain⟨he,q',h1,h2,_⟩:=hob p hp
   rw[hd2,he]at hpq;exact absurd (h.inj (p.1,q') h1 (o,obj) ho hpq) h2
  ·obtain⟨he,q1,h1,_⟩:=hob p hp
   obtain⟨he',q2,h2,_⟩:=hob q hq;rw[he,he']at hpq;exact h.inj (p.1,q1) h1 (q.1,q2) h2 hpq
 ·intro t ht p hp
  rcases an.1 hp with rfl|hp
  ·show(x.τ t).1≠((x.newO d (x.bk o).1 (x.bk o).2).bk d).1\/_
   rw[hd2];exact h.tko t (htk t ht) (o,obj) ho
  ·obtain⟨he,q,h1,_⟩:=hob p hp
   show(x.τ t).1≠((x.newO d (x.bk o).1 (x.bk o).2).bk p.1).1\/_;rw[he];exact h.tko t (htk t ht) (p.1,q) h1
theorem aP.move(hM:aP C x s a w){o d:Nat}(hd100:100<=d){obj:aG}(hl:s.look o=some obj)(hnr:∀cs,obj≠ .rc cs):
 aP C (x.newO d (x.bk o).1 (x.bk o).2) (((s.purge o (o+1)).purge d (d+1)).addO d obj) a w:=
 ⟨cH.mono (x:=x) (x':=x.newO d (x.bk o).1 (x.bk o).2) (lo:=d) (hi:=d+1) (fun _ _ _ h=>h) (Sit.newO_ne x d _) (fun _ _=>rfl) (hM.purge o (o+1)).tm,hM.defers,hM.heap.move hd100 (db hl) hnr⟩
theorem vC{n id o sz off k:Nat}{cap:Option Nat}{obj:aG}(hM:aP C x s a w)(hS:Sim N c s)(hn:n<N)(hid:100<=id)(hg:c.get n= .psl o sz off k cap)(hl:c.look o=some obj)(hnr:∀cs,obj≠ .rc cs):
 M C N (mvC c n id o sz off k cap obj) a w:=by
 have hM1:=hM.move hid (by rw[hS.look];exact hl) hnr;have hS1:=(((hS.purge o (o+1)).purge id (id+1)).addO id (hS.lookmem hl)).put (d:=some n) (fun k e=>by cases e;exact hn) (.psl id sz off k cap);refine⟨x.newO id (x.bk o).1 (x.bk o).2,_, ?_,hS1⟩
 have hv:Rep x (.psl o sz off k cap) (a.tmps.toList.getD n Go.undef):=by have:=hM.tm.2 n (by rw[hS.tm];simpa using hn);rw[show s.tm.getD n .undef=c.get n from hS.get n,hg]at this;exact this
 obtain⟨cap',h1,h2,off',he,h3,h4⟩:=hv.psl_invA;refine hM1.retag n ?_;rw[he];have hd2:(x.newO id (x.bk o).1 (x.bk o).2).bk id=x.bk o:=if_pos rfl;have:=Rep.psl (x:=x.newO id (x.bk o).1 (x.bk o).2) id sz off k cap off' cap' h3 h1 h2 (by rw[hd2];exact h4);rw[hd2]at this;exact this
theorem xl(h:M C N c a w){n id:Nat}(hid:100<=id)(hc:ZU c n id (c.get n)=some c'):M C N c' a w:=by
 obtain⟨x,s,hM,hS⟩:=h;cases hg:c.get n with
 |psl o sz off k cap=>
  rw[hg]at hc
  have hn:n<N:=by
   rcases bX n N with h|h
   ·exact h
   ·rw[hS.inv.get h]at hg;cases hg
  simp only[ZU]at hc;split at hc
  ·cases hc;exact⟨x,s,hM,hS⟩
  ·cases hl:c.look o with
   |none=>rw[hl]at hc;cases hc;exact⟨x,s,hM,hS⟩
   |some obj=>
    rw[hl]at hc;cases obj with
    |rc cs=>cases hc;exact⟨x,s,hM,hS⟩
    |arr sz' xs=>cases hc;exact vC hM hS hn hid hg hl (fun cs e=>by cases e)
    |bar l=>cases hc;exact vC hM hS hn hid hg hl (fun cs e=>by cases e)
 |_=>rw[hg]at hc;cases hc;exact⟨x,s,hM,hS⟩
theorem pt(h:M C N c a w){q:Dir}(hc:qQ c q=some c'):M C N c' a w:=by
 cases q with
 |kill l=>cases hc;exact h.kill l
 |gc l=>cases hc;exact h.gc
 |gcr lo hi=>cases hc;exact h.purge lo hi
 |pubo o=>cases hc;exact h.pub _
 |pub n=>
  simp only[qQ]at hc;split at hc<;>cases hc
  ·exact h.pub _
  ·exact h
 |tok n id=>
  simp only[qQ]at hc;split at hc
  ·cases hc
  ·exact wB h hc
 |obj n id=>
  simp only[qQ]at hc;split at hc
  ·cases hc
  ·exact xl h (by omega) hc
theorem ke:∀{l:List Dir}{c:CSt},M C N c a w->iA c l=some c'->M C N c' a w
 |[],_,h,hc=>by cases hc;exact h
 |q::r,c,h,hc=>by
  simp only[iA]at hc;split at hc
  ·rename_i c1 h1;exact ke (pt h h1) hc
  ·cases hc
end Go.Sy
namespace Go.Sy
variable [bg]
variable {P : Program} {C : Ctx} {x : Sit} {a : Act} {w : World} {N : Nat} {c c' : CSt} {s : St}
def my(P:Program)(f:Nat)(args:List SV)(os:List aG)(k:Nat)(R:eA->Prop):Prop:=
 eF P f=true/\∀(C:Ctx)(x:Sit)(w:World)(vs:List Value),C.w0=w->C.G0=x.G->
  (∀b,C.mine b->w.heap.size<=b\/(∃i,i<os.length/\(x.bk i).1=b)\/(∃t,50<=t/\t<50+k/\(x.τ t).2.1≠(x.τ t).2.2/\(x.τ t).1=b))->os.length<=40->
  (∀o∈os,o.wf=true)->da C x (idx os) (tks 50 k) w->cH x args vs->
  Calls P f ⟨vs⟩ w fun e w'=>∃v x' q,e= .returned v/\R q/\Rep x' q.r v/\da C x' q.os q.tk w'/\(∀p∈q.os,p.2.wf=true)/\∀i,i<os.length->x'.bk i=x.bk i
theorem kD(cs:List SV):SV.bareL cs=cs.map SV.bare:=by
 induction cs with
 |nil=>rfl
 |cons c r ih=>simp only[SV.bareL,aI,ih]
theorem Rep.bare{x x':Sit}(hG:x'.G=x.G)(hβ:x'.bk=x.bk){sv:SV}{v:Value}(h:Rep x sv v):Rep x' sv.bare v:=by
 induction h with
 |undef v=>exact .undef v
 |dat s v h ht=>
  have h':=h.toData;rw[<-hG]at h';cases s with
  |byt l t=>exact .dat _ _ h' trivial
  |lst sz xs t=>exact .dat _ _ h' trivial
  |undef=>exact .undef v
  |bool b=>exact .dat _ _ h' trivial
  |int k n=>exact .dat _ _ h' trivial
  |u8 b=>exact .dat _ _ h' trivial
  |str l=>exact .dat _ _ h' trivial
  |nilp=>exact .dat _ _ h' trivial
  |nili=>exact .dat _ _ h' trivial
  |pp cs=>exact .dat _ _ h' trivial
  |ptr o off=>cases h
  |ap o sz i j=>cases h
  |psl o sz off n cap=>cases h
  |agg cs=>cases h
  |tup cs=>cases h
  |fn f a b=>cases h
 |ptr o off=>simp only[SV.bare];rw[<-hβ];exact .ptr o off
 |ap o sz i j=>simp only[SV.bare];rw[<-hβ];exact .ap o sz i j
 |psl o sz off n cap off' cap' h hn hc hk=>simp only[SV.bare];rw[<-hβ]at hk ⊢;exact .psl o sz off n cap off' cap' h hn hc hk
 |agg cs vs hl _ ih=>simp only[SV.bare,kD];exact .agg _ _ (by simpa using hl) fun i hi=>by rw[aW _ (by rfl)];exact ih i (by simpa using hi)
 |tup cs vs hl _ ih=>simp only[SV.bare,kD];exact .tup _ _ (by simpa using hl) fun i hi=>by rw[aW _ (by rfl)];exact ih i (by simpa using hi)
 |fn f c1 c2 v1 v2 hl1 _ hl2 _ ih1 ih2=>simp only[SV.bare,kD];exact .fn _ _ _ _ _ (by simpa using hl1) (fun i hi=>by rw[aW _ (by rfl)];exact ih1 i (by simpa using hi)) (by simpa using hl2) (fun i hi=>by rw[aW _ (by rfl)];exact ih2 i (by simpa using hi))
def PB(x:Sit):Option Nat->Nat×Nat×Nat
 |none=>(0,0,0)
 |some t=>x.τ t
def ou(x x1:Sit)(j:Nat)(l:List (Option Nat)):Prop:=∀k,k<l.length->x1.τ (j+k)=PB x (l.getD k none)
theorem ou.left{x x1:Sit}{j:Nat}{l r:List (Option Nat)}(h:ou x x1 j (l++r)):ou x x1 j l:=fun k hk=>by have:=h k (by simp;omega);rwa[aa,bG hk,<-aa]at this
theorem ou.right{x x1:Sit}{j:Nat}{l r:List (Option Nat)}(h:ou x x1 j (l++r)):ou x x1 (j+l.length) r:=fun k hk=>by have:=h (l.length+k) (by simp;omega);rw[aa,bZ (by omega),<-aa]at this;rw[eL,this];congr 2;omega
theorem kN{t:Nat}:∀{l:List (Option Nat)},t∈cD l↔some t∈l
 |[]=>by simp[cD]
 |none::r=>by simp[cD,kN]
 |some u::r=>by simp[cD,kN]
theorem fF(l r:List (Option Nat)):cD (l++r)=cD l++cD r:=by
 induction l with
 |nil=>rfl
 |cons o l ih=>cases o<;>simp[cD,ih]
theorem D9{x x1:Sit}(hG:x1.G=x.G)(hβ:x1.bk=x.bk){v:SV}{u:Value}(h:Rep x v u):Rep x1 v.kclip u:=by
 have hb:=h.bare hG hβ;cases v with
 |lst sz xs t=>
  cases t with
  |no=>exact hb
  |id u=>exact hb
  |clip=>
   cases xs with
   |cons y r=>exact hb
   |nil=>obtain⟨b,cap,he,_,hD,hsp⟩:=h.lst_inv;obtain⟨a',n',he'⟩:=hsp;rw[<-hG]at hD;exact .dat _ _ (hD.tok (.lst _ [] .clip) (.inr ⟨_,[],_,_,rfl,rfl⟩)) ⟨a',n',he'⟩
 |byt l t=>
  cases t with
  |no=>exact hb
  |id u=>exact hb
  |clip=>
   cases l with
   |cons y r=>exact hb
   |nil=>obtain⟨b,cap,he,_,hD,hsp⟩:=h.byt_inv;obtain⟨a',n',he'⟩:=hsp;rw[<-hG]at hD;exact .dat _ _ (hD.tok (.byt [] .clip) (.inl ⟨[],_,_,rfl,rfl⟩)) ⟨a',n',he'⟩
 |_=>exact hb
theorem xy{x x1:Sit}(hG:x1.G=x.G)(hβ:x1.bk=x.bk){cs:List SV}{u:Value}(h:Rep x (.agg cs) u):Rep x1 (.agg (cs.map SV.kclip)) u:=by
 cases h with
 |dat _ _ h _=>cases h
 |agg _ vs hl h=>
  refine .agg _ vs (by rw[au];exact hl) fun i hi=> ?_
  rw[au]at hi;have h1:=D9 hG hβ (h i hi);rw[aa,ab hi,bB]at h1;rw[aa,aT,ab hi,bx,bB];exact h1
theorem km{x x1:Sit}(hG:x1.G=x.G)(hβ:x1.bk=x.bk){tk:List Nat}{j:Nat}{v:SV}{u:Value}(h:Rep x v u)(ht:ou x x1 j (jS tk j v).2):Rep x1 (jS tk j v).1 u:=by
 have hb:=h.bare hG hβ;cases v with
 |byt l t=>
  cases t with
  |no=>exact hb
  |clip=>have e:=ht 0 (by simp[jS]);obtain⟨b,cap,he,_,hD,hsp⟩:=h.byt_inv;obtain⟨a',n',he'⟩:=hsp;rw[<-hG]at hD;exact .dat _ _ (hD.tok (.byt l (.id j)) (.inl ⟨l,_,_,rfl,rfl⟩)) ⟨a',n',n',he',.inl rfl⟩
  |id t=>
   by_cases hc:tk.contains t=true
   ·have e:=ht 0 (by simp only[jS,hc,if_true,aC];omega)
    simp only[jS,hc,if_true]at e ⊢;obtain⟨b,cap,he,_,hD,hsp⟩:=h.byt_inv;obtain⟨a',n',cap',he',hh⟩:=hsp;rw[<-hG]at hD;refine .dat _ _ (hD.tok (.byt l (.id j)) (.inl ⟨l,_,_,rfl,rfl⟩)) ⟨a',n',cap',he',hh.imp id ?_⟩;rintro⟨b,off,h1,h2⟩;exact⟨b,off,h1,by rw[eK]at e;rw[e];exact h2⟩
   ·simp only[jS,hc,if_false];exact hb
 |lst sz xs t=>
  cases t with
  |no=>exact hb
  |clip=>obtain⟨b,cap,he,_,hD,hsp⟩:=h.lst_inv;obtain⟨a',n',he'⟩:=hsp;rw[<-hG]at hD;exact .dat _ _ (hD.tok (.lst sz xs (.id j)) (.inr ⟨sz,xs,_,_,rfl,rfl⟩)) ⟨a',n',n',he',.inl rfl⟩
  |id t=>
   by_cases hc:tk.contains t=true
   ·have e:=ht 0 (by simp only[jS,hc,if_true,aC];omega)
    simp only[jS,hc,if_true]at e ⊢;obtain⟨b,cap,he,_,hD,hsp⟩:=h.lst_inv;obtain⟨a',n',cap',he',hh⟩:=hsp;rw[<-hG]at hD;refine .dat _ _ (hD.tok (.lst sz xs (.id j)) (.inr ⟨sz,xs,_,_,rfl,rfl⟩)) ⟨a',n',cap',he',hh.imp id ?_⟩;rintro⟨b,off,h1,h2⟩;exact⟨b,off,h1,by rw[eK]at e;rw[e];exact h2⟩
   ·simp only[jS,hc,if_false];exact hb
 |agg cs=>exact xy hG hβ h
 |_=>exact hb
theorem oz{tk:List Nat}{j:Nat}{v:SV}:∀t∈cD (jS tk j v).2,t∈tk:=by
 intro t ht;cases v with
 |byt l q=>
  cases q with
  |id u=>
   by_cases hc:tk.contains u=true
   ·simp only[jS,hc,if_true,cD,ba]at ht;subst ht;simpa using hc
   ·simp only[jS,hc,if_false,cD]at ht;cases ht
  |_=>cases ht
 |lst sz xs q=>
  cases q with
  |id u=>
   by_cases hc:tk.contains u=true
   ·simp only[jS,hc,if_true,cD,ba]at ht;subst ht;simpa using hc
   ·simp only[jS,hc,if_false,cD]at ht;cases ht
  |_=>cases ht
 |_=>cases ht
theorem fx{x:Sit}{v:SV}{u:Value}{cs:List SV}{us:List Value}:cH x (v::cs) (u::us)↔Rep x v u/\cH x cs us:=by
 constructor
 ·intro h
  exact⟨h.2 0 (by simp),by simpa using h.1,fun i hi=>by simpa using h.2 (i+1) (by simpa using hi)⟩
 ·rintro⟨h1,h2⟩
  exact⟨by simp[h2.1],fun i hi=>by
   cases i with
   |zero=>exact h1
   |succ i=>simpa using h2.2 i (by simpa using hi)⟩
theorem FD{x x1:Sit}(hG:x1.G=x.G)(hβ:x1.bk=x.bk){tk:List Nat}{j:Nat}{v:SV}{u:Value}(h:Rep x v u)(ht:ou x x1 j (ry tk j v).2):Rep x1 (ry tk j v).1 u:=by
 cases v with
 |lst sz xs t=>
  cases t with
  |clip=>
   cases hx:xs.isEmpty with
   |true=>simp only[ry,tZ,hx,ua];obtain⟨b,cap,he,_,hD,hsp⟩:=h.lst_inv;rw[<-hG]at hD;exact .dat _ _ hD hsp
   |false=>simp only[ry,tZ,hx,ua]at ht ⊢;exact km (tk:=tk) hG hβ h ht
  |no=>exact km hG hβ h ht
  |id t=>exact km hG hβ h ht
 |_=>exact km hG hβ h ht
theorem Ri{tk:List Nat}{j:Nat}{v:SV}:∀t∈cD (ry tk j v).2,t∈tk:=by
 cases v with
 |lst sz xs t=>
  cases t with
  |clip=>
   cases hx:xs.isEmpty with
   |true=>intro t ht;simp[ry,tZ,hx,ua,cD]at ht
   |false=>intro t ht;simp[ry,tZ,hx,ua,cD]at ht
  |no=>exact oz
  |id t=>exact oz
 |_=>exact oz
theorem mb{x x1:Sit}(hG:x1.G=x.G)(hβ:x1.bk=x.bk){tk own:List Nat}:∀{cs:List SV}{us:List Value}{j i:Nat},cH x cs us->ou x x1 j (jT tk own j i cs).2->cH x1 (jT tk own j i cs).1 us
 |[],[],_,_,_,_=>⟨rfl,fun i hi=>by simp[jT]at hi⟩
 |[],_::_,_,_,h,_=>absurd h.1 (by simp)
 |_::_,[],_,_,h,_=>absurd h.1 (by simp)
 |v::r,u::us,j,i,h,ht=>by
  obtain⟨h1,h2⟩:=fx.1 h;simp only[jT]at ht ⊢;split
  ·rename_i hc
   rw[if_pos hc]at ht;exact fx.2 ⟨FD hG hβ h1 ht.left,mb hG hβ h2 ht.right⟩
  ·rename_i hc
   rw[if_neg hc]at ht;exact fx.2 ⟨h1.bare hG hβ,mb hG hβ h2 ht⟩
theorem oA{tk own:List Nat}:∀{cs:List SV}{j i:Nat},∀t∈cD (jT tk own j i cs).2,t∈tk
 |[],_,_,t,ht=>by cases ht
 |v::r,j,i,t,ht=>by
  simp only[jT]at ht;split at ht
  ·rw[fF,al]at ht
   exact ht.elim (Ri t) (oA t)
  ·exact oA t ht
theorem vc{x x1:Sit}(hG:x1.G=x.G)(hβ:x1.bk=x.bk){tk:List Nat}:∀{cs:List SV}{j:Nat}{f:Nat->Value},(∀k,k<cs.length->Rep x (cs.getD k .undef) (f k))->ou x x1 j (sK tk j cs).2->
 (sK tk j cs).1.length=cs.length/\∀k,k<cs.length->Rep x1 ((sK tk j cs).1.getD k .undef) (f k)
 |[],_,_,_,_=>⟨rfl,fun i hi=>by simp at hi⟩
 |v::r,j,f,h,ht=>by
  simp only[sK]at ht ⊢;obtain⟨h1,h2⟩:=vc (f:=fun k=>f (k+1)) hG hβ (fun k hk=>by simpa using h (k+1) (by simpa using hk)) ht.right;refine⟨by simp[h1],fun k hk=> ?_⟩;cases k with
  |zero=>exact km hG hβ (h 0 (by simp)) ht.left
  |succ k=>simpa using h2 k (by simpa using hk)
theorem Aq{tk:List Nat}:∀{cs:List SV}{j:Nat},∀t∈cD (sK tk j cs).2,t∈tk
 |[],_,t,ht=>by cases ht
 |v::r,j,t,ht=>by simp only[sK]at ht;rw[fF,al]at ht;exact ht.elim (oz t) (Aq t)
theorem Du{x x1:Sit}(hG:x1.G=x.G)(hβ:x1.bk=x.bk){tk:List Nat}{j o:Nat}{ob:aG}(h:dH x w o ob)(ht:ou x x1 j (jE tk j ob).2):dH x1 w o (jE tk j ob).1:=by
 obtain⟨cc,e,fl,fh,hO,hs,hr⟩:=h;cases ob with
 |rc cs=>obtain⟨h1,h2⟩:=vc (f:=fun k=>cc.getD k Go.undef) hG hβ hr ht;exact⟨cc,e,fl,fh,by rw[hβ];exact hO,by rw[hβ];simp only[jE,aG.size,h1]at hs ⊢;exact hs,fun k hk=>h2 k (by simpa only[jE,aG.size,h1]using hk)⟩
 |arr sz xs=>exact⟨cc,e,fl,fh,by rw[hβ];exact hO,by rw[hβ];exact hs,fun k hk=>by have:=hr k hk;simp only[jE,cA]at this ⊢;rw[hG];exact this⟩
 |bar l=>exact⟨cc,e,fl,fh,by rw[hβ];exact hO,by rw[hβ];exact hs,fun k hk=>by have:=hr k hk;simp only[jE,cA]at this ⊢;rw[hG];exact this⟩
theorem FE{tk:List Nat}{j:Nat}{ob:aG}(h:ob.wf=true):(jE tk j ob).1.wf=true:=by cases ob<;>first|rfl|exact h
theorem FF{tk:List Nat}{j:Nat}{ob:aG}:∀t∈cD (jE tk j ob).2,t∈tk:=by
 intro t ht;cases ob with
 |rc cs=>exact Aq t ht
 |_=>cases ht
theorem lz{x x1:Sit}(hG:x1.G=x.G)(hβ:x1.bk=x.bk){tk:List Nat}:∀{obs:List aG}{j:Nat}{f:Nat->Nat},(∀k,k<obs.length->dH x w (f k) (obs.getD k (.rc [])))->ou x x1 j (dZ tk j obs).2->
 (dZ tk j obs).1.length=obs.length/\∀k,k<obs.length->dH x1 w (f k) ((dZ tk j obs).1.getD k (.rc []))
 |[],_,_,_,_=>⟨rfl,fun i hi=>by simp at hi⟩
 |v::r,j,f,h,ht=>by
  simp only[dZ]at ht ⊢;obtain⟨h1,h2⟩:=lz (f:=fun k=>f (k+1)) hG hβ (fun k hk=>by simpa using h (k+1) (by simpa using hk)) ht.right;refine⟨by simp[h1],fun k hk=> ?_⟩;cases k with
  |zero=>exact Du hG hβ (h 0 (by simp)) ht.left
  |succ k=>simpa using h2 k (by simpa using hk)
theorem mT{tk:List Nat}:∀{obs:List aG}{j:Nat},∀t∈cD (dZ tk j obs).2,t∈tk
 |[],_,t,ht=>by cases ht
 |v::r,j,t,ht=>by simp only[dZ]at ht;rw[fF,al]at ht;exact ht.elim (FF t) (mT t)
theorem mQ{tk:List Nat}:∀{obs:List aG}{j:Nat},(∀o∈obs,o.wf=true)->∀o∈(dZ tk j obs).1,o.wf=true
 |[],_,_,o,ho=>by cases ho
 |v::r,j,h,o,ho=>by
  simp only[dZ]at ho;rcases an.1 ho with e|e
  ·rw[e];exact FE (h v (aD ..))
  ·exact mQ (fun o h'=>h o (aq _ h')) o e
theorem mG{m:List Nat}{o:Nat}(h:o∈m):gM m o<m.length/\m.getD (gM m o) 0=o:=by
 induction m with
 |nil=>cases h
 |cons p r ih=>
  simp only[gM];split
  ·rename_i hp;subst hp;simp
  ·rename_i hp
   obtain⟨h1,h2⟩:=ih ((an.1 h).resolve_left (Ne.symm hp));exact⟨by simpa using h1,by simpa using h2⟩
theorem jl{l:List Nat}(h:dy l=true):l.Nodup:=by
 induction l with
 |nil=>exact List.nodup_nil
 |cons p r ih=>simp only[dy,az,dB,eX,decide_eq_false_iff_not]at h;exact ed.2 ⟨h.1,ih h.2⟩
theorem vd{l r:List Nat}(h:oC l r=true):∀o∈l,o∈r:=by intro o ho;simp only[oC,aY,eX,decide_eq_true_eq]at h;exact h o ho
theorem pU:∀{m:List Nat}{os:List aG},gF c m=some os->os.length=m.length/\∀i,i<m.length->c.look (m.getD i 0)=some (os.getD i (.rc []))
 |[],os,h=>by cases h;exact⟨rfl,fun i hi=>by simp at hi⟩
 |o::r,os,h=>by
  simp only[gF]at h;split at h<;>cases h;rename_i ob l h1 h2;obtain⟨h3,h4⟩:=pU h2;refine⟨by simp[h3],fun i hi=> ?_⟩;cases i with
  |zero=>exact h1
  |succ i=>simpa using h4 i (by simpa using hi)
theorem gr(mo mt:Nat->Nat)(l:List aG):ee mo mt l=l.map fun o=>o.ren mo mt:=by
 induction l with
 |nil=>rfl
 |cons p r ih=>simp only[ee,aI,ih]
theorem o5{l:List aG}{o:aG}(h:o∈l):∀k∈o.ids,k∈fJ l:=by
 induction l with
 |nil=>cases h
 |cons p r ih=>
  intro k hk;simp only[fJ,al];rcases an.1 h with e|e
  ·subst e;exact .inl hk
  ·exact .inr (ih e k hk)
theorem nt{l:List (Option Nat)}(h:(cD l).Nodup):∀{i j:Nat}{t u:Nat},i≠j->l.getD i none=some t->l.getD j none=some u->t≠u:=by
 have key:∀{l:List (Option Nat)},(cD l).Nodup->∀{i j:Nat}{t u:Nat},i<j->l.getD i none=some t->l.getD j none=some u->t≠u:=by
  intro l;induction l with
  |nil=>intro _ i j t u _ h1;simp at h1
  |cons o r ih=>
   intro hn i j t u hij h1 h2
   have hr:(cD r).Nodup:=by cases o with
    |none=>exact hn
    |some q=>exact(ed.1 hn).2
   cases j with
   |zero=>omega
   |succ j=>
    rw[bY]at h2;cases i with
    |zero=>
     rw[bL]at h1;subst h1
     have h3:some u∈r:=by
      rw[aa]at h2;cases hj:r[j]? with
      |none=>rw[hj]at h2;cases h2
      |some q=>rw[hj]at h2;cases h2;exact List.mem_of_getElem? hj
     intro e;subst e;exact(ed.1 hn).1 (kN.2 h3)
    |succ i=>rw[bY]at h1;exact ih hr (by omega) h1 h2
 intro i j t u hij h1 h2;rcases Nat.lt_or_gt_of_ne hij with h3|h3
 ·exact key h h3 h1 h2
 ·exact(key h h3 h2 h1).symm
theorem jy{b n t:Nat}:t∈tks b n↔b<=t/\t<b+n:=by
 unfold tks
 have:∀n k,k∈kZ n↔k<n:=by
  intro n;induction n with
  |zero=>intro k;simp[kZ]
  |succ n ih=>intro k;simp only[kZ,al,ih,ba];omega
 simp only[aV,this];constructor
 ·rintro⟨k,h,rfl⟩;omega
 ·rintro⟨h1,h2⟩;exact⟨t-b,by omega,by omega⟩
structure Fl(x x2:Sit)(c:CSt)(m:List Nat)(mt:List (Option Nat)):Prop where
 G:x2.G=x.G
 bk:∀i,i<m.length->x2.bk i=x.bk (m.getD i 0)
 τ:ou x x2 50 mt
 nd:m.Nodup
 ob:∀i,i<m.length->∃ob,(m.getD i 0,ob)∈c.ob
 tnd:(cD mt).Nodup
 tk:∀t∈cD mt,t∈c.tk
def Ctx.took(x2:Sit)(w:World)(n k:Nat):Ctx:=
 ⟨w,x2.G,fun b=>w.heap.size<=b\/(∃i,i<n/\(x2.bk i).1=b)\/(∃t,50<=t/\t<50+k/\(x2.τ t).2.1≠(x2.τ t).2.2/\(x2.τ t).1=b),x2.bk⟩
theorem fR{m:List Nat}{i:Nat}(h:i<m.length):m.getD i 0∈m:=by rw[aa,ab h];exact bp _
theorem lE{m:List Nat}(h:m.Nodup){i j:Nat}(hi:i<m.length)(hj:j<m.length)(e:m.getD i 0=m.getD j 0):i=j:=by rw[aa,aa,ab hi,ab hj]at e;exact rI h hi hj e
theorem iH{l:List (Option Nat)}{i t:Nat}(h:l.getD i none=some t):t∈cD l:=by
 rw[aa]at h;cases hj:l[i]? with
 |none=>rw[hj]at h;cases h
 |some q=>rw[hj]at h;cases h;exact kN.2 (List.mem_of_getElem? hj)
theorem Fl.tok{x2:Sit}{m:List Nat}{mt:List (Option Nat)}(h:Fl x x2 c m mt){t:Nat}(h1:50<=t)(h2:t<50+mt.length):
 (x2.τ t).2.1=(x2.τ t).2.2\/∃u,mt.getD (t-50) none=some u/\x2.τ t=x.τ u/\u∈c.tk/\u∈cD mt:=by
 have e:=h.τ (t-50) (by omega);rw[show 50+(t-50)=t by omega]at e;cases hu:mt.getD (t-50) none with
 |none=>rw[hu]at e;rw[e];exact .inl rfl
 |some u=>rw[hu]at e;exact .inr ⟨u,rfl,e,h.tk u (iH hu),iH hu⟩
theorem rx{x2:Sit}{m:List Nat}{mt:List (Option Nat)}(hH:da C x c.ob c.tk w)(h:Fl x x2 c m mt){objs:List aG}(hl:objs.length=m.length)
 (ho:∀i,i<m.length->dH x2 w i (objs.getD i (.rc []))):da (Ctx.took x2 w m.length mt.length) x2 (idx objs) (tks 50 mt.length) w:=by
 refine⟨fun b o v hv=>hH.per b o v (by rw[<-h.G];exact hv),fun _ _ _ hv=>hv,fun _ _ _ hv=> .inl hv,fun b hb=> .inl hb, ?_,mW objs, ?_, ?_, ?_, ?_,rfl,rfl,rfl,aQ _,fun _ _=>rfl,fun _ _=>rfl,hH.lay.mono (fun b o v hv=>by show x2.G b o=some v;rw[h.G];exact hH.g0 b o v hv)⟩
 ·intro p hp
  obtain⟨h1,h2⟩:=iO.1 hp;rw[hl]at h1;obtain⟨ob,h3⟩:=h.ob p.1 h1;refine⟨by rw[h2];exact ho p.1 h1,.inr (.inl ⟨p.1,h1,rfl⟩),fun off=> ?_⟩;rw[h.G,h.bk _ h1];exact(hH.obs _ h3).2.2 off
 ·intro p hp q hq hpq
  obtain⟨h1,_⟩:=iO.1 hp;obtain⟨h2,_⟩:=iO.1 hq;rw[hl]at h1 h2;rw[h.bk _ h1,h.bk _ h2]at hpq;obtain⟨o1,g1⟩:=h.ob _ h1;obtain⟨o2,g2⟩:=h.ob _ h2;exact lE h.nd h1 h2 (hH.inj _ g1 _ g2 hpq)
 ·intro t ht
  obtain⟨h1,h2⟩:=jy.1 ht;rcases h.tok h1 h2 with h3|⟨u,_,h4,h5,_⟩
  ·exact .inl h3
  ·by_cases hne:(x2.τ t).2.1=(x2.τ t).2.2
   ·exact .inl hne
   ·have:=hH.tks u h5
    unfold ia at this ⊢;rw[h4]at hne ⊢;rcases this with g|⟨g1,g2,g3⟩
    ·exact absurd g hne
    ·exact .inr ⟨g1,.inr (.inr ⟨t,h1,h2,by rw[h4];exact hne,by rw[h4]⟩),by rw[h.G];exact g3⟩
 ·intro t ht p hp
  obtain⟨h1,h2⟩:=jy.1 ht;obtain⟨h6,_⟩:=iO.1 hp;rw[hl]at h6;rcases h.tok h1 h2 with h3|⟨u,_,h4,h5,_⟩
  ·exact .inr h3
  ·obtain⟨o1,g1⟩:=h.ob _ h6
   rw[h4,h.bk _ h6];exact hH.tko u h5 _ g1
 ·intro t ht u hu htu
  obtain⟨h1,h2⟩:=jy.1 ht;obtain⟨h3,h4⟩:=jy.1 hu;rcases h.tok h1 h2 with g|⟨t',g1,g2,g3,_⟩
  ·exact .inr (.inl g)
  ·rcases h.tok h3 h4 with k|⟨u',k1,k2,k3,_⟩
   ·exact .inr (.inr k)
   ·rw[g2,k2]
    exact hH.tkd t' g3 u' k3 (nt h.tnd (by omega) g1 k1)
end Go.Sy
namespace Go.Sy
variable [bg]
variable {P : Program} {C : Ctx} {x : Sit} {a : Act} {w : World} {N : Nat} {c c' : CSt} {s : St}
theorem Gb(d:Nat)(l:List Nat):qX d l=l.map (kq d):=by
 induction l with
 |nil=>rfl
 |cons p r ih=>simp only[qX,aI,ih]
theorem mY{k:List Nat}{t:Nat}:∀{l:List Nat},t∈mw k l↔t∈l/\t∉k
 |[]=>by simp[mw]
 |p::r=>by
  simp only[mw];split
  ·rename_i hc
   have hp:p∈k:=by simpa using hc
   rw[mY,an];constructor
   ·rintro⟨h1,h2⟩;exact⟨.inr h1,h2⟩
   ·rintro⟨h1|h1,h2⟩
    ·exact absurd (h1 ▸ hp) h2
    ·exact⟨h1,h2⟩
  ·rename_i hc
   have hp:p∉k:=by simpa using hc
   rw[an,mY,an];constructor
   ·rintro(h1|⟨h1,h2⟩)
    ·exact⟨.inl h1,h1 ▸ hp⟩
    ·exact⟨.inr h1,h2⟩
   ·rintro⟨h1|h1,h2⟩
    ·exact .inl h1
    ·exact .inr ⟨h1,h2⟩
theorem rL{t:Nat}:∀{r l:List Nat},t∈rf l r↔t∈r\/t∈l
 |[],l=>by simp[rf]
 |p::r,l=>by
  simp only[rf];rw[rL,ku,an];constructor
  ·rintro(h|h|h)
   ·exact .inl (.inr h)
   ·exact .inl (.inl h)
   ·exact .inr h
  ·rintro((h|h)|h)
   ·exact .inr (.inl h)
   ·exact .inl h
   ·exact .inr (.inr h)
theorem mX{p:Nat×aG}:∀{r l:List (Nat×aG)},p∈re l r->p∈r\/p∈l
 |[],l,h=> .inr h
 |q::r,l,h=>by
  simp only[re]at h;rcases mX h with e|e
  ·exact .inl (aq _ e)
  ·rcases kt e with e|e
   ·exact .inl (e ▸ aD ..)
   ·exact .inr e
theorem Az:∀{r l:List (Nat×aG)},(l.map cQ).Pairwise (· < ·)->((re l r).map cQ).Pairwise (· < ·)
 |[],_,h=>h
 |_::r,_,h=>Az (r:=r) (uc h)
theorem ye{mo mt:Nat->Nat}{o:aG}(h:o.wf=true):(o.ren mo mt).wf=true:=by cases o<;>first|rfl|exact h
theorem wy{x2:Sit}{m:List Nat}{mt:List (Option Nat)}(hold:da C x c.ob c.tk w)(h:Fl x x2 c m mt){x':Sit}{w':World}{q:eA}(hH:da (Ctx.took x2 w m.length mt.length) x' q.os q.tk w'){D:Nat}
 (hm:∀o∈m,inR D o=false) (hos:∀p∈q.os,p.1<1000/\(∀k∈p.2.ids,k<1000)/\∀k∈p.2.toks,k<1000) (htk:∀t∈q.tk,t<1000) (hg:∀i,i<m.length->x'.bk i=x2.bk i):
 ∃x3:Sit,x3.G=x'.G/\(∀b o v,x.G b o=some v->x3.G b o=some v)/\(∀k,k<1000->x3.bk (iL D m k)=x'.bk k)/\(∀k,k<1000->x3.τ (kq D k)=x'.τ k)/\
  (∀k,¬((D+1)*1000<=k/\k<(D+2)*1000)->x3.bk k=x.bk k)/\(∀k,¬((D+1)*1000<=k/\k<(D+2)*1000)->x3.τ k=x.τ k)/\
  da C x3 (oN D m q.os++fo m (bH ((D+1)*1000) ((D+2)*1000) c.ob)) (qX D q.tk++mw (cD mt) (cE ((D+1)*1000) ((D+2)*1000) c.tk)) w':=by
 let lo:=(D+1)*1000
 let hi:=(D+2)*1000
 have hlo:lo=(D+1)*1000:=rfl;have hhi:hi=(D+2)*1000:=rfl
 let β2:Nat->Nat×Nat:=fun k=>if inR D k then x'.bk (k-lo)else x.bk k
 let τ2:Nat->Nat×Nat×Nat:=fun k=>if inR D k then x'.τ (k-lo)else x.τ k
 have hin:∀k,k<1000->inR D (lo+k)=true:=by intro k hk;simp only[inR,az,decide_eq_true_eq];omega
 have hout:∀k,¬(lo<=k/\k<hi)->inR D k=false:=by intro k hk;rw[Bool.eq_false_iff];intro h;simp only[inR,az,decide_eq_true_eq]at h;exact hk h
 have hβ2:∀k,¬(lo<=k/\k<hi)->β2 k=x.bk k:=fun k hk=>by simp only[β2];rw[hout k hk];rfl
 have hτ2:∀k,¬(lo<=k/\k<hi)->τ2 k=x.τ k:=fun k hk=>by simp only[τ2];rw[hout k hk];rfl
 have hβnew:∀k,k<1000->β2 (iL D m k)=x'.bk k:=by
  intro k hk
  by_cases hkm:k<m.length
  ·have h1:iL D m k=m.getD k 0:=if_pos hkm
   simp only[β2];rw[h1,hm _ (fR hkm),hg k hkm,h.bk k hkm];rfl
  ·have h1:iL D m k=lo+k:=if_neg hkm
   simp only[β2];rw[h1,hin k hk,if_pos rfl];congr 1;omega
 have hτnew:∀k,k<1000->τ2 (kq D k)=x'.τ k:=by intro k hk;have h1:kq D k=lo+k:=rfl;simp only[τ2];rw[h1,hin k hk,if_pos rfl];congr 1;omega
 have hG:∀b o v,x.G b o=some v->x'.G b o=some v:=fun b o v hv=>hH.g0 b o v (by show x2.G b o=_;rw[h.G];exact hv)
 refine⟨⟨x'.G,β2,τ2⟩,rfl,hG,hβnew,hτnew,hβ2,hτ2, ?_⟩;rw[vt,Gb]
 have hmine:∀b,(Ctx.took x2 w m.length mt.length).mine b->C.mine b:=by
  rintro b (h1|⟨i,hi,rfl⟩|⟨t,h1,h2,h3,rfl⟩)
  ·exact hold.new b (cM hold.size h1)
  ·obtain⟨ob,hob⟩:=h.ob i hi
   rw[h.bk i hi];exact(hold.obs _ hob).2.1
  ·rcases h.tok h1 h2 with g|⟨u,_,g1,g2,_⟩
   ·exact absurd g h3
   ·rw[g1]at h3 ⊢
    rcases hold.tks u g2 with k|⟨_,k,_⟩
    ·exact absurd k h3
    ·exact k
 have hkeep:∀b,b<w.heap.size->(∀i,i<m.length->(x.bk (m.getD i 0)).1≠b)->(∀u∈cD mt,(x.τ u).2.1=(x.τ u).2.2\/(x.τ u).1≠b)->w'.heap[b]? =w.heap[b]? /\((∀off,x.G b off=none)->∀off,x'.G b off=none)/\
  (∀off,x.G b off=none->x'.G b off=none):=by
  intro b hb hne hnt
  have hnm:¬(Ctx.took x2 w m.length mt.length).mine b:=by
   rintro(h1|⟨i,hi,h1⟩|⟨t,h1,h2,h3,h4⟩)
   ·omega
   ·rw[h.bk i hi]at h1;exact hne i hi h1
   ·rcases h.tok h1 h2 with g|⟨u,_,g1,_,g3⟩
    ·exact h3 g
    ·rw[g1]at h3 h4
     rcases hnt u g3 with k|k
     ·exact h3 k
     ·exact k h4
  have one:∀off,x.G b off=none->x'.G b off=none:=by
   intro off ho;cases hg:x'.G b off with
   |none=>rfl
   |some v=>
    rcases hH.gm b off v hg with h1|h1
    ·change x2.G b off=some v at h1;rw[h.G,ho]at h1;cases h1
    ·exact absurd h1 hnm
  exact⟨hH.ext b hnm,fun h off=>one off (h off),one⟩
 have hlow:∀p∈fo m (bH lo hi c.ob),∃ob,(p.1,ob)∈c.ob/\p.2=ob.purge lo hi/\¬(lo<=p.1/\p.1<hi)/\p.1∉m/\(∀i,i<m.length->(x.bk (m.getD i 0)).1≠(x.bk p.1).1)/\(∀u∈cD mt,(x.τ u).2.1=(x.τ u).2.2\/(x.τ u).1≠(x.bk p.1).1)/\(x.bk p.1).1<w.heap.size:=by
  intro p hp;obtain⟨h1,h2⟩:=jn.1 hp;obtain⟨h3,ob,h4,h5⟩:=cC h1;refine⟨ob,h4,h5,h3,h2,fun i hi e=> ?_,fun u hu=> ?_, ?_⟩
  ·obtain⟨ob',hob'⟩:=h.ob i hi
   have:=hold.inj _ hob' _ h4 e;simp only at this;apply h2;rw[<-this];exact fR hi
  ·exact(hold.tko u (h.tk u hu) _ h4).symm
  ·obtain⟨⟨c,e,fl,fh,hO,_⟩,_⟩:=hold.obs _ h4
   exact hO.lt
 have hnew:∀p∈q.os.map (fun p=>(iL D m p.1,p.2.ren (iL D m) (kq D))),∃r∈q.os,p=(iL D m r.1,r.2.ren (iL D m) (kq D))/\β2 p.1=x'.bk r.1:=by intro p hp;obtain⟨r,hr,rfl⟩:=aV.1 hp;exact⟨r,hr,rfl,hβnew _ (hos r hr).1⟩
 have hnewmine:∀r∈q.os,w.heap.size<=(x'.bk r.1).1\/(∃i,i<m.length/\(x.bk (m.getD i 0)).1=(x'.bk r.1).1)\/(∃u∈cD mt,(x.τ u).2.1≠(x.τ u).2.2/\(x.τ u).1=(x'.bk r.1).1):=by
  intro r hr;rcases (hH.obs r hr).2.1 with h1|⟨i,hi,h1⟩|⟨t,h1,h2,h3,h4⟩
  ·exact .inl h1
  ·exact .inr (.inl ⟨i,hi,by rw[<-h.bk i hi];exact h1⟩)
  ·rcases h.tok h1 h2 with g|⟨u,_,g1,_,g3⟩
   ·exact absurd g h3
   ·rw[g1]at h3 h4;exact .inr (.inr ⟨u,g3,h3,h4⟩)
 have htmine:∀t∈q.tk,(x'.τ t).2.1=(x'.τ t).2.2\/w.heap.size<=(x'.τ t).1\/(∃i,i<m.length/\(x.bk (m.getD i 0)).1=(x'.τ t).1)\/(∃u∈cD mt,(x.τ u).2.1≠(x.τ u).2.2/\(x.τ u).1=(x'.τ t).1):=by
  intro t ht;rcases hH.tks t ht with k|⟨_,k,_⟩
  ·exact .inl k
  ·right
   rcases k with h1|⟨i,hi,h1⟩|⟨t',h1,h2,h3,h4⟩
   ·exact .inl h1
   ·exact .inr (.inl ⟨i,hi,by rw[<-h.bk i hi];exact h1⟩)
   ·rcases h.tok h1 h2 with g|⟨u,_,g1,_,g3⟩
    ·exact absurd g h3
    ·rw[g1]at h3 h4;exact .inr (.inr ⟨u,g3,h3,h4⟩)
 have htold:∀t∈mw (cD mt) (cE lo hi c.tk),t∈c.tk/\¬(lo<=t/\t<hi)/\t∉cD mt:=fun t ht=>by obtain⟨h1,h2⟩:=mY.1 ht;obtain⟨h3,h4⟩:=bK.1 h1;exact⟨h3,h4,h2⟩
 have htblock:∀t∈c.tk,t∉cD mt->(x.τ t).2.1=(x.τ t).2.2\/((x.τ t).1<w.heap.size/\(∀i,i<m.length->(x.bk (m.getD i 0)).1≠(x.τ t).1)/\(∀u∈cD mt,(x.τ u).2.1=(x.τ u).2.2\/(x.τ u).1≠(x.τ t).1)):=by
  intro t ht hnt;rcases hold.tks t ht with h1|⟨⟨c,e,fl,fh,hO,_⟩,_⟩
  ·exact .inl h1
  ·by_cases he:(x.τ t).2.1=(x.τ t).2.2
   ·exact .inl he
   ·refine .inr ⟨hO.lt,fun i hi e'=> ?_,fun u hu=> ?_⟩
    ·obtain⟨ob,hob⟩:=h.ob i hi
     rcases hold.tko t ht _ hob with h1|h1
     ·exact h1 e'.symm
     ·exact he h1
    ·rcases hold.tkd u (h.tk u hu) t ht (fun e=>hnt (e ▸ hu))with k|k|k
     ·exact .inr k
     ·exact .inl k
     ·exact absurd k he
 refine⟨hH.per,fun b o v hv=>hG _ _ _ (hold.g0 b o v hv), ?_,hold.new, ?_, ?_, ?_, ?_, ?_, ?_,hH.os.trans hold.os,hH.tape.trans hold.tape,hH.output.trans hold.output,cM hold.size hH.size, ?_,fun i hi=>(hβ2 i (by omega)).trans (hold.pin i hi),hold.lay⟩
 ·intro b o v hv
  rcases hH.gm b o v hv with h1|h1
  ·exact hold.gm b o v (by rw[<-h.G];exact h1)
  ·exact .inr (hmine b h1)
 ·intro p hp
  rcases al.1 hp with hp|hp
  ·obtain⟨r,hr,rfl,hb⟩:=hnew p hp
   obtain⟨h1,h2,h3⟩:=hH.obs r hr;refine⟨h1.renF (x2:=⟨x'.G,β2,τ2⟩) (fun _ _ _ h=>h) (hβnew _ (hos r hr).1) (fun k hk=>hβnew k ((hos r hr).2.1 k hk)) (fun t ht=>hτnew t ((hos r hr).2.2 t ht)), ?_,fun off=> ?_⟩
   ·show C.mine (β2 (iL D m r.1)).1;rw[hβnew _ (hos r hr).1];exact hmine _ h2
   ·show x'.G (β2 (iL D m r.1)).1 off=none;rw[hβnew _ (hos r hr).1];exact h3 off
  ·obtain⟨ob,h1,h2,h3,h4,h5,h6,h7⟩:=hlow p hp
   obtain⟨g1,g2,g3⟩:=hold.obs _ h1;obtain⟨k1,k2,_⟩:=hkeep _ h7 h5 h6;have hb:β2 p.1=x.bk p.1:=hβ2 _ h3;refine⟨?_,by show C.mine (β2 p.1).1;rw[hb];exact g2,fun off=>by show x'.G (β2 p.1).1 off=none;rw[hb];exact k2 g3 off⟩;rw[h2];exact dH.of_heap (x':=⟨x'.G,β2,τ2⟩) g1 k1 hG hβ2 hτ2 h3
 ·rw[cn,List.nodup_append]
  refine⟨?_, ?_, ?_⟩
  ·rw[List.map_map]
   have hnd':=gC.1 hH.nd;refine gC.2 (eD.imp_of_mem (fun{p r} hp hr hne=> ?_) hnd');intro e;simp only[Function.comp]at e;have:(x'.bk p.1).1=(x'.bk r.1).1:=by rw[<-hβnew _ (hos p hp).1,<-hβnew _ (hos r hr).1,e]
   exact hne (hH.inj p hp r hr this)
  ·have h1:(fo m (bH lo hi c.ob)).Sublist (bH lo hi c.ob):=hC _ _
   refine ww.sublist (h1.map cQ) ?_;rw[eN];exact hold.nd.filter _
  ·intro o1 h1 o2 h2 e
   subst e;obtain⟨p,hp,rfl⟩:=aV.1 h1;obtain⟨r,hr,hre⟩:=aV.1 h2;obtain⟨u,hu,rfl⟩:=aV.1 hp;obtain⟨ob,k1,k2,k3,k4,_⟩:=hlow r hr;simp only at hre
   by_cases hum:u.1<m.length
   ·apply k4;rw[hre];show iL D m u.1∈m;unfold iL;rw[if_pos hum];exact fR hum
   ·apply k3;rw[hre];show lo<=iL D m u.1/\iL D m u.1<hi
    unfold iL;rw[if_neg hum];have:=(hos u hu).1;omega
 ·intro p hp r hr hpr
  change (β2 p.1).1=(β2 r.1).1 at hpr;rcases al.1 hp with hp|hp<;>rcases al.1 hr with hr|hr
  ·obtain⟨p',hp',rfl,hb⟩:=hnew p hp
   obtain⟨r',hr',rfl,hb'⟩:=hnew r hr;rw[hb,hb']at hpr;have:=hH.inj p' hp' r' hr' hpr;simp only;rw[this]
  ·obtain⟨p',hp',rfl,hb⟩:=hnew p hp
   obtain⟨ob,k1,k2,k3,k4,k5,k6,k7⟩:=hlow r hr;rw[hb,hβ2 _ k3]at hpr;rcases hnewmine p' hp' with h1|⟨i,hi,h1⟩|⟨u,hu,h1,h2⟩
   ·omega
   ·exact absurd (h1.trans hpr) (k5 i hi)
   ·rcases k6 u hu with g|g
    ·exact absurd g h1
    ·exact absurd (h2.trans hpr) g
  ·obtain⟨r',hr',rfl,hb⟩:=hnew r hr
   obtain⟨ob,k1,k2,k3,k4,k5,k6,k7⟩:=hlow p hp;rw[hb,hβ2 _ k3]at hpr;rcases hnewmine r' hr' with h1|⟨i,hi,h1⟩|⟨u,hu,h1,h2⟩
   ·omega
   ·exact absurd (h1.trans hpr.symm) (k5 i hi)
   ·rcases k6 u hu with g|g
    ·exact absurd g h1
    ·exact absurd (h2.trans hpr.symm) g
  ·obtain⟨ob,k1,k2,k3,_⟩:=hlow p hp
   obtain⟨ob',k1',k2',k3',_⟩:=hlow r hr;rw[hβ2 _ k3,hβ2 _ k3']at hpr;exact hold.inj (p.1,ob) k1 (r.1,ob') k1' hpr
 ·intro t ht
  rcases al.1 ht with ht|ht
  ·obtain⟨u,hu,rfl⟩:=aV.1 ht
   have:=hH.tks u hu;unfold ia at this ⊢;simp only[hτnew u (htk u hu)];exact this.imp id fun⟨h1,h2,h3⟩=>⟨h1,hmine _ h2,h3⟩
  ·obtain⟨h1,h2,h3⟩:=htold t ht
   have:=hold.tks t h1;unfold ia at this ⊢;simp only[hτ2 t h2];rcases this with g|⟨⟨c,e,fl,fh,hO,hc⟩,h4,h5⟩
   ·exact .inl g
   ·rcases htblock t h1 h3 with g|⟨k1,k2,k3⟩
    ·exact .inl g
    ·obtain⟨g1,_,g2⟩:=hkeep _ k1 k2 k3
     exact .inr ⟨⟨c,e,fl,fh,hO.of_heap g1,hc⟩,h4,fun o ho1 ho2=>g2 o (h5 o ho1 ho2)⟩
 ·intro t ht p hp
  rcases al.1 ht with ht|ht<;>rcases al.1 hp with hp|hp
  ·obtain⟨u,hu,rfl⟩:=aV.1 ht
   obtain⟨r,hr,rfl,hb⟩:=hnew p hp;show(τ2 (kq D u)).1≠(β2 (iL D m r.1)).1\/(τ2 (kq D u)).2.1=(τ2 (kq D u)).2.2;rw[hτnew u (htk u hu),hβnew _ (hos r hr).1];exact hH.tko u hu r hr
  ·obtain⟨u,hu,rfl⟩:=aV.1 ht
   obtain⟨ob,k1,k2,k3,k4,k5,k6,k7⟩:=hlow p hp;show(τ2 (kq D u)).1≠(β2 p.1).1\/(τ2 (kq D u)).2.1=(τ2 (kq D u)).2.2;rw[hτnew u (htk u hu),hβ2 _ k3];rcases htmine u hu with g|g|⟨i,hi,g⟩|⟨v,hv,g1,g2⟩
   ·exact .inr g
   ·left;intro e;omega
   ·left;intro e;exact k5 i hi (g.trans e)
   ·left;intro e
    rcases k6 v hv with k|k
    ·exact g1 k
    ·exact k (g2.trans e)
  ·obtain⟨h1,h2,h3⟩:=htold t ht
   obtain⟨r,hr,rfl,hb⟩:=hnew p hp;show(τ2 t).1≠(β2 (iL D m r.1)).1\/(τ2 t).2.1=(τ2 t).2.2;rw[hτ2 t h2,hβnew _ (hos r hr).1];rcases htblock t h1 h3 with g|⟨k1,k2,k3⟩
   ·exact .inr g
   ·left;intro e
    rcases hnewmine r hr with g|⟨i,hi,g⟩|⟨v,hv,g1,g2⟩
    ·omega
    ·exact k2 i hi (g.trans e.symm)
    ·rcases k3 v hv with k|k
     ·exact g1 k
     ·exact k (g2.trans e.symm)
  ·obtain⟨h1,h2,h3⟩:=htold t ht
   obtain⟨ob,k1,k2,k3,_⟩:=hlow p hp;show(τ2 t).1≠(β2 p.1).1\/(τ2 t).2.1=(τ2 t).2.2;rw[hτ2 t h2,hβ2 _ k3];exact hold.tko t h1 (p.1,ob) k1
 ·intro t ht u hu htu
  show lx (τ2 t) (τ2 u)\/(τ2 t).2.1=(τ2 t).2.2\/(τ2 u).2.1=(τ2 u).2.2;rcases al.1 ht with ht|ht<;>rcases al.1 hu with hu|hu
  ·obtain⟨t',ht',rfl⟩:=aV.1 ht
   obtain⟨u',hu',rfl⟩:=aV.1 hu;rw[hτnew t' (htk t' ht'),hτnew u' (htk u' hu')];exact hH.tkd t' ht' u' hu' (fun e=>htu (by rw[e]))
  ·obtain⟨t',ht',rfl⟩:=aV.1 ht
   obtain⟨h1,h2,h3⟩:=htold u hu;rw[hτnew t' (htk t' ht'),hτ2 u h2];rcases htblock u h1 h3 with k|⟨k1,k2,k3⟩
   ·exact .inr (.inr k)
   ·rcases htmine t' ht' with g|g|⟨i,hi,g⟩|⟨v,hv,g1,g2⟩
    ·exact .inr (.inl g)
    ·exact .inl fun e=>by omega
    ·exact .inl fun e=>k2 i hi (g.trans e)
    ·refine .inl fun e=> ?_
     rcases k3 v hv with k|k
     ·exact g1 k
     ·exact k (g2.trans e)
  ·obtain⟨u',hu',rfl⟩:=aV.1 hu
   obtain⟨h1,h2,h3⟩:=htold t ht;rw[hτnew u' (htk u' hu'),hτ2 t h2];rcases htblock t h1 h3 with k|⟨k1,k2,k3⟩
   ·exact .inr (.inl k)
   ·rcases htmine u' hu' with g|g|⟨i,hi,g⟩|⟨v,hv,g1,g2⟩
    ·exact .inr (.inr g)
    ·exact .inl fun e=>by omega
    ·exact .inl fun e=>k2 i hi (g.trans e.symm)
    ·refine .inl fun e=> ?_
     rcases k3 v hv with k|k
     ·exact g1 k
     ·exact k (g2.trans e.symm)
  ·obtain⟨h1,h2,_⟩:=htold t ht
   obtain⟨h3,h4,_⟩:=htold u hu;rw[hτ2 t h2,hτ2 u h4];exact hold.tkd t h1 u h3 htu
 ·intro b hb
  have hnm:¬(Ctx.took x2 w m.length mt.length).mine b:=fun h=>hb (hmine b h)
  exact(hH.ext b hnm).trans (hold.ext b hb)
end Go.Sy
namespace Go.Sy
variable [bg]
variable {P : Program} {C : Ctx} {x : Sit} {a : Act} {w : World} {N : Nat} {c c' : CSt} {s : St}
theorem wz(t:Tok):t.ren (fun k=>k)=t:=by cases t<;>rfl
theorem xcs(sv:SV):sv.ren (fun k=>k) (fun k=>k)=sv:=by
 refine SV.rec (motive_1:=fun sv=>sv.ren (fun k=>k) (fun k=>k)=sv) (motive_2:=fun _=>True) (motive_3:=fun l=>SV.renL (fun k=>k) (fun k=>k) l=l)
  ?_ ?_ ?_ ?_ ?_ ?_ ?_ ?_ ?_ ?_ ?_ ?_ ?_ ?_ ?_ ?_ ?_ ?_ ?_ ?_ sv
 all_goals intros
 all_goals first
  |trivial
  |rfl
  |(simp only[SV.ren,SV.renL,wz];done)
  |(simp only[SV.ren,SV.renL, *])
theorem xce{q:eA}(h:q.small=true):(∀p∈q.os,p.1<1000/\(∀k∈p.2.ids,k<1000)/\∀k∈p.2.toks,k<1000)/\(∀k∈q.r.ids,k<1000)/\(∀k∈q.r.toks,k<1000)/\∀k∈q.tk,k<1000:=by simp only[eA.small,az,aY,decide_eq_true_eq]at h;obtain⟨⟨⟨h1,h2⟩,h3⟩,h4⟩:=h;exact⟨fun p hp=>⟨(h1 p hp).1.1,(h1 p hp).1.2,(h1 p hp).2⟩,h2,h3,h4⟩
theorem nD{d:Option Nat}{m:List Nat}{mt:List (Option Nat)}{q:eA}{x2 x':Sit}{w':World}{v:Value}(hM:aP C x s a w)(hS:Sim N c s)(hd:∀k,d=some k->k<N)(h:Fl x x2 c m mt)
 (hH:da (Ctx.took x2 w m.length mt.length) x' q.os q.tk w') (hr:Rep x' q.r v) (hwf:∀p∈q.os,p.2.wf=true) (hg:∀i,i<m.length->x'.bk i=x2.bk i) (hm:∀o∈m,inR (d.getD 0) o=false) (hs:q.small=true):
 M C N (jP c d m (cD mt) q) (a.put d v) w':=by
 obtain⟨s1,s2,s3,s4⟩:=xce hs;have hE:=hS.exact hM;obtain⟨x3,g1,g2,g3,g4,g5,g6,g7⟩:=wy hE.heap h hH hm s1 s4 hg
 let c3:CSt:=⟨dl ((d.getD 0+1)*1000) ((d.getD 0+2)*1000) c.tm,re (fo m (bH ((d.getD 0+1)*1000) ((d.getD 0+2)*1000) c.ob)) (oN (d.getD 0) m q.os),
  rf (mw (cD mt) (cE ((d.getD 0+1)*1000) ((d.getD 0+2)*1000) c.tk)) (qX (d.getD 0) q.tk)⟩
 have hI:Inv N c3:=by
  refine⟨fun p hp=> ?_,Az ?_,fun p hp=> ?_⟩
  ·obtain⟨r,hr,e⟩:=jm hp
   rw[e];exact hS.inv.dom r hr
  ·exact eD.sublist ((hC _ _).map cQ) (vg hS.inv.so)
  ·rcases mX hp with e|e
   ·rw[vt]at e
    obtain⟨r,hr,rfl⟩:=aV.1 e;exact ye (hwf r hr)
   ·obtain⟨_,ob,h1,h2⟩:=cC (jn.1 e).1
    rw[h2];exact pL (hS.inv.wf _ h1)
 have hM3:aP C x3 (c3.st N) a w':=by
  refine⟨⟨?_,fun i hi=> ?_⟩,hM.defers,g7.only (fun p hp=> ?_) (i0 hI.so) (fun t ht=> ?_)⟩
  ·have:=hE.tm.1;simpa[CSt.st]using this
  ·have hiN:i<N:=by simpa[CSt.st]using hi
   have h1:=hE.tm.2 i (by simpa[CSt.st]using hiN);simp only[CSt.st,aa,aT,cI hiN,bx,bB]at h1 ⊢;have e:c3.get i=(c.get i).purge ((d.getD 0+1)*1000) ((d.getD 0+2)*1000):=gj _ _ i c.tm;rw[e];exact h1.mono (x':=x3) g2 g5 g6
  ·rcases mX hp with e|e
   ·exact al.2 (.inl e)
   ·exact al.2 (.inr e)
  ·rcases rL.1 ht with e|e
   ·exact al.2 (.inl e)
   ·exact al.2 (.inr e)
 refine⟨x3,_,hM3.put d (c:=q.r.ren (iL (d.getD 0) m) (kq (d.getD 0))) ?_,(Sim.of hI).put hd _⟩;exact Rep.renF (x:=x') (x2:=x3) (fun b o v hv=>by rw[g1];exact hv) hr (fun k hk=>g3 k (s2 k hk)) (fun t ht=>g4 t (s3 t ht))
theorem xF{call:de}{g:Nat}{d:Option Nat}{as:List SV}{vs:List Value}(hM:aP C x s a w)(hS:Sim N c s)(hd:∀k,d=some k->k<N)(hsp:∀as os k q,call g as os k=some q->my P g as os k (· =q))
 (hc:mr c d (call g (SV.bareL as) [] 0)=some c') (hvs:cH x as vs):Calls P g ⟨vs⟩ w fun en w'=>∃v,en= .returned v/\M C N c' (a.put d v) w':=by
 cases hq:call g (SV.bareL as) [] 0 with
 |none=>rw[hq]at hc;cases hc
 |some q=>
  rw[hq]at hc
  have hb:cH x (SV.bareL as) vs:=by rw[kD];refine⟨by simpa using hvs.1,fun i hi=> ?_⟩;rw[aW _ (by rfl)];exact(hvs.2 i (by simpa using hi)).bare rfl rfl
  obtain⟨_,hS'⟩:=hsp _ _ _ _ hq
  by_cases hbare:q.bare=true
  ·simp only[mr,hbare,nU,aw.injEq]at hc
   subst hc;have hcal:=uY (m:=[]) (os:=[]) (mo:=fun k=>k) (mt:=fun k=>k) hM (fun i hi=>by simp at hi) rfl (by simp) (fun i hi=>by simp at hi);refine(hS' (Ctx.callee x w [] (x.back (fun k=>k) (fun k=>k)).bk) x w vs rfl rfl ?_ (by simp) (by simp) hcal hb).mono ?_
   ·rintro b (h|⟨i,hi,_⟩)
    ·exact .inl h
    ·simp at hi
   ·rintro en w' ⟨v,x',q',rfl,hq',hr,hH,hwf,_⟩
    subst hq';simp only[eA.bare,az,List.isEmpty_iff]at hbare;obtain⟨⟨⟨b1,b2⟩,b3⟩,b4⟩:=hbare
    obtain⟨hG,hA⟩:=xB (m:=[]) (os:=[]) (mo:=fun k=>k) (mt:=fun k=>k) (lo:=0) (hi:=0) (β2:=x.bk) (τ2:=x.τ) hM rfl (fun i hi=>by simp at hi) hH (fun i hi=>by simp at hi) (fun i hi=>by omega) (fun _ _=>rfl) (fun _ _=>rfl)
     (fun p hp=>by rw[b1]at hp;cases hp) (fun p hp=>by rw[b1]at hp;cases hp) (fun p hp=>by rw[b1]at hp;cases hp) (fun p hp=>by rw[b1]at hp;cases hp) (fun t ht=>by rw[b2]at ht;cases ht)
    have hA':da C ⟨x'.G,x.bk,x.τ⟩ s.ob s.tk w':=by
     refine hA.only (fun p hp=> ?_) hM.heap.nd (fun t ht=> ?_)
     ·exact al.2 (.inr (jn.2 ⟨by rw[Ge];exact hp,by simp⟩))
     ·exact al.2 (.inr (bK.2 ⟨ht,by omega⟩))
    refine⟨v,rfl,⟨x'.G,x.bk,x.τ⟩,_, ?_,hS.put hd q'.r⟩;refine aP.put ⟨cH.grow (x:=x) (x':=⟨x'.G,x.bk,x.τ⟩) hG rfl rfl hM.tm,hM.defers,hA'⟩ d ?_;have:=Rep.renF (x:=x') (x2:=⟨x'.G,x.bk,x.τ⟩) (mo:=fun k=>k) (mt:=fun k=>k) (fun _ _ _ h=>h) hr (fun k hk=>by rw[b3]at hk;cases hk) (fun t ht=>by rw[b4]at ht;cases ht);rwa[xcs]at this
  ·have hbf:q.bare=false:=by simpa using hbare
   simp only[mr,hbf,nU]at hc;cases hsm:q.small with
   |false=>rw[hsm]at hc;cases hc
   |true=>
    rw[hsm]at hc;simp only[xH,aw.injEq]at hc;subst hc;have hE:=hS.exact hM;have hT:Fl x x c [] []:=⟨rfl,fun i hi=>by simp at hi,fun k hk=>by simp at hk,by simp,fun i hi=>by simp at hi,by simp[cD],fun t ht=>by simp[cD]at ht⟩;refine(hS' (Ctx.took x w 0 0) x w vs rfl rfl ?_ (by simp) (by simp) (rx hE.heap hT rfl (fun i hi=>by simp at hi)) hb).mono ?_
    ·rintro b h;exact h
    ·rintro en w' ⟨v,x',q',rfl,hq',hr,hH,hwf,_⟩
     subst hq';exact⟨v,rfl,nD hM hS hd hT hH hr hwf (fun i hi=>by simp at hi) (fun o ho=>by simp at ho) hsm⟩
theorem wH{call:de}{sg:Sig}{g:Nat}{d:Option Nat}{as:List SV}{vs:List Value}(hM:aP C x s a w)(hS:Sim N c s)(hd:∀k,d=some k->k<N)(hsp:∀as os k q,call g as os k=some q->my P g as os k (· =q))
 (hc:jF call sg d g (c,as)=some c') (hvs:cH x as vs):Calls P g ⟨vs⟩ w fun en w'=>∃v,en= .returned v/\M C N c' (a.put d v) w':=by
 simp only[jF]at hc;generalize hz:jT c.tk sg.own 50 0 as=z at hc;obtain⟨as2,mt1⟩:=z;simp only[nN]at hc;generalize dL c 60 [] (SV.idsL as2)=m at hc;cases ho:gF c m with
 |none=>rw[ho]at hc;cases hc
 |some os0=>
  rw[ho]at hc;simp only[lA]at hc;generalize hz2:dZ c.tk (50+mt1.length) os0=z2 at hc;obtain⟨os,mt2⟩:=z2;simp only[nM]at hc;cases hb:(oC (SV.idsL as2++fJ os) m&&dy m&&dy (cD (mt1++mt2))&&decide (m.length<=40)&&m.all fun o=> !inR (d.getD 0) o)with
  |false=>rw[hb]at hc;cases hc
  |true=>
   rw[hb]at hc;simp only[nL]at hc;simp only[az,decide_eq_true_eq,aY,dB]at hb;obtain⟨⟨⟨⟨hsub,hmn⟩,htn⟩,hlen⟩,hin⟩:=hb;cases hq:call g (SV.renL (gM m) id as2) (ee (gM m) id os) (mt1.length+mt2.length)with
   |none=>rw[hq]at hc;cases hc
   |some q=>
    rw[hq]at hc;simp only[oI]at hc;cases hsm:q.small with
    |false=>rw[hsm]at hc;cases hc
    |true=>
     rw[hsm]at hc;simp only[wJ,aw.injEq]at hc;subst hc;have hE:=hS.exact hM;obtain⟨hol,hog⟩:=pU ho
     let τ2:Nat->Nat×Nat×Nat:=fun t=>if 50<=t/\t<50+(mt1++mt2).length then PB x ((mt1++mt2).getD (t-50) none)else(0,0,0)
     let x1:Sit:=⟨x.G,x.bk,τ2⟩
     let x2:Sit:=⟨x.G,fun i=>x.bk (m.getD i 0),τ2⟩
     have hτ:∀y:Sit,y.τ=τ2->ou x y 50 (mt1++mt2):=by
      intro y hy k hk;rw[hy];show(if _ then _ else _)=_;rw[if_pos ⟨by omega,by omega⟩]
      congr 2;omega
     have hmem:∀i,i<m.length->(m.getD i 0,os0.getD i (.rc []))∈c.ob:=fun i hi=>i9 (hog i hi)
     have hsubm:=vd hsub;have hmnd:=jl hmn
     have hT:Fl x x2 c m (mt1++mt2):=by
      refine⟨rfl,fun _ _=>rfl,hτ x2 rfl,hmnd,fun i hi=>⟨_,hmem i hi⟩,jl htn,fun t ht=> ?_⟩;rw[fF,al]at ht;rcases ht with ht|ht
      ·have:=oA (tk:=c.tk) (own:=sg.own) (cs:=as) (j:=50) (i:=0) t (by rw[hz];exact ht)
       exact this
      ·have:=mT (tk:=c.tk) (obs:=os0) (j:=50+mt1.length) t (by rw[hz2];exact ht)
       exact this
     have hTx1:=hτ x1 rfl
     have ha1:cH x1 as2 vs:=by have:=mb (x:=x) (x1:=x1) rfl rfl (tk:=c.tk) (own:=sg.own) (j:=50) (i:=0) hvs (by rw[hz];exact hTx1.left);rwa[hz]at this
     have hβ:∀o∈m,x2.bk (gM m o)=x.bk o:=fun o ho=>by show x.bk (m.getD (gM m o) 0)=_;rw[(mG ho).2]
     have ha2:cH x2 (SV.renL (gM m) id as2) vs:=by
      rw[eM];refine⟨by simpa using ha1.1,fun i hi=> ?_⟩;have hi':i<as2.length:=by simpa using hi
      rw[aW _ (by rfl)];exact Rep.renF (x:=x1) (x2:=x2) (fun _ _ _ h=>h) (ha1.2 i hi') (fun k hk=>hβ k (hsubm k (al.2 (.inl (ln hi' k hk))))) (fun t _=>rfl)
     obtain⟨hosl,hosr⟩:=lz (x:=x) (x1:=x1) (w:=w) rfl rfl (tk:=c.tk) (obs:=os0) (j:=50+mt1.length) (f:=fun i=>m.getD i 0)
      (fun i hi=>(hE.heap.obs _ (hmem i (by omega))).1) (by rw[hz2];exact hTx1.right)
     rw[hz2]at hosl hosr;simp only at hosl hosr
     have hob2:∀i,i<m.length->dH x2 w i ((ee (gM m) id os).getD i (.rc [])):=by
      intro i hi;have h1:=hosr i (by omega);have hio:i<os.length:=by omega
      have e:(ee (gM m) id os).getD i (.rc [])=(os.getD i (.rc [])).ren (gM m) id:=by rw[gr,aa,aa,aT,ab hio];rfl
      rw[e];have hm':=fR (m:=m) hi;have hos:os.getD i (.rc [])∈os:=by rw[aa,ab hio];exact bp _
      have h2:=h1.renF (x2:=x2) (mo:=gM m) (mt:=id) (fun _ _ _ h=>h) (hβ _ hm') (fun k hk=>hβ k (hsubm k (al.2 (.inr (o5 hos k hk))))) (fun t _=>rfl);have e2:gM m (m.getD i 0)=i:=lE hmnd (mG hm').1 hi (mG hm').2;rwa[e2]at h2
     have hrl:(ee (gM m) id os).length=m.length:=by rw[gr,au];omega
     obtain⟨_,hS'⟩:=hsp _ _ _ _ hq;have hl12:mt1.length+mt2.length=(mt1++mt2).length:=by simp
     rw[hl12]at hS';refine(hS' (Ctx.took x2 w m.length (mt1++mt2).length) x2 w vs rfl rfl ?_ (by omega) ?_ (rx hE.heap hT hrl hob2) ha2).mono ?_
     ·rintro b h;rw[hrl];exact h
     ·intro o ho'
      rw[gr]at ho';obtain⟨r,hr,rfl⟩:=aV.1 ho';refine ye ?_
      have:=mQ (tk:=c.tk) (obs:=os0) (j:=50+mt1.length) (fun o h'=>by obtain⟨i,hi,rfl⟩:=cf h';have:=hS.inv.wf _ (hmem i (by omega));simpa[aa,ab hi]using this) r (by rw[hz2];exact hr)
      exact this
     ·rintro en w' ⟨v,x',q',rfl,hq',hr,hH,hwf,hg⟩
      subst hq';exact⟨v,rfl,nD hM hS hd hT hH hr hwf (fun i hi=>hg i (by omega)) (fun o ho'=>hin o ho') hsm⟩
theorem u9{call:de}{sg:Sig}{g:Nat}{d:Option Nat}{as:List SV}{vs:List Value}(hM:aP C x s a w)(hS:Sim N c s)(hd:∀k,d=some k->k<N)(hsp:∀as os k q,call g as os k=some q->my P g as os k (· =q))
 (hc:ik call sg c d g as=some c') (hvs:cH x as vs):Calls P g ⟨vs⟩ w fun en w'=>∃v,en= .returned v/\M C N c' (a.put d v) w':=by
 unfold ik at hc;generalize ((SV.idsL as).isEmpty&&sg.own.isEmpty)=b at hc;cases b with
 |true=>exact xF hM hS hd hsp hc hvs
 |false=>simp only[jO]at hc;obtain⟨x1,s1,h1,h2,h3⟩:=jc (l:=iS sg.raw 0 as) hM hS hvs;exact wH h1 h2 hd hsp hc h3
end Go.Sy
