/- An engine that steps through Go code with symbolic values: sound by proof. No condition. -/
import Derived.Test.YtdafipacemgcoaaGreatDoorEbGround
import Derived.LoopN
open Array renaming getD_eq_getD_getElem? -> bc, getElem?_eq_getElem -> cG
open Bool renaming and_eq_true -> ay, not_eq_true' -> cR
open List renaming Nodup -> wk, Sublist -> nW, all_eq_true -> aY, contains_eq_mem -> eZ, filter_cons -> kT, getD_cons_succ -> bj, getD_cons_zero -> bf, getD_eq_getElem?_getD -> aa, getElem?_append_left -> bn, getElem?_append_right -> bx, getElem?_drop -> bh, getElem?_eq_getElem -> af, getElem?_eq_none -> kd, getElem?_map -> aR, getElem?_range -> cO, getElem?_set -> gq, getElem?_take -> bB, getElem_mem -> bi, getElem_of_mem -> bM, length_append -> ah, length_cons -> au, length_drop -> aE, length_map -> aX, length_set -> cu, length_take -> ax, map_append -> bD, map_cons -> aP, mem_append -> an, mem_cons -> av, mem_cons_of_mem -> az, mem_cons_self -> aI, mem_map -> aU, mem_map_of_mem -> il, mem_of_mem_drop -> dx, mem_of_mem_take -> bV, mem_singleton -> bp, nodup_cons -> ep, pairwise_cons -> cW, pairwise_map -> gn, range -> bX, replicate -> aq
open Nat renaming add_assoc -> cK, add_mul -> bQ, add_zero -> fx, le_refl -> aN, le_trans -> cB, lt_or_ge -> bL, min_eq_left -> fp, mod_eq_of_lt -> xT, mul_comm -> dP, mul_le_mul_right -> bI, succ_mul -> dO
open Option renaming bind_some -> cT, getD_some -> bq, map_eq_some_iff -> aj, map_some -> bt, some -> aw
open Prod renaming fst -> cI
set_option linter.unusedVariables false
set_option linter.unusedSimpArgs false
set_option linter.unnecessarySimpa false
set_option linter.unusedSectionVars false
namespace Go.Sy
variable [bg]
variable {call : db} {sg : Nat -> Sig} {c : CSt} {d : Option Nat} {k : Nat}
theorem xe0{α:Type}{p:Prop}[Decidable p]{v:α}(h:p):gd p v=some v:=if_pos h
def fD(c:CSt)(d:Option Nat):Option SV->Option CSt
 |some v=>some (c.put d v)
 |none=>none
theorem Dy(v:SV):fD c d (some v)=some (c.put d v):=rfl
theorem Dz:fD c d none=none:=rfl
theorem FW(l:List (Nat×SV))(o:List (Nat×aF))(t:List Nat)(v:SV):CSt.put ⟨l,o,t⟩ (some k) v=⟨jg l k v,o,t⟩:=rfl
theorem FX(v:SV):CSt.put c none v=c:=rfl
theorem xeZ(l:List (Nat×SV))(o:List (Nat×aF))(t:List Nat)(n:Nat):CSt.get ⟨l,o,t⟩ n=eH l n:=rfl
theorem RO(l:List (Nat×SV))(o:List (Nat×aF))(t:List Nat)(n:Nat):CSt.look ⟨l,o,t⟩ n=iC o n:=rfl
theorem xnz(n:Nat):c.ev (.t n)=c.get n:=rfl
theorem xnB(v:SV):c.ev (.c v)=v:=rfl
theorem xnA(g:Nat):c.ev (.f g)= .fn g [] []:=rfl
theorem pY:c.kill []=c:=rfl
theorem DJ(l:List (Nat×SV))(o:List (Nat×aF))(t:List Nat)(n:Nat)(r:List Nat):CSt.kill ⟨l,o,t⟩ (n::r)=⟨vU l (n::r),o,t⟩:=rfl
def z6:Option SV->Option qX
 |some v=>some {val:=v}
 |none=>none
theorem C6(v:SV):z6 (some v)=some {val:=v}:=rfl
theorem C7:z6 none=none:=rfl
theorem qj{so:SOp}{o:Option SV}(h:eh c d so=z6 o):oE c d (eh c d so)=fD c d o:=by rw[h];cases o<;>rfl
theorem Ql(o:Option SV):(match o with|some v=>some {val:=v}|none=>none:Option qX)=z6 o:=by cases o<;>rfl
def EC:SV->Option SV
 | .ptr o off=>some (.ptr o off)
 | .ap o sz i j=>some (.ap o sz i j)
 | .pp cs=>some (.pp cs)
 | .fn f a b=>some (.fn f a b)
 |_=>none
def xaT(ne:Bool):SV->SV->Option SV
 | .bool a,.bool b=>some (.bool (if ne then decide (a≠b)else decide (a=b)))
 |_,_=>none
def xaN(ne:Bool)(ts:List Nat):SV->SV->Option SV
 | .agg cs,.agg ds=>(gG ts cs ds).map fun b=> .bool (if ne then !b else b)
 |_,_=>none
def tQ:SV->Option SV
 | .str l=>some (.str l)
 |_=>none
def EH(ne:Bool):SV->Option SV
 | .nili=>some (.bool (!ne))
 |_=>none
def Tg:SV->Option SV
 | .str l=>some (.byt l .no)
 |_=>none
def xaU(c:CSt):SV->Option SV
 | .str _=>none
 |v=>(fi c v).map .str
def Ha(l:List UInt8):Option Int->Option Int->Option SV
 |some a,some b=>gd (0<=a/\a<=b/\b<=l.length) (.str ((l.take b.toNat).drop a.toNat))
 |_,_=>none
def Eh(c:CSt)(lo hi:Option Arg):SV->Option SV
 | .str l=>Ha l (kl c lo 0) (kl c hi l.length)
 |_=>none
def Ei(c:CSt)(len sz:Nat)(lo hi mx:Option Arg):SV->Option SV
 | .ptr o off=>if off=0 then oD c sz (.psl o sz 0 len (some len)) lo hi mx else none
 |_=>none
def ur(off:Nat):SV->Option SV
 | .ptr o k=>some (.ptr o (k+off))
 | .ap o sz i j=>some (.ap o sz i (j+off))
 | .pp cs=>some (.pp (cs.drop off))
 |_=>none
def xaE(off n:Nat)(ag:Bool):SV->Option SV
 | .agg cs=>gd (off+n<=cs.length) (dE ag n (cs.drop off))
 |_=>none
def pt(sz:Nat):SV->Option Int->Option SV
 | .byt l _,some n=>gd (0<=n/\n<l.length/\sz=1) (.pp [.u8 (l.getD n.toNat 0)])
 | .lst sz' xs _,some n=>gd (0<=n/\n<xs.length/\sz=sz') (.pp (xs.getD n.toNat []))
 | .psl o sz' off k _,some n=>gd (0<=n/\n<k/\sz=sz') (.ap o sz (off+n.toNat) 0)
 |_,_=>none
def pZ(len sz o off:Nat)(n:Int):Option aF->Option SV
 |some (.rc _)=>gd (0<=n/\n<len) (.ptr o (off+n.toNat*sz))
 |some _=>gd (off=0/\0<=n/\n<len) (.ap o sz n.toNat 0)
 |none=>none
def mU(c:CSt)(len sz:Nat):SV->Option Int->Option SV
 | .ptr o off,some n=>pZ len sz o off n (c.look o)
 | .pp cs,some n=>gd (0<=n/\n<len/\cs.length=len*sz) (.pp (cs.drop (n.toNat*sz)))
 |_,_=>none
def EK(len sz:Nat)(ag:Bool):SV->Option Int->Option SV
 | .agg cs,some n=>gd (0<=n/\n<len/\cs.length=len*sz) (dE ag sz (cs.drop (n.toNat*sz)))
 |_,_=>none
def EJ:SV->Option Int->Option SV
 | .str l,some n=>gd (0<=n/\n<l.length) (.u8 (l.getD n.toNat 0))
 |_,_=>none
def xaL(i:Nat):SV->Option SV
 | .tup vs=>gd (i<vs.length) (vs.getD i .undef)
 |_=>none
def lenC:Option Nat->Option SV
 |some n=>some (.int .i64 (n:Nat))
 |none=>none
def xaR:SV->Option SV
 | .psl _ _ _ _ (some m)=>some (.int .i64 m)
 | .byt l t=>if t= .clip then some (.int .i64 l.length)else none
 | .lst _ xs t=>if t= .clip then some (.int .i64 xs.length)else none
 |_=>none
def ED:SV->SV->Option SV
 | .int k a,.int k' b=>if k=k' then some (.int k (if b<a then b else a))else none
 |_,_=>none
def EE:SV->SV->Option SV
 | .int k a,.int k' b=>if k=k' then some (.int k (if a<b then b else a))else none
 |_,_=>none
def uw:Option (List SV)->Option SV
 |some l=>some (.agg l)
 |none=>none
def xau(sz:Nat):Option (List (List SV))->Option SV
 |some r=>some (.lst sz r .clip)
 |none=>none
def EF:Option (List UInt8)->Option SV
 |some r=>some (.byt r .clip)
 |none=>none
theorem xgi(x:Arg):cJ c (.mov x)=some (c.ev x):=rfl
theorem z8(z:List SV)(ps:List (Nat×Nat×Arg)):cJ c (.build z ps)=uw (iE z (psC c ps)):=by simp only[cJ];cases iE z (psC c ps)<;>rfl
theorem S9(sz:Nat)(xs:List Arg):cJ c (.lit sz xs)=xau sz (rows sz (evL c xs)):=by simp only[cJ];cases rows sz (evL c xs)<;>rfl
theorem G7(xs:List Arg):cJ c (.litB xs)=EF (toB (evL c xs)):=by simp only[cJ];cases toB (evL c xs)<;>rfl
theorem xcn(n:Nat)(ag:Bool)(a:Arg):cJ c (.load n ag a)=mB c n ag (c.ev a):=rfl
theorem xcj(x:Arg):cJ c (.nchk x)=EC (c.ev x):=rfl
theorem xgn(op:BinOp)(x y:Arg):cJ c (.bin op x y)=EZ op (c.ev x) (c.ev y):=rfl
theorem xgo(ne:Bool)(x y:Arg):cJ c (.beq ne x y)=xaT ne (c.ev x) (c.ev y):=rfl
theorem xgl(ne:Bool)(ts:List Nat)(x y:Arg):cJ c (.eqS ne ts x y)=xaN ne ts (c.ev x) (c.ev y):=rfl
theorem xlY(op:UnOp)(x:Arg):cJ c (.un op x)=wm op (c.ev x):=rfl
theorem Qo(q:IntKind)(x:Arg):cJ c (.toInt q x)=hJ q (c.ev x):=rfl
theorem Qn(x:Arg):cJ c (.toStr x)=tQ (c.ev x):=rfl
theorem xcp(ne:Bool)(x:Arg):cJ c (.isni ne x)=EH ne (c.ev x):=rfl
theorem xgh(x:Arg):cJ c (.s2b x)=Tg (c.ev x):=rfl
theorem xgp(x:Arg):cJ c (.b2s x)=xaU c (c.ev x):=rfl
theorem xck(f:Nat)(a b:List Arg):cJ c (.mkfn f a b)=some (.fn f (evL c a) (evL c b)):=rfl
theorem G6(x:Arg)(lo hi:Option Arg):cJ c (.slcS x lo hi)=Eh c lo hi (c.ev x):=by simp only[cJ];cases c.ev x<;>rfl
theorem xch(sz:Nat)(x:Arg)(lo hi mx:Option Arg):cJ c (.slcL sz x lo hi mx)=oD c sz (c.ev x) lo hi mx:=rfl
theorem xci(len sz:Nat)(x:Arg)(lo hi mx:Option Arg):cJ c (.slcA len sz x lo hi mx)=Ei c len sz lo hi mx (c.ev x):=rfl
theorem Qp(off:Nat)(x:Arg):cJ c (.faddr off x)=ur off (c.ev x):=rfl
theorem xgj(off n:Nat)(ag:Bool)(x:Arg):cJ c (.fld off n ag x)=xaE off n ag (c.ev x):=rfl
theorem Fe(sz:Nat)(x i:Arg):cJ c (.iaddrL sz x i)=pt sz (c.ev x) (c.ev i).num:=rfl
theorem uS(len sz:Nat)(x i:Arg):cJ c (.iaddrA len sz x i)=mU c len sz (c.ev x) (c.ev i).num:=by simp only[cJ];unfold mU pZ;rfl
theorem xcr(len sz:Nat)(ag:Bool)(x i:Arg):cJ c (.idxA len sz ag x i)=EK len sz ag (c.ev x) (c.ev i).num:=rfl
theorem xcq(x i:Arg):cJ c (.idxS x i)=EJ (c.ev x) (c.ev i).num:=rfl
theorem xgk(x:Arg)(i:Nat):cJ c (.ext x i)=xaL i (c.ev x):=rfl
theorem Ta(b:Bool)(x:Arg):cJ c (.len b x)=lenC (jJ b (c.ev x)):=by simp only[cJ];cases jJ b (c.ev x)<;>rfl
theorem xco(n:Nat):cJ c (.lenC n)=some (.int .i64 n):=rfl
theorem xgm(x:Arg):cJ c (.cap x)=xaR (c.ev x):=rfl
theorem xcl(x y:Arg):cJ c (.mini x y)=ED (c.ev x) (c.ev y):=rfl
theorem xcm(x y:Arg):cJ c (.maxi x y)=EE (c.ev x) (c.ev y):=rfl
def SOp.pure:SOp->Bool
 | .new _| .box _| .mk _ _ _ _| .mkB _ _| .store _ _ _| .app _ _ _ _| .cpy _ _ _| .pick _ _ _| .call _ _| .isnil _ _| .newB _| .slid _=>false
 |_=>true
theorem rP{so:SOp}(h:so.pure=true):eh c d so=z6 (cJ c so):=by
 cases so<;>first|cases h;done|rfl|exact Ql _
theorem bY{so:SOp}(h:so.pure=true):opC call sg c d so=fD c d (cJ c so):=by
 have h1:opC call sg c d so=oE c d (eh c d so):=by cases so<;>first|rfl|cases h
 rw[h1];exact qj (rP h)
theorem xig(x:Arg):opC call sg c d (.mov x)=fD c d (some (c.ev x)):=bY rfl
theorem RF(z:List SV)(ps:List (Nat×Nat×Arg)):opC call sg c d (.build z ps)=fD c d (uw (iE z (psC c ps))):=(bY rfl).trans (by rw[z8])
theorem xii(sz:Nat)(xs:List Arg):opC call sg c d (.lit sz xs)=fD c d (xau sz (rows sz (evL c xs))):=(bY rfl).trans (by rw[S9])
theorem xeH(xs:List Arg):opC call sg c d (.litB xs)=fD c d (EF (toB (evL c xs))):=(bY rfl).trans (by rw[G7])
theorem xeG(n:Nat)(ag:Bool)(a:Arg):opC call sg c d (.load n ag a)=fD c d (mB c n ag (c.ev a)):=bY rfl
theorem xeC(x:Arg):opC call sg c d (.nchk x)=fD c d (EC (c.ev x)):=bY rfl
theorem xiq(op:BinOp)(x y:Arg):opC call sg c d (.bin op x y)=fD c d (EZ op (c.ev x) (c.ev y)):=bY rfl
theorem xir(ne:Bool)(x y:Arg):opC call sg c d (.beq ne x y)=fD c d (xaT ne (c.ev x) (c.ev y)):=bY rfl
theorem xim(ne:Bool)(ts:List Nat)(x y:Arg):opC call sg c d (.eqS ne ts x y)=fD c d (xaN ne ts (c.ev x) (c.ev y)):=bY rfl
theorem xml(op:UnOp)(x:Arg):opC call sg c d (.un op x)=fD c d (wm op (c.ev x)):=bY rfl
theorem Rz(q:IntKind)(x:Arg):opC call sg c d (.toInt q x)=fD c d (hJ q (c.ev x)):=bY rfl
theorem Ry(x:Arg):opC call sg c d (.toStr x)=fD c d (tQ (c.ev x)):=bY rfl
theorem xeB(xs:List Arg):opC call sg c d (.newB xs)=oi c d (toB (evL c xs)):=rfl
theorem xew(x:Arg):opC call sg c d (.slid x)=qZ c d (c.ev x):=rfl
theorem xb(k:Nat)(l:List UInt8):oi c (some k) (some l)=some (CSt.app c (some k) {val:= .psl (k+100) 1 0 l.length (some l.length),new:=some (.bar l)}):=rfl
theorem Dd(o off n:Nat)(cap:Option Nat):qZ c d (.psl o 1 off n cap)=oX c d o off n cap (c.look o):=rfl
theorem De(o off n:Nat)(cap:Option Nat)(l:List UInt8):oX c d o off n cap (some (.bar l))=if off+n<=l.length/\cap=some n then some (((c.publish o []).1).put d (.byt ((l.drop off).take n) .clip))else none:=rfl
theorem xeJ(ne:Bool)(x:Arg):opC call sg c d (.isni ne x)=fD c d (EH ne (c.ev x)):=bY rfl
theorem xie(x:Arg):opC call sg c d (.s2b x)=fD c d (Tg (c.ev x)):=bY rfl
theorem xis(x:Arg):opC call sg c d (.b2s x)=fD c d (xaU c (c.ev x)):=bY rfl
theorem xeD(f:Nat)(a b:List Arg):opC call sg c d (.mkfn f a b)=fD c d (some (.fn f (evL c a) (evL c b))):=bY rfl
theorem xex(x:Arg)(lo hi:Option Arg):opC call sg c d (.slcS x lo hi)=fD c d (Eh c lo hi (c.ev x)):=(bY rfl).trans (by rw[G6])
theorem xey(sz:Nat)(x:Arg)(lo hi mx:Option Arg):opC call sg c d (.slcL sz x lo hi mx)=fD c d (oD c sz (c.ev x) lo hi mx):=bY rfl
theorem xez(len sz:Nat)(x:Arg)(lo hi mx:Option Arg):opC call sg c d (.slcA len sz x lo hi mx)=fD c d (Ei c len sz lo hi mx (c.ev x)):=bY rfl
theorem RE(off:Nat)(x:Arg):opC call sg c d (.faddr off x)=fD c d (ur off (c.ev x)):=bY rfl
theorem xik(off n:Nat)(ag:Bool)(x:Arg):opC call sg c d (.fld off n ag x)=fD c d (xaE off n ag (c.ev x)):=bY rfl
theorem F9(sz:Nat)(x i:Arg):opC call sg c d (.iaddrL sz x i)=fD c d (pt sz (c.ev x) (c.ev i).num):=bY rfl
theorem Ga(len sz:Nat)(x i:Arg):opC call sg c d (.iaddrA len sz x i)=fD c d (mU c len sz (c.ev x) (c.ev i).num):=(bY rfl).trans (by rw[uS])
theorem xeL(len sz:Nat)(ag:Bool)(x i:Arg):opC call sg c d (.idxA len sz ag x i)=fD c d (EK len sz ag (c.ev x) (c.ev i).num):=bY rfl
theorem xeK(x i:Arg):opC call sg c d (.idxS x i)=fD c d (EJ (c.ev x) (c.ev i).num):=bY rfl
theorem xil(x:Arg)(i:Nat):opC call sg c d (.ext x i)=fD c d (xaL i (c.ev x)):=bY rfl
theorem xij(b:Bool)(x:Arg):opC call sg c d (.len b x)=fD c d (lenC (jJ b (c.ev x))):=(bY rfl).trans (by rw[Ta])
theorem xeI(n:Nat):opC call sg c d (.lenC n)=fD c d (some (.int .i64 n)):=bY rfl
theorem xio(x:Arg):opC call sg c d (.cap x)=fD c d (xaR (c.ev x)):=bY rfl
theorem xeE(x y:Arg):opC call sg c d (.mini x y)=fD c d (ED (c.ev x) (c.ev y)):=bY rfl
theorem xeF(x y:Arg):opC call sg c d (.maxi x y)=fD c d (EE (c.ev x) (c.ev y)):=bY rfl
def Ez(a b:SV):SV->Option SV
 | .bool t=>some (iq t a b)
 |_=>none
theorem xfr(q a b:Arg):eh c d (.pick q a b)=z6 (Ez (c.ev a) (c.ev b) (c.ev q)):=by simp only[eh];cases c.ev q<;>rfl
theorem xeA(q a b:Arg):opC call sg c d (.pick q a b)=fD c d (Ez (c.ev a) (c.ev b) (c.ev q)):=qj (xfr q a b)
def uo(ne:Bool):SV->Option SV
 | .byt l _=>gd (l≠ []) (.bool ne)
 | .lst _ xs _=>gd (xs≠ []) (.bool ne)
 | .psl _ _ _ _ _=>some (.bool ne)
 |_=>none
theorem SA(ne:Bool)(x:Arg):eh c d (.isnil ne x)=z6 (uo ne (c.ev x)):=by simp only[eh];cases c.ev x<;>first|rfl|(simp only[uo];unfold gd;split<;>rfl)
theorem RD(ne:Bool)(x:Arg):opC call sg c d (.isnil ne x)=fD c d (uo ne (c.ev x)):=qj (SA ne x)
def CU(c:CSt)(k:Nat)(o:aF)(v:SV):CSt:=CSt.app c (some k) {val:=v,new:=some o}
theorem SZ(l:List (Nat×SV))(ob:List (Nat×aF))(t:List Nat)(o:aF)(v:SV):
 CU ⟨l,ob,t⟩ k o v=⟨jg (du (k+100) (k+101) l) k v,iH (bE (k+100) (k+101) ob) (k+100) (o.purge (k+100) (k+101)),cA (k+100) (k+101) t⟩:=rfl
def xlx(c:CSt)(k:Nat)(v:SV):Option aF->Option CSt
 |some o=>some (CU c k o v)
 |none=>none
theorem Ee(v:SV)(o:aF):xlx c k v (some o)=some (CU c k o v):=rfl
theorem xif(o:aF):opC call sg c (some k) (.new o)=xlx c k (.ptr (k+100) 0) (gd (o.wf=true) o):=by show oE c (some k) (gd _ _)=_;unfold gd;split<;>rfl
theorem xip(x:Arg):opC call sg c (some k) (.box x)=some (CU c k (.rc (c.ev x).cells) (.ptr (k+100) 0)):=rfl
def mkE(bytes:Nat):SV->SV->Option (Nat×Nat)
 | .int _ n,.int _ m=>gd (0<=n/\n<=m/\bytes*m<=140737488355328/\m<=9223372036854775807) (n.toNat,m.toNat)
 |_,_=>none
def mkS(c:CSt)(k:Nat)(z:List SV):Option (Nat×Nat)->Option CSt
 |some p=>some (CU c k (.arr z.length (aq p.2 z)) (.psl (k+100) z.length 0 p.1 (some p.2)))
 |none=>none
theorem xmm(z:List SV)(bytes:Nat)(n m:Arg):opC call sg c (some k) (.mk z bytes n m)=mkS c k z (mkE bytes (c.ev n) (c.ev m)):=by show oE c (some k) (eh c (some k) (.mk z bytes n m))=_;simp only[eh];cases h1:c.ev n<;>cases h2:c.ev m<;>first|rfl|(simp only[mkE];unfold gd;split<;>rfl)
def xfG:SV->SV->Option (Nat×Nat)
 | .int _ n,.int _ m=>gd (0<=n/\n<=m/\m<=140737488355328) (n.toNat,m.toNat)
 |_,_=>none
def xla(c:CSt)(k:Nat):Option (Nat×Nat)->Option CSt
 |some p=>some (CU c k (.bar (aq p.2 0)) (.psl (k+100) 1 0 p.1 (some p.2)))
 |none=>none
theorem xih(n m:Arg):opC call sg c (some k) (.mkB n m)=xla c k (xfG (c.ev n) (c.ev m)):=by show oE c (some k) (eh c (some k) (.mkB n m))=_;simp only[eh];cases h1:c.ev n<;>cases h2:c.ev m<;>first|rfl|(simp only[xfG];unfold gd;split<;>rfl)
def stC(c:CSt)(n:Nat)(v:List SV):SV->Option (Nat×aF)
 | .ptr o off=>match c.look o with
  |some (.rc cs)=>gd (off+n<=cs.length/\v.length=n/\v.all SV.one=true) (o,.rc (setCells cs off v))
  |some (.arr sz xs)=>gd (off=0/\n=xs.length*sz/\v.length=n/\v.all SV.isData=true) (o,.arr sz (jo sz xs.length (v.map SV.data)))
  |some (.bar l)=>match toB v with
   |some l'=>gd (off=0/\n=l.length/\l'.length=n) (o,.bar l')
   |none=>none
  |_=>none
 | .ap o sz i j=>match c.look o with
  |some (.arr sz' xs)=>gd (sz=sz'/\i<xs.length/\j+n<=sz/\v.length=n/\v.all SV.isData=true) (o,.arr sz' (eD sz xs i j n (v.map SV.data)))
  |some (.bar l)=>match v with
   |[.u8 b]=>gd (sz=1/\j=0/\n=1/\i<l.length) (o,.bar (l.set i b))
   |_=>none
  |_=>none
 |_=>none
def stS(c:CSt):Option (Nat×aF)->Option CSt
 |some p=>some ⟨c.tm,iH c.ob p.1 p.2,c.tk⟩
 |none=>none
theorem Fo(l:List (Nat×SV))(ob:List (Nat×aF))(t:List Nat)(p:Nat×aF):stS ⟨l,ob,t⟩ (some p)=some ⟨l,iH ob p.1 p.2,t⟩:=rfl
theorem Db(n:Nat)(v:List SV)(a:SV):kW c n v a=(stC c n v a).map fun p=> {val:= .undef,wr:=[p]}:=by
 cases a with
 |ptr o off=>
  simp only[kW,stC];cases c.look o with
  |none=>rfl
  |some ob=>
   cases ob with
   |rc cs=>simp only;unfold gd;split<;>rfl
   |arr sz' xs=>simp only;unfold gd;split<;>rfl
   |bar l=>simp only;cases toB v<;>first|rfl|(simp only;unfold gd;split<;>rfl)
 |ap o sz i j=>
  simp only[kW,stC];cases c.look o with
  |none=>rfl
  |some ob=>
   cases ob with
   |rc cs=>rfl
   |arr sz' xs=>simp only;unfold gd;split<;>rfl
   |bar l=>
    rcases v with _|⟨u,_|⟨u2,r⟩⟩
    ·rfl
    ·cases u<;>first|rfl|(simp only;unfold gd;split<;>rfl)
    ·cases u<;>rfl
 |_=>rfl
theorem RB(n:Nat)(a x:Arg):opC call sg c none (.store n a x)=if(c.ev x).isDef=true then stS c (stC c n (c.ev x).cells (c.ev a))else none:=by
 show oE c none (eh c none (.store n a x))=_;simp only[eh];split
 ·rw[Db];cases stC c n (c.ev x).cells (c.ev a)<;>rfl
 ·rfl
def apB(c:CSt)(k:Nat)(l:List UInt8)(t:Tok)(z:List SV)(bytes:Nat):Option (List UInt8)->Option CSt
 |some l'=>if z.length=1/\bytes=1/\t.readyC c=true/\l.length+l'.length<=140737488355328 then some (CSt.app c (some k) {val:= .byt (l++l') (.id (k+100)),eat:=t,tok:=true})else none
 |none=>none
def apL(c:CSt)(k:Nat)(sz':Nat)(l:List (List SV))(t:Tok)(z:List SV)(bytes:Nat):Option (List (List SV))->Option CSt
 |some l'=>if z.length=sz'/\t.readyC c=true/\(l.length+l'.length)*bytes<=140737488355328 then some (CSt.app c (some k) {val:= .lst z.length (l++l') (.id (k+100)),eat:=t,tok:=true})else none
 |none=>none
theorem SY(l:List (Nat×SV))(ob:List (Nat×aF))(t:List Nat)(v:SV)(e:Tok):
 CSt.app ⟨l,ob,t⟩ (some k) {val:=v,eat:=e,tok:=true}=⟨jg (du (k+100) (k+101) l) k v,bE (k+100) (k+101) ob,mN (cA (k+100) (k+101) (e.eat t)) (k+100)⟩:=rfl
def apS(c:CSt)(k:Nat)(z:List SV)(bytes:Nat)(y:SV):SV->Option CSt
 | .byt l t=>apB c k l t z bytes (fi c y)
 | .lst sz' l t=>apL c k sz' l t z bytes (gu c z.length y)
 |_=>none
theorem xit(z:List SV)(bytes:Nat)(x y:Arg):opC call sg c (some k) (.app z bytes x y)=apS c k z bytes (c.ev y) (c.ev x):=by
 show oE c (some k) (eh c (some k) (.app z bytes x y))=_;simp only[eh];cases c.ev x<;>try rfl
 ·simp only[apS]
  cases fi c (c.ev y)with
  |none=>rfl
  |some l'=>simp only[cT,apB];unfold gd;split<;>rfl
 ·simp only[apS]
  cases gu c z.length (c.ev y)with
  |none=>rfl
  |some l'=>simp only[cT,apL];unfold gd;split<;>rfl
def cpB(o off n:Nat)(sz sz':Nat)(l:List UInt8):Option (List UInt8)->Option (SV×Nat×aF)
 |some l'=>gd (sz=1/\sz'=1/\off+n<=l.length) (.int .i64 (min l'.length n:Nat),o,.bar (l.take off++l'.take n++l.drop (off+(l'.take n).length)))
 |none=>none
def cpL(b:Bool)(o off n:Nat)(sz sz' sz'':Nat)(xs:List (List SV)):Option (List (List SV))->Option (SV×Nat×aF)
 |some l'=>gd (b=true/\sz=sz'/\sz=sz''/\off+n<=xs.length) (.int .i64 (min l'.length n:Nat),o,.arr sz (xs.take off++l'.take n++xs.drop (off+(l'.take n).length)))
 |none=>none
def cp2(b:Bool)(c:CSt)(sz o sz' off n:Nat)(y:SV):Option aF->Option (SV×Nat×aF)
 |some (.bar l)=>cpB o off n sz sz' l (fi c y)
 |some (.arr sz'' xs)=>cpL b o off n sz sz' sz'' xs (gu c sz y)
 |_=>none
def cpC(b:Bool)(c:CSt)(sz:Nat)(y:SV):SV->Option (SV×Nat×aF)
 | .psl o sz' off n _=>cp2 b c sz o sz' off n y (c.look o)
 |_=>none
def cpS(c:CSt)(d:Option Nat):Option (SV×Nat×aF)->Option CSt
 |some p=>some (CSt.put ⟨c.tm,iH c.ob p.2.1 p.2.2,c.tk⟩ d p.1)
 |none=>none
theorem xin(sz:Nat)(x y:Arg):opC call sg c d (.cpy sz x y)=cpS c d (cpC y.isT c sz (c.ev y) (c.ev x)):=by
 show oE c d (eh c d (.cpy sz x y))=_;simp only[eh];cases c.ev x<;>try rfl
 rename_i o sz' off n cap;simp only[cpC];cases c.look o with
 |none=>rfl
 |some ob=>
  cases ob with
  |rc cs=>rfl
  |bar l=>
   simp only[cp2];cases fi c (c.ev y)with
   |none=>rfl
   |some l'=>simp only[cT,cpB];unfold gd;split<;>rfl
  |arr sz'' xs=>
   simp only[cp2];cases gu c sz (c.ev y)with
   |none=>rfl
   |some l'=>simp only[cT,cpL];unfold gd;split<;>rfl
def PD(call:db)(sg:Nat->Sig)(c:CSt)(d:Option Nat)(as:List SV):SV->Option CSt
 | .fn g a b=>ig call (sg g) c d g (a++as++b)
 |_=>none
theorem xeM(f:Arg)(as:List Arg):opC call sg c d (.call f as)=PD call sg c d (evL c as) (c.ev f):=by simp only[opC];unfold PD;rfl
theorem xcE(o:SOp):dR call sg c ⟨d,none,o⟩=opC call sg c d o:=rfl
theorem xdM(g:Option (Nat×Bool))(o:SOp)(r:List SI):plC call sg (⟨d,g,o⟩::r) c=nxP call sg r (opC call sg c d o):=by rw[plC]
theorem Cu:fF call sg [] c=some c:=by rw[fF]
theorem Ok(i:SI)(dead:List Nat)(r:List RI):fF call sg (.op i dead::r) c=nxC call sg dead r (dR call sg c i):=by rw[fF]
theorem Cv(g:Nat)(b:Bool)(l:List SI)(dead:List Nat)(r:List RI):fF call sg (.grp g b l dead::r) c=nxC call sg dead r (pw call sg b l c (c.get g)):=by rw[fF]
theorem Cs(i:SI)(dead:List Nat)(r:List RI):fF call sg (.tks i dead::r) c=nxC call sg dead r (Ab c i):=by rw[fF]
theorem Qx(d:Option Nat)(x:Arg):Ab c ⟨d,none,.s2b x⟩=Qy c d (c.ev x):=rfl
theorem xcu(k:Nat)(l:List UInt8):Qy c (some k) (.str l)=some (CSt.app c (some k) {val:= .byt l (.id (k+100)),tok:=true}):=rfl
theorem Ct(i:SI)(dead:List Nat)(r:List RI):fF call sg (.own i dead::r) c=nxC call sg dead r (sU c i):=by rw[fF]
theorem Ro(d:Option Nat)(x:Arg):sU c ⟨d,none,.s2b x⟩=Rt c d (c.ev x):=rfl
theorem Rp(d:Option Nat)(sz:Nat)(xs:List Arg):sU c ⟨d,none,.lit sz xs⟩=Rr c sz d (rows sz (evL c xs)):=rfl
theorem F8(d:Option Nat)(xs:List Arg):sU c ⟨d,none,.litB xs⟩=oi c d (toB (evL c xs)):=rfl
theorem Rq(d:Option Nat)(z:List SV)(b:Nat)(x y:Arg):sU c ⟨d,none,.app z b x y⟩=Rs c d z b y (c.ev x):=rfl
theorem Cw(q:Dir)(r:List RI):fF call sg (.dir q::r) c=nxC call sg [] r (qQ c q):=by rw[fF]
theorem ld(dead:List Nat)(r:List RI):nxC call sg dead r (some c)=fF call sg r (c.kill dead):=by rw[nxC]
theorem lf(dead:List Nat)(r:List RI):nxC call sg dead r none=none:=by rw[nxC]
theorem Oh:plC call sg [] c=some c:=by rw[plC]
theorem CA(r:List SI):nxP call sg r (some c)=plC call sg r c:=by rw[nxP]
theorem CB(r:List SI):nxP call sg r none=none:=by rw[nxP]
theorem xcs:unL c []=c:=rfl
theorem Qq(g:Option (Nat×Bool))(o:SOp)(r:List SI):unL c (⟨d,g,o⟩::r)=unL (c.put d (.tup [])) r:=rfl
theorem xiN(b:Bool)(l:List SI):pw call sg b l c (.tup [])=some (unL c l):=rfl
theorem xiO(b t:Bool)(l:List SI):pw call sg b l c (.bool t)=if t=b then plC call sg l c else some (unL c l):=rfl
theorem xeN(dead:List Nat)(r:List RI)(p:Prop)[Decidable p](a b:Option CSt):nxC call sg dead r (if p then a else b)=if p then nxC call sg dead r a else nxC call sg dead r b:=by split<;>rfl
theorem xeV(p:Prop)[Decidable p](l l':List (Nat×SV))(o:List (Nat×aF))(t:List Nat):(if p then some (CSt.mk l o t)else some (CSt.mk l' o t))=some (CSt.mk (if p then l else l') o t):=by split<;>rfl
theorem xeU(p:Prop)[Decidable p](n:Nat)(v w:SV)(l l':List (Nat×SV)):(if p then(n,v)::l else(n,w)::l')=(n,if p then v else w)::(if p then l else l'):=by split<;>rfl
theorem RU(p:Prop)[Decidable p]:(if p then([]:List (Nat×SV))else [])=[]:=by split<;>rfl
theorem Gp{α:Type}(p:Prop)[Decidable p](a:α):(if p then a else a)=a:=by split<;>rfl
theorem Gn(p:Prop)[Decidable p](q:IntKind)(a b:Int):(if p then SV.int q a else SV.int q b)= .int q (if p then a else b):=by split<;>rfl
theorem DN(p:Prop)[Decidable p](a b:Bool):(if p then SV.bool a else SV.bool b)= .bool (if p then a else b):=by split<;>rfl
theorem RT(p:Prop)[Decidable p](a b:UInt8):(if p then SV.u8 a else SV.u8 b)= .u8 (if p then a else b):=by split<;>rfl
theorem DP(t a b:Bool):iq t (.bool a) (.bool b)= .bool (if t=true then a else b):=by cases t<;>rfl
theorem Gq(t:Bool)(q:IntKind)(a b:Int):iq t (.int q a) (.int q b)= .int q (if t=true then a else b):=by cases t<;>rfl
theorem RW(t:Bool)(a b:UInt8):iq t (.u8 a) (.u8 b)= .u8 (if t=true then a else b):=by cases t<;>rfl
theorem DO(a b:SV):iq true a b=a:=rfl
theorem xh(a b:SV):iq false a b=b:=rfl
variable {rn : RC -> CSt -> gI}
theorem Gc(dead:List Nat):nrm dead (some c)=some (.n,c.kill dead):=rfl
theorem Gd(dead:List Nat):nrm dead none=none:=rfl
theorem RL(dead:List Nat)(p:Prop)[Decidable p](a b:Option CSt):nrm dead (if p then a else b)=if p then nrm dead a else nrm dead b:=by split<;>rfl
theorem xl2(b:RC):sq rn b (some (.n,c))=rn b c:=rfl
theorem xl0(b:RC)(id:Nat):sq rn b (some (.x id,c))=some (.x id,c):=rfl
theorem xl1(b:RC):sq rn b (some (.r,c))=some (.r,c):=rfl
theorem QA(b:RC):sq rn b none=none:=rfl
theorem xcz(b:RC)(p:Prop)[Decidable p](x y:gI):sq rn b (if p then x else y)=if p then sq rn b x else sq rn b y:=by split<;>rfl
theorem xiS(a b:RC)(t:Bool):cnd rn a b c (.bool t)=if t=true then rn a c else rn b c:=rfl
theorem xiW(id:Nat):blk id (some (.n,c))=some (.n,c):=rfl
theorem xiV(id:Nat):blk id (some (.r,c))=some (.r,c):=rfl
theorem xiU(id id':Nat):blk id (some (.x id',c))=if id'=id then some (.n,c)else some (.x id',c):=rfl
theorem GZ(id:Nat):blk id none=none:=rfl
theorem SN(id:Nat)(p:Prop)[Decidable p](x y:gI):blk id (if p then x else y)=if p then blk id x else blk id y:=by split<;>rfl
theorem xms(b:RC):lp rn b (some (.n,c))=rn (.loop b) c:=rfl
theorem xmq(b:RC)(id:Nat):lp rn b (some (.x id,c))=some (.x id,c):=rfl
theorem xmr(b:RC):lp rn b (some (.r,c))=some (.r,c):=rfl
theorem RN(b:RC):lp rn b none=none:=rfl
theorem xeQ(b:RC)(p:Prop)[Decidable p](x y:gI):lp rn b (if p then x else y)=if p then lp rn b x else lp rn b y:=by split<;>rfl
theorem F1(a:RC):prD rn a (some c)=rn a c:=rfl
theorem xgS(ds:List Dir):psD ds (some (.n,c))=prD (fun _ c=>some (.n,c)) .skip (ix c ds):=by simp only[psD];cases ix c ds<;>rfl
theorem xgQ(ds:List Dir)(id:Nat):psD ds (some (.x id,c))=some (.x id,c):=rfl
theorem xgR(ds:List Dir):psD ds (some (.r,c))=some (.r,c):=rfl
theorem F0(ds:List Dir):psD ds none=none:=rfl
theorem Rn(ds:List Dir)(p:Prop)[Decidable p](x y:gI):psD ds (if p then x else y)=if p then psD ds x else psD ds y:=by split<;>rfl
theorem GK:ix c []=some c:=rfl
def xlv(ds:List Dir):Option CSt->Option CSt
 |some c=>ix c ds
 |none=>none
theorem D8(q:Dir)(ds:List Dir):ix c (q::ds)=xlv ds (qQ c q):=by simp only[ix];cases qQ c q<;>rfl
theorem D9(ds:List Dir):xlv ds (some c)=ix c ds:=rfl
theorem xiQ(F:FnC)(n:Nat):EX F n (some (.n,c))=Oz F.keep F.raw n c (ru c F.rs):=rfl
theorem xiP(F:FnC)(n:Nat):EX F n (some (.r,c))=Oz F.keep F.raw n c (ru c F.rs):=rfl
theorem Sd(F:FnC)(n:Nat)(p:Prop)[Decidable p](x y:gI):EX F n (if p then x else y)=if p then EX F n x else EX F n y:=by split<;>rfl
theorem GV(sg:Sig)(g:Nat)(as:List SV):ig call sg c d g as=jK call sg c d g as ((SV.idsL as).isEmpty&&sg.own.isEmpty):=rfl
theorem SK(sg:Sig)(g:Nat)(as:List SV):jK call sg c d g as true=mD c d (call g (SV.bareL as) [] 0):=rfl
theorem SL(sg:Sig)(g:Nat)(as:List SV):jK call sg c d g as false=jE call sg d g (eW c as (iN sg.raw 0 as)):=rfl
theorem Sf(q:ej):mD c d (some q)=ol c d q q.bare:=rfl
theorem Sh(q:ej):ol c d q true=some (c.put d q.r):=rfl
theorem Si(q:ej):ol c d q false=xz c d q q.small:=rfl
theorem Sg(q:ej):xz c d q true=some (jL c d [] [] q):=rfl
theorem SR(r:SV)(os:List (Nat×aF))(tk:List Nat):(ej.mk r os tk).bare=(os.isEmpty&&tk.isEmpty&&r.ids.isEmpty&&r.toks.isEmpty):=rfl
theorem Fp(r:SV)(os:List (Nat×aF))(tk:List Nat):(ej.mk r os tk).small=(os.all (fun p=>decide (p.1<1000)&&p.2.ids.all (fun k=>decide (k<1000))&&p.2.toks.all (fun k=>decide (k<1000)))&&r.ids.all (fun k=>decide (k<1000))&&r.toks.all (fun k=>decide (k<1000))&&tk.all (fun k=>decide (k<1000))):=rfl
theorem QB(sg:Sig)(g:Nat)(as:List SV):jE call sg d g (c,as)=oa call c d g (jO c.tk sg.own 50 0 as):=rfl
theorem QH(g:Nat)(as:List SV)(mt1:List (Option Nat)):oa call c d g (as,mt1)=lB call c d g as mt1 (dJ c 60 [] (SV.idsL as)) (gw c (dJ c 60 [] (SV.idsL as))):=rfl
theorem QG(g:Nat)(as:List SV)(mt1:List (Option Nat))(m:List Nat)(os:List aF):lB call c d g as mt1 m (some os)=nZ call c d g as mt1 m (ec c.tk (50+mt1.length) os):=rfl
theorem QF(g:Nat)(as:List SV)(mt1:List (Option Nat))(m:List Nat)(os:List aF)(mt2:List (Option Nat)):nZ call c d g as mt1 m (os,mt2)=
 nY call c d g as mt1 m os mt2 (oP (SV.idsL as++fE os) m&&dD m&&dD (cz (mt1++mt2))&&decide (m.length<=40)&&m.all fun o=> !inR (d.getD 0) o):=rfl
theorem QE(g:Nat)(as:List SV)(mt1:List (Option Nat))(m:List Nat)(os:List aF)(mt2:List (Option Nat)):nY call c d g as mt1 m os mt2 true=
 oW c d m (cz (mt1++mt2)) (call g (SV.renL (gC m) id as) (eu (gC m) id os) (mt1.length+mt2.length)):=rfl
theorem QD(m mt:List Nat)(q:ej):oW c d m mt (some q)=wD c d m mt q q.small:=rfl
theorem QC(m mt:List Nat)(q:ej):wD c d m mt q true=some (jL c d m mt q):=rfl
theorem xfb(keep raw:List Nat)(vs:List SV):Oz keep raw k c (some vs)=Se keep k (eW c vs (iN raw 0 vs)):=rfl
theorem xe4(keep:List Nat)(vs:List SV):Se keep k (c,vs)=Oy keep k c vs (decide (k=0)&&(SV.idsL vs).isEmpty&&keep.isEmpty):=rfl
theorem xe9(keep:List Nat)(vs:List SV):Oy keep k c vs true=some ⟨jh (SV.bareL vs),[],[]⟩:=rfl
theorem xfa(keep:List Nat)(vs:List SV):Oy keep k c vs false=xaI k c (jO c.tk keep 60 0 vs):=rfl
theorem xe8(vs:List SV)(mt1:List (Option Nat)):xaI k c (vs,mt1)=xaH k c vs mt1 (dJ c 60 [] (ke k++SV.idsL vs)) (gw c (dJ c 60 [] (ke k++SV.idsL vs))):=rfl
theorem xe7(vs:List SV)(mt1:List (Option Nat))(m:List Nat)(os:List aF):xaH k c vs mt1 m (some os)=xaG k vs mt1 m (ec c.tk (60+mt1.length) os):=rfl
theorem xe6(vs:List SV)(mt1:List (Option Nat))(m:List Nat)(os:List aF)(mt2:List (Option Nat)):xaG k vs mt1 m (os,mt2)=
 xaF k vs mt1 m os mt2 (oP (SV.idsL vs++fE os) m&&dD m&&dD (cz (mt1++mt2))&&decide (m.take k=ke k)&&(m.drop k).all fun o=>decide (k<=o)):=rfl
theorem xe5(vs:List SV)(mt1:List (Option Nat))(m:List Nat)(os:List aF)(mt2:List (Option Nat)):xaF k vs mt1 m os mt2 true=
 some ⟨(jh vs).ren (gP k m) id,(fR 0 (eu (gP k m) id (os.take k)))++(fR (100+k) (eu (gP k m) id (os.drop k))),tks 60 (mt1.length+mt2.length)⟩:=rfl
theorem Rw(v:SV):jh [v]=v:=rfl
theorem Rv(v w:SV)(r:List SV):jh (v::w::r)= .tup (v::w::r):=rfl
theorem Rx:jh []= .tup []:=rfl
theorem FA(raw:List Nat)(i:Nat)(q:IntKind)(n:Int):mK raw i (.int q n)=[]:=rfl
theorem Dh(raw:List Nat)(i:Nat)(b:Bool):mK raw i (.bool b)=[]:=rfl
theorem QK(raw:List Nat)(i:Nat)(b:UInt8):mK raw i (.u8 b)=[]:=rfl
theorem Fu(raw:List Nat)(i:Nat)(l:List UInt8):mK raw i (.str l)=[]:=rfl
theorem FB(raw:List Nat)(i:Nat)(l:List UInt8)(t:Tok):mK raw i (.byt l t)=[]:=rfl
theorem Fx(raw:List Nat)(i sz:Nat)(l:List (List SV))(t:Tok):mK raw i (.lst sz l t)=[]:=rfl
theorem Df(raw:List Nat)(i:Nat):mK raw i .nilp=[]:=rfl
theorem Dg(raw:List Nat)(i:Nat):mK raw i .nili=[]:=rfl
theorem wH(raw:List Nat)(i:Nat):mK raw i .undef=[]:=rfl
theorem QL(raw:List Nat)(i:Nat)(l:List SV):mK raw i (.pp l)=[]:=rfl
theorem Fv(raw:List Nat)(i o off:Nat):mK raw i (.ptr o off)=[]:=rfl
theorem QN(raw:List Nat)(i o sz a b:Nat):mK raw i (.ap o sz a b)=[]:=rfl
theorem FC(raw:List Nat)(i:Nat)(l:List SV):mK raw i (.agg l)=if raw.contains i=true then []else tU l:=rfl
theorem Dq:tU []=[]:=rfl
theorem wL(v:SV)(r:List SV):tU (v::r)=gM v++tU r:=rfl
theorem Dn(q:IntKind)(n:Int):gM (.int q n)=[]:=rfl
theorem wK(b:Bool):gM (.bool b)=[]:=rfl
theorem FD(b:UInt8):gM (.u8 b)=[]:=rfl
theorem Dj(l:List UInt8):gM (.str l)=[]:=rfl
theorem Do(l:List UInt8)(t:Tok):gM (.byt l t)=[]:=rfl
theorem Dm(sz:Nat)(l:List (List SV))(t:Tok):gM (.lst sz l t)=[]:=rfl
theorem wI:gM .nilp=[]:=rfl
theorem wJ:gM .nili=[]:=rfl
theorem uL:gM .undef=[]:=rfl
theorem FE(l:List SV):gM (.pp l)=[]:=rfl
theorem Dk(o off:Nat):gM (.ptr o off)=[]:=rfl
theorem FG(o sz a b:Nat):gM (.ap o sz a b)=[]:=rfl
theorem Dp(l:List SV):gM (.agg l)=[]:=rfl
theorem Di(l:List SV):gM (.tup l)=[]:=rfl
theorem FF(f:Nat)(a b:List SV):gM (.fn f a b)=[]:=rfl
theorem Dl(o sz off n:Nat)(m:Option Nat):gM (.psl o sz off n m)=[o]:=rfl
theorem Ft(raw:List Nat)(i:Nat)(l:List SV):mK raw i (.tup l)=[]:=rfl
theorem QM(raw:List Nat)(i f:Nat)(a b:List SV):mK raw i (.fn f a b)=[]:=rfl
theorem Fw(raw:List Nat)(i o sz off n:Nat)(m:Option Nat):mK raw i (.psl o sz off n m)=if raw.contains i=true then []else [o]:=rfl
theorem R4(p:Prop)[Decidable p](a b v:SV):iq (decide p) (if p then a else b) v=iq (decide p) a v:=by by_cases h:p<;>simp[iq,h]
theorem R3(p:Prop)[Decidable p](a b v:SV):iq (decide p) v (if ¬p then a else b)=iq (decide p) v a:=by by_cases h:p<;>simp[iq,h]
theorem RY(t:Bool)(a b v:SV):iq t (if t=true then a else b) v=iq t a v:=by cases t<;>simp[iq]
theorem RX(t:Bool)(a b v:SV):iq t v (if t=false then a else b)=iq t v a:=by cases t<;>simp[iq]
theorem R2(t:Bool)(a b v:SV):iq (!t) (if t=false then a else b) v=iq (!t) a v:=by cases t<;>simp[iq]
theorem RZ(t:Bool)(a b v:SV):iq (!t) v (if t=true then a else b)=iq (!t) v a:=by cases t<;>simp[iq]
theorem SQ(p q:Prop)[Decidable p][Decidable q]:(if p then decide q else false)=decide (p/\q):=by by_cases h:p<;>simp[h]
theorem xfz(p q:Prop)[Decidable p][Decidable q]:(if p then true else decide q)=decide (p\/q):=by by_cases h:p<;>simp[h]
theorem SU(v:SV):c.app d {val:=v}=c.put d v:=rfl
theorem SW(l:List (Nat×SV))(ob:List (Nat×aF))(t:List Nat)(o:aF)(v:SV):
 CSt.app ⟨l,ob,t⟩ (some k) {val:=v,new:=some o}=⟨jg (du (k+100) (k+101) l) k v,iH (bE (k+100) (k+101) ob) (k+100) (o.purge (k+100) (k+101)),cA (k+100) (k+101) t⟩:=rfl
theorem xfA(l:List (Nat×SV))(ob:List (Nat×aF))(t:List Nat)(v:SV)(p:Nat×aF):CSt.app ⟨l,ob,t⟩ d {val:=v,wr:=[p]}=CSt.put ⟨l,iH ob p.1 p.2,t⟩ d v:=rfl
theorem GQ(l:List (Nat×SV))(ob:List (Nat×aF))(t:List Nat)(p:SV×Nat×aF):cpS ⟨l,ob,t⟩ d (some p)=some (CSt.put ⟨l,iH ob p.2.1 p.2.2,t⟩ d p.1):=rfl
theorem Gf(z:List SV)(p:Nat×Nat):mkS c k z (some p)=some (CU c k (.arr z.length (aq p.2 z)) (.psl (k+100) z.length 0 p.1 (some p.2))):=rfl
theorem DH(p:Nat×Nat):xla c k (some p)=some (CU c k (.bar (aq p.2 0)) (.psl (k+100) 1 0 p.1 (some p.2))):=rfl
theorem xf6(x:Arg):dd c (.mov x)=some (c.ev x):=by simp only[dd];rw[xgi]
theorem P6(z:List SV)(ps:List (Nat×Nat×Arg)):dd c (.build z ps)=uw (iE z (psC c ps)):=by simp only[dd];rw[z8]
theorem xf7(sz:Nat)(xs:List Arg):dd c (.lit sz xs)=xau sz (rows sz (evL c xs)):=by simp only[dd];rw[S9]
theorem xcc(xs:List Arg):dd c (.litB xs)=EF (toB (evL c xs)):=by simp only[dd];rw[G7]
theorem xcb(n:Nat)(ag:Bool)(a:Arg):dd c (.load n ag a)=mB c n ag (c.ev a):=by simp only[dd];rw[xcn]
theorem xb7(x:Arg):dd c (.nchk x)=EC (c.ev x):=by simp only[dd];rw[xcj]
theorem xgd(op:BinOp)(x y:Arg):dd c (.bin op x y)=EZ op (c.ev x) (c.ev y):=by simp only[dd];rw[xgn]
theorem xge(ne:Bool)(x y:Arg):dd c (.beq ne x y)=xaT ne (c.ev x) (c.ev y):=by simp only[dd];rw[xgo]
theorem xgb(ne:Bool)(ts:List Nat)(x y:Arg):dd c (.eqS ne ts x y)=xaN ne ts (c.ev x) (c.ev y):=by simp only[dd];rw[xgl]
theorem xlU(op:UnOp)(x:Arg):dd c (.un op x)=wm op (c.ev x):=by simp only[dd];rw[xlY]
theorem P4(q:IntKind)(x:Arg):dd c (.toInt q x)=hJ q (c.ev x):=by simp only[dd];rw[Qo]
theorem P3(x:Arg):dd c (.toStr x)=tQ (c.ev x):=by simp only[dd];rw[Qn]
theorem xce(ne:Bool)(x:Arg):dd c (.isni ne x)=EH ne (c.ev x):=by simp only[dd];rw[xcp]
theorem xf5(x:Arg):dd c (.s2b x)=Tg (c.ev x):=by simp only[dd];rw[xgh]
theorem xgf(x:Arg):dd c (.b2s x)=xaU c (c.ev x):=by simp only[dd];rw[xgp]
theorem xb8(f:Nat)(a b:List Arg):dd c (.mkfn f a b)=some (.fn f (evL c a) (evL c b)):=by simp only[dd];rw[xck]
theorem xb3(x:Arg)(lo hi:Option Arg):dd c (.slcS x lo hi)=Eh c lo hi (c.ev x):=by simp only[dd];rw[G6]
theorem xb4(sz:Nat)(x:Arg)(lo hi mx:Option Arg):dd c (.slcL sz x lo hi mx)=oD c sz (c.ev x) lo hi mx:=by simp only[dd];rw[xch]
theorem xb5(len sz:Nat)(x:Arg)(lo hi mx:Option Arg):dd c (.slcA len sz x lo hi mx)=Ei c len sz lo hi mx (c.ev x):=by simp only[dd];rw[xci]
theorem P5(off:Nat)(x:Arg):dd c (.faddr off x)=ur off (c.ev x):=by simp only[dd];rw[Qp]
theorem xf9(off n:Nat)(ag:Bool)(x:Arg):dd c (.fld off n ag x)=xaE off n ag (c.ev x):=by simp only[dd];rw[xgj]
theorem E7(sz:Nat)(x i:Arg):dd c (.iaddrL sz x i)=pt sz (c.ev x) (c.ev i).num:=by simp only[dd];rw[Fe]
theorem E8(len sz:Nat)(x i:Arg):dd c (.iaddrA len sz x i)=mU c len sz (c.ev x) (c.ev i).num:=by simp only[dd];rw[uS]
theorem xcg(len sz:Nat)(ag:Bool)(x i:Arg):dd c (.idxA len sz ag x i)=EK len sz ag (c.ev x) (c.ev i).num:=by simp only[dd];rw[xcr]
theorem xcf(x i:Arg):dd c (.idxS x i)=EJ (c.ev x) (c.ev i).num:=by simp only[dd];rw[xcq]
theorem xga(x:Arg)(i:Nat):dd c (.ext x i)=xaL i (c.ev x):=by simp only[dd];rw[xgk]
theorem xf8(b:Bool)(x:Arg):dd c (.len b x)=lenC (jJ b (c.ev x)):=by simp only[dd];rw[Ta]
theorem xcd(n:Nat):dd c (.lenC n)=some (.int .i64 n):=by simp only[dd];rw[xco]
theorem xgc(x:Arg):dd c (.cap x)=xaR (c.ev x):=by simp only[dd];rw[xgm]
theorem xb9(x y:Arg):dd c (.mini x y)=ED (c.ev x) (c.ev y):=by simp only[dd];rw[xcl]
theorem xca(x y:Arg):dd c (.maxi x y)=EE (c.ev x) (c.ev y):=by simp only[dd];rw[xcm]
theorem xb6(q a b:Arg):dd c (.pick q a b)=Ez (c.ev a) (c.ev b) (c.ev q):=by simp only[dd];cases c.ev q<;>rfl
theorem xmf(o:SOp):qv c ⟨d,none,o⟩=dd c o:=rfl
theorem xme(g:Nat)(b:Bool)(o:SOp):qv c ⟨d,some (g,b),o⟩=qg c o b (c.get g):=rfl
theorem xmh(b t:Bool)(o:SOp):qg c o b (.bool t)=if t=b then dd c o else some (.tup []):=rfl
theorem xmg(b:Bool)(o:SOp):qg c o b (.tup [])=some (.tup []):=rfl
def stG(call:db)(sg:Nat->Sig)(c:CSt)(d:Option Nat)(o:SOp)(b:Bool):SV->Option CSt
 | .bool t=>if t=b then opC call sg c d o else some (c.put d (.tup []))
 | .tup []=>some (c.put d (.tup []))
 |_=>none
theorem xcD(g:Nat)(b:Bool)(o:SOp):dR call sg c ⟨d,some (g,b),o⟩=stG call sg c d o b (c.get g):=by unfold dR stG;rfl
theorem xgr(b t:Bool)(o:SOp):stG call sg c d o b (.bool t)=if t=b then opC call sg c d o else some (c.put d (.tup [])):=rfl
theorem xgq(b:Bool)(o:SOp):stG call sg c d o b (.tup [])=some (c.put d (.tup [])):=rfl
theorem xe2(b:List Nat)(ps:List FI):fd call sg b [] ps c=some c:=by rw[fd]
theorem xmU(b:List Nat)(n:Nat)(i:SI)(r ps:List FI):fd call sg b (⟨n,true,i⟩::r) ps c=vJ call sg b r (⟨n,true,i⟩::ps) c i.dst (qv c i):=by rw[fd]
theorem xmV(b:List Nat)(n:Nat)(i:SI)(r ps:List FI):fd call sg b (⟨n,false,i⟩::r) ps c=qM call sg b r ps (b.getD n 0) (dR call sg c i):=by rw[fd]
theorem xmS(b:List Nat)(r ps:List FI)(v:SV):vJ call sg b r ps c d (some v)=fd call sg b r ps (c.put d v):=by rw[vJ]
theorem xmT(b:List Nat)(r ps:List FI)(m:Nat):qM call sg b r ps m (some c)=qN call sg b r ps (gdP (s9 m c ps) c):=by rw[qM]
theorem xmX(b:List Nat)(r ps:List FI):qN call sg b r ps (some c)=fd call sg b r ps c:=by rw[qN]
theorem R8{α:Type}{p:Prop}(v:α)(h:p):gdP p v=some v:=by unfold gdP;exact if_pos h
theorem xiZ(b:List Nat)(l:List FI)(p:List Nat):iV call sg b l [p] c=fd call sg b (iz l p) [] c:=by rw[iV]
theorem xiY(b:List Nat)(l:List FI)(p q:List Nat)(r:List (List Nat)):iV call sg b l (p::q::r) c=ov (fd call sg b (iz l p) [] c) (iV call sg b l (q::r) c):=by rw[iV]
theorem xnJ(a a':CSt):ov (some a) (some a')=gdP (a=a') a:=rfl
theorem xe3(m:Nat):s9 m c []=True:=rfl
theorem Sc(m:Nat)(p:FI)(r:List FI):s9 m c (p::r)=((m/2^p.n % 2=1\/qv c p.i=some (c.get (p.i.dst.getD 0)))/\s9 m c r):=rfl
end Go.Sy
namespace Go.Sy
variable [bg]
theorem rJ{n:Nat}:∀{l:List (Nat×SV)},(∀p∈l,p.1≠n)->eH l n= .undef
 |[],_=>rfl
 |p::r,h=>by simp only[eH];rw[if_neg (h p (aI ..))];exact rJ fun q hq=>h q (az _ hq)
theorem mC(n:Nat)(v:SV)(m:Nat):∀l:List (Nat×SV),eH (jg l n v) m=if m=n then v else eH l m
 |[]=>by simp only[jg,eH];by_cases h:n=m<;>simp[h,eq_comm]
 |p::r=>by
  simp only[jg];split
  ·simp only[eH]
   by_cases h:n=m
   ·simp[h]
   ·rw[if_neg h,if_neg (Ne.symm h)]
  ·split
   ·rename_i h1 h2
    simp only[eH]
    by_cases h:n=m
    ·simp[h]
    ·rw[if_neg h,if_neg (Ne.symm h),if_neg (by omega)]
   ·rename_i h1 h2
    simp only[eH,mC n v m r]
    by_cases h:p.1=m
    ·rw[if_pos h,if_pos h,if_neg (by omega)]
    ·rw[if_neg h,if_neg h]
theorem mA{n:Nat}{v:SV}{p:Nat×SV}:∀{l:List (Nat×SV)},p∈jg l n v->p=(n,v)\/p∈l
 |[],h=>by simpa[jg]using h
 |q::r,h=>by
  simp only[jg]at h;split at h
  ·rcases av.1 h with h|h
   ·exact .inl h
   ·exact .inr h
  ·split at h
   ·rcases av.1 h with h|h
    ·exact .inl h
    ·exact .inr (az _ h)
   ·rcases av.1 h with h|h
    ·exact .inr (h ▸ aI ..)
    ·rcases mA h with h|h
     ·exact .inl h
     ·exact .inr (az _ h)
theorem fY(lo hi n:Nat):∀l:List (Nat×SV),eH (du lo hi l) n=(eH l n).purge lo hi
 |[]=>by simp[du,eH,SV.purge]
 |p::r=>by
  simp only[du,eH];split
  ·rfl
  ·exact fY lo hi n r
theorem jk{lo hi:Nat}{p:Nat×SV}:∀{l:List (Nat×SV)},p∈du lo hi l->∃q∈l,p.1=q.1
 |q::r,h=>by
  simp only[du]at h;rcases av.1 h with h|h
  ·exact⟨q,aI ..,by rw[h]⟩
  ·obtain⟨u,h1,h2⟩:=jk h
   exact⟨u,az _ h1,h2⟩
theorem pV{k:List Nat}{p:Nat×SV}:∀{l:List (Nat×SV)},p∈vU l k->p∈l
 |q::r,h=>by
  simp only[vU]at h;split at h
  ·exact az _ (pV h)
  ·rcases av.1 h with h|h
   ·exact h ▸ aI ..
   ·exact az _ (pV h)
theorem p9(k:List Nat)(n:Nat):∀l:List (Nat×SV),eH (vU l k) n=if k.contains n=true then .undef else eH l n
 |[]=>by simp[vU,eH]
 |p::r=>by
  simp only[vU,eH];split
  ·rename_i h
   rw[p9 k n r]
   by_cases hp:p.1=n
   ·subst hp;rw[if_pos h,if_pos h]
   ·rw[if_neg hp]
  ·rename_i h
   simp only[eH,p9 k n r]
   by_cases hp:p.1=n
   ·subst hp;rw[if_pos rfl,if_neg h,if_pos rfl]
   ·rw[if_neg hp,if_neg hp]
theorem qa(n:Nat)(v:aF)(m:Nat):∀l:List (Nat×aF),iC (iH l n v) m=if m=n then some v else iC l m
 |[]=>by simp only[iH,iC];by_cases h:n=m<;>simp[h,eq_comm]
 |p::r=>by
  simp only[iH];split
  ·simp only[iC]
   by_cases h:n=m
   ·simp[h]
   ·rw[if_neg h,if_neg (Ne.symm h)]
  ·split
   ·rename_i h1 h2
    simp only[iC]
    by_cases h:n=m
    ·simp[h]
    ·rw[if_neg h,if_neg (Ne.symm h),if_neg (by omega)]
   ·rename_i h1 h2
    simp only[iC,qa n v m r]
    by_cases h:p.1=m
    ·rw[if_pos h,if_pos h,if_neg (by omega)]
    ·rw[if_neg h,if_neg h]
theorem km{n:Nat}{v:aF}{p:Nat×aF}:∀{l:List (Nat×aF)},p∈iH l n v->p=(n,v)\/p∈l
 |[],h=>by simpa[iH]using h
 |q::r,h=>by
  simp only[iH]at h;split at h
  ·rcases av.1 h with h|h
   ·exact .inl h
   ·exact .inr h
  ·split at h
   ·rcases av.1 h with h|h
    ·exact .inl h
    ·exact .inr (az _ h)
   ·rcases av.1 h with h|h
    ·exact .inr (h ▸ aI ..)
    ·rcases km h with h|h
     ·exact .inl h
     ·exact .inr (az _ h)
theorem tT{n:Nat}{v:aF}:∀{l:List (Nat×aF)},(l.map cI).Pairwise (· < ·)->((iH l n v).map cI).Pairwise (· < ·)
 |[],_=>by simp[iH]
 |p::r,h=>by
  have h0:=h;simp only[aP,cW]at h;simp only[iH];split
  ·rename_i h1
   rw[aP,cW];refine⟨fun k hk=> ?_,h0⟩;rw[aP]at hk;rcases av.1 hk with e|e
   ·omega
   ·have:=h.1 k e;omega
  ·split
   ·rename_i h1 h2
    rw[aP,cW];exact⟨fun k hk=>by have:=h.1 k hk;omega,h.2⟩
   ·rename_i h1 h2
    rw[aP,cW];refine⟨fun k hk=> ?_,tT h.2⟩;obtain⟨q,hq,rfl⟩:=aU.1 hk;rcases km hq with e|e
    ·rw[e];show p.1<n;omega
    ·exact h.1 _ (il e)
theorem i7{l:List (Nat×aF)}{n:Nat}{v:aF}(h:iC l n=some v):(n,v)∈l:=by
 induction l with
 |nil=>cases h
 |cons p r ih=>
  simp only[iC]at h;split at h
  ·rename_i hp
   cases h;subst hp;exact aI ..
  ·exact az _ (ih h)
theorem iZ:∀{l:List (Nat×aF)},(l.map cI).Nodup->∀{p:Nat×aF},p∈l->iC l p.1=some p.2
 |q::r,hn,p,h=>by
  simp only[aP,ep]at hn;simp only[iC];rcases av.1 h with e|e
  ·subst e;rw[if_pos rfl]
  ·rw[if_neg (fun e2=>hn.1 (by rw[e2];exact il e))]
   exact iZ hn.2 e
theorem iW{l:List (Nat×aF)}(h:(l.map cI).Pairwise (· < ·)):(l.map cI).Nodup:=h.imp fun h=>Nat.ne_of_lt h
theorem iv(o:Nat):∀l:List (Nat×aF),l.lookup o=iC l o
 |[]=>rfl
 |p::r=>by
  simp only[List.lookup,iC]
  by_cases h:o=p.1
  ·rw[if_pos h.symm];simp[h]
  ·have:(o==p.1)=false:=by simpa using h
   rw[this,if_neg (Ne.symm h)];exact iv o r
theorem jn(lo hi o:Nat):∀l:List (Nat×aF),iC (bE lo hi l) o=if lo<=o/\o<hi then none else(iC l o).map (aF.purge lo hi)
 |[]=>by simp[bE,iC]
 |p::r=>by
  simp only[bE,iC];split
  ·rename_i hp
   rw[jn lo hi o r]
   by_cases h:p.1=o
   ·subst h;rw[if_pos hp,if_pos hp]
   ·rw[if_neg h]
  ·rename_i hp
   simp only[iC,jn lo hi o r]
   by_cases h:p.1=o
   ·subst h;rw[if_pos rfl,if_neg hp,if_pos rfl];rfl
   ·rw[if_neg h,if_neg h]
theorem uW{lo hi:Nat}{l:List (Nat×aF)}(h:(l.map cI).Pairwise (· < ·)):((bE lo hi l).map cI).Pairwise (· < ·):=by rw[eT];exact h.filter _
theorem ko{n t:Nat}:∀{l:List Nat},t∈mN l n↔t=n\/t∈l
 |[]=>by simp[mN]
 |p::r=>by
  simp only[mN];split
  ·simp
  ·split
   ·rename_i h;subst h;simp
   ·simp only[av,ko]
    constructor
    ·rintro(h|h|h)
     ·exact .inr (.inl h)
     ·exact .inl h
     ·exact .inr (.inr h)
    ·rintro(h|h|h)
     ·exact .inr (.inl h)
     ·exact .inl h
     ·exact .inr (.inr h)
theorem pL{lo hi:Nat}{o:aF}(h:o.wf=true):(o.purge lo hi).wf=true:=by cases o<;>simpa[aF.purge,aF.wf]using h
def CSt.st(N:Nat)(c:CSt):St:=⟨(bX N).map c.get,c.ob,c.tk⟩
structure Inv(N:Nat)(c:CSt):Prop where
 dom:∀p∈c.tm,p.1<N
 so:(c.ob.map cI).Pairwise (· < ·)
 wf:∀p∈c.ob,p.2.wf=true
structure Sim(N:Nat)(c:CSt)(s:St):Prop where
 inv:Inv N c
 tm:s.tm=(bX N).map c.get
 look:∀o,s.look o=c.look o
 tk:∀t,t∈s.tk↔t∈c.tk
variable {N : Nat} {c : CSt} {s : St}
theorem Inv.get(h:Inv N c){n:Nat}(hn:N<=n):c.get n= .undef:=rJ fun p hp e=>by have:=h.dom p hp;omega
theorem Sim.of(h:Inv N c):Sim N c (c.st N):=⟨h,rfl,fun o=>iv o c.ob,fun _=>Iff.rfl⟩
theorem Sim.get(h:Sim N c s)(n:Nat):s.get n=c.get n:=by
 unfold St.get;rw[h.tm,aa,aR];rcases bL n N with hn|hn
 ·rw[cO hn];rfl
 ·rw[kd (by simpa using hn),h.inv.get hn];rfl
theorem Sim.ev(h:Sim N c s)(a:Arg):s.ev a=c.ev a:=by
 cases a with
 |t n=>exact h.get n
 |c v=>rfl
 |f g=>rfl
theorem Sim.evL(h:Sim N c s)(l:List Arg):Sy.evL c l=l.map s.ev:=by
 induction l with
 |nil=>rfl
 |cons a r ih=>simp only[Sy.evL,aP,ih,h.ev]
theorem Sim.lookmem(h:Sim N c s){o:Nat}{ob:aF}(hl:c.look o=some ob):ob.wf=true:=h.inv.wf _ (i7 hl)
theorem Sim.rows(h:Sim N c s){o sz:Nat}{xs:List (List SV)}(hl:c.look o=some (.arr sz xs)):∀x∈xs,x.length=sz:=by have:=h.lookmem hl;simpa[aF.wf]using this
theorem Inv.put(h:Inv N c){d:Option Nat}(hd:∀k,d=some k->k<N)(v:SV):Inv N (c.put d v):=by
 cases d with
 |none=>exact h
 |some k=>
  refine⟨fun p hp=> ?_,h.so,h.wf⟩;rcases mA hp with e|e
  ·rw[e];exact hd k rfl
  ·exact h.dom p e
theorem gH(c:CSt)(k:Nat)(v:SV)(n:Nat):(c.put (some k) v).get n=if n=k then v else c.get n:=mC k v n c.tm
theorem Sim.put(h:Sim N c s){d:Option Nat}(hd:∀k,d=some k->k<N)(v:SV):Sim N (c.put d v) (s.put d v):=by
 cases d with
 |none=>exact h
 |some k=>
  refine⟨h.inv.put hd v, ?_,h.look,h.tk⟩;show s.tm.set k v=_;rw[h.tm];apply List.ext_getElem?;intro i;rw[gq,aR,aR];rcases bL i N with hi|hi
  ·rw[cO hi]
   simp only[bt,gH,aX,List.length_range]
   by_cases hk:k=i
   ·rw[if_pos hk,if_pos (by omega),if_pos hk.symm]
   ·rw[if_neg hk,if_neg (Ne.symm hk)]
  ·rw[kd (l:=bX N) (by simpa using hi)]
   have:=hd k rfl;rw[if_neg (by omega)];rfl
theorem bS{α:Type}{p:Prop}[Decidable p]{v u:α}(h:gd p v=some u):p/\v=u:=by
 unfold gd at h;split at h
 ·rename_i hp;cases h;exact⟨hp,rfl⟩
 ·cases h
theorem Gx{op:BinOp}{k:IntKind}{a b:Int}{v:SV}(h:xl op k a b=some v)(hs:mT op=false):∃p,R6 op k a b=some (p,v)/\p:=by
 cases op<;>simp only[xl]at h<;>first
  |(cases hs;done)
  |(obtain⟨h1,rfl⟩:=bS h;exact⟨_,rfl,h1⟩)
  |(cases h;exact⟨True,rfl,trivial⟩)
theorem SP{op:BinOp}{a b v:SV}(h:EZ op a b=some v):∃p,xH op a b=some (p,v)/\p:=by
 unfold EZ at h;split at h
 ·rename_i k a k' b
  split at h
  ·rename_i hc
   by_cases hs:mT op=true
   ·cases op<;>first
     |(cases hs;done)
     |(simp only[xl]at h;obtain⟨h1,rfl⟩:=bS h;exact⟨_,rfl,h1⟩)
   ·have hs':mT op=false:=by simpa using hs
    have hk:k=k':=hc.resolve_left hs;obtain⟨p,h1,h2⟩:=Gx h hs';refine⟨p, ?_,h2⟩;subst hk;cases op<;>first|(cases hs';done)|(simp only[xH,if_true];exact h1)
  ·cases h
 ·rename_i a b
  show ∃p,Eg op a b=some (p,v)/\p
  cases op<;>simp only[xW]at h<;>first
   |(cases h;done)
   |(obtain⟨h1,rfl⟩:=bS h;exact⟨_,rfl,h1⟩)
   |(cases h;exact⟨True,rfl,trivial⟩)
 ·rename_i a b
  show ∃p,Tf op a b=some (p,v)/\p
  cases op<;>simp only[OR]at h<;>first
   |(cases h;done)
   |(obtain⟨h1,rfl⟩:=bS h;exact⟨_,rfl,h1⟩)
   |(cases h;exact⟨True,rfl,trivial⟩)
 ·cases h
theorem vv(hS:Sim N c s){n:Nat}{ag:Bool}{u v:SV}(h:mB c n ag u=some v):∃p,iB s n ag u=some (p,v)/\p:=by
 cases u with
 |pp cs=>obtain⟨h1,rfl⟩:=bS h;exact⟨_,rfl,h1⟩
 |ptr o off=>
  simp only[mB]at h;simp only[iB,hS.look];split at h
  ·rename_i cs hl;rw[hl];obtain⟨h1,rfl⟩:=bS h;exact⟨_,rfl,h1⟩
  ·rename_i sz xs hl;rw[hl];obtain⟨⟨h1,h2⟩,rfl⟩:=bS h;subst h1;exact⟨_,rfl,h2,hS.rows hl⟩
  ·rename_i l hl;rw[hl];obtain⟨⟨h1,h2⟩,rfl⟩:=bS h;subst h1;exact⟨_,rfl,h2⟩
  ·cases h
 |ap o sz i j=>
  simp only[mB]at h;simp only[iB,hS.look];split at h
  ·rename_i sz' xs hl
   rw[hl];obtain⟨⟨h1,h2,h3⟩,rfl⟩:=bS h;refine⟨_,rfl,h1,h2,h3, ?_⟩;rw[aa,af h2,h1];exact hS.rows hl _ (bi _)
  ·rename_i l hl;rw[hl];obtain⟨h1,rfl⟩:=bS h;exact⟨_,rfl,h1⟩
  ·cases h
 |_=>cases h
theorem mQ(hS:Sim N c s)(x:Option Arg)(n:Int):iA s x n=kl c x n:=by
 cases x with
 |none=>rfl
 |some a=>simp only[iA,kl,hS.ev]
theorem Ak(hS:Sim N c s){sz:Nat}{u v:SV}{lo hi mx:Option Arg}(h:oD c sz u lo hi mx=some v):∃p,jf s sz u lo hi mx=some (p,v)/\p:=by
 cases u with
 |byt l t=>
  simp only[oD]at h;simp only[jf,mQ hS];split at h<;>try (cases h;done)
  rename_i a b m h1 h2 h3;rw[h1,h2,h3];obtain⟨h4,rfl⟩:=bS h;exact⟨_,rfl,h4⟩
 |lst sz' l t=>
  simp only[oD]at h;simp only[jf,mQ hS];split at h<;>try (cases h;done)
  rename_i a b m h1 h2 h3;rw[h1,h2,h3];obtain⟨h4,rfl⟩:=bS h;exact⟨_,rfl,h4⟩
 |psl o sz' off n cap=>
  cases cap with
  |none=>
   simp only[oD]at h;simp only[jf,mQ hS];split at h<;>try (cases h;done)
   rename_i a b h1 h2;rw[h1,h2];obtain⟨h4,rfl⟩:=bS h;exact⟨_,rfl,h4⟩
  |some cap=>
   simp only[oD]at h;simp only[jf,mQ hS];split at h<;>try (cases h;done)
   rename_i a b m h1 h2 h3;rw[h1,h2,h3];obtain⟨h4,rfl⟩:=bS h;exact⟨_,rfl,h4⟩
 |_=>cases h
theorem nH(hS:Sim N c s){u:SV}{l:List UInt8}(h:fi c u=some l):∃p,bytesOf s u=some (p,l)/\p:=by
 cases u with
 |byt l t=>cases h;exact⟨True,rfl,trivial⟩
 |str l=>cases h;exact⟨True,rfl,trivial⟩
 |psl o sz off n cap=>
  simp only[fi]at h;simp only[bytesOf,hS.look];split at h
  ·rename_i l' hl;rw[hl];obtain⟨h1,rfl⟩:=bS h;exact⟨_,rfl,h1⟩
  ·cases h
 |_=>cases h
theorem ki(hS:Sim N c s){u:SV}{sz:Nat}{l:List (List SV)}(h:gu c sz u=some l):∃p,gV s sz u=some (p,l)/\p:=by
 cases u with
 |lst sz' l t=>obtain⟨h1,rfl⟩:=bS h;exact⟨_,rfl,h1⟩
 |psl o sz' off n cap=>
  simp only[gu]at h;simp only[gV,hS.look];split at h
  ·rename_i sz'' xs hl
   rw[hl];obtain⟨⟨h1,h2,h3⟩,rfl⟩:=bS h;exact⟨_,rfl,h1,h2,h3,by rw[h2];exact hS.rows hl⟩
  ·cases h
 |_=>cases h
theorem xdK(hS:Sim N c s)(ps:List (Nat×Nat×Arg)):psC c ps=ps.map fun(o,n,x)=>(o,n,s.ev x):=by
 induction ps with
 |nil=>rfl
 |cons p r ih=>obtain⟨o,n,x⟩:=p;simp only[psC,aP,ih,hS.ev]
theorem Qm(hS:Sim N c s){so:SOp}{v:SV}(h:cJ c so=some v):∃p,val s so=some (p,v)/\p:=by
 cases so with
 |mov x=>cases h;exact⟨True,by simp only[val,hS.ev],trivial⟩
 |build z ps=>simp only[cJ,xdK hS]at h;obtain⟨l,h1,rfl⟩:=aj.1 h;exact⟨True,by simp only[val,h1,bt],trivial⟩
 |lit sz xs=>simp only[cJ,hS.evL]at h;obtain⟨l,h1,rfl⟩:=aj.1 h;exact⟨True,by simp only[val,h1,bt],trivial⟩
 |litB xs=>simp only[cJ,hS.evL]at h;obtain⟨l,h1,rfl⟩:=aj.1 h;exact⟨True,by simp only[val,h1,bt],trivial⟩
 |load n ag a=>simp only[val,hS.ev];exact vv hS h
 |nchk x=>simp only[cJ]at h;simp only[val,hS.ev];cases hx:c.ev x<;>rw[hx]at h<;>first|(cases h;done)|(cases h;exact⟨True,rfl,trivial⟩)
 |bin op x y=>simp only[val,hS.ev];exact SP h
 |beq ne x y=>
  simp only[cJ]at h;simp only[val,hS.ev];split at h<;>try (cases h;done)
  rename_i a b h1 h2;cases h;rw[h1,h2];exact⟨True,rfl,trivial⟩
 |eqS ne ts x y=>
  simp only[cJ]at h;simp only[val,hS.ev];split at h<;>try (cases h;done)
  rename_i a b h1 h2;obtain⟨l,h3,rfl⟩:=aj.1 h;rw[h1,h2];exact⟨True,by simp only[h3,bt],trivial⟩
 |un op x=>simp only[cJ]at h;exact⟨True,by simp only[val,hS.ev,h,bt],trivial⟩
 |toInt k x=>simp only[cJ]at h;exact⟨True,by simp only[val,hS.ev,h,bt],trivial⟩
 |toStr x=>
  simp only[cJ]at h;simp only[val,hS.ev];split at h<;>try (cases h;done)
  all_goals
   rename_i h1;cases h;rw[h1];exact⟨True,rfl,trivial⟩
 |slid x=>simp only[cJ]at h;cases h
 |newB x=>simp only[cJ]at h;cases h
 |isni ne x=>
  simp only[cJ]at h;simp only[val,hS.ev];split at h<;>try (cases h;done)
  rename_i h1;cases h;rw[h1];exact⟨True,rfl,trivial⟩
 |s2b x=>
  simp only[cJ]at h;simp only[val,hS.ev];split at h<;>try (cases h;done)
  rename_i l h1;cases h;rw[h1];exact⟨True,rfl,trivial⟩
 |b2s x=>
  simp only[cJ]at h;simp only[val,hS.ev];cases hx:c.ev x with
  |byt l t=>rw[hx]at h;cases h;exact⟨True,rfl,trivial⟩
  |psl o sz off n cap=>
   rw[hx]at h;simp only[fi]at h;simp only[xI,hS.look];obtain⟨l,h1,rfl⟩:=aj.1 h;split at h1
   ·rename_i l' hl;rw[hl];obtain⟨h2,rfl⟩:=bS h1;exact⟨_,rfl,h2⟩
   ·cases h1
  |_=>rw[hx]at h;cases h
 |mkfn f a b=>simp only[cJ,hS.evL]at h;cases h;exact⟨True,rfl,trivial⟩
 |slcS x lo hi=>
  simp only[cJ]at h;simp only[val,hS.ev];split at h<;>try (cases h;done)
  rename_i l hx;rw[hx];simp only[mQ hS];split at h<;>try (cases h;done)
  rename_i a b h1 h2;rw[h1,h2];obtain⟨h4,rfl⟩:=bS h;exact⟨_,rfl,h4⟩
 |slcL sz x lo hi mx=>simp only[val,hS.ev];exact Ak hS h
 |slcA len sz x lo hi mx=>
  simp only[cJ]at h;simp only[val,hS.ev];split at h<;>try (cases h;done)
  rename_i o off hx;split at h<;>try (cases h;done)
  rename_i ho;subst ho;rw[hx];exact Ak hS h
 |faddr off x=>simp only[cJ]at h;simp only[val,hS.ev];cases hx:c.ev x<;>rw[hx]at h<;>first|(cases h;done)|(cases h;exact⟨True,rfl,trivial⟩)
 |fld off n ag x=>
  simp only[cJ]at h;simp only[val,hS.ev];split at h<;>try (cases h;done)
  rename_i cs hx;rw[hx];obtain⟨h4,rfl⟩:=bS h;exact⟨_,rfl,h4⟩
 |iaddrL sz x i=>
  simp only[cJ]at h;simp only[val,hS.ev];split at h<;>try (cases h;done)
  all_goals
   rename_i h1 h2;rw[h1,h2];obtain⟨h4,rfl⟩:=bS h;exact⟨_,rfl,h4⟩
 |iaddrA len sz x i=>
  simp only[cJ]at h;simp only[val,hS.ev,hS.look];split at h<;>try (cases h;done)
  ·rename_i o off n h1 h2
   rw[h1,h2];simp only;split at h<;>try (cases h;done)
   ·rename_i cs hl
    rw[hl];obtain⟨h4,rfl⟩:=bS h;exact⟨_,rfl,h4⟩
   ·rename_i ob hno hl
    rw[hl];obtain⟨⟨h4,h5⟩,rfl⟩:=bS h;cases ob with
    |rc cs=>exact absurd rfl (hno cs)
    |_=>simp only[h4,if_true];exact⟨_,rfl,h5⟩
  ·rename_i cs n h1 h2
   rw[h1,h2];obtain⟨h4,rfl⟩:=bS h;exact⟨_,rfl,h4⟩
 |idxA len sz ag x i=>
  simp only[cJ]at h;simp only[val,hS.ev];split at h<;>try (cases h;done)
  rename_i h1 h2;rw[h1,h2];obtain⟨h4,rfl⟩:=bS h;exact⟨_,rfl,h4⟩
 |idxS x i=>
  simp only[cJ]at h;simp only[val,hS.ev];split at h<;>try (cases h;done)
  rename_i h1 h2;rw[h1,h2];obtain⟨h4,rfl⟩:=bS h;exact⟨_,rfl,h4⟩
 |ext x i=>
  simp only[cJ]at h;simp only[val,hS.ev];split at h<;>try (cases h;done)
  rename_i vs hx;rw[hx];obtain⟨h4,rfl⟩:=bS h;exact⟨_,rfl,h4⟩
 |len b x=>simp only[cJ]at h;obtain⟨n,h1,rfl⟩:=aj.1 h;exact⟨True,by simp only[val,hS.ev,h1],trivial⟩
 |lenC n=>cases h;exact⟨True,rfl,trivial⟩
 |cap x=>
  simp only[cJ]at h;simp only[val,hS.ev];cases hx:c.ev x with
  |psl o sz off n m=>cases m<;>rw[hx]at h<;>cases h;exact⟨True,rfl,trivial⟩
  |byt l t=>rw[hx]at h;simp only at h;split at h<;>cases h;rename_i ht;subst ht;exact⟨True,rfl,trivial⟩
  |lst sz l t=>rw[hx]at h;simp only at h;split at h<;>cases h;rename_i ht;subst ht;exact⟨True,rfl,trivial⟩
  |_=>rw[hx]at h;cases h
 |mini x y=>
  simp only[cJ]at h;simp only[val,hS.ev];split at h<;>try (cases h;done)
  rename_i h1 h2;rw[h1,h2];simp only;split at h<;>cases h;rename_i hk;exact⟨True,by rw[if_pos hk],trivial⟩
 |maxi x y=>
  simp only[cJ]at h;simp only[val,hS.ev];split at h<;>try (cases h;done)
  rename_i h1 h2;rw[h1,h2];simp only;split at h<;>cases h;rename_i hk;exact⟨True,by rw[if_pos hk],trivial⟩
 |_=>cases h
end Go.Sy
namespace Go.Sy
variable [bg]
variable {P : Program} {C : Ctx} {x : Sit} {a : Act} {w : World} {o : Oper} {so : SOp} {N : Nat} {c c' : CSt} {s : St} {d : Option Nat}
def M(C:Ctx)(N:Nat)(c:CSt):Act->World->Prop:=ER C (Sim N c)
theorem Sim.purge(h:Sim N c s)(lo hi:Nat):Sim N (c.purge lo hi) (s.purge lo hi):=by
 refine⟨⟨fun p hp=> ?_,uW h.inv.so,fun p hp=> ?_⟩, ?_,fun o=> ?_,fun t=> ?_⟩
 ·obtain⟨q,hq,e⟩:=jk hp
  rw[e];exact h.inv.dom q hq
 ·obtain⟨_,ob,h1,h2⟩:=cy hp
  rw[h2];exact pL (h.inv.wf _ h1)
 ·show SV.purgeL lo hi s.tm=_
  rw[h.tm,dA,List.map_map];apply List.map_congr_left;intro i _;exact(fY lo hi i c.tm).symm
 ·show(bE lo hi s.ob).lookup o=iC (bE lo hi c.ob) o
  have:=h.look o;unfold St.look CSt.look at this;rw[iv]at this ⊢;rw[jn,jn,this]
 ·show t∈cA lo hi s.tk↔t∈cA lo hi c.tk
  rw[bG,bG,h.tk]
theorem Sim.addO(h:Sim N c s)(k:Nat){ob:aF}(hw:ob.wf=true):Sim N ⟨c.tm,iH c.ob k ob,c.tk⟩ (s.addO k ob):=by
 refine⟨⟨h.inv.dom,tT h.inv.so,fun p hp=> ?_⟩,h.tm,fun o=> ?_,h.tk⟩
 ·rcases km hp with e|e
  ·rw[e];exact hw
  ·exact h.inv.wf p e
 ·show((k,ob)::s.ob).lookup o=iC (iH c.ob k ob) o
  have:=h.look o;unfold St.look CSt.look at this;rw[qa];simp only[List.lookup]
  by_cases he:o=k
  ·subst he;simp
  ·have:(o==k)=false:=by simpa using he
   rw[this,if_neg he];exact h.look o
theorem jX(k:Nat)(ob:aF)(o:Nat):∀l:List (Nat×aF),(Sy.setO k ob l).lookup o=if o=k/\(l.lookup k).isSome=true then some ob else l.lookup o
 |[]=>by simp[Sy.setO]
 |p::r=>by
  simp only[Sy.setO]
  by_cases hp:p.1=k
  ·rw[if_pos hp]
   subst hp;simp only[List.lookup]
   by_cases ho:o=p.1
   ·subst ho;simp
   ·have:(o==p.1)=false:=by simpa using ho
    simp[this,ho]
  ·rw[if_neg hp]
   have h1:(k==p.1)=false:=by simpa using Ne.symm hp
   simp only[List.lookup,h1,jX k ob o r]
   by_cases ho:o=p.1
   ·subst ho;simp[hp]
   ·have:(o==p.1)=false:=by simpa using ho
    simp[this]
theorem Sim.setO(h:Sim N c s){k:Nat}{ob:aF}(hl:(c.look k).isSome=true)(hw:ob.wf=true):Sim N ⟨c.tm,iH c.ob k ob,c.tk⟩ (s.setO k ob):=by
 refine⟨⟨h.inv.dom,tT h.inv.so,fun p hp=> ?_⟩,h.tm,fun o=> ?_,h.tk⟩
 ·rcases km hp with e|e
  ·rw[e];exact hw
  ·exact h.inv.wf p e
 ·show(Sy.setO k ob s.ob).lookup o=iC (iH c.ob k ob) o
  rw[qa,jX]
  have h1:(s.ob.lookup k).isSome=true:=by have:=h.look k;unfold St.look at this;rw[this];exact hl
  by_cases he:o=k
  ·rw[if_pos ⟨he,h1⟩,if_pos he]
  ·rw[if_neg (fun e=>he e.1),if_neg he];exact h.look o
theorem Sim.tks(h:Sim N c s){l k:List Nat}(hlk:∀t,t∈l↔t∈k):Sim N ⟨c.tm,c.ob,k⟩ ⟨s.tm,s.ob,l⟩:=⟨⟨h.inv.dom,h.inv.so,h.inv.wf⟩,h.tm,h.look,hlk⟩
theorem Gh{t:Tok}{l k:List Nat}(h:∀t,t∈l↔t∈k)(n:Nat):n∈t.eat l↔n∈t.eat k:=by
 cases t with
 |id t=>simp only[Tok.eat,bG,h]
 |_=>exact h n
structure E1(e:qX)(f:Eff):Prop where
 val:f.val=e.val
 wr:f.wr=e.wr
 new:f.new=e.new
 eat:f.eat=e.eat
 tok:f.tok=e.tok
structure E6(c:CSt)(e:qX):Prop where
 new:∀ob,e.new=some ob->ob.wf=true
 wr:e.wr=[]\/∃k ob,e.wr=[(k,ob)]/\(c.look k).isSome=true/\ob.wf=true
theorem Sim.app(h:Sim N c s)(hd:∀k,d=some k->k<N){e:qX}{f:Eff}(hs:E1 e f)(hg:E6 c e):Sim N (c.app d e) (s.app d f):=by
 unfold CSt.app St.app;rw[hs.new,hs.tok,hs.val,hs.wr,hs.eat];cases hn:e.new with
 |some ob=>exact((h.purge _ _).addO _ (pL (hg.new ob hn))).put hd _
 |none=>
  cases ht:e.tok with
  |true=>refine Sim.put (c:=⟨_,_,_⟩) ?_ hd _;refine((h.purge (d.getD 0+100) (d.getD 0+100+1)).tks (fun t=> ?_));rw[ko,av,bG,bG,Gh h.tk]
  |false=>
   rcases hg.wr with hw|⟨k,ob,hw,h1,h2⟩
   ·rw[hw];exact h.put hd _
   ·rw[hw];exact(h.setO h1 h2).put hd _
theorem E1.v(v:SV)(p:Prop):E1 {val:=v} {pre:=p,val:=v}:=⟨rfl,rfl,rfl,rfl,rfl⟩
theorem E6.v(v:SV):E6 c {val:=v}:=⟨fun ob h=>(by cases h),.inl rfl⟩
theorem xb1(n:Nat)(z:List SV):(aF.arr z.length (aq n z)).wf=true:=by simp only[aF.wf,aY,decide_eq_true_eq];intro y hy;rw[(List.mem_replicate.1 hy).2]
theorem gJ{sz:Nat}{xs:List (List SV)}:(aF.arr sz xs).wf=true↔∀y∈xs,y.length=sz:=by simp only[aF.wf,aY,decide_eq_true_eq]
theorem vY(sz:Nat):∀(m:Nat)(v:List SV),v.length=m*sz->∀y∈jo sz m v,y.length=sz
 |0,_,_,y,hy=>by cases hy
 |m+1,v,h,y,hy=>by
  rw[dO]at h;simp only[jo]at hy;rcases av.1 hy with rfl|hy
  ·rw[ax];omega
  ·exact vY sz m (v.drop sz) (by rw[aE];omega) y hy
theorem Ds{sz:Nat}{xs:List (List SV)}{i j n:Nat}{v:List SV}(h:∀y∈xs,y.length=sz)(hi:i<xs.length)(hj:j+n<=sz)(hv:v.length=n):∀y∈eD sz xs i j n v,y.length=sz:=by
 intro y hy;unfold eD at hy;split at hy
 ·rename_i hc
  rcases List.mem_or_eq_of_mem_set hy with h1|h1
  ·exact h y h1
  ·rw[h1,hv];exact hc.2
 ·rcases List.mem_or_eq_of_mem_set hy with h1|h1
  ·exact h y h1
  ·have:(xs.getD i []).length=sz:=by
    rw[aa,af hi];exact h _ (bi _)
   rw[h1];simp only[ah,ax,aE,this,hv];omega
theorem rx(h:Sim N c s){t:Tok}(hr:t.readyC c=true):t.ready s=true:=by
 cases t with
 |no=>cases hr
 |clip=>rfl
 |id t=>simp only[Tok.readyC,eZ,decide_eq_true_eq]at hr;simp only[Tok.ready,eZ,decide_eq_true_eq];exact(h.tk t).2 hr
theorem QI(hM:aO C x s a w){y:Arg}(hy:y.isT=true):Rep x (s.ev y) (match y with| .t n=>a.tmps.getD n Go.undef|_=>Go.undef):=by
 cases y with
 |t n=>exact hM.slot n
 |_=>cases hy
theorem GH(h:Sim N c s){e:qX}(he:eh c d so=some e)(hp:∀q y z,so≠ .pick q y z)(hn:∀ne q,so≠ .isnil ne q)(hcp:∀sz q y,so≠ .cpy sz q y):∃f,eff s d so=some f/\f.pre/\E1 e f/\E6 c e:=by
 have plain:∀{so:SOp},eh c d so=z6 (cJ c so)->(eff s d so=match val s so with|some (p,v)=>some {pre:=p,val:=v}|none=>none)->eh c d so=some e->∃f,eff s d so=some f/\f.pre/\E1 e f/\E6 c e:=by
  intro so h1 h2 h3;rw[h1]at h3;cases hv:cJ c so with
  |none=>rw[hv]at h3;cases h3
  |some v=>rw[hv]at h3;cases h3;obtain⟨p,h4,h5⟩:=Qm h hv;exact⟨{pre:=p,val:=v},by rw[h2,h4],h5,E1.v v p,E6.v v⟩
 cases so with
 |pick q y z=>exact absurd rfl (hp q y z)
 |isnil ne q=>exact absurd rfl (hn ne q)
 |call _ _=>cases he
 |newB _=>cases he
 |slid _=>cases he
 |new ob=>
  simp only[eh]at he;split at he<;>try (cases he;done)
  obtain⟨h1,rfl⟩:=bS he;exact⟨_,rfl,trivial,⟨rfl,rfl,rfl,rfl,rfl⟩,⟨fun ob' e=>(by cases e;exact h1),.inl rfl⟩⟩
 |box q=>simp only[eh]at he;split at he<;>cases he;exact⟨_,rfl,trivial,⟨rfl,rfl,by simp only[h.ev],rfl,rfl⟩,⟨fun ob' e=>(by cases e;rfl),.inl rfl⟩⟩
 |mk z bytes n m=>
  simp only[eh]at he;simp only[eff,h.ev];split at he<;>try (cases he;done)
  rename_i h1 h2;rw[h1,h2];obtain⟨h1,rfl⟩:=bS he;exact⟨_,rfl,h1,⟨rfl,rfl,rfl,rfl,rfl⟩,⟨fun ob' e=>(by cases e;exact xb1 _ z),.inl rfl⟩⟩
 |mkB n m=>
  simp only[eh]at he;simp only[eff,h.ev];split at he<;>try (cases he;done)
  rename_i h1 h2;rw[h1,h2];obtain⟨h1,rfl⟩:=bS he;exact⟨_,rfl,h1,⟨rfl,rfl,rfl,rfl,rfl⟩,⟨fun ob' e=>(by cases e;rfl),.inl rfl⟩⟩
 |store n q y=>
  simp only[eh]at he;simp only[eff,h.ev];split at he<;>try (cases he;done)
  rename_i hdef;rw[hdef];simp only;unfold kW at he;unfold qu;split at he
  ·rename_i o' off hq
   rw[hq];simp only[h.look];split at he<;>try (cases he;done)
   ·rename_i cs hl
    rw[hl];obtain⟨h1,rfl⟩:=bS he;exact⟨_,rfl,h1,⟨rfl,rfl,rfl,rfl,rfl⟩,⟨fun ob' e=>(by cases e),.inr ⟨_,_,rfl,by rw[hl];rfl,rfl⟩⟩⟩
   ·rename_i sz xs hl
    rw[hl];obtain⟨⟨h1,h2,h3,h4⟩,rfl⟩:=bS he
    exact⟨_,rfl,⟨h1,h2,h3,h4⟩,⟨rfl,rfl,rfl,rfl,rfl⟩,
     ⟨fun ob' e=>(by cases e),.inr ⟨_,_,rfl,by rw[hl];rfl,gJ.2 (vY sz _ _ (by rw[aX];omega))⟩⟩⟩
   ·rename_i l hl
    rw[hl];simp only at he ⊢;split at he<;>try (cases he;done)
    rename_i l' hv;rw[hv];obtain⟨h1,rfl⟩:=bS he;exact⟨_,rfl,h1,⟨rfl,rfl,rfl,rfl,rfl⟩,⟨fun ob' e=>(by cases e),.inr ⟨_,_,rfl,by rw[hl];rfl,rfl⟩⟩⟩
  ·rename_i o' sz i j hq
   rw[hq];simp only[h.look];split at he<;>try (cases he;done)
   ·rename_i sz' xs hl
    rw[hl];obtain⟨⟨h1,h2,h3,h4,h5⟩,rfl⟩:=bS he
    exact⟨_,rfl,⟨h1,h2,h3,h4,by rw[h1];exact h.rows hl,h5⟩,⟨rfl,rfl,rfl,rfl,rfl⟩,
     ⟨fun ob' e=>(by cases e),.inr ⟨_,_,rfl,by rw[hl];rfl,gJ.2 (by subst h1;exact Ds (h.rows hl) h2 h3 (by simpa using h4))⟩⟩⟩
   ·rename_i l hl
    rw[hl];simp only at he ⊢;split at he<;>try (cases he;done)
    rename_i b hv;rw[hv];obtain⟨h1,rfl⟩:=bS he;exact⟨_,rfl,h1,⟨rfl,rfl,rfl,rfl,rfl⟩,⟨fun ob' e=>(by cases e),.inr ⟨_,_,rfl,by rw[hl];rfl,rfl⟩⟩⟩
  ·cases he
 |app z bytes q y=>
  simp only[eh]at he;simp only[eff,h.ev];split at he<;>try (cases he;done)
  split at he<;>try (cases he;done)
  ·rename_i l t hq
   rw[hq];obtain⟨l',h1,h2⟩:=Option.bind_eq_some_iff.1 he;obtain⟨p,h3,h4⟩:=nH h h1;obtain⟨⟨g1,g2,g3,g4⟩,rfl⟩:=bS h2;simp only[h3];exact⟨_,rfl,⟨h4,g1,g2,rx h g3,g4⟩,⟨rfl,rfl,rfl,rfl,rfl⟩,⟨fun ob' e=>(by cases e),.inl rfl⟩⟩
  ·rename_i sz' l t hq
   rw[hq];obtain⟨l',h1,h2⟩:=Option.bind_eq_some_iff.1 he;obtain⟨p,h3,h4⟩:=ki h h1;obtain⟨⟨g1,g3,g4⟩,rfl⟩:=bS h2;simp only[h3];exact⟨_,rfl,⟨h4,g1,rx h g3,g4⟩,⟨rfl,rfl,rfl,rfl,rfl⟩,⟨fun ob' e=>(by cases e),.inl rfl⟩⟩
 |cpy sz q y=>exact absurd rfl (hcp sz q y)
 |appM z bytes q y=>cases he
 |ovl q y=>cases he
 |_=>exact plain (rP rfl) rfl he
theorem Sv(P:Program)(h:Sim N c s)(hM:aO C x s a w){e:qX}(he:eh c d so=some e)(hp:∀q y z,so≠ .pick q y z)(hn:∀ne q,so≠ .isnil ne q):∃f,eff s d so=some f/\f.pre/\E1 e f/\E6 c e:=by
 by_cases hcp:∃sz q y,so= .cpy sz q y
 ·obtain⟨sz,q,y,rfl⟩:=hcp
  simp only[eh]at he;simp only[eff,h.ev];split at he<;>try (cases he;done)
  rename_i o' sz' off n cap hq;rw[hq];simp only[h.look];split at he<;>try (cases he;done)
  ·rename_i l hl
   rw[hl];obtain⟨l',h1,h2⟩:=Option.bind_eq_some_iff.1 he;obtain⟨p,h3,h4⟩:=nH h h1;obtain⟨⟨g1,g2,g3⟩,rfl⟩:=bS h2;simp only[h3];exact⟨_,rfl,⟨h4,g1,g2,g3⟩,⟨rfl,rfl,rfl,rfl,rfl⟩,⟨fun ob' e=>(by cases e),.inr ⟨_,_,rfl,by rw[hl];rfl,rfl⟩⟩⟩
  ·rename_i sz'' xs hl
   rw[hl];obtain⟨l',h1,h2⟩:=Option.bind_eq_some_iff.1 he;obtain⟨p,h3,h4⟩:=ki h h1;obtain⟨⟨g0,g1,g2,g3⟩,rfl⟩:=bS h2;simp only[h3];have hrows:=h.rows hl;obtain⟨_,hl',_⟩:=pN (P:=P) hM (QI hM g0) (by rw[h.ev];exact h3) h4;refine⟨_,rfl,⟨h4,g1,g2,g3,by rw[g2];exact hrows⟩,⟨rfl,rfl,rfl,rfl,rfl⟩,⟨fun ob' e=>(by cases e),.inr ⟨_,_,rfl,by rw[hl];rfl,gJ.2 ?_⟩⟩⟩;intro r hr;rcases an.1 hr with hr|hr
   ·rcases an.1 hr with hr|hr
    ·rw[g2];exact hrows r (bV hr)
    ·exact hl' r (bV hr)
   ·rw[g2];exact hrows r (dx hr)
 ·exact GH h he hp hn (fun sz q y e=>hcp ⟨sz,q,y,e⟩)
theorem xgT(h:M C N c a w)(hr:bw P o=some so)(hd:∀k,o.dst=some k->k<N)(hc:oE c o.dst (eh c o.dst so)=some c'){K:Act->World->Prop}{Q:Exit->Act->World->Prop}(hK:∀a w,M C N c' a w->K a w):o.wp P a w K Q:=by
 obtain⟨x,s,hM,hS⟩:=h;cases he:eh c o.dst so with
 |none=>rw[he]at hc;cases hc
 |some e=>
  rw[he]at hc;simp only[oE,aw.injEq]at hc;subst hc
  by_cases hp:∃q y z,so= .pick q y z
  ·obtain⟨q,y,z,rfl⟩:=hp
   simp only[eh]at he;split at he<;>cases he;rename_i t ht;have hd':=D7 hM hr (t:=t) (by rw[hS.ev];exact ht);refine dj hd' (k:=Sim N (c.app o.dst {val:=iq t (c.ev y) (c.ev z)})) ?_ hK;have:(if t=true then s.ev y else s.ev z)=iq t (c.ev y) (c.ev z):=by rw[hS.ev,hS.ev];rfl
   rw[this];exact hS.put hd _
  ·by_cases hn:∃ne q,so= .isnil ne q
   ·obtain⟨ne,q,rfl⟩:=hn
    have key:∃b,b=ne/\cr P C o a w (s.put o.dst (.bool b)):=by
     refine xC hM hr (K:=fun b=>b=ne) ?_;rw[hS.ev];simp only[eh]at he;split at he<;>try (cases he;done)
     ·rename_i l t hl
      obtain⟨h1,_⟩:=bS he
      try rw[hl]
      intro b hb;cases b
      ·cases ne<;>rfl
      ·exact absurd (hb rfl) h1
     ·rename_i sz l t hl
      obtain⟨h1,_⟩:=bS he
      try rw[hl]
      intro b hb;cases b
      ·cases ne<;>rfl
      ·exact absurd (hb rfl) h1
     ·rename_i hl
      first
       |rw[hl]
       |rfl
    obtain⟨b,rfl,hd'⟩:=key;refine dj hd' (k:=Sim N (c.app o.dst e)) ?_ hK
    have:e= {val:= .bool b}:=by
     simp only[eh]at he;split at he
     ·obtain⟨_,h2⟩:=bS he;exact h2.symm
     ·obtain⟨_,h2⟩:=bS he;exact h2.symm
     ·exact(aw.inj he).symm
     ·cases he
    rw[this];exact hS.put hd _
   ·obtain⟨f,h1,h2,h3,h4⟩:=Sv P hS hM he (fun q y z e=>hp ⟨q,y,z,e⟩) (fun ne q e=>hn ⟨ne,q,e⟩)
    exact dj (Ss hM hr h1 h2) (k:=Sim N (c.app o.dst e)) (hS.app hd h3 h4) hK
end Go.Sy
namespace Go.Sy
variable [bg]
variable {P : Program} {C : Ctx} {x : Sit} {a : Act} {w : World} {N : Nat} {c c' : CSt} {s : St}
theorem Sim.exact(h:Sim N c s)(hM:aO C x s a w):aO C x (c.st N) a w:=
 ⟨by show cw x ((bX N).map c.get) _;rw[<-h.tm];exact hM.tm,hM.defers,hM.heap.only (fun p hp=>by have h1:=iZ (iW h.inv.so) hp;have h2:s.look p.1=some p.2:=(h.look p.1).trans h1;exact cY h2) (iW h.inv.so) (fun t ht=>(h.tk t).2 ht)⟩
theorem M.slots(h:M C N c a w)(hi:Inv N c')(ho:c'.ob=c.ob)(ht:c'.tk=c.tk)(hg:∀i,c'.get i=c.get i\/c'.get i= .undef):M C N c' a w:=by
 obtain⟨x,s,hM,hS⟩:=h;have hE:=hS.exact hM;refine⟨x,c'.st N,⟨⟨?_,fun i hi'=> ?_⟩,hM.defers, ?_⟩,Sim.of hi⟩
 ·have:=hE.tm.1;simpa[CSt.st]using this
 ·have h1:=hE.tm.2 i (by simpa[CSt.st]using hi')
  have hiN:i<N:=by simpa[CSt.st]using hi'
  simp only[CSt.st,aa,aR,cO hiN,bt,bq]at h1 ⊢;rcases hg i with e|e
  ·rw[e];exact h1
  ·rw[e];exact .undef _
 ·show cV C x c'.ob c'.tk w
  rw[ho,ht];exact hE.heap
theorem Inv.kill(h:Inv N c)(l:List Nat):Inv N (c.kill l):=by
 cases l with
 |nil=>exact h
 |cons n r=>exact⟨fun p hp=>h.dom p (pV hp),h.so,h.wf⟩
theorem M.kill(h:M C N c a w)(l:List Nat):M C N (c.kill l) a w:=by
 have hi:Inv N c:=by obtain⟨x,s,_,hS⟩:=h;exact hS.inv
 cases l with
 |nil=>exact h
 |cons n r=>
  refine h.slots (hi.kill _) rfl rfl fun i=> ?_
  have e:=p9 (n::r) i c.tm
  by_cases hc:(n::r).contains i=true
  ·exact .inr (e.trans (if_pos hc))
  ·exact .inl (e.trans (if_neg hc))
theorem M.purge(h:M C N c a w)(lo hi:Nat):M C N (c.purge lo hi) a w:=by obtain⟨x,s,hM,hS⟩:=h;exact⟨x,_,hM.purge lo hi,hS.purge lo hi⟩
theorem M.gc:∀{l:List Nat}{c:CSt},M C N c a w->M C N (gcC c l) a w
 |[],_,h=>h
 |o::r,c,h=>by show M C N (gcC (c.purge o (o+1)) r) a w;exact M.gc (h.purge o (o+1))
theorem l7{o:Nat}{obj:aF}(cs:List SV):SV.pubL o obj cs=cs.map (SV.pub o obj):=by
 induction cs with
 |nil=>rfl
 |cons c r ih=>simp only[SV.pubL,aP,ih]
theorem Rep.pub{x x':Sit}{o:Nat}{obj:aF}(hβ:x'.bk=x.bk)(hτ:x'.τ=x.τ)(hG:∀b i u,x.G b i=some u->x'.G b i=some u)
 (hcell:∀k,k<obj.size->∃u,x'.G ((x.bk o).1) k=some u/\cM x'.G (obj.cell k) u) (hwf:obj.wf=true) {sv:SV} {v:Value} (h:Rep x sv v):Rep x' (sv.pub o obj) v:=by
 induction h with
 |undef v=>exact .undef v
 |dat s v h ht=>
  have:s.pub o obj=s:=by cases h<;>rfl
  rw[this];exact(Rep.dat s v h ht).grow hG hβ hτ
 |ptr o' off=>
  simp only[SV.pub];split
  ·exact .undef _
  ·rw[<-hβ];exact .ptr o' off
 |ap o' sz i j=>
  simp only[SV.pub];split
  ·exact .undef _
  ·rw[<-hβ];exact .ap o' sz i j
 |psl o' sz off n cap off' cap' hoff hn hcp hkp=>
  simp only[SV.pub];split
  ·rename_i ho
   subst ho;cases obj with
   |rc cs=>exact .undef _
   |arr sz' xs=>
    simp only[wT];split
    ·rename_i hc
     obtain⟨rfl,hb⟩:=hc;have hrows:=gJ.1 hwf;have h1:=leP.psl (o:=o') (cap:=cap) hb hrows x x' _ hβ hτ hG (fun k hk=>hcell k hk) (.psl o' sz' off n cap off' cap' hoff hn hcp hkp);split
     ·rename_i hcap
      have hcn:=hcp _ hcap;obtain⟨b,cq,he,_,hD,_⟩:=h1.lst_inv;exact .dat _ _ (hD.tok (.lst sz' ((xs.drop off).take n) .clip) (.inr ⟨sz',_,_,_,rfl,rfl⟩)) ⟨_,n,by rw[<-hcn]⟩
     ·exact h1
    ·exact .undef _
   |bar l=>
    simp only[wT];split
    ·rename_i hc
     obtain⟨rfl,hb⟩:=hc;have hlen:((l.drop off).take n).length=n:=by simp;omega
     have hD:∀t,cM x'.G (.byt ((l.drop off).take n) t) (.slice (some ⟨(x.bk o').1,off',none⟩) n cap'):=by
      intro t;refine .byt _ t _ _ _ _ hlen.symm hn fun i hi=> ?_
      have hoff':off'=off:=by omega
      obtain⟨u,hu,hr⟩:=hcell (off+i) (by simp only[aF.size];omega);rw[hoff',hu];simp only[aF.cell]at hr
      have e:((l.drop off).take n).getD i 0=l.getD (off+i) 0:=by simp only[aa,bB,if_pos hi,bh]
      rw[e];cases hr with
      |u8 b=>rfl
     split
     ·rename_i hcap
      have hcn:=hcp _ hcap;exact .dat _ _ (hD .clip) ⟨_,n,by rw[<-hcn]⟩
     ·exact .dat _ _ (hD .no) trivial
    ·exact .undef _
  ·rw[<-hβ]at hkp ⊢;exact .psl o' sz off n cap off' cap' hoff hn hcp hkp
 |agg cs vs hl _ ih=>simp only[SV.pub,l7];exact .agg _ _ (by simpa using hl) fun i hi=>by rw[aW _ (by rfl)];exact ih i (by simpa using hi)
 |tup cs vs hl _ ih=>simp only[SV.pub,l7];exact .tup _ _ (by simpa using hl) fun i hi=>by rw[aW _ (by rfl)];exact ih i (by simpa using hi)
 |fn f c1 c2 v1 v2 hl1 _ hl2 _ ih1 ih2=>simp only[SV.pub,l7];exact .fn _ _ _ _ _ (by simpa using hl1) (fun i hi=>by rw[aW _ (by rfl)];exact ih1 i (by simpa using hi)) (by simpa using hl2) (fun i hi=>by rw[aW _ (by rfl)];exact ih2 i (by simpa using hi))
theorem kq{o:Nat}{obj:aF}{p:Nat×aF}:∀{l:List (Nat×aF)},p∈lc o obj l->p.1≠o/\∃q,(p.1,q)∈l/\p.2=oh o obj q
 |q::r,h=>by
  simp only[lc]at h;split at h
  ·obtain⟨h1,u,h2,h3⟩:=kq h
   exact⟨h1,u,az _ h2,h3⟩
  ·rename_i hq
   rcases av.1 h with e|e
   ·rw[e];exact⟨hq,q.2,aI ..,rfl⟩
   ·obtain⟨h1,u,h2,h3⟩:=kq e
    exact⟨h1,u,az _ h2,h3⟩
theorem qc{o:Nat}{obj:aF}:∀l:List (Nat×aF),(lc o obj l).map cI=(l.map cI).filter fun k=>decide (k≠o)
 |[]=>rfl
 |p::r=>by
  simp only[lc,aP,kT]
  by_cases h:p.1=o
  ·rw[if_pos h,qc r];simp[h]
  ·rw[if_neg h,aP,qc r];simp[h]
theorem pU{o:Nat}{obj:aF}{p:Nat×SV}:∀{l:List (Nat×SV)},p∈lN o obj l->∃q∈l,p.1=q.1
 |q::r,h=>by
  simp only[lN]at h;rcases av.1 h with e|e
  ·exact⟨q,aI ..,by rw[e]⟩
  ·obtain⟨u,h1,h2⟩:=pU e
   exact⟨u,az _ h1,h2⟩
theorem kr{o:Nat}{obj:aF}(n:Nat):∀l:List (Nat×SV),eH (lN o obj l) n=(eH l n).pub o obj
 |[]=>rfl
 |p::r=>by
  simp only[lN,eH];split
  ·rfl
  ·exact kr n r
theorem xb2{o:Nat}{obj q:aF}(h:q.wf=true):(oh o obj q).wf=true:=by cases q<;>simpa[oh,aF.wf]using h
theorem o6{o:Nat}{obj0 obj:aF}(hl:c.look o=some obj0)(hnr:∀cs,obj≠ .rc cs)(hnr0:∀cs,obj0≠ .rc cs)(hle:obj.size<=obj0.size)(hcl:∀k,k<obj.size->obj.cell k=obj0.cell k)(hwf:obj.wf=true)(hM:aO C x s a w)(hS:Sim N c s):
 ∃x',(x'.bk=x.bk/\x'.τ=x.τ/\(∀b i u,x.G b i=some u->x'.G b i=some u)/\(∀i,obj.size<=i->x'.G ((x.bk o).1) i=none)/\(∀k,k<obj.size->∃u,x'.G ((x.bk o).1) k=some u/\cM x'.G (obj.cell k) u))/\(∀sv v,Rep x sv v->Rep x' (sv.pub o obj) v)/\∃s',aO C x' s' a w/\Sim N ⟨lN o obj c.tm,lc o obj c.ob,c.tk⟩ s'/\(∀p∈s'.ob,(x.bk o).1≠(x'.bk p.1).1):=by
 have hls:s.look o=some obj0:=(hS.look o).trans hl;obtain⟨cc,e,fl,fh,hO,hsz,hr⟩:=eY hM hls;have hob:=hM.heap.obs _ (cY hls)
 let x':Sit:= {x with G:=fun b i=>if b=(x.bk o).1/\i<obj.size then some (cc.getD i Go.undef)else x.G b i}
 have hG:∀b i u,x.G b i=some u->x'.G b i=some u:=by intro b i u hu;show(if _ then _ else _)=_;rw[if_neg];exact hu;rintro⟨rfl,_⟩;have h0:=hob.2.2 i;simp only at h0;rw[h0]at hu;cases hu
 have hcell:∀k,k<obj.size->∃u,x'.G ((x.bk o).1) k=some u/\cM x'.G (obj.cell k) u:=by
  intro k hk;refine⟨cc.getD k Go.undef,if_pos ⟨rfl,hk⟩,cM.mono hG ?_⟩;have:=hr k (by omega);rw[hcl k hk];cases obj0 with
  |rc cs=>exact absurd rfl (hnr0 cs)
  |arr sz xs=>exact this
  |bar l=>exact this
 have hpub:∀sv v,Rep x sv v->Rep x' (sv.pub o obj) v:=fun sv v h=>Rep.pub (x:=x) (x':=x') rfl rfl hG hcell hwf h
 have hH:=hM.heap
 have hinv:Inv N ⟨lN o obj c.tm,lc o obj c.ob,c.tk⟩:=by
  refine⟨fun p hp=> ?_, ?_,fun p hp=> ?_⟩
  ·obtain⟨q,hq,e⟩:=pU hp;rw[e];exact hS.inv.dom q hq
  ·show((lc o obj c.ob).map cI).Pairwise _
   rw[qc];exact hS.inv.so.filter _
  ·obtain⟨_,q,h2,h3⟩:=kq hp;rw[h3];exact xb2 (hS.inv.wf _ h2)
 have hmem:∀p∈lc o obj c.ob,p.1≠o/\∃q,(p.1,q)∈s.ob/\p.2=oh o obj q:=by intro p hp;obtain⟨h1,q,h2,h3⟩:=kq hp;have h4:=iZ (iW hS.inv.so) h2;exact⟨h1,q,cY ((hS.look p.1).trans h4),h3⟩
 have hne:∀p∈lc o obj c.ob,(x.bk p.1).1≠(x.bk o).1:=fun p hp e=>by obtain⟨h1,q,h2,_⟩:=hmem p hp;exact h1 (hH.inj (p.1,q) h2 _ (cY hls) e)
 refine⟨x',⟨rfl,rfl,hG,fun i hi=> ?_,hcell⟩,hpub,_,⟨⟨?_,fun i hi=> ?_⟩,hM.defers, ?_⟩,Sim.of hinv,fun p hp=>(hne p hp).symm⟩
 ·show(if _ then _ else _)=_
  rw[if_neg (by rintro⟨_,h⟩;omega)];exact hob.2.2 i
 ·have:=hM.tm.1;rw[hS.tm]at this;simpa[CSt.st]using this
 ·have hiN:i<N:=by simpa[CSt.st]using hi
  have h1:=hM.tm.2 i (by rw[hS.tm];simpa using hiN);rw[hS.tm]at h1;simp only[CSt.st,aa,aR,cO hiN,bt,bq]at h1 ⊢;have:(CSt.mk (lN o obj c.tm) (lc o obj c.ob) c.tk).get i=(c.get i).pub o obj:=kr i c.tm;rw[this];exact hpub _ _ h1
 ·refine⟨
   ?_,fun b i v hv=>hG _ _ _ (hH.g0 b i v hv), ?_,hH.new, ?_,iW hinv.so, ?_, ?_,fun n hn p hp=> ?_,fun n hn m hm=>hH.tkd n ((hS.tk n).2 hn) m ((hS.tk m).2 hm),hH.os,hH.tape,hH.output,hH.size,hH.ext,hH.pin,hH.lay⟩
  ·intro b i v hv
   replace hv:(if b=(x.bk o).1/\i<obj.size then some (cc.getD i Go.undef)else x.G b i)=some v:=hv;split at hv
   ·rename_i hbi
    obtain⟨rfl,hi⟩:=hbi;cases hv;rw[hO.cell,bc,cG (by omega)];rfl
   ·exact hH.per b i v hv
  ·intro b i v hv
   replace hv:(if b=(x.bk o).1/\i<obj.size then some (cc.getD i Go.undef)else x.G b i)=some v:=hv;split at hv
   ·rename_i hbi
    exact .inr (hbi.1 ▸ hob.2.1)
   ·exact hH.gm b i v hv
  ·intro p hp
   obtain⟨h1,q,h2,h3⟩:=hmem p hp;obtain⟨g1,g2,g3⟩:=hH.obs _ h2;refine⟨?_,g2,fun off=> ?_⟩
   ·obtain⟨c',e',fl',fh',hO',hs',hr'⟩:=g1
    rw[h3];refine⟨c',e',fl',fh',hO', ?_,fun k hk=> ?_⟩
    ·cases q<;>first|exact hs'|exact⟨by simpa[oh,aF.size,l7]using hs'.1,hs'.2.1,fun h=>by cases h⟩
    ·cases q with
     |rc cs=>
      have hk':k<cs.length:=by simpa[oh,aF.size,l7]using hk
      have:=hr' k hk';simp only[oh,co,l7]at this ⊢;rw[aW _ (by rfl)];exact hpub _ _ this
     |arr sz xs=>exact cM.mono hG (hr' k hk)
     |bar l=>exact cM.mono hG (hr' k hk)
   ·show(if _ then _ else _)=_
    rw[if_neg (fun h=>hne p hp h.1)];exact g3 off
  ·intro p hp q hq hpq
   obtain⟨_,p',hp',_⟩:=hmem p hp;obtain⟨_,q',hq',_⟩:=hmem q hq;exact hH.inj (p.1,p') hp' (q.1,q') hq' hpq
  ·intro n hn'
   have hn:=(hS.tk n).2 hn';rcases hH.tks n hn with h|⟨h1,h2,h3⟩
   ·exact .inl h
   ·by_cases hlh:(x.τ n).2.1=(x.τ n).2.2
    ·exact .inl hlh
    ·refine .inr ⟨h1,h2,fun off h4 h5=> ?_⟩
     show(if _ then _ else _)=_;rw[if_neg (fun h=>(hH.tko n hn _ (cY hls)).elim (fun hb=>hb h.1) hlh)];exact h3 off h4 h5
  ·obtain⟨_,q,h2,_⟩:=hmem p hp
   exact hH.tko n ((hS.tk n).2 hn) (p.1,q) h2
theorem o7{o:Nat}{obj:aF}(hl:c.look o=some obj)(hnr:∀cs,obj≠ .rc cs)(hM:aO C x s a w)(hS:Sim N c s):
 ∃x',(x'.bk=x.bk/\x'.τ=x.τ)/\(∀sv v,Rep x sv v->Rep x' (sv.pub o obj) v)/\∃s',aO C x' s' a w/\Sim N ⟨lN o obj c.tm,lc o obj c.ob,c.tk⟩ s':=by
 obtain⟨x',h1,h2,s',h3,h4,_⟩:=o6 hl hnr hnr (aN _) (fun _ _=>rfl) (hS.lookmem hl) hM hS;exact⟨x',⟨h1.1,h1.2.1⟩,h2,s',h3,h4⟩
theorem DA{o:Nat}{obj:aF}(hl:c.look o=some obj)(hnr:∀cs,obj≠ .rc cs)(hM:aO C x s a w)(hS:Sim N c s):
 ∃x',(∀sv v,Rep x sv v->Rep x' (sv.pub o obj) v)/\∃s',aO C x' s' a w/\Sim N ⟨lN o obj c.tm,lc o obj c.ob,c.tk⟩ s':=by
 obtain⟨x',_,h⟩:=o7 hl hnr hM hS;exact⟨x',h⟩
theorem kZ{vs:List SV}{us:List Value}{o:Nat}(hM:aO C x s a w)(hS:Sim N c s)(hv:cw x vs us):
 ∃x' s',aO C x' s' a w/\Sim N (c.publish o vs).1 s'/\cw x' (c.publish o vs).2 us:=by
 unfold CSt.publish
 have go:∀{obj:aF},c.look o=some obj->(∀cs,obj≠ .rc cs)->∃x' s',aO C x' s' a w/\Sim N ⟨lN o obj c.tm,lc o obj c.ob,c.tk⟩ s'/\cw x' (SV.pubL o obj vs) us:=by intro obj hl hnr;obtain⟨x',hp,s',h1,h2⟩:=DA hl hnr hM hS;refine⟨x',s',h1,h2, ?_⟩;rw[l7];refine⟨by simpa using hv.1,fun i hi=> ?_⟩;rw[aW _ (by rfl)];exact hp _ _ (hv.2 i (by simpa using hi))
 split
 ·rename_i sz xs hl;exact go hl (fun cs e=>by cases e)
 ·rename_i l hl;exact go hl (fun cs e=>by cases e)
 ·exact⟨x,s,hM,hS,hv⟩
theorem jb{us:List Value}:∀{l:List Nat}{c:CSt}{s:St}{x:Sit}{vs:List SV},aO C x s a w->Sim N c s->cw x vs us->
 ∃x' s',aO C x' s' a w/\Sim N (eW c vs l).1 s'/\cw x' (eW c vs l).2 us
 |[],_,_,_,_,hM,hS,hv=>⟨_,_,hM,hS,hv⟩
 |o::r,c,s,x,vs,hM,hS,hv=>by obtain⟨x1,s1,h1,h2,h3⟩:=kZ (o:=o) hM hS hv;simp only[eW];exact jb h1 h2 h3
theorem M.pub(h:M C N c a w)(o:Nat):M C N (c.publish o []).1 a w:=by obtain⟨x,s,hM,hS⟩:=h;obtain⟨x',s',h1,h2,_⟩:=kZ (o:=o) (vs:=[]) (us:=[]) hM hS ⟨rfl,fun i hi=>by simp at hi⟩;exact⟨x',s',h1,h2⟩
theorem Qs(hM:aO C x s a w)(hS:Sim N c s)(id b lo hi:Nat)(hv:lo=hi\/((∃c e fl fh,dY w b c e fl fh/\hi<=c.size)/\C.mine b/\∀o,lo<=o->o<hi->x.G b o=none))
 (hob:∀p∈s.ob,b≠(x.bk p.1).1) (htk:∀u∈s.tk,lu (b,lo,hi) (x.τ u)\/(x.τ u).2.1=(x.τ u).2.2) {n:Nat} (hn:n<N) {v:SV}
 (hval:Rep (x.newT id b lo hi) v (a.tmps.toList.getD n Go.undef)):
 M C N ⟨jg (du id (id+1) c.tm) n v,bE id (id+1) c.ob,mN (cA id (id+1) c.tk) id⟩ a w:=by
 have hadd:cV C (x.newT id b lo hi) (bE id (id+1) s.ob) (id::cA id (id+1) s.tk) w:=
  hM.heap.addT id b lo hi hv (.inr fun p hp _=>hob p hp) (.inr fun u hu _=>htk u hu)
 have hM1:aO C (x.newT id b lo hi) ⟨SV.purgeL id (id+1) s.tm,bE id (id+1) s.ob,id::cA id (id+1) s.tk⟩ a w:=
  ⟨cw.mono (x:=x) (x':=x.newT id b lo hi) (lo:=id) (hi:=id+1) (fun _ _ _ h=>h) (fun _ _=>rfl) (Sit.newT_ne x id _ _ _) hM.tm,hM.defers,hadd⟩
 have hS1:Sim N ⟨du id (id+1) c.tm,bE id (id+1) c.ob,mN (cA id (id+1) c.tk) id⟩ ⟨SV.purgeL id (id+1) s.tm,bE id (id+1) s.ob,id::cA id (id+1) s.tk⟩:=
  (hS.purge id (id+1)).tks (fun u=>by rw[ko,av,bG,bG,hS.tk])
 refine⟨x.newT id b lo hi,_, ?_,hS1.put (d:=some n) (fun k e=>by cases e;exact hn) v⟩;refine⟨⟨?_,fun i hi=> ?_⟩,hM1.defers,hM1.heap⟩
 ·have:=hM1.tm.1;simpa[St.put]using this
 ·simp only[St.put,cu]at hi
  simp only[St.put,aa,gq]
  by_cases hni:n=i
  ·subst hni
   rw[if_pos rfl,if_pos hi];rw[<-aa];exact hval
  ·rw[if_neg hni]
   have:=hM1.tm.2 i hi;simp only[aa]at this;exact this
theorem wq(h:M C N c a w){n id o sz off k cp:Nat}(hg:c.get n= .psl o sz off k (some cp))(hc:Qu c n id o sz off k cp (c.look o)=some c')(hn:n<N):M C N c' a w:=by
 cases hl:c.look o with
 |none=>rw[hl]at hc;cases hc;exact h
 |some obj0=>
  rw[hl]at hc
  have main:∀(obj:aF)(v:SV),(∀cs,obj≠ .rc cs)->(∀cs,obj0≠ .rc cs)->obj.size=(off+k)*sz->(off+cp)*sz<=obj0.size->k<=cp->(∀k,k<obj.size->obj.cell k=obj0.cell k)->obj.wf=true->
   (∀(x':Sit)(off':Nat),(cp=0\/off'=off*sz)->(∀k,k<obj.size->∃u,x'.G ((x'.bk o).1) k=some u/\cM x'.G (obj.cell k) u)->cM x'.G v (.slice (some ⟨(x'.bk o).1,off',none⟩) k cp))->
   (∀x v',OP x v v'=dq x sz (.id id) v')->
   M C N (Ey c n id o obj v) a w:=by
   intro obj v hnr hnr0 hsz hle hk hcl hwf hD htok;obtain⟨x,s,hM,hS⟩:=h;have hle':obj.size<=obj0.size:=by rw[hsz];exact cB (bI _ (by omega)) hle
   obtain⟨x',⟨hβ,hτ,hG,hfree,hcell⟩,hpub,s',hM',hS',hne⟩:=o6 hl hnr hnr0 hle' hcl hwf hM hS;have hls:s.look o=some obj0:=(hS.look o).trans hl;obtain⟨cc,e,fl,fh,hO,hosz,_⟩:=eY hM hls;have hob:=hM.heap.obs _ (cY hls);have hslot:=hM.slot n;rw[hS.get,hg]at hslot;obtain⟨cp',hkc,hcc,off',he,hoff⟩:=hslot.psl_inv;obtain rfl:=hcc _ rfl
   have hval0:a.tmps.toList.getD n Go.undef= .slice (some ⟨(x.bk o).1,off',none⟩) k cp:=by rw[<-he];simp[bc,aa]
   refine Qs hM' hS' id ((x.bk o).1) ((off+k)*sz) ((off+cp)*sz) (.inr ⟨⟨cc,e,fl,fh,hO,by omega⟩,hob.2.1,fun i h1 h2=>hfree i (by omega)⟩) (fun p hp=>hne p hp) (fun u hu=> ?_) hn ?_
   ·have hu':=(hS'.tk u).1 hu
    have hu2:=(hS.tk u).2 hu';rw[hτ];exact(hM.heap.tko u hu2 _ (cY hls)).imp (fun h e=>h e.symm) (fun h=>h)
   ·rw[hval0]
    have h1:=hD (x'.newT id ((x.bk o).1) ((off+k)*sz) ((off+cp)*sz)) off' hoff (by show ∀k,k<obj.size->∃u,x'.G ((x'.bk o).1) k=some u/\cM x'.G (obj.cell k) u;rw[hβ];exact hcell)
    have e1:(x'.newT id ((x.bk o).1) ((off+k)*sz) ((off+cp)*sz)).bk o=x.bk o:=by show x'.bk o=_;rw[hβ]
    rw[e1]at h1;refine .dat _ _ h1 ?_;rw[htok];refine⟨_,k,cp,rfl, ?_⟩
    by_cases hcz:cp=0
    ·exact .inl (by omega)
    ·refine .inr ⟨_,off',rfl, ?_⟩
     rw[Sit.newT_eq,hoff.resolve_left hcz,bQ,bQ]
  cases obj0 with
  |rc cs=>cases hc;exact h
  |bar l=>
   simp only[Qu]at hc;split at hc<;>cases hc
   ·rename_i hcond
    obtain⟨rfl,h2,h3⟩:=hcond;refine main (.bar (l.take (off+k))) (.byt ((l.drop off).take k) (.id id)) (fun cs e=>by cases e) (fun cs e=>by cases e) (by simp only[aF.size,ax];omega) (by simp only[aF.size];omega) h3 (fun i hi=> ?_) rfl (fun x' off' hoff hcell=> ?_) (fun _ _=>rfl)
    ·simp only[aF.size,ax]at hi
     simp only[aF.cell,aa,bB,if_pos (show i<off+k by omega)]
    ·have hlen:((l.drop off).take k).length=k:=by simp;omega
     refine .byt _ _ _ _ _ _ hlen.symm h3 fun i hi=> ?_
     have hoff':off'=off:=by omega
     obtain⟨u,hu,hr⟩:=hcell (off+i) (by simp only[aF.size,ax];omega);rw[hoff',hu];simp only[aF.cell]at hr
     have e1:((l.drop off).take k).getD i 0=(l.take (off+k)).getD (off+i) 0:=by simp only[aa,bB,if_pos hi,bh,if_pos (show off+i<off+k by omega)]
     rw[e1];cases hr with
     |u8 b=>rfl
   ·exact h
  |arr sz' xs=>
   simp only[Qu]at hc;split at hc<;>cases hc
   ·rename_i hcond
    obtain⟨rfl,h2,h3⟩:=hcond;have hwf0:∀y∈xs,y.length=sz':=by obtain⟨x,s,hM,hS⟩:=h;exact gJ.1 (hS.lookmem hl)
    have hwt:∀y∈xs.take (off+k),y.length=sz':=fun y hy=>hwf0 y (bV hy)
    have hrow:(xs.drop off).take k=(xs.take (off+k)).drop off:=by rw[List.drop_take,Nat.add_sub_cancel_left]
    refine main (.arr sz' (xs.take (off+k))) (.lst sz' ((xs.drop off).take k) (.id id)) (fun cs e=>by cases e) (fun cs e=>by cases e) (by simp only[aF.size,ax];congr 1;omega) (by simp only[aF.size];exact bI _ h2) h3 (fun i hi=> ?_) (gJ.2 hwt) (fun x' off' hoff hcell=> ?_) (fun _ _=>rfl)
    ·simp only[aF.size,ax]at hi
     simp only[aF.cell,aa,bB];have hd:i/sz'<off+k:=Nat.div_lt_of_lt_mul (by rw[dP];exact Nat.lt_of_lt_of_le hi (bI _ (Nat.min_le_left _ _)));rw[if_pos hd]
    ·have hlen:((xs.drop off).take k).length=k:=by simp;omega
     have hgr:∀i,i<k->((xs.drop off).take k).getD i []=(xs.take (off+k)).getD (off+i) []:=fun i hi=>by simp only[aa,bB,if_pos hi,bh,if_pos (show off+i<off+k by omega)]
     have hrl:∀i,i<k->((xs.drop off).take k).getD i []∈xs.take (off+k):=fun i hi=>by rw[hgr i hi,aa,af (show off+i<(xs.take (off+k)).length by rw[ax];omega)];exact bi _
     have hcl:∀i j,i<k->j<sz'->∃u,x'.G ((x'.bk o).1) (off'+i*sz'+j)=some u/\cM x'.G ((((xs.drop off).take k).getD i []).getD j .undef) u:=by
      intro i j hi hj;have hoff':off'=off*sz':=hoff.resolve_left (by omega)
      have hlt:(off+i)*sz'+j<(off+k)*sz':=by have:=bI sz' (show off+i+1<=off+k by omega);rw[bQ,Nat.one_mul]at this;omega
      obtain⟨u,hu,hr⟩:=hcell ((off+i)*sz'+j) (by simp only[aF.size,ax];rw[fp (by omega)];exact hlt);refine⟨u,by rw[hoff',<-bQ];exact hu, ?_⟩;simp only[aF.cell]at hr;have e1:((off+i)*sz'+j)/sz'=off+i:=by rw[dP,Nat.mul_add_div (by omega),Nat.div_eq_of_lt hj,fx]
      have e2:((off+i)*sz'+j) % sz'=j:=by rw[dP,Nat.mul_add_mod,xT hj]
      rw[e1,e2]at hr;rw[hgr i hi];exact hr
     refine .lst _ _ _ _ _ _ _ (fun i j=>(x'.G ((x'.bk o).1) (off'+i*sz'+j)).getD Go.undef) hlen.symm h3 (fun i hi=>hwt _ (hrl i hi)) (fun i j hi hj=> ?_) (fun i j hi hj=> ?_)
     ·obtain⟨u,hu,_⟩:=hcl i j hi hj
      rw[hu];rfl
     ·obtain⟨u,hu,hr⟩:=hcl i j hi hj
      rw[hu];exact hr
   ·exact h
theorem ky(hM:aO C x s a w)(hS:Sim N c s)(id:Nat)(t:Option Nat)(ht:∀k,t=some k->k∈c.tk){n:Nat}(hn:n<N){v:SV}
 (hv:∀u,Rep x (c.get n) u->Rep (x.newT id ((t.elim (0,0,0) x.τ)).1 ((t.elim (0,0,0) x.τ)).2.1 ((t.elim (0,0,0) x.τ)).2.2) v u):
 M C N ⟨jg (du id (id+1) c.tm) n v,bE id (id+1) c.ob,mN (cA id (id+1) (t.elim c.tk fun k=>cA k (k+1) c.tk)) id⟩ a w:=by
 generalize hT:t.elim (0,0,0) x.τ=T at hv;generalize hL:(t.elim c.tk fun k=>cA k (k+1) c.tk)=L;have hH:=hM.heap
 have hLs:∀u∈L,u∈s.tk/\∀k,t=some k->u≠k:=by
  intro u hu;rw[<-hL]at hu;cases t with
  |none=>exact⟨(hS.tk u).2 hu,fun k e=>by cases e⟩
  |some k=>obtain⟨h1,h2⟩:=bG.1 hu;exact⟨(hS.tk u).2 h1,fun k' e=>by cases e;omega⟩
 have hadd:cV C (x.newT id T.1 T.2.1 T.2.2) (bE id (id+1) s.ob) (id::cA id (id+1) L) w:=by
  refine(hH.sub (tk':=L) (nW.refl _) (fun u hu=>(hLs u hu).1)).addT id T.1 T.2.1 T.2.2 ?_ ?_ ?_
  ·cases t with
   |none=>subst hT;exact .inl rfl
   |some k=>have:=hH.tks k ((hS.tk k).2 (ht k rfl));unfold gZ at this;subst hT;exact this
  ·cases t with
   |none=>subst hT;exact .inl rfl
   |some k=>
    by_cases hc:(x.τ k).2.1=(x.τ k).2.2
    ·subst hT;exact .inl hc
    ·subst hT
     exact .inr fun p hp _=>(hH.tko k ((hS.tk k).2 (ht k rfl)) p hp).resolve_right hc
  ·cases t with
   |none=>subst hT;exact .inl rfl
   |some k=>
    by_cases hc:(x.τ k).2.1=(x.τ k).2.2
    ·subst hT;exact .inl hc
    ·subst hT
     refine .inr fun u hu _=> ?_
     obtain⟨h1,h2⟩:=hLs u hu;rcases hH.tkd k ((hS.tk k).2 (ht k rfl)) u h1 (fun e=>h2 k rfl e.symm)with h|h|h
     ·exact .inl h
     ·exact absurd h hc
     ·exact .inr h
 have hM1:aO C (x.newT id T.1 T.2.1 T.2.2) ⟨SV.purgeL id (id+1) s.tm,bE id (id+1) s.ob,id::cA id (id+1) L⟩ a w:=
  ⟨cw.mono (x:=x) (x':=x.newT id T.1 T.2.1 T.2.2) (lo:=id) (hi:=id+1) (fun _ _ _ h=>h) (fun _ _=>rfl) (Sit.newT_ne x id _ _ _) hM.tm,hM.defers,hadd⟩
 have hS1:Sim N ⟨du id (id+1) c.tm,bE id (id+1) c.ob,mN (cA id (id+1) L) id⟩ ⟨SV.purgeL id (id+1) s.tm,bE id (id+1) s.ob,id::cA id (id+1) L⟩:=
  (hS.purge id (id+1)).tks (fun u=>by rw[ko,av])
 refine⟨x.newT id T.1 T.2.1 T.2.2,_, ?_,hS1.put (d:=some n) (fun k e=>by cases e;exact hn) v⟩;have hlt:n<s.tm.length:=by rw[hS.tm];simpa using hn
 refine⟨⟨?_,fun i hi=> ?_⟩,hM1.defers,hM1.heap⟩
 ·have:=hM1.tm.1;simpa[St.put]using this
 ·simp only[St.put,cu]at hi
  simp only[St.put,aa,gq]
  by_cases hni:n=i
  ·subst hni
   rw[if_pos rfl,if_pos hi];refine hv _ ?_;have:=hM.tm.2 n hlt;have e:s.tm.getD n .undef=c.get n:=hS.get n;rw[e]at this;rw[<-aa];exact this
  ·rw[if_neg hni,<-aa,<-aa]
   exact hM1.tm.2 i hi
theorem wt(h:M C N c a w){n id:Nat}(hc:Qv c n id (c.get n)=some c'):M C N c' a w:=by
 have hnN:c.get n≠ .undef->n<N:=by
  obtain⟨x,s,hM,hS⟩:=h;intro hne;rcases bL n N with h1|h1
  ·exact h1
  ·exact absurd (hS.inv.get h1) hne
 cases hg:c.get n with
 |byt l t=>
  rw[hg]at hc;have hN:=hnN (by rw[hg];exact fun e=>by cases e);cases t with
  |no=>cases hc;exact h
  |clip=>
   cases hc;obtain⟨x,s,hM,hS⟩:=h;refine ky hM hS id none (fun k e=>by cases e) hN fun u hu=> ?_
   rw[hg]at hu;exact leT.byt id l x u hu
  |id t=>
   simp only[Qv]at hc;split at hc
   ·cases hc;exact h
   ·split at hc<;>cases hc
    rename_i h1 h2;obtain⟨x,s,hM,hS⟩:=h;refine ky hM hS id (some t) (fun k e=>by cases e;simpa using h2) hN fun u hu=> ?_
    rw[hg]at hu;obtain⟨b,cap,he,_,hD,hsp⟩:=hu.byt_inv;refine .dat _ _ (hD.tok (.byt l (.id id)) (.inl ⟨l,_,_,rfl,rfl⟩)) ?_;obtain⟨a',n',cap',he',hh⟩:=hsp;refine⟨a',n',cap',he',hh.imp (fun h=>h) ?_⟩;rintro⟨b,off,h3,h4⟩;exact⟨b,off,h3,by rw[Sit.newT_eq];exact h4⟩
 |lst sz xs t=>
  rw[hg]at hc;have hN:=hnN (by rw[hg];exact fun e=>by cases e);cases t with
  |no=>cases hc;exact h
  |clip=>
   cases hc;obtain⟨x,s,hM,hS⟩:=h;refine ky hM hS id none (fun k e=>by cases e) hN fun u hu=> ?_
   rw[hg]at hu;exact leT.lst id sz xs x u hu
  |id t=>
   simp only[Qv]at hc;split at hc
   ·cases hc;exact h
   ·split at hc<;>cases hc
    rename_i h1 h2;obtain⟨x,s,hM,hS⟩:=h;refine ky hM hS id (some t) (fun k e=>by cases e;simpa using h2) hN fun u hu=> ?_
    rw[hg]at hu;obtain⟨b,cap,he,_,hD,hsp⟩:=hu.lst_inv;refine .dat _ _ (hD.tok (.lst sz xs (.id id)) (.inr ⟨sz,xs,_,_,rfl,rfl⟩)) ?_;obtain⟨a',n',cap',he',hh⟩:=hsp;refine⟨a',n',cap',he',hh.imp (fun h=>h) ?_⟩;rintro⟨b,off,h3,h4⟩;exact⟨b,off,h3,by rw[Sit.newT_eq];exact h4⟩
 |psl o sz off k cp=>
  rw[hg]at hc;have hN:=hnN (by rw[hg];exact fun e=>by cases e);cases cp with
  |none=>cases hc;exact h
  |some cp=>exact wq h hg hc hN
 |_=>rw[hg]at hc;cases hc;exact h
theorem aO.retag(hM:aO C x s a w)(n:Nat){v:SV}(hval:Rep x v (a.tmps.toList.getD n Go.undef)):aO C x (s.put (some n) v) a w:=by
 refine⟨⟨?_,fun i hi=> ?_⟩,hM.defers,hM.heap⟩
 ·have:=hM.tm.1;simpa[St.put]using this
 ·simp only[St.put,cu]at hi
  simp only[St.put,aa,gq]
  by_cases hni:n=i
  ·subst hni
   rw[if_pos rfl,if_pos hi];rw[<-aa];exact hval
  ·rw[if_neg hni]
   have:=hM.tm.2 i hi;simp only[aa]at this;exact this
theorem cV.move{ob:List (Nat×aF)}{tk:List Nat}(h:cV C x ob tk w){o d:Nat}(hd100:100<=d){obj:aF}(ho:(o,obj)∈ob)(hnr:∀cs,obj≠ .rc cs):
 cV C (x.newO d (x.bk o).1 (x.bk o).2) ((d,obj)::bE d (d+1) (bE o (o+1) ob)) (cA d (d+1) (cA o (o+1) tk)) w:=by
 have hβ:=Sit.newO_ne x d (x.bk o).1 (k:=(x.bk o).2);obtain⟨⟨c,e,fl,fh,hO,hs,hr⟩,hm,hg⟩:=h.obs _ ho;have hd2:(x.newO d (x.bk o).1 (x.bk o).2).bk d=x.bk o:=if_pos rfl
 have hob:∀p∈bE d (d+1) (bE o (o+1) ob),(x.newO d (x.bk o).1 (x.bk o).2).bk p.1=x.bk p.1/\∃q,(p.1,q)∈ob/\p.1≠o/\¬(d<=p.1/\p.1<d+1)/\p.2=(q.purge o (o+1)).purge d (d+1):=by intro p hp;obtain⟨h1,q,h2,h3⟩:=cy hp;obtain⟨h4,q',h5,h6⟩:=cy h2;simp only at h4 h5 h6;exact⟨hβ _ h1,q',h5,by omega,h1,by rw[h3,h6]⟩
 have htk:∀t∈cA d (d+1) (cA o (o+1) tk),t∈tk:=fun t ht=>(bG.1 (bG.1 ht).1).1
 refine⟨h.per,h.g0,h.gm,h.new, ?_, ?_, ?_,fun t ht=>h.tks t (htk t ht), ?_,fun t ht u hu=>h.tkd t (htk t ht) u (htk u hu),h.os,h.tape,h.output,h.size,h.ext,fun i hi=>by rw[hβ i (by omega)];exact h.pin i hi,h.lay⟩
 ·intro p hp
  rcases av.1 hp with rfl|hp
  ·refine⟨⟨c,e,fl,fh,by rw[hd2];exact hO,by rw[hd2];exact hs,fun k hk=> ?_⟩,by rw[hd2];exact hm,fun off=>by rw[hd2];exact hg off⟩
   have:=hr k hk;cases obj with
   |rc cs=>exact absurd rfl (hnr cs)
   |arr sz xs=>exact this
   |bar l=>exact this
  ·obtain⟨he,q,h1,h2,h3,h4⟩:=hob p hp
   obtain⟨h5,h6,h7⟩:=h.obs _ h1;refine⟨?_,by rw[he];exact h6,fun off=>by rw[he];exact h7 off⟩;have e1:=h5.of_heap (x':=x) (w':=w) (lo:=o) (hi:=o+1) rfl (fun _ _ _ h=>h) (fun _ _=>rfl) (fun _ _=>rfl) (by omega);have e2:=e1.of_heap (x':=x.newO d (x.bk o).1 (x.bk o).2) (w':=w) (lo:=d) (hi:=d+1) rfl (fun _ _ _ h=>h) hβ (fun _ _=>rfl) h3;rw[h4];exact e2
 ·rw[aP,ep,eT,eT]
  refine⟨fun hmem=> ?_,(h.nd.filter _).filter _⟩;have:=(List.mem_filter.1 hmem).2;simp at this
 ·intro p hp q hq hpq
  rcases av.1 hp with rfl|hp<;>rcases av.1 hq with rfl|hq
  ·rfl
  ·obtain⟨he,q',h1,h2,_⟩:=hob q hq
   rw[hd2,he]at hpq;exact absurd (h.inj (o,obj) ho (q.1,q') h1 hpq).symm h2
  ·obtain⟨he,q',h1,h2,_⟩:=hob p hp
   rw[hd2,he]at hpq;exact absurd (h.inj (p.1,q') h1 (o,obj) ho hpq) h2
  ·obtain⟨he,q1,h1,_⟩:=hob p hp
   obtain⟨he',q2,h2,_⟩:=hob q hq;rw[he,he']at hpq;exact h.inj (p.1,q1) h1 (q.1,q2) h2 hpq
 ·intro t ht p hp
  rcases av.1 hp with rfl|hp
  ·show(x.τ t).1≠((x.newO d (x.bk o).1 (x.bk o).2).bk d).1\/_
   rw[hd2];exact h.tko t (htk t ht) (o,obj) ho
  ·obtain⟨he,q,h1,_⟩:=hob p hp
   show(x.τ t).1≠((x.newO d (x.bk o).1 (x.bk o).2).bk p.1).1\/_;rw[he];exact h.tko t (htk t ht) (p.1,q) h1
theorem aO.move(hM:aO C x s a w){o d:Nat}(hd100:100<=d){obj:aF}(hl:s.look o=some obj)(hnr:∀cs,obj≠ .rc cs):
 aO C (x.newO d (x.bk o).1 (x.bk o).2) (((s.purge o (o+1)).purge d (d+1)).addO d obj) a w:=
 ⟨cw.mono (x:=x) (x':=x.newO d (x.bk o).1 (x.bk o).2) (lo:=d) (hi:=d+1) (fun _ _ _ h=>h) (Sit.newO_ne x d _) (fun _ _=>rfl) (hM.purge o (o+1)).tm,hM.defers,hM.heap.move hd100 (cY hl) hnr⟩
theorem vp{n id o sz off k:Nat}{cap:Option Nat}{obj:aF}(hM:aO C x s a w)(hS:Sim N c s)(hn:n<N)(hid:100<=id)(hg:c.get n= .psl o sz off k cap)(hl:c.look o=some obj)(hnr:∀cs,obj≠ .rc cs):
 M C N (mvC c n id o sz off k cap obj) a w:=by
 have hM1:=hM.move hid (by rw[hS.look];exact hl) hnr;have hS1:=(((hS.purge o (o+1)).purge id (id+1)).addO id (hS.lookmem hl)).put (d:=some n) (fun k e=>by cases e;exact hn) (.psl id sz off k cap);refine⟨x.newO id (x.bk o).1 (x.bk o).2,_, ?_,hS1⟩
 have hv:Rep x (.psl o sz off k cap) (a.tmps.toList.getD n Go.undef):=by have:=hM.tm.2 n (by rw[hS.tm];simpa using hn);rw[show s.tm.getD n .undef=c.get n from hS.get n,hg]at this;exact this
 obtain⟨cap',h1,h2,off',he,h3,h4⟩:=hv.psl_invA;refine hM1.retag n ?_;rw[he];have hd2:(x.newO id (x.bk o).1 (x.bk o).2).bk id=x.bk o:=if_pos rfl;have:=Rep.psl (x:=x.newO id (x.bk o).1 (x.bk o).2) id sz off k cap off' cap' h3 h1 h2 (by rw[hd2];exact h4);rw[hd2]at this;exact this
theorem xa(h:M C N c a w){n id:Nat}(hid:100<=id)(hc:xap c n id (c.get n)=some c'):M C N c' a w:=by
 obtain⟨x,s,hM,hS⟩:=h;cases hg:c.get n with
 |psl o sz off k cap=>
  rw[hg]at hc
  have hn:n<N:=by
   rcases bL n N with h|h
   ·exact h
   ·rw[hS.inv.get h]at hg;cases hg
  simp only[xap]at hc;split at hc
  ·cases hc;exact⟨x,s,hM,hS⟩
  ·cases hl:c.look o with
   |none=>rw[hl]at hc;cases hc;exact⟨x,s,hM,hS⟩
   |some obj=>
    rw[hl]at hc;cases obj with
    |rc cs=>cases hc;exact⟨x,s,hM,hS⟩
    |arr sz' xs=>cases hc;exact vp hM hS hn hid hg hl (fun cs e=>by cases e)
    |bar l=>cases hc;exact vp hM hS hn hid hg hl (fun cs e=>by cases e)
 |_=>rw[hg]at hc;cases hc;exact⟨x,s,hM,hS⟩
theorem pA(h:M C N c a w){q:Dir}(hc:qQ c q=some c'):M C N c' a w:=by
 cases q with
 |kill l=>cases hc;exact h.kill l
 |gc l=>cases hc;exact h.gc
 |gcr lo hi=>cases hc;exact h.purge lo hi
 |pubo o=>cases hc;exact h.pub _
 |pub n=>
  simp only[qQ]at hc;split at hc<;>cases hc
  ·exact h.pub _
  ·exact h
 |tok n id=>
  simp only[qQ]at hc;split at hc
  ·cases hc
  ·exact wt h hc
 |obj n id=>
  simp only[qQ]at hc;split at hc
  ·cases hc
  ·exact xa h (by omega) hc
theorem jZ:∀{l:List Dir}{c:CSt},M C N c a w->ix c l=some c'->M C N c' a w
 |[],_,h,hc=>by cases hc;exact h
 |q::r,c,h,hc=>by
  simp only[ix]at hc;split at hc
  ·rename_i c1 h1;exact jZ (pA h h1) hc
  ·cases hc
end Go.Sy
namespace Go.Sy
variable [bg]
variable {P : Program} {C : Ctx} {x : Sit} {a : Act} {w : World} {N : Nat} {c c' : CSt} {s : St}
def kO(P:Program)(f:Nat)(args:List SV)(os:List aF)(k:Nat)(R:ej->Prop):Prop:=
 ei P f=true/\∀(C:Ctx)(x:Sit)(w:World)(vs:List Value),C.w0=w->C.G0=x.G->
  (∀b,C.mine b->w.heap.size<=b\/(∃i,i<os.length/\(x.bk i).1=b)\/(∃t,50<=t/\t<50+k/\(x.τ t).2.1≠(x.τ t).2.2/\(x.τ t).1=b))->os.length<=40->
  (∀o∈os,o.wf=true)->cV C x (idx os) (tks 50 k) w->cw x args vs->
  Calls P f ⟨vs⟩ w fun e w'=>∃v x' q,e= .returned v/\R q/\Rep x' q.r v/\cV C x' q.os q.tk w'/\(∀p∈q.os,p.2.wf=true)/\∀i,i<os.length->x'.bk i=x.bk i
theorem ku(cs:List SV):SV.bareL cs=cs.map SV.bare:=by
 induction cs with
 |nil=>rfl
 |cons c r ih=>simp only[SV.bareL,aP,ih]
theorem Rep.bare{x x':Sit}(hG:x'.G=x.G)(hβ:x'.bk=x.bk){sv:SV}{v:Value}(h:Rep x sv v):Rep x' sv.bare v:=by
 induction h with
 |undef v=>exact .undef v
 |dat s v h ht=>
  have h':=h.toData;rw[<-hG]at h';cases s with
  |byt l t=>exact .dat _ _ h' trivial
  |lst sz xs t=>exact .dat _ _ h' trivial
  |undef=>exact .undef v
  |bool b=>exact .dat _ _ h' trivial
  |int k n=>exact .dat _ _ h' trivial
  |u8 b=>exact .dat _ _ h' trivial
  |str l=>exact .dat _ _ h' trivial
  |nilp=>exact .dat _ _ h' trivial
  |nili=>exact .dat _ _ h' trivial
  |pp cs=>exact .dat _ _ h' trivial
  |ptr o off=>cases h
  |ap o sz i j=>cases h
  |psl o sz off n cap=>cases h
  |agg cs=>cases h
  |tup cs=>cases h
  |fn f a b=>cases h
 |ptr o off=>simp only[SV.bare];rw[<-hβ];exact .ptr o off
 |ap o sz i j=>simp only[SV.bare];rw[<-hβ];exact .ap o sz i j
 |psl o sz off n cap off' cap' h hn hc hk=>simp only[SV.bare];rw[<-hβ]at hk ⊢;exact .psl o sz off n cap off' cap' h hn hc hk
 |agg cs vs hl _ ih=>simp only[SV.bare,ku];exact .agg _ _ (by simpa using hl) fun i hi=>by rw[aW _ (by rfl)];exact ih i (by simpa using hi)
 |tup cs vs hl _ ih=>simp only[SV.bare,ku];exact .tup _ _ (by simpa using hl) fun i hi=>by rw[aW _ (by rfl)];exact ih i (by simpa using hi)
 |fn f c1 c2 v1 v2 hl1 _ hl2 _ ih1 ih2=>simp only[SV.bare,ku];exact .fn _ _ _ _ _ (by simpa using hl1) (fun i hi=>by rw[aW _ (by rfl)];exact ih1 i (by simpa using hi)) (by simpa using hl2) (fun i hi=>by rw[aW _ (by rfl)];exact ih2 i (by simpa using hi))
def OQ(x:Sit):Option Nat->Nat×Nat×Nat
 |none=>(0,0,0)
 |some t=>x.τ t
def oH(x x1:Sit)(j:Nat)(l:List (Option Nat)):Prop:=∀k,k<l.length->x1.τ (j+k)=OQ x (l.getD k none)
theorem oH.left{x x1:Sit}{j:Nat}{l r:List (Option Nat)}(h:oH x x1 j (l++r)):oH x x1 j l:=fun k hk=>by have:=h k (by simp;omega);rwa[aa,bn hk,<-aa]at this
theorem oH.right{x x1:Sit}{j:Nat}{l r:List (Option Nat)}(h:oH x x1 j (l++r)):oH x x1 (j+l.length) r:=fun k hk=>by have:=h (l.length+k) (by simp;omega);rw[aa,bx (by omega),<-aa]at this;rw[cK,this];congr 2;omega
theorem kG{t:Nat}:∀{l:List (Option Nat)},t∈cz l↔some t∈l
 |[]=>by simp[cz]
 |none::r=>by simp[cz,kG]
 |some u::r=>by simp[cz,kG]
theorem fC(l r:List (Option Nat)):cz (l++r)=cz l++cz r:=by
 induction l with
 |nil=>rfl
 |cons o l ih=>cases o<;>simp[cz,ih]
theorem DM{x x1:Sit}(hG:x1.G=x.G)(hβ:x1.bk=x.bk){v:SV}{u:Value}(h:Rep x v u):Rep x1 v.kclip u:=by
 have hb:=h.bare hG hβ;cases v with
 |lst sz xs t=>
  cases t with
  |no=>exact hb
  |id u=>exact hb
  |clip=>
   cases xs with
   |cons y r=>exact hb
   |nil=>obtain⟨b,cap,he,_,hD,hsp⟩:=h.lst_inv;obtain⟨a',n',he'⟩:=hsp;rw[<-hG]at hD;exact .dat _ _ (hD.tok (.lst _ [] .clip) (.inr ⟨_,[],_,_,rfl,rfl⟩)) ⟨a',n',he'⟩
 |byt l t=>
  cases t with
  |no=>exact hb
  |id u=>exact hb
  |clip=>
   cases l with
   |cons y r=>exact hb
   |nil=>obtain⟨b,cap,he,_,hD,hsp⟩:=h.byt_inv;obtain⟨a',n',he'⟩:=hsp;rw[<-hG]at hD;exact .dat _ _ (hD.tok (.byt [] .clip) (.inl ⟨[],_,_,rfl,rfl⟩)) ⟨a',n',he'⟩
 |_=>exact hb
theorem xf{x x1:Sit}(hG:x1.G=x.G)(hβ:x1.bk=x.bk){cs:List SV}{u:Value}(h:Rep x (.agg cs) u):Rep x1 (.agg (cs.map SV.kclip)) u:=by
 cases h with
 |dat _ _ h _=>cases h
 |agg _ vs hl h=>
  refine .agg _ vs (by rw[aX];exact hl) fun i hi=> ?_
  rw[aX]at hi;have h1:=DM hG hβ (h i hi);rw[aa,af hi,bq]at h1;rw[aa,aR,af hi,bt,bq];exact h1
theorem kg{x x1:Sit}(hG:x1.G=x.G)(hβ:x1.bk=x.bk){tk:List Nat}{j:Nat}{v:SV}{u:Value}(h:Rep x v u)(ht:oH x x1 j (jN tk j v).2):Rep x1 (jN tk j v).1 u:=by
 have hb:=h.bare hG hβ;cases v with
 |byt l t=>
  cases t with
  |no=>exact hb
  |clip=>have e:=ht 0 (by simp[jN]);obtain⟨b,cap,he,_,hD,hsp⟩:=h.byt_inv;obtain⟨a',n',he'⟩:=hsp;rw[<-hG]at hD;exact .dat _ _ (hD.tok (.byt l (.id j)) (.inl ⟨l,_,_,rfl,rfl⟩)) ⟨a',n',n',he',.inl rfl⟩
  |id t=>
   by_cases hc:tk.contains t=true
   ·have e:=ht 0 (by simp only[jN,hc,if_true,au];omega)
    simp only[jN,hc,if_true]at e ⊢;obtain⟨b,cap,he,_,hD,hsp⟩:=h.byt_inv;obtain⟨a',n',cap',he',hh⟩:=hsp;rw[<-hG]at hD;refine .dat _ _ (hD.tok (.byt l (.id j)) (.inl ⟨l,_,_,rfl,rfl⟩)) ⟨a',n',cap',he',hh.imp id ?_⟩;rintro⟨b,off,h1,h2⟩;exact⟨b,off,h1,by rw[fx]at e;rw[e];exact h2⟩
   ·simp only[jN,hc,if_false];exact hb
 |lst sz xs t=>
  cases t with
  |no=>exact hb
  |clip=>obtain⟨b,cap,he,_,hD,hsp⟩:=h.lst_inv;obtain⟨a',n',he'⟩:=hsp;rw[<-hG]at hD;exact .dat _ _ (hD.tok (.lst sz xs (.id j)) (.inr ⟨sz,xs,_,_,rfl,rfl⟩)) ⟨a',n',n',he',.inl rfl⟩
  |id t=>
   by_cases hc:tk.contains t=true
   ·have e:=ht 0 (by simp only[jN,hc,if_true,au];omega)
    simp only[jN,hc,if_true]at e ⊢;obtain⟨b,cap,he,_,hD,hsp⟩:=h.lst_inv;obtain⟨a',n',cap',he',hh⟩:=hsp;rw[<-hG]at hD;refine .dat _ _ (hD.tok (.lst sz xs (.id j)) (.inr ⟨sz,xs,_,_,rfl,rfl⟩)) ⟨a',n',cap',he',hh.imp id ?_⟩;rintro⟨b,off,h1,h2⟩;exact⟨b,off,h1,by rw[fx]at e;rw[e];exact h2⟩
   ·simp only[jN,hc,if_false];exact hb
 |agg cs=>exact xf hG hβ h
 |_=>exact hb
theorem oN{tk:List Nat}{j:Nat}{v:SV}:∀t∈cz (jN tk j v).2,t∈tk:=by
 intro t ht;cases v with
 |byt l q=>
  cases q with
  |id u=>
   by_cases hc:tk.contains u=true
   ·simp only[jN,hc,if_true,cz,bp]at ht;subst ht;simpa using hc
   ·simp only[jN,hc,if_false,cz]at ht;cases ht
  |_=>cases ht
 |lst sz xs q=>
  cases q with
  |id u=>
   by_cases hc:tk.contains u=true
   ·simp only[jN,hc,if_true,cz,bp]at ht;subst ht;simpa using hc
   ·simp only[jN,hc,if_false,cz]at ht;cases ht
  |_=>cases ht
 |_=>cases ht
theorem fy{x:Sit}{v:SV}{u:Value}{cs:List SV}{us:List Value}:cw x (v::cs) (u::us)↔Rep x v u/\cw x cs us:=by
 constructor
 ·intro h
  exact⟨h.2 0 (by simp),by simpa using h.1,fun i hi=>by simpa using h.2 (i+1) (by simpa using hi)⟩
 ·rintro⟨h1,h2⟩
  exact⟨by simp[h2.1],fun i hi=>by
   cases i with
   |zero=>exact h1
   |succ i=>simpa using h2.2 i (by simpa using hi)⟩
theorem Fg{x x1:Sit}(hG:x1.G=x.G)(hβ:x1.bk=x.bk){tk:List Nat}{j:Nat}{v:SV}{u:Value}(h:Rep x v u)(ht:oH x x1 j (rq tk j v).2):Rep x1 (rq tk j v).1 u:=by
 cases v with
 |lst sz xs t=>
  cases t with
  |clip=>
   cases hx:xs.isEmpty with
   |true=>simp only[rq,tO,hx,tP];obtain⟨b,cap,he,_,hD,hsp⟩:=h.lst_inv;rw[<-hG]at hD;exact .dat _ _ hD hsp
   |false=>simp only[rq,tO,hx,tP]at ht ⊢;exact kg (tk:=tk) hG hβ h ht
  |no=>exact kg hG hβ h ht
  |id t=>exact kg hG hβ h ht
 |_=>exact kg hG hβ h ht
theorem Qt{tk:List Nat}{j:Nat}{v:SV}:∀t∈cz (rq tk j v).2,t∈tk:=by
 cases v with
 |lst sz xs t=>
  cases t with
  |clip=>
   cases hx:xs.isEmpty with
   |true=>intro t ht;simp[rq,tO,hx,tP,cz]at ht
   |false=>intro t ht;simp[rq,tO,hx,tP,cz]at ht
  |no=>exact oN
  |id t=>exact oN
 |_=>exact oN
theorem me{x x1:Sit}(hG:x1.G=x.G)(hβ:x1.bk=x.bk){tk own:List Nat}:∀{cs:List SV}{us:List Value}{j i:Nat},cw x cs us->oH x x1 j (jO tk own j i cs).2->cw x1 (jO tk own j i cs).1 us
 |[],[],_,_,_,_=>⟨rfl,fun i hi=>by simp[jO]at hi⟩
 |[],_::_,_,_,h,_=>absurd h.1 (by simp)
 |_::_,[],_,_,h,_=>absurd h.1 (by simp)
 |v::r,u::us,j,i,h,ht=>by
  obtain⟨h1,h2⟩:=fy.1 h;simp only[jO]at ht ⊢;split
  ·rename_i hc
   rw[if_pos hc]at ht;exact fy.2 ⟨Fg hG hβ h1 ht.left,me hG hβ h2 ht.right⟩
  ·rename_i hc
   rw[if_neg hc]at ht;exact fy.2 ⟨h1.bare hG hβ,me hG hβ h2 ht⟩
theorem oO{tk own:List Nat}:∀{cs:List SV}{j i:Nat},∀t∈cz (jO tk own j i cs).2,t∈tk
 |[],_,_,t,ht=>by cases ht
 |v::r,j,i,t,ht=>by
  simp only[jO]at ht;split at ht
  ·rw[fC,an]at ht
   exact ht.elim (Qt t) (oO t)
  ·exact oO t ht
theorem uT{x x1:Sit}(hG:x1.G=x.G)(hβ:x1.bk=x.bk){tk:List Nat}:∀{cs:List SV}{j:Nat}{f:Nat->Value},(∀k,k<cs.length->Rep x (cs.getD k .undef) (f k))->oH x x1 j (su tk j cs).2->
 (su tk j cs).1.length=cs.length/\∀k,k<cs.length->Rep x1 ((su tk j cs).1.getD k .undef) (f k)
 |[],_,_,_,_=>⟨rfl,fun i hi=>by simp at hi⟩
 |v::r,j,f,h,ht=>by
  simp only[su]at ht ⊢;obtain⟨h1,h2⟩:=uT (f:=fun k=>f (k+1)) hG hβ (fun k hk=>by simpa using h (k+1) (by simpa using hk)) ht.right;refine⟨by simp[h1],fun k hk=> ?_⟩;cases k with
  |zero=>exact kg hG hβ (h 0 (by simp)) ht.left
  |succ k=>simpa using h2 k (by simpa using hk)
theorem Aa{tk:List Nat}:∀{cs:List SV}{j:Nat},∀t∈cz (su tk j cs).2,t∈tk
 |[],_,t,ht=>by cases ht
 |v::r,j,t,ht=>by simp only[su]at ht;rw[fC,an]at ht;exact ht.elim (oN t) (Aa t)
theorem C9{x x1:Sit}(hG:x1.G=x.G)(hβ:x1.bk=x.bk){tk:List Nat}{j o:Nat}{ob:aF}(h:dI x w o ob)(ht:oH x x1 j (jD tk j ob).2):dI x1 w o (jD tk j ob).1:=by
 obtain⟨cc,e,fl,fh,hO,hs,hr⟩:=h;cases ob with
 |rc cs=>obtain⟨h1,h2⟩:=uT (f:=fun k=>cc.getD k Go.undef) hG hβ hr ht;exact⟨cc,e,fl,fh,by rw[hβ];exact hO,by rw[hβ];simp only[jD,aF.size,h1]at hs ⊢;exact hs,fun k hk=>h2 k (by simpa only[jD,aF.size,h1]using hk)⟩
 |arr sz xs=>exact⟨cc,e,fl,fh,by rw[hβ];exact hO,by rw[hβ];exact hs,fun k hk=>by have:=hr k hk;simp only[jD,co]at this ⊢;rw[hG];exact this⟩
 |bar l=>exact⟨cc,e,fl,fh,by rw[hβ];exact hO,by rw[hβ];exact hs,fun k hk=>by have:=hr k hk;simp only[jD,co]at this ⊢;rw[hG];exact this⟩
theorem Fh{tk:List Nat}{j:Nat}{ob:aF}(h:ob.wf=true):(jD tk j ob).1.wf=true:=by cases ob<;>first|rfl|exact h
theorem Fj{tk:List Nat}{j:Nat}{ob:aF}:∀t∈cz (jD tk j ob).2,t∈tk:=by
 intro t ht;cases ob with
 |rc cs=>exact Aa t ht
 |_=>cases ht
theorem lz{x x1:Sit}(hG:x1.G=x.G)(hβ:x1.bk=x.bk){tk:List Nat}:∀{obs:List aF}{j:Nat}{f:Nat->Nat},(∀k,k<obs.length->dI x w (f k) (obs.getD k (.rc [])))->oH x x1 j (ec tk j obs).2->
 (ec tk j obs).1.length=obs.length/\∀k,k<obs.length->dI x1 w (f k) ((ec tk j obs).1.getD k (.rc []))
 |[],_,_,_,_=>⟨rfl,fun i hi=>by simp at hi⟩
 |v::r,j,f,h,ht=>by
  simp only[ec]at ht ⊢;obtain⟨h1,h2⟩:=lz (f:=fun k=>f (k+1)) hG hβ (fun k hk=>by simpa using h (k+1) (by simpa using hk)) ht.right;refine⟨by simp[h1],fun k hk=> ?_⟩;cases k with
  |zero=>exact C9 hG hβ (h 0 (by simp)) ht.left
  |succ k=>simpa using h2 k (by simpa using hk)
theorem nh{tk:List Nat}:∀{obs:List aF}{j:Nat},∀t∈cz (ec tk j obs).2,t∈tk
 |[],_,t,ht=>by cases ht
 |v::r,j,t,ht=>by simp only[ec]at ht;rw[fC,an]at ht;exact ht.elim (Fj t) (nh t)
theorem ng{tk:List Nat}:∀{obs:List aF}{j:Nat},(∀o∈obs,o.wf=true)->∀o∈(ec tk j obs).1,o.wf=true
 |[],_,_,o,ho=>by cases ho
 |v::r,j,h,o,ho=>by
  simp only[ec]at ho;rcases av.1 ho with e|e
  ·rw[e];exact Fh (h v (aI ..))
  ·exact ng (fun o h'=>h o (az _ h')) o e
theorem mS{m:List Nat}{o:Nat}(h:o∈m):gC m o<m.length/\m.getD (gC m o) 0=o:=by
 induction m with
 |nil=>cases h
 |cons p r ih=>
  simp only[gC];split
  ·rename_i hp;subst hp;simp
  ·rename_i hp
   obtain⟨h1,h2⟩:=ih ((av.1 h).resolve_left (Ne.symm hp));exact⟨by simpa using h1,by simpa using h2⟩
theorem ji{l:List Nat}(h:dD l=true):l.Nodup:=by
 induction l with
 |nil=>exact List.nodup_nil
 |cons p r ih=>simp only[dD,ay,cR,eZ,decide_eq_false_iff_not]at h;exact ep.2 ⟨h.1,ih h.2⟩
theorem uU{l r:List Nat}(h:oP l r=true):∀o∈l,o∈r:=by intro o ho;simp only[oP,aY,eZ,decide_eq_true_eq]at h;exact h o ho
theorem pX:∀{m:List Nat}{os:List aF},gw c m=some os->os.length=m.length/\∀i,i<m.length->c.look (m.getD i 0)=some (os.getD i (.rc []))
 |[],os,h=>by cases h;exact⟨rfl,fun i hi=>by simp at hi⟩
 |o::r,os,h=>by
  simp only[gw]at h;split at h<;>cases h;rename_i ob l h1 h2;obtain⟨h3,h4⟩:=pX h2;refine⟨by simp[h3],fun i hi=> ?_⟩;cases i with
  |zero=>exact h1
  |succ i=>simpa using h4 i (by simpa using hi)
theorem gg(mo mt:Nat->Nat)(l:List aF):eu mo mt l=l.map fun o=>o.ren mo mt:=by
 induction l with
 |nil=>rfl
 |cons p r ih=>simp only[eu,aP,ih]
theorem pe{l:List aF}{o:aF}(h:o∈l):∀k∈o.ids,k∈fE l:=by
 induction l with
 |nil=>cases h
 |cons p r ih=>
  intro k hk;simp only[fE,an];rcases av.1 h with e|e
  ·subst e;exact .inl hk
  ·exact .inr (ih e k hk)
theorem nP{l:List (Option Nat)}(h:(cz l).Nodup):∀{i j:Nat}{t u:Nat},i≠j->l.getD i none=some t->l.getD j none=some u->t≠u:=by
 have key:∀{l:List (Option Nat)},(cz l).Nodup->∀{i j:Nat}{t u:Nat},i<j->l.getD i none=some t->l.getD j none=some u->t≠u:=by
  intro l;induction l with
  |nil=>intro _ i j t u _ h1;simp at h1
  |cons o r ih=>
   intro hn i j t u hij h1 h2
   have hr:(cz r).Nodup:=by cases o with
    |none=>exact hn
    |some q=>exact(ep.1 hn).2
   cases j with
   |zero=>omega
   |succ j=>
    rw[bj]at h2;cases i with
    |zero=>
     rw[bf]at h1;subst h1
     have h3:some u∈r:=by
      rw[aa]at h2;cases hj:r[j]? with
      |none=>rw[hj]at h2;cases h2
      |some q=>rw[hj]at h2;cases h2;exact List.mem_of_getElem? hj
     intro e;subst e;exact(ep.1 hn).1 (kG.2 h3)
    |succ i=>rw[bj]at h1;exact ih hr (by omega) h1 h2
 intro i j t u hij h1 h2;rcases Nat.lt_or_gt_of_ne hij with h3|h3
 ·exact key h h3 h1 h2
 ·exact(key h h3 h2 h1).symm
theorem jt{b n t:Nat}:t∈tks b n↔b<=t/\t<b+n:=by
 unfold tks
 have:∀n k,k∈ke n↔k<n:=by
  intro n;induction n with
  |zero=>intro k;simp[ke]
  |succ n ih=>intro k;simp only[ke,an,ih,bp];omega
 simp only[aU,this];constructor
 ·rintro⟨k,h,rfl⟩;omega
 ·rintro⟨h1,h2⟩;exact⟨t-b,by omega,by omega⟩
structure E0(x x2:Sit)(c:CSt)(m:List Nat)(mt:List (Option Nat)):Prop where
 G:x2.G=x.G
 bk:∀i,i<m.length->x2.bk i=x.bk (m.getD i 0)
 τ:oH x x2 50 mt
 nd:m.Nodup
 ob:∀i,i<m.length->∃ob,(m.getD i 0,ob)∈c.ob
 tnd:(cz mt).Nodup
 tk:∀t∈cz mt,t∈c.tk
def Ctx.took(x2:Sit)(w:World)(n k:Nat):Ctx:=
 ⟨w,x2.G,fun b=>w.heap.size<=b\/(∃i,i<n/\(x2.bk i).1=b)\/(∃t,50<=t/\t<50+k/\(x2.τ t).2.1≠(x2.τ t).2.2/\(x2.τ t).1=b),x2.bk⟩
theorem fL{m:List Nat}{i:Nat}(h:i<m.length):m.getD i 0∈m:=by rw[aa,af h];exact bi _
theorem lF{m:List Nat}(h:m.Nodup){i j:Nat}(hi:i<m.length)(hj:j<m.length)(e:m.getD i 0=m.getD j 0):i=j:=by rw[aa,aa,af hi,af hj]at e;exact rz h hi hj e
theorem iD{l:List (Option Nat)}{i t:Nat}(h:l.getD i none=some t):t∈cz l:=by
 rw[aa]at h;cases hj:l[i]? with
 |none=>rw[hj]at h;cases h
 |some q=>rw[hj]at h;cases h;exact kG.2 (List.mem_of_getElem? hj)
theorem E0.tok{x2:Sit}{m:List Nat}{mt:List (Option Nat)}(h:E0 x x2 c m mt){t:Nat}(h1:50<=t)(h2:t<50+mt.length):
 (x2.τ t).2.1=(x2.τ t).2.2\/∃u,mt.getD (t-50) none=some u/\x2.τ t=x.τ u/\u∈c.tk/\u∈cz mt:=by
 have e:=h.τ (t-50) (by omega);rw[show 50+(t-50)=t by omega]at e;cases hu:mt.getD (t-50) none with
 |none=>rw[hu]at e;rw[e];exact .inl rfl
 |some u=>rw[hu]at e;exact .inr ⟨u,rfl,e,h.tk u (iD hu),iD hu⟩
theorem rp{x2:Sit}{m:List Nat}{mt:List (Option Nat)}(hH:cV C x c.ob c.tk w)(h:E0 x x2 c m mt){objs:List aF}(hl:objs.length=m.length)
 (ho:∀i,i<m.length->dI x2 w i (objs.getD i (.rc []))):cV (Ctx.took x2 w m.length mt.length) x2 (idx objs) (tks 50 mt.length) w:=by
 refine⟨fun b o v hv=>hH.per b o v (by rw[<-h.G];exact hv),fun _ _ _ hv=>hv,fun _ _ _ hv=> .inl hv,fun b hb=> .inl hb, ?_,np objs, ?_, ?_, ?_, ?_,rfl,rfl,rfl,aN _,fun _ _=>rfl,fun _ _=>rfl,hH.lay.mono (fun b o v hv=>by show x2.G b o=some v;rw[h.G];exact hH.g0 b o v hv)⟩
 ·intro p hp
  obtain⟨h1,h2⟩:=iK.1 hp;rw[hl]at h1;obtain⟨ob,h3⟩:=h.ob p.1 h1;refine⟨by rw[h2];exact ho p.1 h1,.inr (.inl ⟨p.1,h1,rfl⟩),fun off=> ?_⟩;rw[h.G,h.bk _ h1];exact(hH.obs _ h3).2.2 off
 ·intro p hp q hq hpq
  obtain⟨h1,_⟩:=iK.1 hp;obtain⟨h2,_⟩:=iK.1 hq;rw[hl]at h1 h2;rw[h.bk _ h1,h.bk _ h2]at hpq;obtain⟨o1,g1⟩:=h.ob _ h1;obtain⟨o2,g2⟩:=h.ob _ h2;exact lF h.nd h1 h2 (hH.inj _ g1 _ g2 hpq)
 ·intro t ht
  obtain⟨h1,h2⟩:=jt.1 ht;rcases h.tok h1 h2 with h3|⟨u,_,h4,h5,_⟩
  ·exact .inl h3
  ·by_cases hne:(x2.τ t).2.1=(x2.τ t).2.2
   ·exact .inl hne
   ·have:=hH.tks u h5
    unfold gZ at this ⊢;rw[h4]at hne ⊢;rcases this with g|⟨g1,g2,g3⟩
    ·exact absurd g hne
    ·exact .inr ⟨g1,.inr (.inr ⟨t,h1,h2,by rw[h4];exact hne,by rw[h4]⟩),by rw[h.G];exact g3⟩
 ·intro t ht p hp
  obtain⟨h1,h2⟩:=jt.1 ht;obtain⟨h6,_⟩:=iK.1 hp;rw[hl]at h6;rcases h.tok h1 h2 with h3|⟨u,_,h4,h5,_⟩
  ·exact .inr h3
  ·obtain⟨o1,g1⟩:=h.ob _ h6
   rw[h4,h.bk _ h6];exact hH.tko u h5 _ g1
 ·intro t ht u hu htu
  obtain⟨h1,h2⟩:=jt.1 ht;obtain⟨h3,h4⟩:=jt.1 hu;rcases h.tok h1 h2 with g|⟨t',g1,g2,g3,_⟩
  ·exact .inr (.inl g)
  ·rcases h.tok h3 h4 with k|⟨u',k1,k2,k3,_⟩
   ·exact .inr (.inr k)
   ·rw[g2,k2]
    exact hH.tkd t' g3 u' k3 (nP h.tnd (by omega) g1 k1)
end Go.Sy
namespace Go.Sy
variable [bg]
variable {P : Program} {C : Ctx} {x : Sit} {a : Act} {w : World} {N : Nat} {c c' : CSt} {s : St}
theorem FV(d:Nat)(l:List Nat):q7 d l=l.map (js d):=by
 induction l with
 |nil=>rfl
 |cons p r ih=>simp only[q7,aP,ih]
theorem nt{k:List Nat}{t:Nat}:∀{l:List Nat},t∈mF k l↔t∈l/\t∉k
 |[]=>by simp[mF]
 |p::r=>by
  simp only[mF];split
  ·rename_i hc
   have hp:p∈k:=by simpa using hc
   rw[nt,av];constructor
   ·rintro⟨h1,h2⟩;exact⟨.inr h1,h2⟩
   ·rintro⟨h1|h1,h2⟩
    ·exact absurd (h1 ▸ hp) h2
    ·exact⟨h1,h2⟩
  ·rename_i hc
   have hp:p∉k:=by simpa using hc
   rw[av,nt,av];constructor
   ·rintro(h1|⟨h1,h2⟩)
    ·exact⟨.inl h1,h1 ▸ hp⟩
    ·exact⟨.inr h1,h2⟩
   ·rintro⟨h1|h1,h2⟩
    ·exact .inl h1
    ·exact .inr ⟨h1,h2⟩
theorem rB{t:Nat}:∀{r l:List Nat},t∈rg l r↔t∈r\/t∈l
 |[],l=>by simp[rg]
 |p::r,l=>by
  simp only[rg];rw[rB,ko,av];constructor
  ·rintro(h|h|h)
   ·exact .inl (.inr h)
   ·exact .inl (.inl h)
   ·exact .inr h
  ·rintro((h|h)|h)
   ·exact .inr (.inl h)
   ·exact .inl h
   ·exact .inr (.inr h)
theorem nq{p:Nat×aF}:∀{r l:List (Nat×aF)},p∈rf l r->p∈r\/p∈l
 |[],l,h=> .inr h
 |q::r,l,h=>by
  simp only[rf]at h;rcases nq h with e|e
  ·exact .inl (az _ e)
  ·rcases km e with e|e
   ·exact .inl (e ▸ aI ..)
   ·exact .inr e
theorem Ai:∀{r l:List (Nat×aF)},(l.map cI).Pairwise (· < ·)->((rf l r).map cI).Pairwise (· < ·)
 |[],_,h=>h
 |_::r,_,h=>Ai (r:=r) (tT h)
theorem xZ{mo mt:Nat->Nat}{o:aF}(h:o.wf=true):(o.ren mo mt).wf=true:=by cases o<;>first|rfl|exact h
theorem wn{x2:Sit}{m:List Nat}{mt:List (Option Nat)}(hold:cV C x c.ob c.tk w)(h:E0 x x2 c m mt){x':Sit}{w':World}{q:ej}(hH:cV (Ctx.took x2 w m.length mt.length) x' q.os q.tk w'){D:Nat}
 (hm:∀o∈m,inR D o=false) (hos:∀p∈q.os,p.1<1000/\(∀k∈p.2.ids,k<1000)/\∀k∈p.2.toks,k<1000) (htk:∀t∈q.tk,t<1000) (hg:∀i,i<m.length->x'.bk i=x2.bk i):
 ∃x3:Sit,x3.G=x'.G/\(∀b o v,x.G b o=some v->x3.G b o=some v)/\(∀k,k<1000->x3.bk (io D m k)=x'.bk k)/\(∀k,k<1000->x3.τ (js D k)=x'.τ k)/\
  (∀k,¬((D+1)*1000<=k/\k<(D+2)*1000)->x3.bk k=x.bk k)/\(∀k,¬((D+1)*1000<=k/\k<(D+2)*1000)->x3.τ k=x.τ k)/\
  cV C x3 (oZ D m q.os++fg m (bE ((D+1)*1000) ((D+2)*1000) c.ob)) (q7 D q.tk++mF (cz mt) (cA ((D+1)*1000) ((D+2)*1000) c.tk)) w':=by
 let lo:=(D+1)*1000
 let hi:=(D+2)*1000
 have hlo:lo=(D+1)*1000:=rfl;have hhi:hi=(D+2)*1000:=rfl
 let β2:Nat->Nat×Nat:=fun k=>if inR D k then x'.bk (k-lo)else x.bk k
 let τ2:Nat->Nat×Nat×Nat:=fun k=>if inR D k then x'.τ (k-lo)else x.τ k
 have hin:∀k,k<1000->inR D (lo+k)=true:=by intro k hk;simp only[inR,ay,decide_eq_true_eq];omega
 have hout:∀k,¬(lo<=k/\k<hi)->inR D k=false:=by intro k hk;rw[Bool.eq_false_iff];intro h;simp only[inR,ay,decide_eq_true_eq]at h;exact hk h
 have hβ2:∀k,¬(lo<=k/\k<hi)->β2 k=x.bk k:=fun k hk=>by simp only[β2];rw[hout k hk];rfl
 have hτ2:∀k,¬(lo<=k/\k<hi)->τ2 k=x.τ k:=fun k hk=>by simp only[τ2];rw[hout k hk];rfl
 have hβnew:∀k,k<1000->β2 (io D m k)=x'.bk k:=by
  intro k hk
  by_cases hkm:k<m.length
  ·have h1:io D m k=m.getD k 0:=if_pos hkm
   simp only[β2];rw[h1,hm _ (fL hkm),hg k hkm,h.bk k hkm];rfl
  ·have h1:io D m k=lo+k:=if_neg hkm
   simp only[β2];rw[h1,hin k hk,if_pos rfl];congr 1;omega
 have hτnew:∀k,k<1000->τ2 (js D k)=x'.τ k:=by intro k hk;have h1:js D k=lo+k:=rfl;simp only[τ2];rw[h1,hin k hk,if_pos rfl];congr 1;omega
 have hG:∀b o v,x.G b o=some v->x'.G b o=some v:=fun b o v hv=>hH.g0 b o v (by show x2.G b o=_;rw[h.G];exact hv)
 refine⟨⟨x'.G,β2,τ2⟩,rfl,hG,hβnew,hτnew,hβ2,hτ2, ?_⟩;rw[vg,FV]
 have hmine:∀b,(Ctx.took x2 w m.length mt.length).mine b->C.mine b:=by
  rintro b (h1|⟨i,hi,rfl⟩|⟨t,h1,h2,h3,rfl⟩)
  ·exact hold.new b (cB hold.size h1)
  ·obtain⟨ob,hob⟩:=h.ob i hi
   rw[h.bk i hi];exact(hold.obs _ hob).2.1
  ·rcases h.tok h1 h2 with g|⟨u,_,g1,g2,_⟩
   ·exact absurd g h3
   ·rw[g1]at h3 ⊢
    rcases hold.tks u g2 with k|⟨_,k,_⟩
    ·exact absurd k h3
    ·exact k
 have hkeep:∀b,b<w.heap.size->(∀i,i<m.length->(x.bk (m.getD i 0)).1≠b)->(∀u∈cz mt,(x.τ u).2.1=(x.τ u).2.2\/(x.τ u).1≠b)->w'.heap[b]? =w.heap[b]? /\((∀off,x.G b off=none)->∀off,x'.G b off=none)/\
  (∀off,x.G b off=none->x'.G b off=none):=by
  intro b hb hne hnt
  have hnm:¬(Ctx.took x2 w m.length mt.length).mine b:=by
   rintro(h1|⟨i,hi,h1⟩|⟨t,h1,h2,h3,h4⟩)
   ·omega
   ·rw[h.bk i hi]at h1;exact hne i hi h1
   ·rcases h.tok h1 h2 with g|⟨u,_,g1,_,g3⟩
    ·exact h3 g
    ·rw[g1]at h3 h4
     rcases hnt u g3 with k|k
     ·exact h3 k
     ·exact k h4
  have one:∀off,x.G b off=none->x'.G b off=none:=by
   intro off ho;cases hg:x'.G b off with
   |none=>rfl
   |some v=>
    rcases hH.gm b off v hg with h1|h1
    ·change x2.G b off=some v at h1;rw[h.G,ho]at h1;cases h1
    ·exact absurd h1 hnm
  exact⟨hH.ext b hnm,fun h off=>one off (h off),one⟩
 have hlow:∀p∈fg m (bE lo hi c.ob),∃ob,(p.1,ob)∈c.ob/\p.2=ob.purge lo hi/\¬(lo<=p.1/\p.1<hi)/\p.1∉m/\(∀i,i<m.length->(x.bk (m.getD i 0)).1≠(x.bk p.1).1)/\(∀u∈cz mt,(x.τ u).2.1=(x.τ u).2.2\/(x.τ u).1≠(x.bk p.1).1)/\(x.bk p.1).1<w.heap.size:=by
  intro p hp;obtain⟨h1,h2⟩:=jl.1 hp;obtain⟨h3,ob,h4,h5⟩:=cy h1;refine⟨ob,h4,h5,h3,h2,fun i hi e=> ?_,fun u hu=> ?_, ?_⟩
  ·obtain⟨ob',hob'⟩:=h.ob i hi
   have:=hold.inj _ hob' _ h4 e;simp only at this;apply h2;rw[<-this];exact fL hi
  ·exact(hold.tko u (h.tk u hu) _ h4).symm
  ·obtain⟨⟨c,e,fl,fh,hO,_⟩,_⟩:=hold.obs _ h4
   exact hO.lt
 have hnew:∀p∈q.os.map (fun p=>(io D m p.1,p.2.ren (io D m) (js D))),∃r∈q.os,p=(io D m r.1,r.2.ren (io D m) (js D))/\β2 p.1=x'.bk r.1:=by intro p hp;obtain⟨r,hr,rfl⟩:=aU.1 hp;exact⟨r,hr,rfl,hβnew _ (hos r hr).1⟩
 have hnewmine:∀r∈q.os,w.heap.size<=(x'.bk r.1).1\/(∃i,i<m.length/\(x.bk (m.getD i 0)).1=(x'.bk r.1).1)\/(∃u∈cz mt,(x.τ u).2.1≠(x.τ u).2.2/\(x.τ u).1=(x'.bk r.1).1):=by
  intro r hr;rcases (hH.obs r hr).2.1 with h1|⟨i,hi,h1⟩|⟨t,h1,h2,h3,h4⟩
  ·exact .inl h1
  ·exact .inr (.inl ⟨i,hi,by rw[<-h.bk i hi];exact h1⟩)
  ·rcases h.tok h1 h2 with g|⟨u,_,g1,_,g3⟩
   ·exact absurd g h3
   ·rw[g1]at h3 h4;exact .inr (.inr ⟨u,g3,h3,h4⟩)
 have htmine:∀t∈q.tk,(x'.τ t).2.1=(x'.τ t).2.2\/w.heap.size<=(x'.τ t).1\/(∃i,i<m.length/\(x.bk (m.getD i 0)).1=(x'.τ t).1)\/(∃u∈cz mt,(x.τ u).2.1≠(x.τ u).2.2/\(x.τ u).1=(x'.τ t).1):=by
  intro t ht;rcases hH.tks t ht with k|⟨_,k,_⟩
  ·exact .inl k
  ·right
   rcases k with h1|⟨i,hi,h1⟩|⟨t',h1,h2,h3,h4⟩
   ·exact .inl h1
   ·exact .inr (.inl ⟨i,hi,by rw[<-h.bk i hi];exact h1⟩)
   ·rcases h.tok h1 h2 with g|⟨u,_,g1,_,g3⟩
    ·exact absurd g h3
    ·rw[g1]at h3 h4;exact .inr (.inr ⟨u,g3,h3,h4⟩)
 have htold:∀t∈mF (cz mt) (cA lo hi c.tk),t∈c.tk/\¬(lo<=t/\t<hi)/\t∉cz mt:=fun t ht=>by obtain⟨h1,h2⟩:=nt.1 ht;obtain⟨h3,h4⟩:=bG.1 h1;exact⟨h3,h4,h2⟩
 have htblock:∀t∈c.tk,t∉cz mt->(x.τ t).2.1=(x.τ t).2.2\/((x.τ t).1<w.heap.size/\(∀i,i<m.length->(x.bk (m.getD i 0)).1≠(x.τ t).1)/\(∀u∈cz mt,(x.τ u).2.1=(x.τ u).2.2\/(x.τ u).1≠(x.τ t).1)):=by
  intro t ht hnt;rcases hold.tks t ht with h1|⟨⟨c,e,fl,fh,hO,_⟩,_⟩
  ·exact .inl h1
  ·by_cases he:(x.τ t).2.1=(x.τ t).2.2
   ·exact .inl he
   ·refine .inr ⟨hO.lt,fun i hi e'=> ?_,fun u hu=> ?_⟩
    ·obtain⟨ob,hob⟩:=h.ob i hi
     rcases hold.tko t ht _ hob with h1|h1
     ·exact h1 e'.symm
     ·exact he h1
    ·rcases hold.tkd u (h.tk u hu) t ht (fun e=>hnt (e ▸ hu))with k|k|k
     ·exact .inr k
     ·exact .inl k
     ·exact absurd k he
 refine⟨hH.per,fun b o v hv=>hG _ _ _ (hold.g0 b o v hv), ?_,hold.new, ?_, ?_, ?_, ?_, ?_, ?_,hH.os.trans hold.os,hH.tape.trans hold.tape,hH.output.trans hold.output,cB hold.size hH.size, ?_,fun i hi=>(hβ2 i (by omega)).trans (hold.pin i hi),hold.lay⟩
 ·intro b o v hv
  rcases hH.gm b o v hv with h1|h1
  ·exact hold.gm b o v (by rw[<-h.G];exact h1)
  ·exact .inr (hmine b h1)
 ·intro p hp
  rcases an.1 hp with hp|hp
  ·obtain⟨r,hr,rfl,hb⟩:=hnew p hp
   obtain⟨h1,h2,h3⟩:=hH.obs r hr;refine⟨h1.renF (x2:=⟨x'.G,β2,τ2⟩) (fun _ _ _ h=>h) (hβnew _ (hos r hr).1) (fun k hk=>hβnew k ((hos r hr).2.1 k hk)) (fun t ht=>hτnew t ((hos r hr).2.2 t ht)), ?_,fun off=> ?_⟩
   ·show C.mine (β2 (io D m r.1)).1;rw[hβnew _ (hos r hr).1];exact hmine _ h2
   ·show x'.G (β2 (io D m r.1)).1 off=none;rw[hβnew _ (hos r hr).1];exact h3 off
  ·obtain⟨ob,h1,h2,h3,h4,h5,h6,h7⟩:=hlow p hp
   obtain⟨g1,g2,g3⟩:=hold.obs _ h1;obtain⟨k1,k2,_⟩:=hkeep _ h7 h5 h6;have hb:β2 p.1=x.bk p.1:=hβ2 _ h3;refine⟨?_,by show C.mine (β2 p.1).1;rw[hb];exact g2,fun off=>by show x'.G (β2 p.1).1 off=none;rw[hb];exact k2 g3 off⟩;rw[h2];exact dI.of_heap (x':=⟨x'.G,β2,τ2⟩) g1 k1 hG hβ2 hτ2 h3
 ·rw[bD,List.nodup_append]
  refine⟨?_, ?_, ?_⟩
  ·rw[List.map_map]
   have hnd':=gn.1 hH.nd;refine gn.2 (List.Pairwise.imp_of_mem (fun{p r} hp hr hne=> ?_) hnd');intro e;simp only[Function.comp]at e;have:(x'.bk p.1).1=(x'.bk r.1).1:=by rw[<-hβnew _ (hos p hp).1,<-hβnew _ (hos r hr).1,e]
   exact hne (hH.inj p hp r hr this)
  ·have h1:(fg m (bE lo hi c.ob)).Sublist (bE lo hi c.ob):=gT _ _
   refine wk.sublist (h1.map cI) ?_;rw[eT];exact hold.nd.filter _
  ·intro o1 h1 o2 h2 e
   subst e;obtain⟨p,hp,rfl⟩:=aU.1 h1;obtain⟨r,hr,hre⟩:=aU.1 h2;obtain⟨u,hu,rfl⟩:=aU.1 hp;obtain⟨ob,k1,k2,k3,k4,_⟩:=hlow r hr;simp only at hre
   by_cases hum:u.1<m.length
   ·apply k4;rw[hre];show io D m u.1∈m;unfold io;rw[if_pos hum];exact fL hum
   ·apply k3;rw[hre];show lo<=io D m u.1/\io D m u.1<hi
    unfold io;rw[if_neg hum];have:=(hos u hu).1;omega
 ·intro p hp r hr hpr
  change (β2 p.1).1=(β2 r.1).1 at hpr;rcases an.1 hp with hp|hp<;>rcases an.1 hr with hr|hr
  ·obtain⟨p',hp',rfl,hb⟩:=hnew p hp
   obtain⟨r',hr',rfl,hb'⟩:=hnew r hr;rw[hb,hb']at hpr;have:=hH.inj p' hp' r' hr' hpr;simp only;rw[this]
  ·obtain⟨p',hp',rfl,hb⟩:=hnew p hp
   obtain⟨ob,k1,k2,k3,k4,k5,k6,k7⟩:=hlow r hr;rw[hb,hβ2 _ k3]at hpr;rcases hnewmine p' hp' with h1|⟨i,hi,h1⟩|⟨u,hu,h1,h2⟩
   ·omega
   ·exact absurd (h1.trans hpr) (k5 i hi)
   ·rcases k6 u hu with g|g
    ·exact absurd g h1
    ·exact absurd (h2.trans hpr) g
  ·obtain⟨r',hr',rfl,hb⟩:=hnew r hr
   obtain⟨ob,k1,k2,k3,k4,k5,k6,k7⟩:=hlow p hp;rw[hb,hβ2 _ k3]at hpr;rcases hnewmine r' hr' with h1|⟨i,hi,h1⟩|⟨u,hu,h1,h2⟩
   ·omega
   ·exact absurd (h1.trans hpr.symm) (k5 i hi)
   ·rcases k6 u hu with g|g
    ·exact absurd g h1
    ·exact absurd (h2.trans hpr.symm) g
  ·obtain⟨ob,k1,k2,k3,_⟩:=hlow p hp
   obtain⟨ob',k1',k2',k3',_⟩:=hlow r hr;rw[hβ2 _ k3,hβ2 _ k3']at hpr;exact hold.inj (p.1,ob) k1 (r.1,ob') k1' hpr
 ·intro t ht
  rcases an.1 ht with ht|ht
  ·obtain⟨u,hu,rfl⟩:=aU.1 ht
   have:=hH.tks u hu;unfold gZ at this ⊢;simp only[hτnew u (htk u hu)];exact this.imp id fun⟨h1,h2,h3⟩=>⟨h1,hmine _ h2,h3⟩
  ·obtain⟨h1,h2,h3⟩:=htold t ht
   have:=hold.tks t h1;unfold gZ at this ⊢;simp only[hτ2 t h2];rcases this with g|⟨⟨c,e,fl,fh,hO,hc⟩,h4,h5⟩
   ·exact .inl g
   ·rcases htblock t h1 h3 with g|⟨k1,k2,k3⟩
    ·exact .inl g
    ·obtain⟨g1,_,g2⟩:=hkeep _ k1 k2 k3
     exact .inr ⟨⟨c,e,fl,fh,hO.of_heap g1,hc⟩,h4,fun o ho1 ho2=>g2 o (h5 o ho1 ho2)⟩
 ·intro t ht p hp
  rcases an.1 ht with ht|ht<;>rcases an.1 hp with hp|hp
  ·obtain⟨u,hu,rfl⟩:=aU.1 ht
   obtain⟨r,hr,rfl,hb⟩:=hnew p hp;show(τ2 (js D u)).1≠(β2 (io D m r.1)).1\/(τ2 (js D u)).2.1=(τ2 (js D u)).2.2;rw[hτnew u (htk u hu),hβnew _ (hos r hr).1];exact hH.tko u hu r hr
  ·obtain⟨u,hu,rfl⟩:=aU.1 ht
   obtain⟨ob,k1,k2,k3,k4,k5,k6,k7⟩:=hlow p hp;show(τ2 (js D u)).1≠(β2 p.1).1\/(τ2 (js D u)).2.1=(τ2 (js D u)).2.2;rw[hτnew u (htk u hu),hβ2 _ k3];rcases htmine u hu with g|g|⟨i,hi,g⟩|⟨v,hv,g1,g2⟩
   ·exact .inr g
   ·left;intro e;omega
   ·left;intro e;exact k5 i hi (g.trans e)
   ·left;intro e
    rcases k6 v hv with k|k
    ·exact g1 k
    ·exact k (g2.trans e)
  ·obtain⟨h1,h2,h3⟩:=htold t ht
   obtain⟨r,hr,rfl,hb⟩:=hnew p hp;show(τ2 t).1≠(β2 (io D m r.1)).1\/(τ2 t).2.1=(τ2 t).2.2;rw[hτ2 t h2,hβnew _ (hos r hr).1];rcases htblock t h1 h3 with g|⟨k1,k2,k3⟩
   ·exact .inr g
   ·left;intro e
    rcases hnewmine r hr with g|⟨i,hi,g⟩|⟨v,hv,g1,g2⟩
    ·omega
    ·exact k2 i hi (g.trans e.symm)
    ·rcases k3 v hv with k|k
     ·exact g1 k
     ·exact k (g2.trans e.symm)
  ·obtain⟨h1,h2,h3⟩:=htold t ht
   obtain⟨ob,k1,k2,k3,_⟩:=hlow p hp;show(τ2 t).1≠(β2 p.1).1\/(τ2 t).2.1=(τ2 t).2.2;rw[hτ2 t h2,hβ2 _ k3];exact hold.tko t h1 (p.1,ob) k1
 ·intro t ht u hu htu
  show lu (τ2 t) (τ2 u)\/(τ2 t).2.1=(τ2 t).2.2\/(τ2 u).2.1=(τ2 u).2.2;rcases an.1 ht with ht|ht<;>rcases an.1 hu with hu|hu
  ·obtain⟨t',ht',rfl⟩:=aU.1 ht
   obtain⟨u',hu',rfl⟩:=aU.1 hu;rw[hτnew t' (htk t' ht'),hτnew u' (htk u' hu')];exact hH.tkd t' ht' u' hu' (fun e=>htu (by rw[e]))
  ·obtain⟨t',ht',rfl⟩:=aU.1 ht
   obtain⟨h1,h2,h3⟩:=htold u hu;rw[hτnew t' (htk t' ht'),hτ2 u h2];rcases htblock u h1 h3 with k|⟨k1,k2,k3⟩
   ·exact .inr (.inr k)
   ·rcases htmine t' ht' with g|g|⟨i,hi,g⟩|⟨v,hv,g1,g2⟩
    ·exact .inr (.inl g)
    ·exact .inl fun e=>by omega
    ·exact .inl fun e=>k2 i hi (g.trans e)
    ·refine .inl fun e=> ?_
     rcases k3 v hv with k|k
     ·exact g1 k
     ·exact k (g2.trans e)
  ·obtain⟨u',hu',rfl⟩:=aU.1 hu
   obtain⟨h1,h2,h3⟩:=htold t ht;rw[hτnew u' (htk u' hu'),hτ2 t h2];rcases htblock t h1 h3 with k|⟨k1,k2,k3⟩
   ·exact .inr (.inl k)
   ·rcases htmine u' hu' with g|g|⟨i,hi,g⟩|⟨v,hv,g1,g2⟩
    ·exact .inr (.inr g)
    ·exact .inl fun e=>by omega
    ·exact .inl fun e=>k2 i hi (g.trans e.symm)
    ·refine .inl fun e=> ?_
     rcases k3 v hv with k|k
     ·exact g1 k
     ·exact k (g2.trans e.symm)
  ·obtain⟨h1,h2,_⟩:=htold t ht
   obtain⟨h3,h4,_⟩:=htold u hu;rw[hτ2 t h2,hτ2 u h4];exact hold.tkd t h1 u h3 htu
 ·intro b hb
  have hnm:¬(Ctx.took x2 w m.length mt.length).mine b:=fun h=>hb (hmine b h)
  exact(hH.ext b hnm).trans (hold.ext b hb)
end Go.Sy
namespace Go.Sy
variable [bg]
variable {P : Program} {C : Ctx} {x : Sit} {a : Act} {w : World} {N : Nat} {c c' : CSt} {s : St}
theorem wo(t:Tok):t.ren (fun k=>k)=t:=by cases t<;>rfl
theorem xcO(sv:SV):sv.ren (fun k=>k) (fun k=>k)=sv:=by
 refine SV.rec (motive_1:=fun sv=>sv.ren (fun k=>k) (fun k=>k)=sv) (motive_2:=fun _=>True) (motive_3:=fun l=>SV.renL (fun k=>k) (fun k=>k) l=l)
  ?_ ?_ ?_ ?_ ?_ ?_ ?_ ?_ ?_ ?_ ?_ ?_ ?_ ?_ ?_ ?_ ?_ ?_ ?_ ?_ sv
 all_goals intros
 all_goals first
  |trivial
  |rfl
  |(simp only[SV.ren,SV.renL,wo];done)
  |(simp only[SV.ren,SV.renL, *])
theorem xcA{q:ej}(h:q.small=true):(∀p∈q.os,p.1<1000/\(∀k∈p.2.ids,k<1000)/\∀k∈p.2.toks,k<1000)/\(∀k∈q.r.ids,k<1000)/\(∀k∈q.r.toks,k<1000)/\∀k∈q.tk,k<1000:=by simp only[ej.small,ay,aY,decide_eq_true_eq]at h;obtain⟨⟨⟨h1,h2⟩,h3⟩,h4⟩:=h;exact⟨fun p hp=>⟨(h1 p hp).1.1,(h1 p hp).1.2,(h1 p hp).2⟩,h2,h3,h4⟩
theorem nT{d:Option Nat}{m:List Nat}{mt:List (Option Nat)}{q:ej}{x2 x':Sit}{w':World}{v:Value}(hM:aO C x s a w)(hS:Sim N c s)(hd:∀k,d=some k->k<N)(h:E0 x x2 c m mt)
 (hH:cV (Ctx.took x2 w m.length mt.length) x' q.os q.tk w') (hr:Rep x' q.r v) (hwf:∀p∈q.os,p.2.wf=true) (hg:∀i,i<m.length->x'.bk i=x2.bk i) (hm:∀o∈m,inR (d.getD 0) o=false) (hs:q.small=true):
 M C N (jL c d m (cz mt) q) (a.put d v) w':=by
 obtain⟨s1,s2,s3,s4⟩:=xcA hs;have hE:=hS.exact hM;obtain⟨x3,g1,g2,g3,g4,g5,g6,g7⟩:=wn hE.heap h hH hm s1 s4 hg
 let c3:CSt:=⟨du ((d.getD 0+1)*1000) ((d.getD 0+2)*1000) c.tm,rf (fg m (bE ((d.getD 0+1)*1000) ((d.getD 0+2)*1000) c.ob)) (oZ (d.getD 0) m q.os),
  rg (mF (cz mt) (cA ((d.getD 0+1)*1000) ((d.getD 0+2)*1000) c.tk)) (q7 (d.getD 0) q.tk)⟩
 have hI:Inv N c3:=by
  refine⟨fun p hp=> ?_,Ai ?_,fun p hp=> ?_⟩
  ·obtain⟨r,hr,e⟩:=jk hp
   rw[e];exact hS.inv.dom r hr
  ·exact List.Pairwise.sublist ((gT _ _).map cI) (uW hS.inv.so)
  ·rcases nq hp with e|e
   ·rw[vg]at e
    obtain⟨r,hr,rfl⟩:=aU.1 e;exact xZ (hwf r hr)
   ·obtain⟨_,ob,h1,h2⟩:=cy (jl.1 e).1
    rw[h2];exact pL (hS.inv.wf _ h1)
 have hM3:aO C x3 (c3.st N) a w':=by
  refine⟨⟨?_,fun i hi=> ?_⟩,hM.defers,g7.only (fun p hp=> ?_) (iW hI.so) (fun t ht=> ?_)⟩
  ·have:=hE.tm.1;simpa[CSt.st]using this
  ·have hiN:i<N:=by simpa[CSt.st]using hi
   have h1:=hE.tm.2 i (by simpa[CSt.st]using hiN);simp only[CSt.st,aa,aR,cO hiN,bt,bq]at h1 ⊢;have e:c3.get i=(c.get i).purge ((d.getD 0+1)*1000) ((d.getD 0+2)*1000):=fY _ _ i c.tm;rw[e];exact h1.mono (x':=x3) g2 g5 g6
  ·rcases nq hp with e|e
   ·exact an.2 (.inl e)
   ·exact an.2 (.inr e)
  ·rcases rB.1 ht with e|e
   ·exact an.2 (.inl e)
   ·exact an.2 (.inr e)
 refine⟨x3,_,hM3.put d (c:=q.r.ren (io (d.getD 0) m) (js (d.getD 0))) ?_,(Sim.of hI).put hd _⟩;exact Rep.renF (x:=x') (x2:=x3) (fun b o v hv=>by rw[g1];exact hv) hr (fun k hk=>g3 k (s2 k hk)) (fun t ht=>g4 t (s3 t ht))
theorem xx{call:db}{g:Nat}{d:Option Nat}{as:List SV}{vs:List Value}(hM:aO C x s a w)(hS:Sim N c s)(hd:∀k,d=some k->k<N)(hsp:∀as os k q,call g as os k=some q->kO P g as os k (· =q))
 (hc:mD c d (call g (SV.bareL as) [] 0)=some c') (hvs:cw x as vs):Calls P g ⟨vs⟩ w fun en w'=>∃v,en= .returned v/\M C N c' (a.put d v) w':=by
 cases hq:call g (SV.bareL as) [] 0 with
 |none=>rw[hq]at hc;cases hc
 |some q=>
  rw[hq]at hc
  have hb:cw x (SV.bareL as) vs:=by rw[ku];refine⟨by simpa using hvs.1,fun i hi=> ?_⟩;rw[aW _ (by rfl)];exact(hvs.2 i (by simpa using hi)).bare rfl rfl
  obtain⟨_,hS'⟩:=hsp _ _ _ _ hq
  by_cases hbare:q.bare=true
  ·simp only[mD,hbare,ol,aw.injEq]at hc
   subst hc;have hcal:=uO (m:=[]) (os:=[]) (mo:=fun k=>k) (mt:=fun k=>k) hM (fun i hi=>by simp at hi) rfl (by simp) (fun i hi=>by simp at hi);refine(hS' (Ctx.callee x w [] (x.back (fun k=>k) (fun k=>k)).bk) x w vs rfl rfl ?_ (by simp) (by simp) hcal hb).mono ?_
   ·rintro b (h|⟨i,hi,_⟩)
    ·exact .inl h
    ·simp at hi
   ·rintro en w' ⟨v,x',q',rfl,hq',hr,hH,hwf,_⟩
    subst hq';simp only[ej.bare,ay,List.isEmpty_iff]at hbare;obtain⟨⟨⟨b1,b2⟩,b3⟩,b4⟩:=hbare
    obtain⟨hG,hA⟩:=xo (m:=[]) (os:=[]) (mo:=fun k=>k) (mt:=fun k=>k) (lo:=0) (hi:=0) (β2:=x.bk) (τ2:=x.τ) hM rfl (fun i hi=>by simp at hi) hH (fun i hi=>by simp at hi) (fun i hi=>by omega) (fun _ _=>rfl) (fun _ _=>rfl)
     (fun p hp=>by rw[b1]at hp;cases hp) (fun p hp=>by rw[b1]at hp;cases hp) (fun p hp=>by rw[b1]at hp;cases hp) (fun p hp=>by rw[b1]at hp;cases hp) (fun t ht=>by rw[b2]at ht;cases ht)
    have hA':cV C ⟨x'.G,x.bk,x.τ⟩ s.ob s.tk w':=by
     refine hA.only (fun p hp=> ?_) hM.heap.nd (fun t ht=> ?_)
     ·exact an.2 (.inr (jl.2 ⟨by rw[FY];exact hp,by simp⟩))
     ·exact an.2 (.inr (bG.2 ⟨ht,by omega⟩))
    refine⟨v,rfl,⟨x'.G,x.bk,x.τ⟩,_, ?_,hS.put hd q'.r⟩;refine aO.put ⟨cw.grow (x:=x) (x':=⟨x'.G,x.bk,x.τ⟩) hG rfl rfl hM.tm,hM.defers,hA'⟩ d ?_;have:=Rep.renF (x:=x') (x2:=⟨x'.G,x.bk,x.τ⟩) (mo:=fun k=>k) (mt:=fun k=>k) (fun _ _ _ h=>h) hr (fun k hk=>by rw[b3]at hk;cases hk) (fun t ht=>by rw[b4]at ht;cases ht);rwa[xcO]at this
  ·have hbf:q.bare=false:=by simpa using hbare
   simp only[mD,hbf,ol]at hc;cases hsm:q.small with
   |false=>rw[hsm]at hc;cases hc
   |true=>
    rw[hsm]at hc;simp only[xz,aw.injEq]at hc;subst hc;have hE:=hS.exact hM;have hT:E0 x x c [] []:=⟨rfl,fun i hi=>by simp at hi,fun k hk=>by simp at hk,by simp,fun i hi=>by simp at hi,by simp[cz],fun t ht=>by simp[cz]at ht⟩;refine(hS' (Ctx.took x w 0 0) x w vs rfl rfl ?_ (by simp) (by simp) (rp hE.heap hT rfl (fun i hi=>by simp at hi)) hb).mono ?_
    ·rintro b h;exact h
    ·rintro en w' ⟨v,x',q',rfl,hq',hr,hH,hwf,_⟩
     subst hq';exact⟨v,rfl,nT hM hS hd hT hH hr hwf (fun i hi=>by simp at hi) (fun o ho=>by simp at ho) hsm⟩
theorem wB{call:db}{sg:Sig}{g:Nat}{d:Option Nat}{as:List SV}{vs:List Value}(hM:aO C x s a w)(hS:Sim N c s)(hd:∀k,d=some k->k<N)(hsp:∀as os k q,call g as os k=some q->kO P g as os k (· =q))
 (hc:jE call sg d g (c,as)=some c') (hvs:cw x as vs):Calls P g ⟨vs⟩ w fun en w'=>∃v,en= .returned v/\M C N c' (a.put d v) w':=by
 simp only[jE]at hc;generalize hz:jO c.tk sg.own 50 0 as=z at hc;obtain⟨as2,mt1⟩:=z;simp only[oa]at hc;generalize dJ c 60 [] (SV.idsL as2)=m at hc;cases ho:gw c m with
 |none=>rw[ho]at hc;cases hc
 |some os0=>
  rw[ho]at hc;simp only[lB]at hc;generalize hz2:ec c.tk (50+mt1.length) os0=z2 at hc;obtain⟨os,mt2⟩:=z2;simp only[nZ]at hc;cases hb:(oP (SV.idsL as2++fE os) m&&dD m&&dD (cz (mt1++mt2))&&decide (m.length<=40)&&m.all fun o=> !inR (d.getD 0) o)with
  |false=>rw[hb]at hc;cases hc
  |true=>
   rw[hb]at hc;simp only[nY]at hc;simp only[ay,decide_eq_true_eq,aY,cR]at hb;obtain⟨⟨⟨⟨hsub,hmn⟩,htn⟩,hlen⟩,hin⟩:=hb;cases hq:call g (SV.renL (gC m) id as2) (eu (gC m) id os) (mt1.length+mt2.length)with
   |none=>rw[hq]at hc;cases hc
   |some q=>
    rw[hq]at hc;simp only[oW]at hc;cases hsm:q.small with
    |false=>rw[hsm]at hc;cases hc
    |true=>
     rw[hsm]at hc;simp only[wD,aw.injEq]at hc;subst hc;have hE:=hS.exact hM;obtain⟨hol,hog⟩:=pX ho
     let τ2:Nat->Nat×Nat×Nat:=fun t=>if 50<=t/\t<50+(mt1++mt2).length then OQ x ((mt1++mt2).getD (t-50) none)else(0,0,0)
     let x1:Sit:=⟨x.G,x.bk,τ2⟩
     let x2:Sit:=⟨x.G,fun i=>x.bk (m.getD i 0),τ2⟩
     have hτ:∀y:Sit,y.τ=τ2->oH x y 50 (mt1++mt2):=by
      intro y hy k hk;rw[hy];show(if _ then _ else _)=_;rw[if_pos ⟨by omega,by omega⟩]
      congr 2;omega
     have hmem:∀i,i<m.length->(m.getD i 0,os0.getD i (.rc []))∈c.ob:=fun i hi=>i7 (hog i hi)
     have hsubm:=uU hsub;have hmnd:=ji hmn
     have hT:E0 x x2 c m (mt1++mt2):=by
      refine⟨rfl,fun _ _=>rfl,hτ x2 rfl,hmnd,fun i hi=>⟨_,hmem i hi⟩,ji htn,fun t ht=> ?_⟩;rw[fC,an]at ht;rcases ht with ht|ht
      ·have:=oO (tk:=c.tk) (own:=sg.own) (cs:=as) (j:=50) (i:=0) t (by rw[hz];exact ht)
       exact this
      ·have:=nh (tk:=c.tk) (obs:=os0) (j:=50+mt1.length) t (by rw[hz2];exact ht)
       exact this
     have hTx1:=hτ x1 rfl
     have ha1:cw x1 as2 vs:=by have:=me (x:=x) (x1:=x1) rfl rfl (tk:=c.tk) (own:=sg.own) (j:=50) (i:=0) hvs (by rw[hz];exact hTx1.left);rwa[hz]at this
     have hβ:∀o∈m,x2.bk (gC m o)=x.bk o:=fun o ho=>by show x.bk (m.getD (gC m o) 0)=_;rw[(mS ho).2]
     have ha2:cw x2 (SV.renL (gC m) id as2) vs:=by
      rw[eQ];refine⟨by simpa using ha1.1,fun i hi=> ?_⟩;have hi':i<as2.length:=by simpa using hi
      rw[aW _ (by rfl)];exact Rep.renF (x:=x1) (x2:=x2) (fun _ _ _ h=>h) (ha1.2 i hi') (fun k hk=>hβ k (hsubm k (an.2 (.inl (lj hi' k hk))))) (fun t _=>rfl)
     obtain⟨hosl,hosr⟩:=lz (x:=x) (x1:=x1) (w:=w) rfl rfl (tk:=c.tk) (obs:=os0) (j:=50+mt1.length) (f:=fun i=>m.getD i 0)
      (fun i hi=>(hE.heap.obs _ (hmem i (by omega))).1) (by rw[hz2];exact hTx1.right)
     rw[hz2]at hosl hosr;simp only at hosl hosr
     have hob2:∀i,i<m.length->dI x2 w i ((eu (gC m) id os).getD i (.rc [])):=by
      intro i hi;have h1:=hosr i (by omega);have hio:i<os.length:=by omega
      have e:(eu (gC m) id os).getD i (.rc [])=(os.getD i (.rc [])).ren (gC m) id:=by rw[gg,aa,aa,aR,af hio];rfl
      rw[e];have hm':=fL (m:=m) hi;have hos:os.getD i (.rc [])∈os:=by rw[aa,af hio];exact bi _
      have h2:=h1.renF (x2:=x2) (mo:=gC m) (mt:=id) (fun _ _ _ h=>h) (hβ _ hm') (fun k hk=>hβ k (hsubm k (an.2 (.inr (pe hos k hk))))) (fun t _=>rfl);have e2:gC m (m.getD i 0)=i:=lF hmnd (mS hm').1 hi (mS hm').2;rwa[e2]at h2
     have hrl:(eu (gC m) id os).length=m.length:=by rw[gg,aX];omega
     obtain⟨_,hS'⟩:=hsp _ _ _ _ hq;have hl12:mt1.length+mt2.length=(mt1++mt2).length:=by simp
     rw[hl12]at hS';refine(hS' (Ctx.took x2 w m.length (mt1++mt2).length) x2 w vs rfl rfl ?_ (by omega) ?_ (rp hE.heap hT hrl hob2) ha2).mono ?_
     ·rintro b h;rw[hrl];exact h
     ·intro o ho'
      rw[gg]at ho';obtain⟨r,hr,rfl⟩:=aU.1 ho';refine xZ ?_
      have:=ng (tk:=c.tk) (obs:=os0) (j:=50+mt1.length) (fun o h'=>by obtain⟨i,hi,rfl⟩:=bM h';have:=hS.inv.wf _ (hmem i (by omega));simpa[aa,af hi]using this) r (by rw[hz2];exact hr)
      exact this
     ·rintro en w' ⟨v,x',q',rfl,hq',hr,hH,hwf,hg⟩
      subst hq';exact⟨v,rfl,nT hM hS hd hT hH hr hwf (fun i hi=>hg i (by omega)) (fun o ho'=>hin o ho') hsm⟩
theorem uQ{call:db}{sg:Sig}{g:Nat}{d:Option Nat}{as:List SV}{vs:List Value}(hM:aO C x s a w)(hS:Sim N c s)(hd:∀k,d=some k->k<N)(hsp:∀as os k q,call g as os k=some q->kO P g as os k (· =q))
 (hc:ig call sg c d g as=some c') (hvs:cw x as vs):Calls P g ⟨vs⟩ w fun en w'=>∃v,en= .returned v/\M C N c' (a.put d v) w':=by
 unfold ig at hc;generalize ((SV.idsL as).isEmpty&&sg.own.isEmpty)=b at hc;cases b with
 |true=>exact xx hM hS hd hsp hc hvs
 |false=>simp only[jK]at hc;obtain⟨x1,s1,h1,h2,h3⟩:=jb (l:=iN sg.raw 0 as) hM hS hvs;exact wB h1 h2 hd hsp hc h3
end Go.Sy
