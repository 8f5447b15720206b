/- An engine that steps through Go code with symbolic values: sound by proof. No condition. -/
import Derived.Test.YtdafipacemgcoaaGreatDoorEbMore
import Derived.LoopN
open Array renaming getD_eq_getD_getElem? -> bf, getElem?_eq_getElem -> cG
open Bool renaming and_eq_true -> az, not_eq_true' -> cR
open List renaming Nodup -> wE, Sublist -> oj, all_eq_true -> aY, contains_eq_mem -> fc, filter_cons -> ie, getD_cons_succ -> bh, getD_cons_zero -> bc, getD_eq_getElem?_getD -> aa, getElem?_append_left -> bn, getElem?_append_right -> bA, getElem?_drop -> bi, getElem?_eq_getElem -> af, getElem?_eq_none -> kl, getElem?_map -> aS, getElem?_range -> cN, getElem?_set -> gz, getElem?_take -> bE, getElem_mem -> bj, getElem_of_mem -> bJ, length_append -> ah, length_cons -> av, length_drop -> aE, length_map -> aX, length_set -> cu, length_take -> ay, map_append -> bx, map_cons -> aP, mem_append -> an, mem_cons -> au, mem_cons_of_mem -> aw, mem_cons_self -> aG, mem_map -> aV, mem_map_of_mem -> ir, mem_of_mem_drop -> dy, mem_of_mem_take -> bW, mem_singleton -> bp, nodup_cons -> eu, pairwise_cons -> cX, pairwise_map -> gy, range -> ce, replicate -> aq
open Nat renaming add_assoc -> cK, add_mul -> bQ, add_zero -> fz, le_refl -> aM, le_trans -> cr, lt_or_ge -> bP, min_eq_left -> fu, mod_eq_of_lt -> ym, mul_comm -> dR, mul_le_mul_right -> bN, succ_mul -> dQ
open Option renaming bind_some -> cU, getD_some -> bq, map_eq_some_iff -> ak, map_some -> bt, some -> ax
open Prod renaming fst -> cI
set_option linter.unusedVariables false
set_option linter.unusedSimpArgs false
set_option linter.unnecessarySimpa false
set_option linter.unusedSectionVars false
namespace Go.Sy
variable [bg]
variable {call : db} {sg : Nat -> Sig} {c : CSt} {d : Option Nat} {k : Nat}
theorem xfK{α:Type}{p:Prop}[Decidable p]{v:α}(h:p):gd p v=some v:=if_pos h
def fF(c:CSt)(d:Option Nat):Option SV->Option CSt
 |some v=>some (c.put d v)
 |none=>none
theorem DW(v:SV):fF c d (some v)=some (c.put d v):=rfl
theorem DX:fF c d none=none:=rfl
theorem Gp(l:List (Nat×SV))(o:List (Nat×aF))(t:List Nat)(v:SV):CSt.put ⟨l,o,t⟩ (some k) v=⟨jo l k v,o,t⟩:=rfl
theorem Gq(v:SV):CSt.put c none v=c:=rfl
theorem xfJ(l:List (Nat×SV))(o:List (Nat×aF))(t:List Nat)(n:Nat):CSt.get ⟨l,o,t⟩ n=eK l n:=rfl
theorem Sp(l:List (Nat×SV))(o:List (Nat×aF))(t:List Nat)(n:Nat):CSt.look ⟨l,o,t⟩ n=iH o n:=rfl
theorem xos(n:Nat):c.ev (.t n)=c.get n:=rfl
theorem xou(v:SV):c.ev (.c v)=v:=rfl
theorem xot(g:Nat):c.ev (.f g)= .fn g [] []:=rfl
theorem qh:c.kill []=c:=rfl
theorem D7(l:List (Nat×SV))(o:List (Nat×aF))(t:List Nat)(n:Nat)(r:List Nat):CSt.kill ⟨l,o,t⟩ (n::r)=⟨wo l (n::r),o,t⟩:=rfl
def At:Option SV->Option rh
 |some v=>some {val:=v}
 |none=>none
theorem Dt(v:SV):At (some v)=some {val:=v}:=rfl
theorem Du:At none=none:=rfl
theorem qA{so:SOp}{o:Option SV}(h:ei c d so=At o):oP c d (ei c d so)=fF c d o:=by rw[h];cases o<;>rfl
theorem QR(o:Option SV):(match o with|some v=>some {val:=v}|none=>none:Option rh)=At o:=by cases o<;>rfl
def E0:SV->Option SV
 | .ptr o off=>some (.ptr o off)
 | .ap o sz i j=>some (.ap o sz i j)
 | .pp cs=>some (.pp cs)
 | .fn f a b=>some (.fn f a b)
 |_=>none
def xbD(ne:Bool):SV->SV->Option SV
 | .bool a,.bool b=>some (.bool (if ne then decide (a≠b)else decide (a=b)))
 |_,_=>none
def xbx(ne:Bool)(ts:List Nat):SV->SV->Option SV
 | .agg cs,.agg ds=>(gM ts cs ds).map fun b=> .bool (if ne then !b else b)
 |_,_=>none
def uc:SV->Option SV
 | .str l=>some (.str l)
 |_=>none
def E5(ne:Bool):SV->Option SV
 | .nili=>some (.bool (!ne))
 |_=>none
def TO:SV->Option SV
 | .str l=>some (.byt l .no)
 |_=>none
def xbE(c:CSt):SV->Option SV
 | .str _=>none
 |v=>(fp c v).map .str
def HC(l:List UInt8):Option Int->Option Int->Option SV
 |some a,some b=>gd (0<=a/\a<=b/\b<=l.length) (.str ((l.take b.toNat).drop a.toNat))
 |_,_=>none
def EG(c:CSt)(lo hi:Option Arg):SV->Option SV
 | .str l=>HC l (ku c lo 0) (ku c hi l.length)
 |_=>none
def EH(c:CSt)(len sz:Nat)(lo hi mx:Option Arg):SV->Option SV
 | .ptr o off=>if off=0 then oO c sz (.psl o sz 0 len (some len)) lo hi mx else none
 |_=>none
def uD(off:Nat):SV->Option SV
 | .ptr o k=>some (.ptr o (k+off))
 | .ap o sz i j=>some (.ap o sz i (j+off))
 | .pp cs=>some (.pp (cs.drop off))
 |_=>none
def xbn(off n:Nat)(ag:Bool):SV->Option SV
 | .agg cs=>gd (off+n<=cs.length) (dF ag n (cs.drop off))
 |_=>none
def pC(sz:Nat):SV->Option Int->Option SV
 | .byt l _,some n=>gd (0<=n/\n<l.length/\sz=1) (.pp [.u8 (l.getD n.toNat 0)])
 | .lst sz' xs _,some n=>gd (0<=n/\n<xs.length/\sz=sz') (.pp (xs.getD n.toNat []))
 | .psl o sz' off k _,some n=>gd (0<=n/\n<k/\sz=sz') (.ap o sz (off+n.toNat) 0)
 |_,_=>none
def qj(len sz o off:Nat)(n:Int):Option aF->Option SV
 |some (.rc _)=>gd (0<=n/\n<len) (.ptr o (off+n.toNat*sz))
 |some _=>gd (off=0/\0<=n/\n<len) (.ap o sz n.toNat 0)
 |none=>none
def ni(c:CSt)(len sz:Nat):SV->Option Int->Option SV
 | .ptr o off,some n=>qj len sz o off n (c.look o)
 | .pp cs,some n=>gd (0<=n/\n<len/\cs.length=len*sz) (.pp (cs.drop (n.toNat*sz)))
 |_,_=>none
def E8(len sz:Nat)(ag:Bool):SV->Option Int->Option SV
 | .agg cs,some n=>gd (0<=n/\n<len/\cs.length=len*sz) (dF ag sz (cs.drop (n.toNat*sz)))
 |_,_=>none
def E7:SV->Option Int->Option SV
 | .str l,some n=>gd (0<=n/\n<l.length) (.u8 (l.getD n.toNat 0))
 |_,_=>none
def xbv(i:Nat):SV->Option SV
 | .tup vs=>gd (i<vs.length) (vs.getD i .undef)
 |_=>none
def lenC:Option Nat->Option SV
 |some n=>some (.int .i64 (n:Nat))
 |none=>none
def xbB:SV->Option SV
 | .psl _ _ _ _ (some m)=>some (.int .i64 m)
 | .byt l t=>if t= .clip then some (.int .i64 l.length)else none
 | .lst _ xs t=>if t= .clip then some (.int .i64 xs.length)else none
 |_=>none
def E1:SV->SV->Option SV
 | .int k a,.int k' b=>if k=k' then some (.int k (if b<a then b else a))else none
 |_,_=>none
def E2:SV->SV->Option SV
 | .int k a,.int k' b=>if k=k' then some (.int k (if a<b then b else a))else none
 |_,_=>none
def uH:Option (List SV)->Option SV
 |some l=>some (.agg l)
 |none=>none
def xbd(sz:Nat):Option (List (List SV))->Option SV
 |some r=>some (.lst sz r .clip)
 |none=>none
def E3:Option (List UInt8)->Option SV
 |some r=>some (.byt r .clip)
 |none=>none
theorem xgY(x:Arg):cJ c (.mov x)=some (c.ev x):=rfl
theorem Av(z:List SV)(ps:List (Nat×Nat×Arg)):cJ c (.build z ps)=uH (iJ z (psC c ps)):=by simp only[cJ];cases iJ z (psC c ps)<;>rfl
theorem TG(sz:Nat)(xs:List Arg):cJ c (.lit sz xs)=xbd sz (rows sz (evL c xs)):=by simp only[cJ];cases rows sz (evL c xs)<;>rfl
theorem Hy(xs:List Arg):cJ c (.litB xs)=E3 (toB (evL c xs)):=by simp only[cJ];cases toB (evL c xs)<;>rfl
theorem xc7(n:Nat)(ag:Bool)(a:Arg):cJ c (.load n ag a)=mK c n ag (c.ev a):=rfl
theorem xc3(x:Arg):cJ c (.nchk x)=E0 (c.ev x):=rfl
theorem xg3(op:BinOp)(x y:Arg):cJ c (.bin op x y)=Fu op (c.ev x) (c.ev y):=rfl
theorem xg4(ne:Bool)(x y:Arg):cJ c (.beq ne x y)=xbD ne (c.ev x) (c.ev y):=rfl
theorem xg1(ne:Bool)(ts:List Nat)(x y:Arg):cJ c (.eqS ne ts x y)=xbx ne ts (c.ev x) (c.ev y):=rfl
theorem xmP(op:UnOp)(x:Arg):cJ c (.un op x)=wF op (c.ev x):=rfl
theorem QU(q:IntKind)(x:Arg):cJ c (.toInt q x)=ig q (c.ev x):=rfl
theorem QT(x:Arg):cJ c (.toStr x)=uc (c.ev x):=rfl
theorem xc9(ne:Bool)(x:Arg):cJ c (.isni ne x)=E5 ne (c.ev x):=rfl
theorem xgX(x:Arg):cJ c (.s2b x)=TO (c.ev x):=rfl
theorem xg5(x:Arg):cJ c (.b2s x)=xbE c (c.ev x):=rfl
theorem xc4(f:Nat)(a b:List Arg):cJ c (.mkfn f a b)=some (.fn f (evL c a) (evL c b)):=rfl
theorem Hx(x:Arg)(lo hi:Option Arg):cJ c (.slcS x lo hi)=EG c lo hi (c.ev x):=by simp only[cJ];cases c.ev x<;>rfl
theorem xc1(sz:Nat)(x:Arg)(lo hi mx:Option Arg):cJ c (.slcL sz x lo hi mx)=oO c sz (c.ev x) lo hi mx:=rfl
theorem xc2(len sz:Nat)(x:Arg)(lo hi mx:Option Arg):cJ c (.slcA len sz x lo hi mx)=EH c len sz lo hi mx (c.ev x):=rfl
theorem QV(off:Nat)(x:Arg):cJ c (.faddr off x)=uD off (c.ev x):=rfl
theorem xgZ(off n:Nat)(ag:Bool)(x:Arg):cJ c (.fld off n ag x)=xbn off n ag (c.ev x):=rfl
theorem FL(sz:Nat)(x i:Arg):cJ c (.iaddrL sz x i)=pC sz (c.ev x) (c.ev i).num:=rfl
theorem vg(len sz:Nat)(x i:Arg):cJ c (.iaddrA len sz x i)=ni c len sz (c.ev x) (c.ev i).num:=by simp only[cJ];unfold ni qj;rfl
theorem xdb(len sz:Nat)(ag:Bool)(x i:Arg):cJ c (.idxA len sz ag x i)=E8 len sz ag (c.ev x) (c.ev i).num:=rfl
theorem xda(x i:Arg):cJ c (.idxS x i)=E7 (c.ev x) (c.ev i).num:=rfl
theorem xg0(x:Arg)(i:Nat):cJ c (.ext x i)=xbv i (c.ev x):=rfl
theorem TH(b:Bool)(x:Arg):cJ c (.len b x)=lenC (jO b (c.ev x)):=by simp only[cJ];cases jO b (c.ev x)<;>rfl
theorem xc8(n:Nat):cJ c (.lenC n)=some (.int .i64 n):=rfl
theorem xg2(x:Arg):cJ c (.cap x)=xbB (c.ev x):=rfl
theorem xc5(x y:Arg):cJ c (.mini x y)=E1 (c.ev x) (c.ev y):=rfl
theorem xc6(x y:Arg):cJ c (.maxi x y)=E2 (c.ev x) (c.ev y):=rfl
def SOp.pure:SOp->Bool
 | .new _| .box _| .mk _ _ _ _| .mkB _ _| .store _ _ _| .app _ _ _ _| .cpy _ _ _| .pick _ _ _| .call _ _| .isnil _ _| .newB _| .slid _=>false
 |_=>true
theorem r9{so:SOp}(h:so.pure=true):ei c d so=At (cJ c so):=by
 cases so<;>first|cases h;done|rfl|exact QR _
theorem bX{so:SOp}(h:so.pure=true):opC call sg c d so=fF c d (cJ c so):=by
 have h1:opC call sg c d so=oP c d (ei c d so):=by cases so<;>first|rfl|cases h
 rw[h1];exact qA (r9 h)
theorem xiY(x:Arg):opC call sg c d (.mov x)=fF c d (some (c.ev x)):=bX rfl
theorem Sg(z:List SV)(ps:List (Nat×Nat×Arg)):opC call sg c d (.build z ps)=fF c d (uH (iJ z (psC c ps))):=(bX rfl).trans (by rw[Av])
theorem xi0(sz:Nat)(xs:List Arg):opC call sg c d (.lit sz xs)=fF c d (xbd sz (rows sz (evL c xs))):=(bX rfl).trans (by rw[TG])
theorem xfr(xs:List Arg):opC call sg c d (.litB xs)=fF c d (E3 (toB (evL c xs))):=(bX rfl).trans (by rw[Hy])
theorem xfq(n:Nat)(ag:Bool)(a:Arg):opC call sg c d (.load n ag a)=fF c d (mK c n ag (c.ev a)):=bX rfl
theorem xfm(x:Arg):opC call sg c d (.nchk x)=fF c d (E0 (c.ev x)):=bX rfl
theorem xi8(op:BinOp)(x y:Arg):opC call sg c d (.bin op x y)=fF c d (Fu op (c.ev x) (c.ev y)):=bX rfl
theorem xi9(ne:Bool)(x y:Arg):opC call sg c d (.beq ne x y)=fF c d (xbD ne (c.ev x) (c.ev y)):=bX rfl
theorem xi4(ne:Bool)(ts:List Nat)(x y:Arg):opC call sg c d (.eqS ne ts x y)=fF c d (xbx ne ts (c.ev x) (c.ev y)):=bX rfl
theorem xnd(op:UnOp)(x:Arg):opC call sg c d (.un op x)=fF c d (wF op (c.ev x)):=bX rfl
theorem Sc(q:IntKind)(x:Arg):opC call sg c d (.toInt q x)=fF c d (ig q (c.ev x)):=bX rfl
theorem Sb(x:Arg):opC call sg c d (.toStr x)=fF c d (uc (c.ev x)):=bX rfl
theorem xfl(xs:List Arg):opC call sg c d (.newB xs)=oA c d (toB (evL c xs)):=rfl
theorem xfg(x:Arg):opC call sg c d (.slid x)=rj c d (c.ev x):=rfl
theorem xD(k:Nat)(l:List UInt8):oA c (some k) (some l)=some (CSt.app c (some k) {val:= .psl (k+100) 1 0 l.length (some l.length),new:=some (.bar l)}):=rfl
theorem DA(o off n:Nat)(cap:Option Nat):rj c d (.psl o 1 off n cap)=o8 c d o off n cap (c.look o):=rfl
theorem DB(o off n:Nat)(cap:Option Nat)(l:List UInt8):o8 c d o off n cap (some (.bar l))=if off+n<=l.length/\cap=some n then some (((c.publish o []).1).put d (.byt ((l.drop off).take n) .clip))else none:=rfl
theorem xft(ne:Bool)(x:Arg):opC call sg c d (.isni ne x)=fF c d (E5 ne (c.ev x)):=bX rfl
theorem xiW(x:Arg):opC call sg c d (.s2b x)=fF c d (TO (c.ev x)):=bX rfl
theorem xja(x:Arg):opC call sg c d (.b2s x)=fF c d (xbE c (c.ev x)):=bX rfl
theorem xfn(f:Nat)(a b:List Arg):opC call sg c d (.mkfn f a b)=fF c d (some (.fn f (evL c a) (evL c b))):=bX rfl
theorem xfh(x:Arg)(lo hi:Option Arg):opC call sg c d (.slcS x lo hi)=fF c d (EG c lo hi (c.ev x)):=(bX rfl).trans (by rw[Hx])
theorem xfi(sz:Nat)(x:Arg)(lo hi mx:Option Arg):opC call sg c d (.slcL sz x lo hi mx)=fF c d (oO c sz (c.ev x) lo hi mx):=bX rfl
theorem xfj(len sz:Nat)(x:Arg)(lo hi mx:Option Arg):opC call sg c d (.slcA len sz x lo hi mx)=fF c d (EH c len sz lo hi mx (c.ev x)):=bX rfl
theorem Sf(off:Nat)(x:Arg):opC call sg c d (.faddr off x)=fF c d (uD off (c.ev x)):=bX rfl
theorem xi2(off n:Nat)(ag:Bool)(x:Arg):opC call sg c d (.fld off n ag x)=fF c d (xbn off n ag (c.ev x)):=bX rfl
theorem Gz(sz:Nat)(x i:Arg):opC call sg c d (.iaddrL sz x i)=fF c d (pC sz (c.ev x) (c.ev i).num):=bX rfl
theorem GA(len sz:Nat)(x i:Arg):opC call sg c d (.iaddrA len sz x i)=fF c d (ni c len sz (c.ev x) (c.ev i).num):=(bX rfl).trans (by rw[vg])
theorem xfv(len sz:Nat)(ag:Bool)(x i:Arg):opC call sg c d (.idxA len sz ag x i)=fF c d (E8 len sz ag (c.ev x) (c.ev i).num):=bX rfl
theorem xfu(x i:Arg):opC call sg c d (.idxS x i)=fF c d (E7 (c.ev x) (c.ev i).num):=bX rfl
theorem xi3(x:Arg)(i:Nat):opC call sg c d (.ext x i)=fF c d (xbv i (c.ev x)):=bX rfl
theorem xi1(b:Bool)(x:Arg):opC call sg c d (.len b x)=fF c d (lenC (jO b (c.ev x))):=(bX rfl).trans (by rw[TH])
theorem xfs(n:Nat):opC call sg c d (.lenC n)=fF c d (some (.int .i64 n)):=bX rfl
theorem xi6(x:Arg):opC call sg c d (.cap x)=fF c d (xbB (c.ev x)):=bX rfl
theorem xfo(x y:Arg):opC call sg c d (.mini x y)=fF c d (E1 (c.ev x) (c.ev y)):=bX rfl
theorem xfp(x y:Arg):opC call sg c d (.maxi x y)=fF c d (E2 (c.ev x) (c.ev y)):=bX rfl
def EX(a b:SV):SV->Option SV
 | .bool t=>some (ix t a b)
 |_=>none
theorem xgb(q a b:Arg):ei c d (.pick q a b)=At (EX (c.ev a) (c.ev b) (c.ev q)):=by simp only[ei];cases c.ev q<;>rfl
theorem xfk(q a b:Arg):opC call sg c d (.pick q a b)=fF c d (EX (c.ev a) (c.ev b) (c.ev q)):=qA (xgb q a b)
def uz(ne:Bool):SV->Option SV
 | .byt l _=>gd (l≠ []) (.bool ne)
 | .lst _ xs _=>gd (xs≠ []) (.bool ne)
 | .psl _ _ _ _ _=>some (.bool ne)
 |_=>none
theorem S9(ne:Bool)(x:Arg):ei c d (.isnil ne x)=At (uz ne (c.ev x)):=by simp only[ei];cases c.ev x<;>first|rfl|(simp only[uz];unfold gd;split<;>rfl)
theorem Se(ne:Bool)(x:Arg):opC call sg c d (.isnil ne x)=fF c d (uz ne (c.ev x)):=qA (S9 ne x)
def Dh(c:CSt)(k:Nat)(o:aF)(v:SV):CSt:=CSt.app c (some k) {val:=v,new:=some o}
theorem Tv(l:List (Nat×SV))(ob:List (Nat×aF))(t:List Nat)(o:aF)(v:SV):
 Dh ⟨l,ob,t⟩ k o v=⟨jo (dv (k+100) (k+101) l) k v,iL (bF (k+100) (k+101) ob) (k+100) (o.purge (k+100) (k+101)),cA (k+100) (k+101) t⟩:=rfl
def xmp(c:CSt)(k:Nat)(v:SV):Option aF->Option CSt
 |some o=>some (Dh c k o v)
 |none=>none
theorem EC(v:SV)(o:aF):xmp c k v (some o)=some (Dh c k o v):=rfl
theorem xiX(o:aF):opC call sg c (some k) (.new o)=xmp c k (.ptr (k+100) 0) (gd (o.wf=true) o):=by show oP c (some k) (gd _ _)=_;unfold gd;split<;>rfl
theorem xi7(x:Arg):opC call sg c (some k) (.box x)=some (Dh c k (.rc (c.ev x).cells) (.ptr (k+100) 0)):=rfl
def mkE(bytes:Nat):SV->SV->Option (Nat×Nat)
 | .int _ n,.int _ m=>gd (0<=n/\n<=m/\bytes*m<=140737488355328/\m<=9223372036854775807) (n.toNat,m.toNat)
 |_,_=>none
def mkS(c:CSt)(k:Nat)(z:List SV):Option (Nat×Nat)->Option CSt
 |some p=>some (Dh c k (.arr z.length (aq p.2 z)) (.psl (k+100) z.length 0 p.1 (some p.2)))
 |none=>none
theorem xne(z:List SV)(bytes:Nat)(n m:Arg):opC call sg c (some k) (.mk z bytes n m)=mkS c k z (mkE bytes (c.ev n) (c.ev m)):=by show oP c (some k) (ei c (some k) (.mk z bytes n m))=_;simp only[ei];cases h1:c.ev n<;>cases h2:c.ev m<;>first|rfl|(simp only[mkE];unfold gd;split<;>rfl)
def xgq:SV->SV->Option (Nat×Nat)
 | .int _ n,.int _ m=>gd (0<=n/\n<=m/\m<=140737488355328) (n.toNat,m.toNat)
 |_,_=>none
def xl2(c:CSt)(k:Nat):Option (Nat×Nat)->Option CSt
 |some p=>some (Dh c k (.bar (aq p.2 0)) (.psl (k+100) 1 0 p.1 (some p.2)))
 |none=>none
theorem xiZ(n m:Arg):opC call sg c (some k) (.mkB n m)=xl2 c k (xgq (c.ev n) (c.ev m)):=by show oP c (some k) (ei c (some k) (.mkB n m))=_;simp only[ei];cases h1:c.ev n<;>cases h2:c.ev m<;>first|rfl|(simp only[xgq];unfold gd;split<;>rfl)
def stC(c:CSt)(n:Nat)(v:List SV):SV->Option (Nat×aF)
 | .ptr o off=>match c.look o with
  |some (.rc cs)=>gd (off+n<=cs.length/\v.length=n/\v.all SV.one=true) (o,.rc (setCells cs off v))
  |some (.arr sz xs)=>gd (off=0/\n=xs.length*sz/\v.length=n/\v.all SV.isData=true) (o,.arr sz (jv sz xs.length (v.map SV.data)))
  |some (.bar l)=>match toB v with
   |some l'=>gd (off=0/\n=l.length/\l'.length=n) (o,.bar l')
   |none=>none
  |_=>none
 | .ap o sz i j=>match c.look o with
  |some (.arr sz' xs)=>gd (sz=sz'/\i<xs.length/\j+n<=sz/\v.length=n/\v.all SV.isData=true) (o,.arr sz' (eH sz xs i j n (v.map SV.data)))
  |some (.bar l)=>match v with
   |[.u8 b]=>gd (sz=1/\j=0/\n=1/\i<l.length) (o,.bar (l.set i b))
   |_=>none
  |_=>none
 |_=>none
def stS(c:CSt):Option (Nat×aF)->Option CSt
 |some p=>some ⟨c.tm,iL c.ob p.1 p.2,c.tk⟩
 |none=>none
theorem FR(l:List (Nat×SV))(ob:List (Nat×aF))(t:List Nat)(p:Nat×aF):stS ⟨l,ob,t⟩ (some p)=some ⟨l,iL ob p.1 p.2,t⟩:=rfl
theorem Dy(n:Nat)(v:List SV)(a:SV):lg c n v a=(stC c n v a).map fun p=> {val:= .undef,wr:=[p]}:=by
 cases a with
 |ptr o off=>
  simp only[lg,stC];cases c.look o with
  |none=>rfl
  |some ob=>
   cases ob with
   |rc cs=>simp only;unfold gd;split<;>rfl
   |arr sz' xs=>simp only;unfold gd;split<;>rfl
   |bar l=>simp only;cases toB v<;>first|rfl|(simp only;unfold gd;split<;>rfl)
 |ap o sz i j=>
  simp only[lg,stC];cases c.look o with
  |none=>rfl
  |some ob=>
   cases ob with
   |rc cs=>rfl
   |arr sz' xs=>simp only;unfold gd;split<;>rfl
   |bar l=>
    rcases v with _|⟨u,_|⟨u2,r⟩⟩
    ·rfl
    ·cases u<;>first|rfl|(simp only;unfold gd;split<;>rfl)
    ·cases u<;>rfl
 |_=>rfl
theorem Sd(n:Nat)(a x:Arg):opC call sg c none (.store n a x)=if(c.ev x).isDef=true then stS c (stC c n (c.ev x).cells (c.ev a))else none:=by
 show oP c none (ei c none (.store n a x))=_;simp only[ei];split
 ·rw[Dy];cases stC c n (c.ev x).cells (c.ev a)<;>rfl
 ·rfl
def apB(c:CSt)(k:Nat)(l:List UInt8)(t:Tok)(z:List SV)(bytes:Nat):Option (List UInt8)->Option CSt
 |some l'=>if z.length=1/\bytes=1/\t.readyC c=true/\l.length+l'.length<=140737488355328 then some (CSt.app c (some k) {val:= .byt (l++l') (.id (k+100)),eat:=t,tok:=true})else none
 |none=>none
def apL(c:CSt)(k:Nat)(sz':Nat)(l:List (List SV))(t:Tok)(z:List SV)(bytes:Nat):Option (List (List SV))->Option CSt
 |some l'=>if z.length=sz'/\t.readyC c=true/\(l.length+l'.length)*bytes<=140737488355328 then some (CSt.app c (some k) {val:= .lst z.length (l++l') (.id (k+100)),eat:=t,tok:=true})else none
 |none=>none
theorem Tu(l:List (Nat×SV))(ob:List (Nat×aF))(t:List Nat)(v:SV)(e:Tok):
 CSt.app ⟨l,ob,t⟩ (some k) {val:=v,eat:=e,tok:=true}=⟨jo (dv (k+100) (k+101) l) k v,bF (k+100) (k+101) ob,mX (cA (k+100) (k+101) (e.eat t)) (k+100)⟩:=rfl
def apS(c:CSt)(k:Nat)(z:List SV)(bytes:Nat)(y:SV):SV->Option CSt
 | .byt l t=>apB c k l t z bytes (fp c y)
 | .lst sz' l t=>apL c k sz' l t z bytes (gA c z.length y)
 |_=>none
theorem xjb(z:List SV)(bytes:Nat)(x y:Arg):opC call sg c (some k) (.app z bytes x y)=apS c k z bytes (c.ev y) (c.ev x):=by
 show oP c (some k) (ei c (some k) (.app z bytes x y))=_;simp only[ei];cases c.ev x<;>try rfl
 ·simp only[apS]
  cases fp c (c.ev y)with
  |none=>rfl
  |some l'=>simp only[cU,apB];unfold gd;split<;>rfl
 ·simp only[apS]
  cases gA c z.length (c.ev y)with
  |none=>rfl
  |some l'=>simp only[cU,apL];unfold gd;split<;>rfl
def cpB(o off n:Nat)(sz sz':Nat)(l:List UInt8):Option (List UInt8)->Option (SV×Nat×aF)
 |some l'=>gd (sz=1/\sz'=1/\off+n<=l.length) (.int .i64 (min l'.length n:Nat),o,.bar (l.take off++l'.take n++l.drop (off+(l'.take n).length)))
 |none=>none
def cpL(b:Bool)(o off n:Nat)(sz sz' sz'':Nat)(xs:List (List SV)):Option (List (List SV))->Option (SV×Nat×aF)
 |some l'=>gd (b=true/\sz=sz'/\sz=sz''/\off+n<=xs.length) (.int .i64 (min l'.length n:Nat),o,.arr sz (xs.take off++l'.take n++xs.drop (off+(l'.take n).length)))
 |none=>none
def cp2(b:Bool)(c:CSt)(sz o sz' off n:Nat)(y:SV):Option aF->Option (SV×Nat×aF)
 |some (.bar l)=>cpB o off n sz sz' l (fp c y)
 |some (.arr sz'' xs)=>cpL b o off n sz sz' sz'' xs (gA c sz y)
 |_=>none
def cpC(b:Bool)(c:CSt)(sz:Nat)(y:SV):SV->Option (SV×Nat×aF)
 | .psl o sz' off n _=>cp2 b c sz o sz' off n y (c.look o)
 |_=>none
def cpS(c:CSt)(d:Option Nat):Option (SV×Nat×aF)->Option CSt
 |some p=>some (CSt.put ⟨c.tm,iL c.ob p.2.1 p.2.2,c.tk⟩ d p.1)
 |none=>none
theorem xi5(sz:Nat)(x y:Arg):opC call sg c d (.cpy sz x y)=cpS c d (cpC y.isT c sz (c.ev y) (c.ev x)):=by
 show oP c d (ei c d (.cpy sz x y))=_;simp only[ei];cases c.ev x<;>try rfl
 rename_i o sz' off n cap;simp only[cpC];cases c.look o with
 |none=>rfl
 |some ob=>
  cases ob with
  |rc cs=>rfl
  |bar l=>
   simp only[cp2];cases fp c (c.ev y)with
   |none=>rfl
   |some l'=>simp only[cU,cpB];unfold gd;split<;>rfl
  |arr sz'' xs=>
   simp only[cp2];cases gA c sz (c.ev y)with
   |none=>rfl
   |some l'=>simp only[cU,cpL];unfold gd;split<;>rfl
def P9(call:db)(sg:Nat->Sig)(c:CSt)(d:Option Nat)(as:List SV):SV->Option CSt
 | .fn g a b=>io call (sg g) c d g (a++as++b)
 |_=>none
theorem xfw(f:Arg)(as:List Arg):opC call sg c d (.call f as)=P9 call sg c d (evL c as) (c.ev f):=by simp only[opC];unfold P9;rfl
theorem xdo(o:SOp):dT call sg c ⟨d,none,o⟩=opC call sg c d o:=rfl
theorem xew(g:Option (Nat×Bool))(o:SOp)(r:List SI):plC call sg (⟨d,g,o⟩::r) c=nxP call sg r (opC call sg c d o):=by rw[plC]
theorem CS:fI call sg [] c=some c:=by rw[fI]
theorem OO(i:SI)(dead:List Nat)(r:List RI):fI call sg (.op i dead::r) c=nxC call sg dead r (dT call sg c i):=by rw[fI]
theorem CT(g:Nat)(b:Bool)(l:List SI)(dead:List Nat)(r:List RI):fI call sg (.grp g b l dead::r) c=nxC call sg dead r (pE call sg b l c (c.get g)):=by rw[fI]
theorem CQ(i:SI)(dead:List Nat)(r:List RI):fI call sg (.tks i dead::r) c=nxC call sg dead r (Ax c i):=by rw[fI]
theorem Rd(d:Option Nat)(x:Arg):Ax c ⟨d,none,.s2b x⟩=Re c d (c.ev x):=rfl
theorem xde(k:Nat)(l:List UInt8):Re c (some k) (.str l)=some (CSt.app c (some k) {val:= .byt l (.id (k+100)),tok:=true}):=rfl
theorem CR(i:SI)(dead:List Nat)(r:List RI):fI call sg (.own i dead::r) c=nxC call sg dead r (tc c i):=by rw[fI]
theorem RZ(d:Option Nat)(x:Arg):tc c ⟨d,none,.s2b x⟩=R6 c d (c.ev x):=rfl
theorem R2(d:Option Nat)(sz:Nat)(xs:List Arg):tc c ⟨d,none,.lit sz xs⟩=R4 c sz d (rows sz (evL c xs)):=rfl
theorem Gy(d:Option Nat)(xs:List Arg):tc c ⟨d,none,.litB xs⟩=oA c d (toB (evL c xs)):=rfl
theorem R3(d:Option Nat)(z:List SV)(b:Nat)(x y:Arg):tc c ⟨d,none,.app z b x y⟩=R5 c d z b y (c.ev x):=rfl
theorem CU(q:Dir)(r:List RI):fI call sg (.dir q::r) c=nxC call sg [] r (ra c q):=by rw[fI]
theorem lm(dead:List Nat)(r:List RI):nxC call sg dead r (some c)=fI call sg r (c.kill dead):=by rw[nxC]
theorem ln(dead:List Nat)(r:List RI):nxC call sg dead r none=none:=by rw[nxC]
theorem OL:plC call sg [] c=some c:=by rw[plC]
theorem CY(r:List SI):nxP call sg r (some c)=plC call sg r c:=by rw[nxP]
theorem CZ(r:List SI):nxP call sg r none=none:=by rw[nxP]
theorem xdc:unL c []=c:=rfl
theorem QW(g:Option (Nat×Bool))(o:SOp)(r:List SI):unL c (⟨d,g,o⟩::r)=unL (c.put d (.tup [])) r:=rfl
theorem xjv(b:Bool)(l:List SI):pE call sg b l c (.tup [])=some (unL c l):=rfl
theorem xjw(b t:Bool)(l:List SI):pE call sg b l c (.bool t)=if t=b then plC call sg l c else some (unL c l):=rfl
theorem xfx(dead:List Nat)(r:List RI)(p:Prop)[Decidable p](a b:Option CSt):nxC call sg dead r (if p then a else b)=if p then nxC call sg dead r a else nxC call sg dead r b:=by split<;>rfl
theorem xfF(p:Prop)[Decidable p](l l':List (Nat×SV))(o:List (Nat×aF))(t:List Nat):(if p then some (CSt.mk l o t)else some (CSt.mk l' o t))=some (CSt.mk (if p then l else l') o t):=by split<;>rfl
theorem xfE(p:Prop)[Decidable p](n:Nat)(v w:SV)(l l':List (Nat×SV)):(if p then(n,v)::l else(n,w)::l')=(n,if p then v else w)::(if p then l else l'):=by split<;>rfl
theorem Sx(p:Prop)[Decidable p]:(if p then([]:List (Nat×SV))else [])=[]:=by split<;>rfl
theorem GQ{α:Type}(p:Prop)[Decidable p](a:α):(if p then a else a)=a:=by split<;>rfl
theorem GP(p:Prop)[Decidable p](q:IntKind)(a b:Int):(if p then SV.int q a else SV.int q b)= .int q (if p then a else b):=by split<;>rfl
theorem Eb(p:Prop)[Decidable p](a b:Bool):(if p then SV.bool a else SV.bool b)= .bool (if p then a else b):=by split<;>rfl
theorem Sw(p:Prop)[Decidable p](a b:UInt8):(if p then SV.u8 a else SV.u8 b)= .u8 (if p then a else b):=by split<;>rfl
theorem Ed(t a b:Bool):ix t (.bool a) (.bool b)= .bool (if t=true then a else b):=by cases t<;>rfl
theorem GR(t:Bool)(q:IntKind)(a b:Int):ix t (.int q a) (.int q b)= .int q (if t=true then a else b):=by cases t<;>rfl
theorem Sz(t:Bool)(a b:UInt8):ix t (.u8 a) (.u8 b)= .u8 (if t=true then a else b):=by cases t<;>rfl
theorem Ec(a b:SV):ix true a b=a:=rfl
theorem xK(a b:SV):ix false a b=b:=rfl
variable {rn : RC -> CSt -> gO}
theorem GC(dead:List Nat):nrm dead (some c)=some (.n,c.kill dead):=rfl
theorem GD(dead:List Nat):nrm dead none=none:=rfl
theorem Sl(dead:List Nat)(p:Prop)[Decidable p](a b:Option CSt):nrm dead (if p then a else b)=if p then nrm dead a else nrm dead b:=by split<;>rfl
theorem xmT(b:RC):sq rn b (some (.n,c))=rn b c:=rfl
theorem xmR(b:RC)(id:Nat):sq rn b (some (.x id,c))=some (.x id,c):=rfl
theorem xmS(b:RC):sq rn b (some (.r,c))=some (.r,c):=rfl
theorem Rg(b:RC):sq rn b none=none:=rfl
theorem xdj(b:RC)(p:Prop)[Decidable p](x y:gO):sq rn b (if p then x else y)=if p then sq rn b x else sq rn b y:=by split<;>rfl
theorem xjA(a b:RC)(t:Bool):cnd rn a b c (.bool t)=if t=true then rn a c else rn b c:=rfl
theorem xjE(id:Nat):blk id (some (.n,c))=some (.n,c):=rfl
theorem xjD(id:Nat):blk id (some (.r,c))=some (.r,c):=rfl
theorem xjC(id id':Nat):blk id (some (.x id',c))=if id'=id then some (.n,c)else some (.x id',c):=rfl
theorem Hq(id:Nat):blk id none=none:=rfl
theorem Tl(id:Nat)(p:Prop)[Decidable p](x y:gO):blk id (if p then x else y)=if p then blk id x else blk id y:=by split<;>rfl
theorem xnk(b:RC):lp rn b (some (.n,c))=rn (.loop b) c:=rfl
theorem xni(b:RC)(id:Nat):lp rn b (some (.x id,c))=some (.x id,c):=rfl
theorem xnj(b:RC):lp rn b (some (.r,c))=some (.r,c):=rfl
theorem Sn(b:RC):lp rn b none=none:=rfl
theorem xfA(b:RC)(p:Prop)[Decidable p](x y:gO):lp rn b (if p then x else y)=if p then lp rn b x else lp rn b y:=by split<;>rfl
theorem Gu(a:RC):prD rn a (some c)=rn a c:=rfl
theorem xhA(ds:List Dir):psD ds (some (.n,c))=prD (fun _ c=>some (.n,c)) .skip (iC c ds):=by simp only[psD];cases iC c ds<;>rfl
theorem xhy(ds:List Dir)(id:Nat):psD ds (some (.x id,c))=some (.x id,c):=rfl
theorem xhz(ds:List Dir):psD ds (some (.r,c))=some (.r,c):=rfl
theorem Gt(ds:List Dir):psD ds none=none:=rfl
theorem RY(ds:List Dir)(p:Prop)[Decidable p](x y:gO):psD ds (if p then x else y)=if p then psD ds x else psD ds y:=by split<;>rfl
theorem Hd:iC c []=some c:=rfl
def xmn(ds:List Dir):Option CSt->Option CSt
 |some c=>iC c ds
 |none=>none
theorem Ew(q:Dir)(ds:List Dir):iC c (q::ds)=xmn ds (ra c q):=by simp only[iC];cases ra c q<;>rfl
theorem Ey(ds:List Dir):xmn ds (some c)=iC c ds:=rfl
theorem xjy(F:FnC)(n:Nat):Fq F n (some (.n,c))=O2 F.keep F.raw n c (rH c F.rs):=rfl
theorem xjx(F:FnC)(n:Nat):Fq F n (some (.r,c))=O2 F.keep F.raw n c (rH c F.rs):=rfl
theorem SP(F:FnC)(n:Nat)(p:Prop)[Decidable p](x y:gO):Fq F n (if p then x else y)=if p then Fq F n x else Fq F n y:=by split<;>rfl
theorem Hn(sg:Sig)(g:Nat)(as:List SV):io call sg c d g as=jP call sg c d g as ((SV.idsL as).isEmpty&&sg.own.isEmpty):=rfl
theorem Ti(sg:Sig)(g:Nat)(as:List SV):jP call sg c d g as true=mM c d (call g (SV.bareL as) [] 0):=rfl
theorem Tj(sg:Sig)(g:Nat)(as:List SV):jP call sg c d g as false=jJ call sg d g (eZ c as (iU sg.raw 0 as)):=rfl
theorem SR(q:ep):mM c d (some q)=oC c d q q.bare:=rfl
theorem SU(q:ep):oC c d q true=some (c.put d q.r):=rfl
theorem SW(q:ep):oC c d q false=xW c d q q.small:=rfl
theorem SS(q:ep):xW c d q true=some (jQ c d [] [] q):=rfl
theorem Tp(r:SV)(os:List (Nat×aF))(tk:List Nat):(ep.mk r os tk).bare=(os.isEmpty&&tk.isEmpty&&r.ids.isEmpty&&r.toks.isEmpty):=rfl
theorem FS(r:SV)(os:List (Nat×aF))(tk:List Nat):(ep.mk r os tk).small=(os.all (fun p=>decide (p.1<1000)&&p.2.ids.all (fun k=>decide (k<1000))&&p.2.toks.all (fun k=>decide (k<1000)))&&r.ids.all (fun k=>decide (k<1000))&&r.toks.all (fun k=>decide (k<1000))&&tk.all (fun k=>decide (k<1000))):=rfl
theorem Rh(sg:Sig)(g:Nat)(as:List SV):jJ call sg d g (c,as)=ou call c d g (jT c.tk sg.own 50 0 as):=rfl
theorem Rn(g:Nat)(as:List SV)(mt1:List (Option Nat)):ou call c d g (as,mt1)=lG call c d g as mt1 (dL c 60 [] (SV.idsL as)) (gB c (dL c 60 [] (SV.idsL as))):=rfl
theorem Rm(g:Nat)(as:List SV)(mt1:List (Option Nat))(m:List Nat)(os:List aF):lG call c d g as mt1 m (some os)=ot call c d g as mt1 m (eh c.tk (50+mt1.length) os):=rfl
theorem Rl(g:Nat)(as:List SV)(mt1:List (Option Nat))(m:List Nat)(os:List aF)(mt2:List (Option Nat)):ot call c d g as mt1 m (os,mt2)=
 oq call c d g as mt1 m os mt2 (oZ (SV.idsL as++fG os) m&&dE m&&dE (cz (mt1++mt2))&&decide (m.length<=40)&&m.all fun o=> !inR (d.getD 0) o):=rfl
theorem Rk(g:Nat)(as:List SV)(mt1:List (Option Nat))(m:List Nat)(os:List aF)(mt2:List (Option Nat)):oq call c d g as mt1 m os mt2 true=
 o7 c d m (cz (mt1++mt2)) (call g (SV.renL (gI m) id as) (ey (gI m) id os) (mt1.length+mt2.length)):=rfl
theorem Rj(m mt:List Nat)(q:ep):o7 c d m mt (some q)=wU c d m mt q q.small:=rfl
theorem Ri(m mt:List Nat)(q:ep):wU c d m mt q true=some (jQ c d m mt q):=rfl
theorem xfV(keep raw:List Nat)(vs:List SV):O2 keep raw k c (some vs)=SQ keep k (eZ c vs (iU raw 0 vs)):=rfl
theorem xfO(keep:List Nat)(vs:List SV):SQ keep k (c,vs)=O1 keep k c vs (decide (k=0)&&(SV.idsL vs).isEmpty&&keep.isEmpty):=rfl
theorem xfT(keep:List Nat)(vs:List SV):O1 keep k c vs true=some ⟨jp (SV.bareL vs),[],[]⟩:=rfl
theorem xfU(keep:List Nat)(vs:List SV):O1 keep k c vs false=xbr k c (jT c.tk keep 60 0 vs):=rfl
theorem xfS(vs:List SV)(mt1:List (Option Nat)):xbr k c (vs,mt1)=xbq k c vs mt1 (dL c 60 [] (km k++SV.idsL vs)) (gB c (dL c 60 [] (km k++SV.idsL vs))):=rfl
theorem xfR(vs:List SV)(mt1:List (Option Nat))(m:List Nat)(os:List aF):xbq k c vs mt1 m (some os)=xbp k vs mt1 m (eh c.tk (60+mt1.length) os):=rfl
theorem xfQ(vs:List SV)(mt1:List (Option Nat))(m:List Nat)(os:List aF)(mt2:List (Option Nat)):xbp k vs mt1 m (os,mt2)=
 xbo k vs mt1 m os mt2 (oZ (SV.idsL vs++fG os) m&&dE m&&dE (cz (mt1++mt2))&&decide (m.take k=km k)&&(m.drop k).all fun o=>decide (k<=o)):=rfl
theorem xfP(vs:List SV)(mt1:List (Option Nat))(m:List Nat)(os:List aF)(mt2:List (Option Nat)):xbo k vs mt1 m os mt2 true=
 some ⟨(jp vs).ren (gV k m) id,(fV 0 (ey (gV k m) id (os.take k)))++(fV (100+k) (ey (gV k m) id (os.drop k))),tks 60 (mt1.length+mt2.length)⟩:=rfl
theorem R9(v:SV):jp [v]=v:=rfl
theorem R8(v w:SV)(r:List SV):jp (v::w::r)= .tup (v::w::r):=rfl
theorem Sa:jp []= .tup []:=rfl
theorem FZ(raw:List Nat)(i:Nat)(q:IntKind)(n:Int):mU raw i (.int q n)=[]:=rfl
theorem DE(raw:List Nat)(i:Nat)(b:Bool):mU raw i (.bool b)=[]:=rfl
theorem Rq(raw:List Nat)(i:Nat)(b:UInt8):mU raw i (.u8 b)=[]:=rfl
theorem FV(raw:List Nat)(i:Nat)(l:List UInt8):mU raw i (.str l)=[]:=rfl
theorem F0(raw:List Nat)(i:Nat)(l:List UInt8)(t:Tok):mU raw i (.byt l t)=[]:=rfl
theorem FY(raw:List Nat)(i sz:Nat)(l:List (List SV))(t:Tok):mU raw i (.lst sz l t)=[]:=rfl
theorem DC(raw:List Nat)(i:Nat):mU raw i .nilp=[]:=rfl
theorem DD(raw:List Nat)(i:Nat):mU raw i .nili=[]:=rfl
theorem wY(raw:List Nat)(i:Nat):mU raw i .undef=[]:=rfl
theorem Rr(raw:List Nat)(i:Nat)(l:List SV):mU raw i (.pp l)=[]:=rfl
theorem FW(raw:List Nat)(i o off:Nat):mU raw i (.ptr o off)=[]:=rfl
theorem Rt(raw:List Nat)(i o sz a b:Nat):mU raw i (.ap o sz a b)=[]:=rfl
theorem F1(raw:List Nat)(i:Nat)(l:List SV):mU raw i (.agg l)=if raw.contains i=true then []else ue l:=rfl
theorem DN:ue []=[]:=rfl
theorem xc(v:SV)(r:List SV):ue (v::r)=gS v++ue r:=rfl
theorem DK(q:IntKind)(n:Int):gS (.int q n)=[]:=rfl
theorem xb(b:Bool):gS (.bool b)=[]:=rfl
theorem F2(b:UInt8):gS (.u8 b)=[]:=rfl
theorem DG(l:List UInt8):gS (.str l)=[]:=rfl
theorem DL(l:List UInt8)(t:Tok):gS (.byt l t)=[]:=rfl
theorem DJ(sz:Nat)(l:List (List SV))(t:Tok):gS (.lst sz l t)=[]:=rfl
theorem w9:gS .nilp=[]:=rfl
theorem xa:gS .nili=[]:=rfl
theorem uW:gS .undef=[]:=rfl
theorem F4(l:List SV):gS (.pp l)=[]:=rfl
theorem DH(o off:Nat):gS (.ptr o off)=[]:=rfl
theorem F9(o sz a b:Nat):gS (.ap o sz a b)=[]:=rfl
theorem DM(l:List SV):gS (.agg l)=[]:=rfl
theorem DF(l:List SV):gS (.tup l)=[]:=rfl
theorem F8(f:Nat)(a b:List SV):gS (.fn f a b)=[]:=rfl
theorem DI(o sz off n:Nat)(m:Option Nat):gS (.psl o sz off n m)=[o]:=rfl
theorem FU(raw:List Nat)(i:Nat)(l:List SV):mU raw i (.tup l)=[]:=rfl
theorem Rs(raw:List Nat)(i f:Nat)(a b:List SV):mU raw i (.fn f a b)=[]:=rfl
theorem FX(raw:List Nat)(i o sz off n:Nat)(m:Option Nat):mU raw i (.psl o sz off n m)=if raw.contains i=true then []else [o]:=rfl
theorem SF(p:Prop)[Decidable p](a b v:SV):ix (decide p) (if p then a else b) v=ix (decide p) a v:=by by_cases h:p<;>simp[ix,h]
theorem SE(p:Prop)[Decidable p](a b v:SV):ix (decide p) v (if ¬p then a else b)=ix (decide p) v a:=by by_cases h:p<;>simp[ix,h]
theorem SB(t:Bool)(a b v:SV):ix t (if t=true then a else b) v=ix t a v:=by cases t<;>simp[ix]
theorem SA(t:Bool)(a b v:SV):ix t v (if t=false then a else b)=ix t v a:=by cases t<;>simp[ix]
theorem SD(t:Bool)(a b v:SV):ix (!t) (if t=false then a else b) v=ix (!t) a v:=by cases t<;>simp[ix]
theorem SC(t:Bool)(a b v:SV):ix (!t) v (if t=true then a else b)=ix (!t) v a:=by cases t<;>simp[ix]
theorem To(p q:Prop)[Decidable p][Decidable q]:(if p then decide q else false)=decide (p/\q):=by by_cases h:p<;>simp[h]
theorem xgj(p q:Prop)[Decidable p][Decidable q]:(if p then true else decide q)=decide (p\/q):=by by_cases h:p<;>simp[h]
theorem Tr(v:SV):c.app d {val:=v}=c.put d v:=rfl
theorem Ts(l:List (Nat×SV))(ob:List (Nat×aF))(t:List Nat)(o:aF)(v:SV):
 CSt.app ⟨l,ob,t⟩ (some k) {val:=v,new:=some o}=⟨jo (dv (k+100) (k+101) l) k v,iL (bF (k+100) (k+101) ob) (k+100) (o.purge (k+100) (k+101)),cA (k+100) (k+101) t⟩:=rfl
theorem xgk(l:List (Nat×SV))(ob:List (Nat×aF))(t:List Nat)(v:SV)(p:Nat×aF):CSt.app ⟨l,ob,t⟩ d {val:=v,wr:=[p]}=CSt.put ⟨l,iL ob p.1 p.2,t⟩ d v:=rfl
theorem Hi(l:List (Nat×SV))(ob:List (Nat×aF))(t:List Nat)(p:SV×Nat×aF):cpS ⟨l,ob,t⟩ d (some p)=some (CSt.put ⟨l,iL ob p.2.1 p.2.2,t⟩ d p.1):=rfl
theorem GG(z:List SV)(p:Nat×Nat):mkS c k z (some p)=some (Dh c k (.arr z.length (aq p.2 z)) (.psl (k+100) z.length 0 p.1 (some p.2))):=rfl
theorem D5(p:Nat×Nat):xl2 c k (some p)=some (Dh c k (.bar (aq p.2 0)) (.psl (k+100) 1 0 p.1 (some p.2))):=rfl
theorem xgM(x:Arg):dd c (.mov x)=some (c.ev x):=by simp only[dd];rw[xgY]
theorem QN(z:List SV)(ps:List (Nat×Nat×Arg)):dd c (.build z ps)=uH (iJ z (psC c ps)):=by simp only[dd];rw[Av]
theorem xgN(sz:Nat)(xs:List Arg):dd c (.lit sz xs)=xbd sz (rows sz (evL c xs)):=by simp only[dd];rw[TG]
theorem xcW(xs:List Arg):dd c (.litB xs)=E3 (toB (evL c xs)):=by simp only[dd];rw[Hy]
theorem xcV(n:Nat)(ag:Bool)(a:Arg):dd c (.load n ag a)=mK c n ag (c.ev a):=by simp only[dd];rw[xc7]
theorem xcR(x:Arg):dd c (.nchk x)=E0 (c.ev x):=by simp only[dd];rw[xc3]
theorem xgT(op:BinOp)(x y:Arg):dd c (.bin op x y)=Fu op (c.ev x) (c.ev y):=by simp only[dd];rw[xg3]
theorem xgU(ne:Bool)(x y:Arg):dd c (.beq ne x y)=xbD ne (c.ev x) (c.ev y):=by simp only[dd];rw[xg4]
theorem xgR(ne:Bool)(ts:List Nat)(x y:Arg):dd c (.eqS ne ts x y)=xbx ne ts (c.ev x) (c.ev y):=by simp only[dd];rw[xg1]
theorem xmL(op:UnOp)(x:Arg):dd c (.un op x)=wF op (c.ev x):=by simp only[dd];rw[xmP]
theorem QL(q:IntKind)(x:Arg):dd c (.toInt q x)=ig q (c.ev x):=by simp only[dd];rw[QU]
theorem QK(x:Arg):dd c (.toStr x)=uc (c.ev x):=by simp only[dd];rw[QT]
theorem xcY(ne:Bool)(x:Arg):dd c (.isni ne x)=E5 ne (c.ev x):=by simp only[dd];rw[xc9]
theorem xgL(x:Arg):dd c (.s2b x)=TO (c.ev x):=by simp only[dd];rw[xgX]
theorem xgV(x:Arg):dd c (.b2s x)=xbE c (c.ev x):=by simp only[dd];rw[xg5]
theorem xcS(f:Nat)(a b:List Arg):dd c (.mkfn f a b)=some (.fn f (evL c a) (evL c b)):=by simp only[dd];rw[xc4]
theorem xcN(x:Arg)(lo hi:Option Arg):dd c (.slcS x lo hi)=EG c lo hi (c.ev x):=by simp only[dd];rw[Hx]
theorem xcO(sz:Nat)(x:Arg)(lo hi mx:Option Arg):dd c (.slcL sz x lo hi mx)=oO c sz (c.ev x) lo hi mx:=by simp only[dd];rw[xc1]
theorem xcP(len sz:Nat)(x:Arg)(lo hi mx:Option Arg):dd c (.slcA len sz x lo hi mx)=EH c len sz lo hi mx (c.ev x):=by simp only[dd];rw[xc2]
theorem QM(off:Nat)(x:Arg):dd c (.faddr off x)=uD off (c.ev x):=by simp only[dd];rw[QV]
theorem xgP(off n:Nat)(ag:Bool)(x:Arg):dd c (.fld off n ag x)=xbn off n ag (c.ev x):=by simp only[dd];rw[xgZ]
theorem FF(sz:Nat)(x i:Arg):dd c (.iaddrL sz x i)=pC sz (c.ev x) (c.ev i).num:=by simp only[dd];rw[FL]
theorem FG(len sz:Nat)(x i:Arg):dd c (.iaddrA len sz x i)=ni c len sz (c.ev x) (c.ev i).num:=by simp only[dd];rw[vg]
theorem xc0(len sz:Nat)(ag:Bool)(x i:Arg):dd c (.idxA len sz ag x i)=E8 len sz ag (c.ev x) (c.ev i).num:=by simp only[dd];rw[xdb]
theorem xcZ(x i:Arg):dd c (.idxS x i)=E7 (c.ev x) (c.ev i).num:=by simp only[dd];rw[xda]
theorem xgQ(x:Arg)(i:Nat):dd c (.ext x i)=xbv i (c.ev x):=by simp only[dd];rw[xg0]
theorem xgO(b:Bool)(x:Arg):dd c (.len b x)=lenC (jO b (c.ev x)):=by simp only[dd];rw[TH]
theorem xcX(n:Nat):dd c (.lenC n)=some (.int .i64 n):=by simp only[dd];rw[xc8]
theorem xgS(x:Arg):dd c (.cap x)=xbB (c.ev x):=by simp only[dd];rw[xg2]
theorem xcT(x y:Arg):dd c (.mini x y)=E1 (c.ev x) (c.ev y):=by simp only[dd];rw[xc5]
theorem xcU(x y:Arg):dd c (.maxi x y)=E2 (c.ev x) (c.ev y):=by simp only[dd];rw[xc6]
theorem xcQ(q a b:Arg):dd c (.pick q a b)=EX (c.ev a) (c.ev b) (c.ev q):=by simp only[dd];cases c.ev q<;>rfl
theorem xm6(o:SOp):qv c ⟨d,none,o⟩=dd c o:=rfl
theorem xm5(g:Nat)(b:Bool)(o:SOp):qv c ⟨d,some (g,b),o⟩=qg c o b (c.get g):=rfl
theorem xm8(b t:Bool)(o:SOp):qg c o b (.bool t)=if t=b then dd c o else some (.tup []):=rfl
theorem xm7(b:Bool)(o:SOp):qg c o b (.tup [])=some (.tup []):=rfl
def stG(call:db)(sg:Nat->Sig)(c:CSt)(d:Option Nat)(o:SOp)(b:Bool):SV->Option CSt
 | .bool t=>if t=b then opC call sg c d o else some (c.put d (.tup []))
 | .tup []=>some (c.put d (.tup []))
 |_=>none
theorem xdn(g:Nat)(b:Bool)(o:SOp):dT call sg c ⟨d,some (g,b),o⟩=stG call sg c d o b (c.get g):=by unfold dT stG;rfl
theorem xg7(b t:Bool)(o:SOp):stG call sg c d o b (.bool t)=if t=b then opC call sg c d o else some (c.put d (.tup [])):=rfl
theorem xg6(b:Bool)(o:SOp):stG call sg c d o b (.tup [])=some (c.put d (.tup [])):=rfl
theorem xfM(b:List Nat)(ps:List FI):fj call sg b [] ps c=some c:=by rw[fj]
theorem xnM(b:List Nat)(n:Nat)(i:SI)(r ps:List FI):fj call sg b (⟨n,true,i⟩::r) ps c=vX call sg b r (⟨n,true,i⟩::ps) c i.dst (qv c i):=by rw[fj]
theorem xnN(b:List Nat)(n:Nat)(i:SI)(r ps:List FI):fj call sg b (⟨n,false,i⟩::r) ps c=qY call sg b r ps (b.getD n 0) (dT call sg c i):=by rw[fj]
theorem xnK(b:List Nat)(r ps:List FI)(v:SV):vX call sg b r ps c d (some v)=fj call sg b r ps (c.put d v):=by rw[vX]
theorem xnL(b:List Nat)(r ps:List FI)(m:Nat):qY call sg b r ps m (some c)=qZ call sg b r ps (gdP (tn m c ps) c):=by rw[qY]
theorem xnP(b:List Nat)(r ps:List FI):qZ call sg b r ps (some c)=fj call sg b r ps c:=by rw[qZ]
theorem SK{α:Type}{p:Prop}(v:α)(h:p):gdP p v=some v:=by unfold gdP;exact if_pos h
theorem xjH(b:List Nat)(l:List FI)(p:List Nat):i7 call sg b l [p] c=fj call sg b (iE l p) [] c:=by rw[i7]
theorem xjG(b:List Nat)(l:List FI)(p q:List Nat)(r:List (List Nat)):i7 call sg b l (p::q::r) c=oG (fj call sg b (iE l p) [] c) (i7 call sg b l (q::r) c):=by rw[i7]
theorem xoC(a a':CSt):oG (some a) (some a')=gdP (a=a') a:=rfl
theorem xfN(m:Nat):tn m c []=True:=rfl
theorem SO(m:Nat)(p:FI)(r:List FI):tn m c (p::r)=((m/2^p.n % 2=1\/qv c p.i=some (c.get (p.i.dst.getD 0)))/\tn m c r):=rfl
end Go.Sy
namespace Go.Sy
variable [bg]
theorem rU{n:Nat}:∀{l:List (Nat×SV)},(∀p∈l,p.1≠n)->eK l n= .undef
 |[],_=>rfl
 |p::r,h=>by simp only[eK];rw[if_neg (h p (aG ..))];exact rU fun q hq=>h q (aw _ hq)
theorem mL(n:Nat)(v:SV)(m:Nat):∀l:List (Nat×SV),eK (jo l n v) m=if m=n then v else eK l m
 |[]=>by simp only[jo,eK];by_cases h:n=m<;>simp[h,eq_comm]
 |p::r=>by
  simp only[jo];split
  ·simp only[eK]
   by_cases h:n=m
   ·simp[h]
   ·rw[if_neg h,if_neg (Ne.symm h)]
  ·split
   ·rename_i h1 h2
    simp only[eK]
    by_cases h:n=m
    ·simp[h]
    ·rw[if_neg h,if_neg (Ne.symm h),if_neg (by omega)]
   ·rename_i h1 h2
    simp only[eK,mL n v m r]
    by_cases h:p.1=m
    ·rw[if_pos h,if_pos h,if_neg (by omega)]
    ·rw[if_neg h,if_neg h]
theorem mJ{n:Nat}{v:SV}{p:Nat×SV}:∀{l:List (Nat×SV)},p∈jo l n v->p=(n,v)\/p∈l
 |[],h=>by simpa[jo]using h
 |q::r,h=>by
  simp only[jo]at h;split at h
  ·rcases au.1 h with h|h
   ·exact .inl h
   ·exact .inr h
  ·split at h
   ·rcases au.1 h with h|h
    ·exact .inl h
    ·exact .inr (aw _ h)
   ·rcases au.1 h with h|h
    ·exact .inr (h ▸ aG ..)
    ·rcases mJ h with h|h
     ·exact .inl h
     ·exact .inr (aw _ h)
theorem gi(lo hi n:Nat):∀l:List (Nat×SV),eK (dv lo hi l) n=(eK l n).purge lo hi
 |[]=>by simp[dv,eK,SV.purge]
 |p::r=>by
  simp only[dv,eK];split
  ·rfl
  ·exact gi lo hi n r
theorem jr{lo hi:Nat}{p:Nat×SV}:∀{l:List (Nat×SV)},p∈dv lo hi l->∃q∈l,p.1=q.1
 |q::r,h=>by
  simp only[dv]at h;rcases au.1 h with h|h
  ·exact⟨q,aG ..,by rw[h]⟩
  ·obtain⟨u,h1,h2⟩:=jr h
   exact⟨u,aw _ h1,h2⟩
theorem qd{k:List Nat}{p:Nat×SV}:∀{l:List (Nat×SV)},p∈wo l k->p∈l
 |q::r,h=>by
  simp only[wo]at h;split at h
  ·exact aw _ (qd h)
  ·rcases au.1 h with h|h
   ·exact h ▸ aG ..
   ·exact aw _ (qd h)
theorem ql(k:List Nat)(n:Nat):∀l:List (Nat×SV),eK (wo l k) n=if k.contains n=true then .undef else eK l n
 |[]=>by simp[wo,eK]
 |p::r=>by
  simp only[wo,eK];split
  ·rename_i h
   rw[ql k n r]
   by_cases hp:p.1=n
   ·subst hp;rw[if_pos h,if_pos h]
   ·rw[if_neg hp]
  ·rename_i h
   simp only[eK,ql k n r]
   by_cases hp:p.1=n
   ·subst hp;rw[if_pos rfl,if_neg h,if_pos rfl]
   ·rw[if_neg hp,if_neg hp]
theorem qm(n:Nat)(v:aF)(m:Nat):∀l:List (Nat×aF),iH (iL l n v) m=if m=n then some v else iH l m
 |[]=>by simp only[iL,iH];by_cases h:n=m<;>simp[h,eq_comm]
 |p::r=>by
  simp only[iL];split
  ·simp only[iH]
   by_cases h:n=m
   ·simp[h]
   ·rw[if_neg h,if_neg (Ne.symm h)]
  ·split
   ·rename_i h1 h2
    simp only[iH]
    by_cases h:n=m
    ·simp[h]
    ·rw[if_neg h,if_neg (Ne.symm h),if_neg (by omega)]
   ·rename_i h1 h2
    simp only[iH,qm n v m r]
    by_cases h:p.1=m
    ·rw[if_pos h,if_pos h,if_neg (by omega)]
    ·rw[if_neg h,if_neg h]
theorem kv{n:Nat}{v:aF}{p:Nat×aF}:∀{l:List (Nat×aF)},p∈iL l n v->p=(n,v)\/p∈l
 |[],h=>by simpa[iL]using h
 |q::r,h=>by
  simp only[iL]at h;split at h
  ·rcases au.1 h with h|h
   ·exact .inl h
   ·exact .inr h
  ·split at h
   ·rcases au.1 h with h|h
    ·exact .inl h
    ·exact .inr (aw _ h)
   ·rcases au.1 h with h|h
    ·exact .inr (h ▸ aG ..)
    ·rcases kv h with h|h
     ·exact .inl h
     ·exact .inr (aw _ h)
theorem ud{n:Nat}{v:aF}:∀{l:List (Nat×aF)},(l.map cI).Pairwise (· < ·)->((iL l n v).map cI).Pairwise (· < ·)
 |[],_=>by simp[iL]
 |p::r,h=>by
  have h0:=h;simp only[aP,cX]at h;simp only[iL];split
  ·rename_i h1
   rw[aP,cX];refine⟨fun k hk=> ?_,h0⟩;rw[aP]at hk;rcases au.1 hk with e|e
   ·omega
   ·have:=h.1 k e;omega
  ·split
   ·rename_i h1 h2
    rw[aP,cX];exact⟨fun k hk=>by have:=h.1 k hk;omega,h.2⟩
   ·rename_i h1 h2
    rw[aP,cX];refine⟨fun k hk=> ?_,ud h.2⟩;obtain⟨q,hq,rfl⟩:=aV.1 hk;rcases kv hq with e|e
    ·rw[e];show p.1<n;omega
    ·exact h.1 _ (ir e)
theorem jf{l:List (Nat×aF)}{n:Nat}{v:aF}(h:iH l n=some v):(n,v)∈l:=by
 induction l with
 |nil=>cases h
 |cons p r ih=>
  simp only[iH]at h;split at h
  ·rename_i hp
   cases h;subst hp;exact aG ..
  ·exact aw _ (ih h)
theorem jc:∀{l:List (Nat×aF)},(l.map cI).Nodup->∀{p:Nat×aF},p∈l->iH l p.1=some p.2
 |q::r,hn,p,h=>by
  simp only[aP,eu]at hn;simp only[iH];rcases au.1 h with e|e
  ·subst e;rw[if_pos rfl]
  ·rw[if_neg (fun e2=>hn.1 (by rw[e2];exact ir e))]
   exact jc hn.2 e
theorem i9{l:List (Nat×aF)}(h:(l.map cI).Pairwise (· < ·)):(l.map cI).Nodup:=h.imp fun h=>Nat.ne_of_lt h
theorem iA(o:Nat):∀l:List (Nat×aF),l.lookup o=iH l o
 |[]=>rfl
 |p::r=>by
  simp only[List.lookup,iH]
  by_cases h:o=p.1
  ·rw[if_pos h.symm];simp[h]
  ·have:(o==p.1)=false:=by simpa using h
   rw[this,if_neg (Ne.symm h)];exact iA o r
theorem ju(lo hi o:Nat):∀l:List (Nat×aF),iH (bF lo hi l) o=if lo<=o/\o<hi then none else(iH l o).map (aF.purge lo hi)
 |[]=>by simp[bF,iH]
 |p::r=>by
  simp only[bF,iH];split
  ·rename_i hp
   rw[ju lo hi o r]
   by_cases h:p.1=o
   ·subst h;rw[if_pos hp,if_pos hp]
   ·rw[if_neg h]
  ·rename_i hp
   simp only[iH,ju lo hi o r]
   by_cases h:p.1=o
   ·subst h;rw[if_pos rfl,if_neg hp,if_pos rfl];rfl
   ·rw[if_neg h,if_neg h]
theorem vk{lo hi:Nat}{l:List (Nat×aF)}(h:(l.map cI).Pairwise (· < ·)):((bF lo hi l).map cI).Pairwise (· < ·):=by rw[eV];exact h.filter _
theorem kx{n t:Nat}:∀{l:List Nat},t∈mX l n↔t=n\/t∈l
 |[]=>by simp[mX]
 |p::r=>by
  simp only[mX];split
  ·simp
  ·split
   ·rename_i h;subst h;simp
   ·simp only[au,kx]
    constructor
    ·rintro(h|h|h)
     ·exact .inr (.inl h)
     ·exact .inl h
     ·exact .inr (.inr h)
    ·rintro(h|h|h)
     ·exact .inr (.inl h)
     ·exact .inl h
     ·exact .inr (.inr h)
theorem pW{lo hi:Nat}{o:aF}(h:o.wf=true):(o.purge lo hi).wf=true:=by cases o<;>simpa[aF.purge,aF.wf]using h
def CSt.st(N:Nat)(c:CSt):St:=⟨(ce N).map c.get,c.ob,c.tk⟩
structure Inv(N:Nat)(c:CSt):Prop where
 dom:∀p∈c.tm,p.1<N
 so:(c.ob.map cI).Pairwise (· < ·)
 wf:∀p∈c.ob,p.2.wf=true
structure Sim(N:Nat)(c:CSt)(s:St):Prop where
 inv:Inv N c
 tm:s.tm=(ce N).map c.get
 look:∀o,s.look o=c.look o
 tk:∀t,t∈s.tk↔t∈c.tk
variable {N : Nat} {c : CSt} {s : St}
theorem Inv.get(h:Inv N c){n:Nat}(hn:N<=n):c.get n= .undef:=rU fun p hp e=>by have:=h.dom p hp;omega
theorem Sim.of(h:Inv N c):Sim N c (c.st N):=⟨h,rfl,fun o=>iA o c.ob,fun _=>Iff.rfl⟩
theorem Sim.get(h:Sim N c s)(n:Nat):s.get n=c.get n:=by
 unfold St.get;rw[h.tm,aa,aS];rcases bP n N with hn|hn
 ·rw[cN hn];rfl
 ·rw[kl (by simpa using hn),h.inv.get hn];rfl
theorem Sim.ev(h:Sim N c s)(a:Arg):s.ev a=c.ev a:=by
 cases a with
 |t n=>exact h.get n
 |c v=>rfl
 |f g=>rfl
theorem Sim.evL(h:Sim N c s)(l:List Arg):Sy.evL c l=l.map s.ev:=by
 induction l with
 |nil=>rfl
 |cons a r ih=>simp only[Sy.evL,aP,ih,h.ev]
theorem Sim.lookmem(h:Sim N c s){o:Nat}{ob:aF}(hl:c.look o=some ob):ob.wf=true:=h.inv.wf _ (jf hl)
theorem Sim.rows(h:Sim N c s){o sz:Nat}{xs:List (List SV)}(hl:c.look o=some (.arr sz xs)):∀x∈xs,x.length=sz:=by have:=h.lookmem hl;simpa[aF.wf]using this
theorem Inv.put(h:Inv N c){d:Option Nat}(hd:∀k,d=some k->k<N)(v:SV):Inv N (c.put d v):=by
 cases d with
 |none=>exact h
 |some k=>
  refine⟨fun p hp=> ?_,h.so,h.wf⟩;rcases mJ hp with e|e
  ·rw[e];exact hd k rfl
  ·exact h.dom p e
theorem gN(c:CSt)(k:Nat)(v:SV)(n:Nat):(c.put (some k) v).get n=if n=k then v else c.get n:=mL k v n c.tm
theorem Sim.put(h:Sim N c s){d:Option Nat}(hd:∀k,d=some k->k<N)(v:SV):Sim N (c.put d v) (s.put d v):=by
 cases d with
 |none=>exact h
 |some k=>
  refine⟨h.inv.put hd v, ?_,h.look,h.tk⟩;show s.tm.set k v=_;rw[h.tm];apply List.ext_getElem?;intro i;rw[gz,aS,aS];rcases bP i N with hi|hi
  ·rw[cN hi]
   simp only[bt,gN,aX,List.length_range]
   by_cases hk:k=i
   ·rw[if_pos hk,if_pos (by omega),if_pos hk.symm]
   ·rw[if_neg hk,if_neg (Ne.symm hk)]
  ·rw[kl (l:=ce N) (by simpa using hi)]
   have:=hd k rfl;rw[if_neg (by omega)];rfl
theorem bS{α:Type}{p:Prop}[Decidable p]{v u:α}(h:gd p v=some u):p/\v=u:=by
 unfold gd at h;split at h
 ·rename_i hp;cases h;exact⟨hp,rfl⟩
 ·cases h
theorem GZ{op:BinOp}{k:IntKind}{a b:Int}{v:SV}(h:xN op k a b=some v)(hs:nh op=false):∃p,SH op k a b=some (p,v)/\p:=by
 cases op<;>simp only[xN]at h<;>first
  |(cases hs;done)
  |(obtain⟨h1,rfl⟩:=bS h;exact⟨_,rfl,h1⟩)
  |(cases h;exact⟨True,rfl,trivial⟩)
theorem Tn{op:BinOp}{a b v:SV}(h:Fu op a b=some v):∃p,x9 op a b=some (p,v)/\p:=by
 unfold Fu at h;split at h
 ·rename_i k a k' b
  split at h
  ·rename_i hc
   by_cases hs:nh op=true
   ·cases op<;>first
     |(cases hs;done)
     |(simp only[xN]at h;obtain⟨h1,rfl⟩:=bS h;exact⟨_,rfl,h1⟩)
   ·have hs':nh op=false:=by simpa using hs
    have hk:k=k':=hc.resolve_left hs;obtain⟨p,h1,h2⟩:=GZ h hs';refine⟨p, ?_,h2⟩;subst hk;cases op<;>first|(cases hs';done)|(simp only[x9,if_true];exact h1)
  ·cases h
 ·rename_i a b
  show ∃p,EF op a b=some (p,v)/\p
  cases op<;>simp only[yp]at h<;>first
   |(cases h;done)
   |(obtain⟨h1,rfl⟩:=bS h;exact⟨_,rfl,h1⟩)
   |(cases h;exact⟨True,rfl,trivial⟩)
 ·rename_i a b
  show ∃p,TN op a b=some (p,v)/\p
  cases op<;>simp only[Pn]at h<;>first
   |(cases h;done)
   |(obtain⟨h1,rfl⟩:=bS h;exact⟨_,rfl,h1⟩)
   |(cases h;exact⟨True,rfl,trivial⟩)
 ·cases h
theorem vL(hS:Sim N c s){n:Nat}{ag:Bool}{u v:SV}(h:mK c n ag u=some v):∃p,iG s n ag u=some (p,v)/\p:=by
 cases u with
 |pp cs=>obtain⟨h1,rfl⟩:=bS h;exact⟨_,rfl,h1⟩
 |ptr o off=>
  simp only[mK]at h;simp only[iG,hS.look];split at h
  ·rename_i cs hl;rw[hl];obtain⟨h1,rfl⟩:=bS h;exact⟨_,rfl,h1⟩
  ·rename_i sz xs hl;rw[hl];obtain⟨⟨h1,h2⟩,rfl⟩:=bS h;subst h1;exact⟨_,rfl,h2,hS.rows hl⟩
  ·rename_i l hl;rw[hl];obtain⟨⟨h1,h2⟩,rfl⟩:=bS h;subst h1;exact⟨_,rfl,h2⟩
  ·cases h
 |ap o sz i j=>
  simp only[mK]at h;simp only[iG,hS.look];split at h
  ·rename_i sz' xs hl
   rw[hl];obtain⟨⟨h1,h2,h3⟩,rfl⟩:=bS h;refine⟨_,rfl,h1,h2,h3, ?_⟩;rw[aa,af h2,h1];exact hS.rows hl _ (bj _)
  ·rename_i l hl;rw[hl];obtain⟨h1,rfl⟩:=bS h;exact⟨_,rfl,h1⟩
  ·cases h
 |_=>cases h
theorem m9(hS:Sim N c s)(x:Option Arg)(n:Int):iF s x n=ku c x n:=by
 cases x with
 |none=>rfl
 |some a=>simp only[iF,ku,hS.ev]
theorem AG(hS:Sim N c s){sz:Nat}{u v:SV}{lo hi mx:Option Arg}(h:oO c sz u lo hi mx=some v):∃p,jn s sz u lo hi mx=some (p,v)/\p:=by
 cases u with
 |byt l t=>
  simp only[oO]at h;simp only[jn,m9 hS];split at h<;>try (cases h;done)
  rename_i a b m h1 h2 h3;rw[h1,h2,h3];obtain⟨h4,rfl⟩:=bS h;exact⟨_,rfl,h4⟩
 |lst sz' l t=>
  simp only[oO]at h;simp only[jn,m9 hS];split at h<;>try (cases h;done)
  rename_i a b m h1 h2 h3;rw[h1,h2,h3];obtain⟨h4,rfl⟩:=bS h;exact⟨_,rfl,h4⟩
 |psl o sz' off n cap=>
  cases cap with
  |none=>
   simp only[oO]at h;simp only[jn,m9 hS];split at h<;>try (cases h;done)
   rename_i a b h1 h2;rw[h1,h2];obtain⟨h4,rfl⟩:=bS h;exact⟨_,rfl,h4⟩
  |some cap=>
   simp only[oO]at h;simp only[jn,m9 hS];split at h<;>try (cases h;done)
   rename_i a b m h1 h2 h3;rw[h1,h2,h3];obtain⟨h4,rfl⟩:=bS h;exact⟨_,rfl,h4⟩
 |_=>cases h
theorem nT(hS:Sim N c s){u:SV}{l:List UInt8}(h:fp c u=some l):∃p,bytesOf s u=some (p,l)/\p:=by
 cases u with
 |byt l t=>cases h;exact⟨True,rfl,trivial⟩
 |str l=>cases h;exact⟨True,rfl,trivial⟩
 |psl o sz off n cap=>
  simp only[fp]at h;simp only[bytesOf,hS.look];split at h
  ·rename_i l' hl;rw[hl];obtain⟨h1,rfl⟩:=bS h;exact⟨_,rfl,h1⟩
  ·cases h
 |_=>cases h
theorem ks(hS:Sim N c s){u:SV}{sz:Nat}{l:List (List SV)}(h:gA c sz u=some l):∃p,hZ s sz u=some (p,l)/\p:=by
 cases u with
 |lst sz' l t=>obtain⟨h1,rfl⟩:=bS h;exact⟨_,rfl,h1⟩
 |psl o sz' off n cap=>
  simp only[gA]at h;simp only[hZ,hS.look];split at h
  ·rename_i sz'' xs hl
   rw[hl];obtain⟨⟨h1,h2,h3⟩,rfl⟩:=bS h;exact⟨_,rfl,h1,h2,h3,by rw[h2];exact hS.rows hl⟩
  ·cases h
 |_=>cases h
theorem xeu(hS:Sim N c s)(ps:List (Nat×Nat×Arg)):psC c ps=ps.map fun(o,n,x)=>(o,n,s.ev x):=by
 induction ps with
 |nil=>rfl
 |cons p r ih=>obtain⟨o,n,x⟩:=p;simp only[psC,aP,ih,hS.ev]
theorem QS(hS:Sim N c s){so:SOp}{v:SV}(h:cJ c so=some v):∃p,val s so=some (p,v)/\p:=by
 cases so with
 |mov x=>cases h;exact⟨True,by simp only[val,hS.ev],trivial⟩
 |build z ps=>simp only[cJ,xeu hS]at h;obtain⟨l,h1,rfl⟩:=ak.1 h;exact⟨True,by simp only[val,h1,bt],trivial⟩
 |lit sz xs=>simp only[cJ,hS.evL]at h;obtain⟨l,h1,rfl⟩:=ak.1 h;exact⟨True,by simp only[val,h1,bt],trivial⟩
 |litB xs=>simp only[cJ,hS.evL]at h;obtain⟨l,h1,rfl⟩:=ak.1 h;exact⟨True,by simp only[val,h1,bt],trivial⟩
 |load n ag a=>simp only[val,hS.ev];exact vL hS h
 |nchk x=>simp only[cJ]at h;simp only[val,hS.ev];cases hx:c.ev x<;>rw[hx]at h<;>first|(cases h;done)|(cases h;exact⟨True,rfl,trivial⟩)
 |bin op x y=>simp only[val,hS.ev];exact Tn h
 |beq ne x y=>
  simp only[cJ]at h;simp only[val,hS.ev];split at h<;>try (cases h;done)
  rename_i a b h1 h2;cases h;rw[h1,h2];exact⟨True,rfl,trivial⟩
 |eqS ne ts x y=>
  simp only[cJ]at h;simp only[val,hS.ev];split at h<;>try (cases h;done)
  rename_i a b h1 h2;obtain⟨l,h3,rfl⟩:=ak.1 h;rw[h1,h2];exact⟨True,by simp only[h3,bt],trivial⟩
 |un op x=>simp only[cJ]at h;exact⟨True,by simp only[val,hS.ev,h,bt],trivial⟩
 |toInt k x=>simp only[cJ]at h;exact⟨True,by simp only[val,hS.ev,h,bt],trivial⟩
 |toStr x=>
  simp only[cJ]at h;simp only[val,hS.ev];split at h<;>try (cases h;done)
  all_goals
   rename_i h1;cases h;rw[h1];exact⟨True,rfl,trivial⟩
 |slid x=>simp only[cJ]at h;cases h
 |newB x=>simp only[cJ]at h;cases h
 |isni ne x=>
  simp only[cJ]at h;simp only[val,hS.ev];split at h<;>try (cases h;done)
  rename_i h1;cases h;rw[h1];exact⟨True,rfl,trivial⟩
 |s2b x=>
  simp only[cJ]at h;simp only[val,hS.ev];split at h<;>try (cases h;done)
  rename_i l h1;cases h;rw[h1];exact⟨True,rfl,trivial⟩
 |b2s x=>
  simp only[cJ]at h;simp only[val,hS.ev];cases hx:c.ev x with
  |byt l t=>rw[hx]at h;cases h;exact⟨True,rfl,trivial⟩
  |psl o sz off n cap=>
   rw[hx]at h;simp only[fp]at h;simp only[ya,hS.look];obtain⟨l,h1,rfl⟩:=ak.1 h;split at h1
   ·rename_i l' hl;rw[hl];obtain⟨h2,rfl⟩:=bS h1;exact⟨_,rfl,h2⟩
   ·cases h1
  |_=>rw[hx]at h;cases h
 |mkfn f a b=>simp only[cJ,hS.evL]at h;cases h;exact⟨True,rfl,trivial⟩
 |slcS x lo hi=>
  simp only[cJ]at h;simp only[val,hS.ev];split at h<;>try (cases h;done)
  rename_i l hx;rw[hx];simp only[m9 hS];split at h<;>try (cases h;done)
  rename_i a b h1 h2;rw[h1,h2];obtain⟨h4,rfl⟩:=bS h;exact⟨_,rfl,h4⟩
 |slcL sz x lo hi mx=>simp only[val,hS.ev];exact AG hS h
 |slcA len sz x lo hi mx=>
  simp only[cJ]at h;simp only[val,hS.ev];split at h<;>try (cases h;done)
  rename_i o off hx;split at h<;>try (cases h;done)
  rename_i ho;subst ho;rw[hx];exact AG hS h
 |faddr off x=>simp only[cJ]at h;simp only[val,hS.ev];cases hx:c.ev x<;>rw[hx]at h<;>first|(cases h;done)|(cases h;exact⟨True,rfl,trivial⟩)
 |fld off n ag x=>
  simp only[cJ]at h;simp only[val,hS.ev];split at h<;>try (cases h;done)
  rename_i cs hx;rw[hx];obtain⟨h4,rfl⟩:=bS h;exact⟨_,rfl,h4⟩
 |iaddrL sz x i=>
  simp only[cJ]at h;simp only[val,hS.ev];split at h<;>try (cases h;done)
  all_goals
   rename_i h1 h2;rw[h1,h2];obtain⟨h4,rfl⟩:=bS h;exact⟨_,rfl,h4⟩
 |iaddrA len sz x i=>
  simp only[cJ]at h;simp only[val,hS.ev,hS.look];split at h<;>try (cases h;done)
  ·rename_i o off n h1 h2
   rw[h1,h2];simp only;split at h<;>try (cases h;done)
   ·rename_i cs hl
    rw[hl];obtain⟨h4,rfl⟩:=bS h;exact⟨_,rfl,h4⟩
   ·rename_i ob hno hl
    rw[hl];obtain⟨⟨h4,h5⟩,rfl⟩:=bS h;cases ob with
    |rc cs=>exact absurd rfl (hno cs)
    |_=>simp only[h4,if_true];exact⟨_,rfl,h5⟩
  ·rename_i cs n h1 h2
   rw[h1,h2];obtain⟨h4,rfl⟩:=bS h;exact⟨_,rfl,h4⟩
 |idxA len sz ag x i=>
  simp only[cJ]at h;simp only[val,hS.ev];split at h<;>try (cases h;done)
  rename_i h1 h2;rw[h1,h2];obtain⟨h4,rfl⟩:=bS h;exact⟨_,rfl,h4⟩
 |idxS x i=>
  simp only[cJ]at h;simp only[val,hS.ev];split at h<;>try (cases h;done)
  rename_i h1 h2;rw[h1,h2];obtain⟨h4,rfl⟩:=bS h;exact⟨_,rfl,h4⟩
 |ext x i=>
  simp only[cJ]at h;simp only[val,hS.ev];split at h<;>try (cases h;done)
  rename_i vs hx;rw[hx];obtain⟨h4,rfl⟩:=bS h;exact⟨_,rfl,h4⟩
 |len b x=>simp only[cJ]at h;obtain⟨n,h1,rfl⟩:=ak.1 h;exact⟨True,by simp only[val,hS.ev,h1],trivial⟩
 |lenC n=>cases h;exact⟨True,rfl,trivial⟩
 |cap x=>
  simp only[cJ]at h;simp only[val,hS.ev];cases hx:c.ev x with
  |psl o sz off n m=>cases m<;>rw[hx]at h<;>cases h;exact⟨True,rfl,trivial⟩
  |byt l t=>rw[hx]at h;simp only at h;split at h<;>cases h;rename_i ht;subst ht;exact⟨True,rfl,trivial⟩
  |lst sz l t=>rw[hx]at h;simp only at h;split at h<;>cases h;rename_i ht;subst ht;exact⟨True,rfl,trivial⟩
  |_=>rw[hx]at h;cases h
 |mini x y=>
  simp only[cJ]at h;simp only[val,hS.ev];split at h<;>try (cases h;done)
  rename_i h1 h2;rw[h1,h2];simp only;split at h<;>cases h;rename_i hk;exact⟨True,by rw[if_pos hk],trivial⟩
 |maxi x y=>
  simp only[cJ]at h;simp only[val,hS.ev];split at h<;>try (cases h;done)
  rename_i h1 h2;rw[h1,h2];simp only;split at h<;>cases h;rename_i hk;exact⟨True,by rw[if_pos hk],trivial⟩
 |_=>cases h
end Go.Sy
namespace Go.Sy
variable [bg]
variable {P : Program} {C : Ctx} {x : Sit} {a : Act} {w : World} {o : Oper} {so : SOp} {N : Nat} {c c' : CSt} {s : St} {d : Option Nat}
def M(C:Ctx)(N:Nat)(c:CSt):Act->World->Prop:=Fg C (Sim N c)
theorem Sim.purge(h:Sim N c s)(lo hi:Nat):Sim N (c.purge lo hi) (s.purge lo hi):=by
 refine⟨⟨fun p hp=> ?_,vk h.inv.so,fun p hp=> ?_⟩, ?_,fun o=> ?_,fun t=> ?_⟩
 ·obtain⟨q,hq,e⟩:=jr hp
  rw[e];exact h.inv.dom q hq
 ·obtain⟨_,ob,h1,h2⟩:=cy hp
  rw[h2];exact pW (h.inv.wf _ h1)
 ·show SV.purgeL lo hi s.tm=_
  rw[h.tm,dB,List.map_map];apply List.map_congr_left;intro i _;exact(gi lo hi i c.tm).symm
 ·show(bF lo hi s.ob).lookup o=iH (bF lo hi c.ob) o
  have:=h.look o;unfold St.look CSt.look at this;rw[iA]at this ⊢;rw[ju,ju,this]
 ·show t∈cA lo hi s.tk↔t∈cA lo hi c.tk
  rw[bI,bI,h.tk]
theorem Sim.addO(h:Sim N c s)(k:Nat){ob:aF}(hw:ob.wf=true):Sim N ⟨c.tm,iL c.ob k ob,c.tk⟩ (s.addO k ob):=by
 refine⟨⟨h.inv.dom,ud h.inv.so,fun p hp=> ?_⟩,h.tm,fun o=> ?_,h.tk⟩
 ·rcases kv hp with e|e
  ·rw[e];exact hw
  ·exact h.inv.wf p e
 ·show((k,ob)::s.ob).lookup o=iH (iL c.ob k ob) o
  have:=h.look o;unfold St.look CSt.look at this;rw[qm];simp only[List.lookup]
  by_cases he:o=k
  ·subst he;simp
  ·have:(o==k)=false:=by simpa using he
   rw[this,if_neg he];exact h.look o
theorem ke(k:Nat)(ob:aF)(o:Nat):∀l:List (Nat×aF),(Sy.setO k ob l).lookup o=if o=k/\(l.lookup k).isSome=true then some ob else l.lookup o
 |[]=>by simp[Sy.setO]
 |p::r=>by
  simp only[Sy.setO]
  by_cases hp:p.1=k
  ·rw[if_pos hp]
   subst hp;simp only[List.lookup]
   by_cases ho:o=p.1
   ·subst ho;simp
   ·have:(o==p.1)=false:=by simpa using ho
    simp[this,ho]
  ·rw[if_neg hp]
   have h1:(k==p.1)=false:=by simpa using Ne.symm hp
   simp only[List.lookup,h1,ke k ob o r]
   by_cases ho:o=p.1
   ·subst ho;simp[hp]
   ·have:(o==p.1)=false:=by simpa using ho
    simp[this]
theorem Sim.setO(h:Sim N c s){k:Nat}{ob:aF}(hl:(c.look k).isSome=true)(hw:ob.wf=true):Sim N ⟨c.tm,iL c.ob k ob,c.tk⟩ (s.setO k ob):=by
 refine⟨⟨h.inv.dom,ud h.inv.so,fun p hp=> ?_⟩,h.tm,fun o=> ?_,h.tk⟩
 ·rcases kv hp with e|e
  ·rw[e];exact hw
  ·exact h.inv.wf p e
 ·show(Sy.setO k ob s.ob).lookup o=iH (iL c.ob k ob) o
  rw[qm,ke]
  have h1:(s.ob.lookup k).isSome=true:=by have:=h.look k;unfold St.look at this;rw[this];exact hl
  by_cases he:o=k
  ·rw[if_pos ⟨he,h1⟩,if_pos he]
  ·rw[if_neg (fun e=>he e.1),if_neg he];exact h.look o
theorem Sim.tks(h:Sim N c s){l k:List Nat}(hlk:∀t,t∈l↔t∈k):Sim N ⟨c.tm,c.ob,k⟩ ⟨s.tm,s.ob,l⟩:=⟨⟨h.inv.dom,h.inv.so,h.inv.wf⟩,h.tm,h.look,hlk⟩
theorem GI{t:Tok}{l k:List Nat}(h:∀t,t∈l↔t∈k)(n:Nat):n∈t.eat l↔n∈t.eat k:=by
 cases t with
 |id t=>simp only[Tok.eat,bI,h]
 |_=>exact h n
structure Fw(e:rh)(f:Eff):Prop where
 val:f.val=e.val
 wr:f.wr=e.wr
 new:f.new=e.new
 eat:f.eat=e.eat
 tok:f.tok=e.tok
structure FE(c:CSt)(e:rh):Prop where
 new:∀ob,e.new=some ob->ob.wf=true
 wr:e.wr=[]\/∃k ob,e.wr=[(k,ob)]/\(c.look k).isSome=true/\ob.wf=true
theorem Sim.app(h:Sim N c s)(hd:∀k,d=some k->k<N){e:rh}{f:Eff}(hs:Fw e f)(hg:FE c e):Sim N (c.app d e) (s.app d f):=by
 unfold CSt.app St.app;rw[hs.new,hs.tok,hs.val,hs.wr,hs.eat];cases hn:e.new with
 |some ob=>exact((h.purge _ _).addO _ (pW (hg.new ob hn))).put hd _
 |none=>
  cases ht:e.tok with
  |true=>refine Sim.put (c:=⟨_,_,_⟩) ?_ hd _;refine((h.purge (d.getD 0+100) (d.getD 0+100+1)).tks (fun t=> ?_));rw[kx,au,bI,bI,GI h.tk]
  |false=>
   rcases hg.wr with hw|⟨k,ob,hw,h1,h2⟩
   ·rw[hw];exact h.put hd _
   ·rw[hw];exact(h.setO h1 h2).put hd _
theorem Fw.v(v:SV)(p:Prop):Fw {val:=v} {pre:=p,val:=v}:=⟨rfl,rfl,rfl,rfl,rfl⟩
theorem FE.v(v:SV):FE c {val:=v}:=⟨fun ob h=>(by cases h),.inl rfl⟩
theorem xcL(n:Nat)(z:List SV):(aF.arr z.length (aq n z)).wf=true:=by simp only[aF.wf,aY,decide_eq_true_eq];intro y hy;rw[(List.mem_replicate.1 hy).2]
theorem gP{sz:Nat}{xs:List (List SV)}:(aF.arr sz xs).wf=true↔∀y∈xs,y.length=sz:=by simp only[aF.wf,aY,decide_eq_true_eq]
theorem wv(sz:Nat):∀(m:Nat)(v:List SV),v.length=m*sz->∀y∈jv sz m v,y.length=sz
 |0,_,_,y,hy=>by cases hy
 |m+1,v,h,y,hy=>by
  rw[dQ]at h;simp only[jv]at hy;rcases au.1 hy with rfl|hy
  ·rw[ay];omega
  ·exact wv sz m (v.drop sz) (by rw[aE];omega) y hy
theorem DP{sz:Nat}{xs:List (List SV)}{i j n:Nat}{v:List SV}(h:∀y∈xs,y.length=sz)(hi:i<xs.length)(hj:j+n<=sz)(hv:v.length=n):∀y∈eH sz xs i j n v,y.length=sz:=by
 intro y hy;unfold eH at hy;split at hy
 ·rename_i hc
  rcases List.mem_or_eq_of_mem_set hy with h1|h1
  ·exact h y h1
  ·rw[h1,hv];exact hc.2
 ·rcases List.mem_or_eq_of_mem_set hy with h1|h1
  ·exact h y h1
  ·have:(xs.getD i []).length=sz:=by
    rw[aa,af hi];exact h _ (bj _)
   rw[h1];simp only[ah,ay,aE,this,hv];omega
theorem rI(h:Sim N c s){t:Tok}(hr:t.readyC c=true):t.ready s=true:=by
 cases t with
 |no=>cases hr
 |clip=>rfl
 |id t=>simp only[Tok.readyC,fc,decide_eq_true_eq]at hr;simp only[Tok.ready,fc,decide_eq_true_eq];exact(h.tk t).2 hr
theorem Ro(hM:aO C x s a w){y:Arg}(hy:y.isT=true):Rep x (s.ev y) (match y with| .t n=>a.tmps.getD n Go.undef|_=>Go.undef):=by
 cases y with
 |t n=>exact hM.slot n
 |_=>cases hy
theorem Ha(h:Sim N c s){e:rh}(he:ei c d so=some e)(hp:∀q y z,so≠ .pick q y z)(hn:∀ne q,so≠ .isnil ne q)(hcp:∀sz q y,so≠ .cpy sz q y):∃f,eff s d so=some f/\f.pre/\Fw e f/\FE c e:=by
 have plain:∀{so:SOp},ei c d so=At (cJ c so)->(eff s d so=match val s so with|some (p,v)=>some {pre:=p,val:=v}|none=>none)->ei c d so=some e->∃f,eff s d so=some f/\f.pre/\Fw e f/\FE c e:=by
  intro so h1 h2 h3;rw[h1]at h3;cases hv:cJ c so with
  |none=>rw[hv]at h3;cases h3
  |some v=>rw[hv]at h3;cases h3;obtain⟨p,h4,h5⟩:=QS h hv;exact⟨{pre:=p,val:=v},by rw[h2,h4],h5,Fw.v v p,FE.v v⟩
 cases so with
 |pick q y z=>exact absurd rfl (hp q y z)
 |isnil ne q=>exact absurd rfl (hn ne q)
 |call _ _=>cases he
 |newB _=>cases he
 |slid _=>cases he
 |new ob=>
  simp only[ei]at he;split at he<;>try (cases he;done)
  obtain⟨h1,rfl⟩:=bS he;exact⟨_,rfl,trivial,⟨rfl,rfl,rfl,rfl,rfl⟩,⟨fun ob' e=>(by cases e;exact h1),.inl rfl⟩⟩
 |box q=>simp only[ei]at he;split at he<;>cases he;exact⟨_,rfl,trivial,⟨rfl,rfl,by simp only[h.ev],rfl,rfl⟩,⟨fun ob' e=>(by cases e;rfl),.inl rfl⟩⟩
 |mk z bytes n m=>
  simp only[ei]at he;simp only[eff,h.ev];split at he<;>try (cases he;done)
  rename_i h1 h2;rw[h1,h2];obtain⟨h1,rfl⟩:=bS he;exact⟨_,rfl,h1,⟨rfl,rfl,rfl,rfl,rfl⟩,⟨fun ob' e=>(by cases e;exact xcL _ z),.inl rfl⟩⟩
 |mkB n m=>
  simp only[ei]at he;simp only[eff,h.ev];split at he<;>try (cases he;done)
  rename_i h1 h2;rw[h1,h2];obtain⟨h1,rfl⟩:=bS he;exact⟨_,rfl,h1,⟨rfl,rfl,rfl,rfl,rfl⟩,⟨fun ob' e=>(by cases e;rfl),.inl rfl⟩⟩
 |store n q y=>
  simp only[ei]at he;simp only[eff,h.ev];split at he<;>try (cases he;done)
  rename_i hdef;rw[hdef];simp only;unfold lg at he;unfold qH;split at he
  ·rename_i o' off hq
   rw[hq];simp only[h.look];split at he<;>try (cases he;done)
   ·rename_i cs hl
    rw[hl];obtain⟨h1,rfl⟩:=bS he;exact⟨_,rfl,h1,⟨rfl,rfl,rfl,rfl,rfl⟩,⟨fun ob' e=>(by cases e),.inr ⟨_,_,rfl,by rw[hl];rfl,rfl⟩⟩⟩
   ·rename_i sz xs hl
    rw[hl];obtain⟨⟨h1,h2,h3,h4⟩,rfl⟩:=bS he
    exact⟨_,rfl,⟨h1,h2,h3,h4⟩,⟨rfl,rfl,rfl,rfl,rfl⟩,
     ⟨fun ob' e=>(by cases e),.inr ⟨_,_,rfl,by rw[hl];rfl,gP.2 (wv sz _ _ (by rw[aX];omega))⟩⟩⟩
   ·rename_i l hl
    rw[hl];simp only at he ⊢;split at he<;>try (cases he;done)
    rename_i l' hv;rw[hv];obtain⟨h1,rfl⟩:=bS he;exact⟨_,rfl,h1,⟨rfl,rfl,rfl,rfl,rfl⟩,⟨fun ob' e=>(by cases e),.inr ⟨_,_,rfl,by rw[hl];rfl,rfl⟩⟩⟩
  ·rename_i o' sz i j hq
   rw[hq];simp only[h.look];split at he<;>try (cases he;done)
   ·rename_i sz' xs hl
    rw[hl];obtain⟨⟨h1,h2,h3,h4,h5⟩,rfl⟩:=bS he
    exact⟨_,rfl,⟨h1,h2,h3,h4,by rw[h1];exact h.rows hl,h5⟩,⟨rfl,rfl,rfl,rfl,rfl⟩,
     ⟨fun ob' e=>(by cases e),.inr ⟨_,_,rfl,by rw[hl];rfl,gP.2 (by subst h1;exact DP (h.rows hl) h2 h3 (by simpa using h4))⟩⟩⟩
   ·rename_i l hl
    rw[hl];simp only at he ⊢;split at he<;>try (cases he;done)
    rename_i b hv;rw[hv];obtain⟨h1,rfl⟩:=bS he;exact⟨_,rfl,h1,⟨rfl,rfl,rfl,rfl,rfl⟩,⟨fun ob' e=>(by cases e),.inr ⟨_,_,rfl,by rw[hl];rfl,rfl⟩⟩⟩
  ·cases he
 |app z bytes q y=>
  simp only[ei]at he;simp only[eff,h.ev];split at he<;>try (cases he;done)
  split at he<;>try (cases he;done)
  ·rename_i l t hq
   rw[hq];obtain⟨l',h1,h2⟩:=Option.bind_eq_some_iff.1 he;obtain⟨p,h3,h4⟩:=nT h h1;obtain⟨⟨g1,g2,g3,g4⟩,rfl⟩:=bS h2;simp only[h3];exact⟨_,rfl,⟨h4,g1,g2,rI h g3,g4⟩,⟨rfl,rfl,rfl,rfl,rfl⟩,⟨fun ob' e=>(by cases e),.inl rfl⟩⟩
  ·rename_i sz' l t hq
   rw[hq];obtain⟨l',h1,h2⟩:=Option.bind_eq_some_iff.1 he;obtain⟨p,h3,h4⟩:=ks h h1;obtain⟨⟨g1,g3,g4⟩,rfl⟩:=bS h2;simp only[h3];exact⟨_,rfl,⟨h4,g1,rI h g3,g4⟩,⟨rfl,rfl,rfl,rfl,rfl⟩,⟨fun ob' e=>(by cases e),.inl rfl⟩⟩
 |cpy sz q y=>exact absurd rfl (hcp sz q y)
 |appM z bytes q y=>cases he
 |ovl q y=>cases he
 |_=>exact plain (r9 rfl) rfl he
theorem S5(P:Program)(h:Sim N c s)(hM:aO C x s a w){e:rh}(he:ei c d so=some e)(hp:∀q y z,so≠ .pick q y z)(hn:∀ne q,so≠ .isnil ne q):∃f,eff s d so=some f/\f.pre/\Fw e f/\FE c e:=by
 by_cases hcp:∃sz q y,so= .cpy sz q y
 ·obtain⟨sz,q,y,rfl⟩:=hcp
  simp only[ei]at he;simp only[eff,h.ev];split at he<;>try (cases he;done)
  rename_i o' sz' off n cap hq;rw[hq];simp only[h.look];split at he<;>try (cases he;done)
  ·rename_i l hl
   rw[hl];obtain⟨l',h1,h2⟩:=Option.bind_eq_some_iff.1 he;obtain⟨p,h3,h4⟩:=nT h h1;obtain⟨⟨g1,g2,g3⟩,rfl⟩:=bS h2;simp only[h3];exact⟨_,rfl,⟨h4,g1,g2,g3⟩,⟨rfl,rfl,rfl,rfl,rfl⟩,⟨fun ob' e=>(by cases e),.inr ⟨_,_,rfl,by rw[hl];rfl,rfl⟩⟩⟩
  ·rename_i sz'' xs hl
   rw[hl];obtain⟨l',h1,h2⟩:=Option.bind_eq_some_iff.1 he;obtain⟨p,h3,h4⟩:=ks h h1;obtain⟨⟨g0,g1,g2,g3⟩,rfl⟩:=bS h2;simp only[h3];have hrows:=h.rows hl;obtain⟨_,hl',_⟩:=pY (P:=P) hM (Ro hM g0) (by rw[h.ev];exact h3) h4;refine⟨_,rfl,⟨h4,g1,g2,g3,by rw[g2];exact hrows⟩,⟨rfl,rfl,rfl,rfl,rfl⟩,⟨fun ob' e=>(by cases e),.inr ⟨_,_,rfl,by rw[hl];rfl,gP.2 ?_⟩⟩⟩;intro r hr;rcases an.1 hr with hr|hr
   ·rcases an.1 hr with hr|hr
    ·rw[g2];exact hrows r (bW hr)
    ·exact hl' r (bW hr)
   ·rw[g2];exact hrows r (dy hr)
 ·exact Ha h he hp hn (fun sz q y e=>hcp ⟨sz,q,y,e⟩)
theorem xhB(h:M C N c a w)(hr:bz P o=some so)(hd:∀k,o.dst=some k->k<N)(hc:oP c o.dst (ei c o.dst so)=some c'){K:Act->World->Prop}{Q:Exit->Act->World->Prop}(hK:∀a w,M C N c' a w->K a w):o.wp P a w K Q:=by
 obtain⟨x,s,hM,hS⟩:=h;cases he:ei c o.dst so with
 |none=>rw[he]at hc;cases hc
 |some e=>
  rw[he]at hc;simp only[oP,ax.injEq]at hc;subst hc
  by_cases hp:∃q y z,so= .pick q y z
  ·obtain⟨q,y,z,rfl⟩:=hp
   simp only[ei]at he;split at he<;>cases he;rename_i t ht;have hd':=Eu hM hr (t:=t) (by rw[hS.ev];exact ht);refine dk hd' (k:=Sim N (c.app o.dst {val:=ix t (c.ev y) (c.ev z)})) ?_ hK;have:(if t=true then s.ev y else s.ev z)=ix t (c.ev y) (c.ev z):=by rw[hS.ev,hS.ev];rfl
   rw[this];exact hS.put hd _
  ·by_cases hn:∃ne q,so= .isnil ne q
   ·obtain⟨ne,q,rfl⟩:=hn
    have key:∃b,b=ne/\co P C o a w (s.put o.dst (.bool b)):=by
     refine xZ hM hr (K:=fun b=>b=ne) ?_;rw[hS.ev];simp only[ei]at he;split at he<;>try (cases he;done)
     ·rename_i l t hl
      obtain⟨h1,_⟩:=bS he
      try rw[hl]
      intro b hb;cases b
      ·cases ne<;>rfl
      ·exact absurd (hb rfl) h1
     ·rename_i sz l t hl
      obtain⟨h1,_⟩:=bS he
      try rw[hl]
      intro b hb;cases b
      ·cases ne<;>rfl
      ·exact absurd (hb rfl) h1
     ·rename_i hl
      first
       |rw[hl]
       |rfl
    obtain⟨b,rfl,hd'⟩:=key;refine dk hd' (k:=Sim N (c.app o.dst e)) ?_ hK
    have:e= {val:= .bool b}:=by
     simp only[ei]at he;split at he
     ·obtain⟨_,h2⟩:=bS he;exact h2.symm
     ·obtain⟨_,h2⟩:=bS he;exact h2.symm
     ·exact(ax.inj he).symm
     ·cases he
    rw[this];exact hS.put hd _
   ·obtain⟨f,h1,h2,h3,h4⟩:=S5 P hS hM he (fun q y z e=>hp ⟨q,y,z,e⟩) (fun ne q e=>hn ⟨ne,q,e⟩)
    exact dk (S3 hM hr h1 h2) (k:=Sim N (c.app o.dst e)) (hS.app hd h3 h4) hK
end Go.Sy
namespace Go.Sy
variable [bg]
variable {P : Program} {C : Ctx} {x : Sit} {a : Act} {w : World} {N : Nat} {c c' : CSt} {s : St}
theorem Sim.exact(h:Sim N c s)(hM:aO C x s a w):aO C x (c.st N) a w:=
 ⟨by show cw x ((ce N).map c.get) _;rw[<-h.tm];exact hM.tm,hM.defers,hM.heap.only (fun p hp=>by have h1:=jc (i9 h.inv.so) hp;have h2:s.look p.1=some p.2:=(h.look p.1).trans h1;exact cZ h2) (i9 h.inv.so) (fun t ht=>(h.tk t).2 ht)⟩
theorem M.slots(h:M C N c a w)(hi:Inv N c')(ho:c'.ob=c.ob)(ht:c'.tk=c.tk)(hg:∀i,c'.get i=c.get i\/c'.get i= .undef):M C N c' a w:=by
 obtain⟨x,s,hM,hS⟩:=h;have hE:=hS.exact hM;refine⟨x,c'.st N,⟨⟨?_,fun i hi'=> ?_⟩,hM.defers, ?_⟩,Sim.of hi⟩
 ·have:=hE.tm.1;simpa[CSt.st]using this
 ·have h1:=hE.tm.2 i (by simpa[CSt.st]using hi')
  have hiN:i<N:=by simpa[CSt.st]using hi'
  simp only[CSt.st,aa,aS,cN hiN,bt,bq]at h1 ⊢;rcases hg i with e|e
  ·rw[e];exact h1
  ·rw[e];exact .undef _
 ·show cW C x c'.ob c'.tk w
  rw[ho,ht];exact hE.heap
theorem Inv.kill(h:Inv N c)(l:List Nat):Inv N (c.kill l):=by
 cases l with
 |nil=>exact h
 |cons n r=>exact⟨fun p hp=>h.dom p (qd hp),h.so,h.wf⟩
theorem M.kill(h:M C N c a w)(l:List Nat):M C N (c.kill l) a w:=by
 have hi:Inv N c:=by obtain⟨x,s,_,hS⟩:=h;exact hS.inv
 cases l with
 |nil=>exact h
 |cons n r=>
  refine h.slots (hi.kill _) rfl rfl fun i=> ?_
  have e:=ql (n::r) i c.tm
  by_cases hc:(n::r).contains i=true
  ·exact .inr (e.trans (if_pos hc))
  ·exact .inl (e.trans (if_neg hc))
theorem M.purge(h:M C N c a w)(lo hi:Nat):M C N (c.purge lo hi) a w:=by obtain⟨x,s,hM,hS⟩:=h;exact⟨x,_,hM.purge lo hi,hS.purge lo hi⟩
theorem M.gc:∀{l:List Nat}{c:CSt},M C N c a w->M C N (gcC c l) a w
 |[],_,h=>h
 |o::r,c,h=>by show M C N (gcC (c.purge o (o+1)) r) a w;exact M.gc (h.purge o (o+1))
theorem mg{o:Nat}{obj:aF}(cs:List SV):SV.pubL o obj cs=cs.map (SV.pub o obj):=by
 induction cs with
 |nil=>rfl
 |cons c r ih=>simp only[SV.pubL,aP,ih]
theorem Rep.pub{x x':Sit}{o:Nat}{obj:aF}(hβ:x'.bk=x.bk)(hτ:x'.τ=x.τ)(hG:∀b i u,x.G b i=some u->x'.G b i=some u)
 (hcell:∀k,k<obj.size->∃u,x'.G ((x.bk o).1) k=some u/\cP x'.G (obj.cell k) u) (hwf:obj.wf=true) {sv:SV} {v:Value} (h:Rep x sv v):Rep x' (sv.pub o obj) v:=by
 induction h with
 |undef v=>exact .undef v
 |dat s v h ht=>
  have:s.pub o obj=s:=by cases h<;>rfl
  rw[this];exact(Rep.dat s v h ht).grow hG hβ hτ
 |ptr o' off=>
  simp only[SV.pub];split
  ·exact .undef _
  ·rw[<-hβ];exact .ptr o' off
 |ap o' sz i j=>
  simp only[SV.pub];split
  ·exact .undef _
  ·rw[<-hβ];exact .ap o' sz i j
 |psl o' sz off n cap off' cap' hoff hn hcp hkp=>
  simp only[SV.pub];split
  ·rename_i ho
   subst ho;cases obj with
   |rc cs=>exact .undef _
   |arr sz' xs=>
    simp only[xo];split
    ·rename_i hc
     obtain⟨rfl,hb⟩:=hc;have hrows:=gP.1 hwf;have h1:=leP.psl (o:=o') (cap:=cap) hb hrows x x' _ hβ hτ hG (fun k hk=>hcell k hk) (.psl o' sz' off n cap off' cap' hoff hn hcp hkp);split
     ·rename_i hcap
      have hcn:=hcp _ hcap;obtain⟨b,cq,he,_,hD,_⟩:=h1.lst_inv;exact .dat _ _ (hD.tok (.lst sz' ((xs.drop off).take n) .clip) (.inr ⟨sz',_,_,_,rfl,rfl⟩)) ⟨_,n,by rw[<-hcn]⟩
     ·exact h1
    ·exact .undef _
   |bar l=>
    simp only[xo];split
    ·rename_i hc
     obtain⟨rfl,hb⟩:=hc;have hlen:((l.drop off).take n).length=n:=by simp;omega
     have hD:∀t,cP x'.G (.byt ((l.drop off).take n) t) (.slice (some ⟨(x.bk o').1,off',none⟩) n cap'):=by
      intro t;refine .byt _ t _ _ _ _ hlen.symm hn fun i hi=> ?_
      have hoff':off'=off:=by omega
      obtain⟨u,hu,hr⟩:=hcell (off+i) (by simp only[aF.size];omega);rw[hoff',hu];simp only[aF.cell]at hr
      have e:((l.drop off).take n).getD i 0=l.getD (off+i) 0:=by simp only[aa,bE,if_pos hi,bi]
      rw[e];cases hr with
      |u8 b=>rfl
     split
     ·rename_i hcap
      have hcn:=hcp _ hcap;exact .dat _ _ (hD .clip) ⟨_,n,by rw[<-hcn]⟩
     ·exact .dat _ _ (hD .no) trivial
    ·exact .undef _
  ·rw[<-hβ]at hkp ⊢;exact .psl o' sz off n cap off' cap' hoff hn hcp hkp
 |agg cs vs hl _ ih=>simp only[SV.pub,mg];exact .agg _ _ (by simpa using hl) fun i hi=>by rw[aW _ (by rfl)];exact ih i (by simpa using hi)
 |tup cs vs hl _ ih=>simp only[SV.pub,mg];exact .tup _ _ (by simpa using hl) fun i hi=>by rw[aW _ (by rfl)];exact ih i (by simpa using hi)
 |fn f c1 c2 v1 v2 hl1 _ hl2 _ ih1 ih2=>simp only[SV.pub,mg];exact .fn _ _ _ _ _ (by simpa using hl1) (fun i hi=>by rw[aW _ (by rfl)];exact ih1 i (by simpa using hi)) (by simpa using hl2) (fun i hi=>by rw[aW _ (by rfl)];exact ih2 i (by simpa using hi))
theorem ky{o:Nat}{obj:aF}{p:Nat×aF}:∀{l:List (Nat×aF)},p∈ll o obj l->p.1≠o/\∃q,(p.1,q)∈l/\p.2=oz o obj q
 |q::r,h=>by
  simp only[ll]at h;split at h
  ·obtain⟨h1,u,h2,h3⟩:=ky h
   exact⟨h1,u,aw _ h2,h3⟩
  ·rename_i hq
   rcases au.1 h with e|e
   ·rw[e];exact⟨hq,q.2,aG ..,rfl⟩
   ·obtain⟨h1,u,h2,h3⟩:=ky e
    exact⟨h1,u,aw _ h2,h3⟩
theorem qr{o:Nat}{obj:aF}:∀l:List (Nat×aF),(ll o obj l).map cI=(l.map cI).filter fun k=>decide (k≠o)
 |[]=>rfl
 |p::r=>by
  simp only[ll,aP,ie]
  by_cases h:p.1=o
  ·rw[if_pos h,qr r];simp[h]
  ·rw[if_neg h,aP,qr r];simp[h]
theorem qc{o:Nat}{obj:aF}{p:Nat×SV}:∀{l:List (Nat×SV)},p∈lS o obj l->∃q∈l,p.1=q.1
 |q::r,h=>by
  simp only[lS]at h;rcases au.1 h with e|e
  ·exact⟨q,aG ..,by rw[e]⟩
  ·obtain⟨u,h1,h2⟩:=qc e
   exact⟨u,aw _ h1,h2⟩
theorem kz{o:Nat}{obj:aF}(n:Nat):∀l:List (Nat×SV),eK (lS o obj l) n=(eK l n).pub o obj
 |[]=>rfl
 |p::r=>by
  simp only[lS,eK];split
  ·rfl
  ·exact kz n r
theorem xcM{o:Nat}{obj q:aF}(h:q.wf=true):(oz o obj q).wf=true:=by cases q<;>simpa[oz,aF.wf]using h
theorem pj{o:Nat}{obj0 obj:aF}(hl:c.look o=some obj0)(hnr:∀cs,obj≠ .rc cs)(hnr0:∀cs,obj0≠ .rc cs)(hle:obj.size<=obj0.size)(hcl:∀k,k<obj.size->obj.cell k=obj0.cell k)(hwf:obj.wf=true)(hM:aO C x s a w)(hS:Sim N c s):
 ∃x',(x'.bk=x.bk/\x'.τ=x.τ/\(∀b i u,x.G b i=some u->x'.G b i=some u)/\(∀i,obj.size<=i->x'.G ((x.bk o).1) i=none)/\(∀k,k<obj.size->∃u,x'.G ((x.bk o).1) k=some u/\cP x'.G (obj.cell k) u))/\(∀sv v,Rep x sv v->Rep x' (sv.pub o obj) v)/\∃s',aO C x' s' a w/\Sim N ⟨lS o obj c.tm,ll o obj c.ob,c.tk⟩ s'/\(∀p∈s'.ob,(x.bk o).1≠(x'.bk p.1).1):=by
 have hls:s.look o=some obj0:=(hS.look o).trans hl;obtain⟨cc,e,fl,fh,hO,hsz,hr⟩:=fb hM hls;have hob:=hM.heap.obs _ (cZ hls)
 let x':Sit:= {x with G:=fun b i=>if b=(x.bk o).1/\i<obj.size then some (cc.getD i Go.undef)else x.G b i}
 have hG:∀b i u,x.G b i=some u->x'.G b i=some u:=by intro b i u hu;show(if _ then _ else _)=_;rw[if_neg];exact hu;rintro⟨rfl,_⟩;have h0:=hob.2.2 i;simp only at h0;rw[h0]at hu;cases hu
 have hcell:∀k,k<obj.size->∃u,x'.G ((x.bk o).1) k=some u/\cP x'.G (obj.cell k) u:=by
  intro k hk;refine⟨cc.getD k Go.undef,if_pos ⟨rfl,hk⟩,cP.mono hG ?_⟩;have:=hr k (by omega);rw[hcl k hk];cases obj0 with
  |rc cs=>exact absurd rfl (hnr0 cs)
  |arr sz xs=>exact this
  |bar l=>exact this
 have hpub:∀sv v,Rep x sv v->Rep x' (sv.pub o obj) v:=fun sv v h=>Rep.pub (x:=x) (x':=x') rfl rfl hG hcell hwf h
 have hH:=hM.heap
 have hinv:Inv N ⟨lS o obj c.tm,ll o obj c.ob,c.tk⟩:=by
  refine⟨fun p hp=> ?_, ?_,fun p hp=> ?_⟩
  ·obtain⟨q,hq,e⟩:=qc hp;rw[e];exact hS.inv.dom q hq
  ·show((ll o obj c.ob).map cI).Pairwise _
   rw[qr];exact hS.inv.so.filter _
  ·obtain⟨_,q,h2,h3⟩:=ky hp;rw[h3];exact xcM (hS.inv.wf _ h2)
 have hmem:∀p∈ll o obj c.ob,p.1≠o/\∃q,(p.1,q)∈s.ob/\p.2=oz o obj q:=by intro p hp;obtain⟨h1,q,h2,h3⟩:=ky hp;have h4:=jc (i9 hS.inv.so) h2;exact⟨h1,q,cZ ((hS.look p.1).trans h4),h3⟩
 have hne:∀p∈ll o obj c.ob,(x.bk p.1).1≠(x.bk o).1:=fun p hp e=>by obtain⟨h1,q,h2,_⟩:=hmem p hp;exact h1 (hH.inj (p.1,q) h2 _ (cZ hls) e)
 refine⟨x',⟨rfl,rfl,hG,fun i hi=> ?_,hcell⟩,hpub,_,⟨⟨?_,fun i hi=> ?_⟩,hM.defers, ?_⟩,Sim.of hinv,fun p hp=>(hne p hp).symm⟩
 ·show(if _ then _ else _)=_
  rw[if_neg (by rintro⟨_,h⟩;omega)];exact hob.2.2 i
 ·have:=hM.tm.1;rw[hS.tm]at this;simpa[CSt.st]using this
 ·have hiN:i<N:=by simpa[CSt.st]using hi
  have h1:=hM.tm.2 i (by rw[hS.tm];simpa using hiN);rw[hS.tm]at h1;simp only[CSt.st,aa,aS,cN hiN,bt,bq]at h1 ⊢;have:(CSt.mk (lS o obj c.tm) (ll o obj c.ob) c.tk).get i=(c.get i).pub o obj:=kz i c.tm;rw[this];exact hpub _ _ h1
 ·refine⟨
   ?_,fun b i v hv=>hG _ _ _ (hH.g0 b i v hv), ?_,hH.new, ?_,i9 hinv.so, ?_, ?_,fun n hn p hp=> ?_,fun n hn m hm=>hH.tkd n ((hS.tk n).2 hn) m ((hS.tk m).2 hm),hH.os,hH.tape,hH.output,hH.size,hH.ext,hH.pin,hH.lay⟩
  ·intro b i v hv
   replace hv:(if b=(x.bk o).1/\i<obj.size then some (cc.getD i Go.undef)else x.G b i)=some v:=hv;split at hv
   ·rename_i hbi
    obtain⟨rfl,hi⟩:=hbi;cases hv;rw[hO.cell,bf,cG (by omega)];rfl
   ·exact hH.per b i v hv
  ·intro b i v hv
   replace hv:(if b=(x.bk o).1/\i<obj.size then some (cc.getD i Go.undef)else x.G b i)=some v:=hv;split at hv
   ·rename_i hbi
    exact .inr (hbi.1 ▸ hob.2.1)
   ·exact hH.gm b i v hv
  ·intro p hp
   obtain⟨h1,q,h2,h3⟩:=hmem p hp;obtain⟨g1,g2,g3⟩:=hH.obs _ h2;refine⟨?_,g2,fun off=> ?_⟩
   ·obtain⟨c',e',fl',fh',hO',hs',hr'⟩:=g1
    rw[h3];refine⟨c',e',fl',fh',hO', ?_,fun k hk=> ?_⟩
    ·cases q<;>first|exact hs'|exact⟨by simpa[oz,aF.size,mg]using hs'.1,hs'.2.1,fun h=>by cases h⟩
    ·cases q with
     |rc cs=>
      have hk':k<cs.length:=by simpa[oz,aF.size,mg]using hk
      have:=hr' k hk';simp only[oz,cn,mg]at this ⊢;rw[aW _ (by rfl)];exact hpub _ _ this
     |arr sz xs=>exact cP.mono hG (hr' k hk)
     |bar l=>exact cP.mono hG (hr' k hk)
   ·show(if _ then _ else _)=_
    rw[if_neg (fun h=>hne p hp h.1)];exact g3 off
  ·intro p hp q hq hpq
   obtain⟨_,p',hp',_⟩:=hmem p hp;obtain⟨_,q',hq',_⟩:=hmem q hq;exact hH.inj (p.1,p') hp' (q.1,q') hq' hpq
  ·intro n hn'
   have hn:=(hS.tk n).2 hn';rcases hH.tks n hn with h|⟨h1,h2,h3⟩
   ·exact .inl h
   ·by_cases hlh:(x.τ n).2.1=(x.τ n).2.2
    ·exact .inl hlh
    ·refine .inr ⟨h1,h2,fun off h4 h5=> ?_⟩
     show(if _ then _ else _)=_;rw[if_neg (fun h=>(hH.tko n hn _ (cZ hls)).elim (fun hb=>hb h.1) hlh)];exact h3 off h4 h5
  ·obtain⟨_,q,h2,_⟩:=hmem p hp
   exact hH.tko n ((hS.tk n).2 hn) (p.1,q) h2
theorem pk{o:Nat}{obj:aF}(hl:c.look o=some obj)(hnr:∀cs,obj≠ .rc cs)(hM:aO C x s a w)(hS:Sim N c s):
 ∃x',(x'.bk=x.bk/\x'.τ=x.τ)/\(∀sv v,Rep x sv v->Rep x' (sv.pub o obj) v)/\∃s',aO C x' s' a w/\Sim N ⟨lS o obj c.tm,ll o obj c.ob,c.tk⟩ s':=by
 obtain⟨x',h1,h2,s',h3,h4,_⟩:=pj hl hnr hnr (aM _) (fun _ _=>rfl) (hS.lookmem hl) hM hS;exact⟨x',⟨h1.1,h1.2.1⟩,h2,s',h3,h4⟩
theorem DY{o:Nat}{obj:aF}(hl:c.look o=some obj)(hnr:∀cs,obj≠ .rc cs)(hM:aO C x s a w)(hS:Sim N c s):
 ∃x',(∀sv v,Rep x sv v->Rep x' (sv.pub o obj) v)/\∃s',aO C x' s' a w/\Sim N ⟨lS o obj c.tm,ll o obj c.ob,c.tk⟩ s':=by
 obtain⟨x',_,h⟩:=pk hl hnr hM hS;exact⟨x',h⟩
theorem lj{vs:List SV}{us:List Value}{o:Nat}(hM:aO C x s a w)(hS:Sim N c s)(hv:cw x vs us):
 ∃x' s',aO C x' s' a w/\Sim N (c.publish o vs).1 s'/\cw x' (c.publish o vs).2 us:=by
 unfold CSt.publish
 have go:∀{obj:aF},c.look o=some obj->(∀cs,obj≠ .rc cs)->∃x' s',aO C x' s' a w/\Sim N ⟨lS o obj c.tm,ll o obj c.ob,c.tk⟩ s'/\cw x' (SV.pubL o obj vs) us:=by intro obj hl hnr;obtain⟨x',hp,s',h1,h2⟩:=DY hl hnr hM hS;refine⟨x',s',h1,h2, ?_⟩;rw[mg];refine⟨by simpa using hv.1,fun i hi=> ?_⟩;rw[aW _ (by rfl)];exact hp _ _ (hv.2 i (by simpa using hi))
 split
 ·rename_i sz xs hl;exact go hl (fun cs e=>by cases e)
 ·rename_i l hl;exact go hl (fun cs e=>by cases e)
 ·exact⟨x,s,hM,hS,hv⟩
theorem ji{us:List Value}:∀{l:List Nat}{c:CSt}{s:St}{x:Sit}{vs:List SV},aO C x s a w->Sim N c s->cw x vs us->
 ∃x' s',aO C x' s' a w/\Sim N (eZ c vs l).1 s'/\cw x' (eZ c vs l).2 us
 |[],_,_,_,_,hM,hS,hv=>⟨_,_,hM,hS,hv⟩
 |o::r,c,s,x,vs,hM,hS,hv=>by obtain⟨x1,s1,h1,h2,h3⟩:=lj (o:=o) hM hS hv;simp only[eZ];exact ji h1 h2 h3
theorem M.pub(h:M C N c a w)(o:Nat):M C N (c.publish o []).1 a w:=by obtain⟨x,s,hM,hS⟩:=h;obtain⟨x',s',h1,h2,_⟩:=lj (o:=o) (vs:=[]) (us:=[]) hM hS ⟨rfl,fun i hi=>by simp at hi⟩;exact⟨x',s',h1,h2⟩
theorem QY(hM:aO C x s a w)(hS:Sim N c s)(id b lo hi:Nat)(hv:lo=hi\/((∃c e fl fh,dZ w b c e fl fh/\hi<=c.size)/\C.mine b/\∀o,lo<=o->o<hi->x.G b o=none))
 (hob:∀p∈s.ob,b≠(x.bk p.1).1) (htk:∀u∈s.tk,lz (b,lo,hi) (x.τ u)\/(x.τ u).2.1=(x.τ u).2.2) {n:Nat} (hn:n<N) {v:SV}
 (hval:Rep (x.newT id b lo hi) v (a.tmps.toList.getD n Go.undef)):
 M C N ⟨jo (dv id (id+1) c.tm) n v,bF id (id+1) c.ob,mX (cA id (id+1) c.tk) id⟩ a w:=by
 have hadd:cW C (x.newT id b lo hi) (bF id (id+1) s.ob) (id::cA id (id+1) s.tk) w:=
  hM.heap.addT id b lo hi hv (.inr fun p hp _=>hob p hp) (.inr fun u hu _=>htk u hu)
 have hM1:aO C (x.newT id b lo hi) ⟨SV.purgeL id (id+1) s.tm,bF id (id+1) s.ob,id::cA id (id+1) s.tk⟩ a w:=
  ⟨cw.mono (x:=x) (x':=x.newT id b lo hi) (lo:=id) (hi:=id+1) (fun _ _ _ h=>h) (fun _ _=>rfl) (Sit.newT_ne x id _ _ _) hM.tm,hM.defers,hadd⟩
 have hS1:Sim N ⟨dv id (id+1) c.tm,bF id (id+1) c.ob,mX (cA id (id+1) c.tk) id⟩ ⟨SV.purgeL id (id+1) s.tm,bF id (id+1) s.ob,id::cA id (id+1) s.tk⟩:=
  (hS.purge id (id+1)).tks (fun u=>by rw[kx,au,bI,bI,hS.tk])
 refine⟨x.newT id b lo hi,_, ?_,hS1.put (d:=some n) (fun k e=>by cases e;exact hn) v⟩;refine⟨⟨?_,fun i hi=> ?_⟩,hM1.defers,hM1.heap⟩
 ·have:=hM1.tm.1;simpa[St.put]using this
 ·simp only[St.put,cu]at hi
  simp only[St.put,aa,gz]
  by_cases hni:n=i
  ·subst hni
   rw[if_pos rfl,if_pos hi];rw[<-aa];exact hval
  ·rw[if_neg hni]
   have:=hM1.tm.2 i hi;simp only[aa]at this;exact this
theorem wI(h:M C N c a w){n id o sz off k cp:Nat}(hg:c.get n= .psl o sz off k (some cp))(hc:Ra c n id o sz off k cp (c.look o)=some c')(hn:n<N):M C N c' a w:=by
 cases hl:c.look o with
 |none=>rw[hl]at hc;cases hc;exact h
 |some obj0=>
  rw[hl]at hc
  have main:∀(obj:aF)(v:SV),(∀cs,obj≠ .rc cs)->(∀cs,obj0≠ .rc cs)->obj.size=(off+k)*sz->(off+cp)*sz<=obj0.size->k<=cp->(∀k,k<obj.size->obj.cell k=obj0.cell k)->obj.wf=true->
   (∀(x':Sit)(off':Nat),(cp=0\/off'=off*sz)->(∀k,k<obj.size->∃u,x'.G ((x'.bk o).1) k=some u/\cP x'.G (obj.cell k) u)->cP x'.G v (.slice (some ⟨(x'.bk o).1,off',none⟩) k cp))->
   (∀x v',Pl x v v'=dr x sz (.id id) v')->
   M C N (EW c n id o obj v) a w:=by
   intro obj v hnr hnr0 hsz hle hk hcl hwf hD htok;obtain⟨x,s,hM,hS⟩:=h;have hle':obj.size<=obj0.size:=by rw[hsz];exact cr (bN _ (by omega)) hle
   obtain⟨x',⟨hβ,hτ,hG,hfree,hcell⟩,hpub,s',hM',hS',hne⟩:=pj hl hnr hnr0 hle' hcl hwf hM hS;have hls:s.look o=some obj0:=(hS.look o).trans hl;obtain⟨cc,e,fl,fh,hO,hosz,_⟩:=fb hM hls;have hob:=hM.heap.obs _ (cZ hls);have hslot:=hM.slot n;rw[hS.get,hg]at hslot;obtain⟨cp',hkc,hcc,off',he,hoff⟩:=hslot.psl_inv;obtain rfl:=hcc _ rfl
   have hval0:a.tmps.toList.getD n Go.undef= .slice (some ⟨(x.bk o).1,off',none⟩) k cp:=by rw[<-he];simp[bf,aa]
   refine QY hM' hS' id ((x.bk o).1) ((off+k)*sz) ((off+cp)*sz) (.inr ⟨⟨cc,e,fl,fh,hO,by omega⟩,hob.2.1,fun i h1 h2=>hfree i (by omega)⟩) (fun p hp=>hne p hp) (fun u hu=> ?_) hn ?_
   ·have hu':=(hS'.tk u).1 hu
    have hu2:=(hS.tk u).2 hu';rw[hτ];exact(hM.heap.tko u hu2 _ (cZ hls)).imp (fun h e=>h e.symm) (fun h=>h)
   ·rw[hval0]
    have h1:=hD (x'.newT id ((x.bk o).1) ((off+k)*sz) ((off+cp)*sz)) off' hoff (by show ∀k,k<obj.size->∃u,x'.G ((x'.bk o).1) k=some u/\cP x'.G (obj.cell k) u;rw[hβ];exact hcell)
    have e1:(x'.newT id ((x.bk o).1) ((off+k)*sz) ((off+cp)*sz)).bk o=x.bk o:=by show x'.bk o=_;rw[hβ]
    rw[e1]at h1;refine .dat _ _ h1 ?_;rw[htok];refine⟨_,k,cp,rfl, ?_⟩
    by_cases hcz:cp=0
    ·exact .inl (by omega)
    ·refine .inr ⟨_,off',rfl, ?_⟩
     rw[Sit.newT_eq,hoff.resolve_left hcz,bQ,bQ]
  cases obj0 with
  |rc cs=>cases hc;exact h
  |bar l=>
   simp only[Ra]at hc;split at hc<;>cases hc
   ·rename_i hcond
    obtain⟨rfl,h2,h3⟩:=hcond;refine main (.bar (l.take (off+k))) (.byt ((l.drop off).take k) (.id id)) (fun cs e=>by cases e) (fun cs e=>by cases e) (by simp only[aF.size,ay];omega) (by simp only[aF.size];omega) h3 (fun i hi=> ?_) rfl (fun x' off' hoff hcell=> ?_) (fun _ _=>rfl)
    ·simp only[aF.size,ay]at hi
     simp only[aF.cell,aa,bE,if_pos (show i<off+k by omega)]
    ·have hlen:((l.drop off).take k).length=k:=by simp;omega
     refine .byt _ _ _ _ _ _ hlen.symm h3 fun i hi=> ?_
     have hoff':off'=off:=by omega
     obtain⟨u,hu,hr⟩:=hcell (off+i) (by simp only[aF.size,ay];omega);rw[hoff',hu];simp only[aF.cell]at hr
     have e1:((l.drop off).take k).getD i 0=(l.take (off+k)).getD (off+i) 0:=by simp only[aa,bE,if_pos hi,bi,if_pos (show off+i<off+k by omega)]
     rw[e1];cases hr with
     |u8 b=>rfl
   ·exact h
  |arr sz' xs=>
   simp only[Ra]at hc;split at hc<;>cases hc
   ·rename_i hcond
    obtain⟨rfl,h2,h3⟩:=hcond;have hwf0:∀y∈xs,y.length=sz':=by obtain⟨x,s,hM,hS⟩:=h;exact gP.1 (hS.lookmem hl)
    have hwt:∀y∈xs.take (off+k),y.length=sz':=fun y hy=>hwf0 y (bW hy)
    have hrow:(xs.drop off).take k=(xs.take (off+k)).drop off:=by rw[List.drop_take,Nat.add_sub_cancel_left]
    refine main (.arr sz' (xs.take (off+k))) (.lst sz' ((xs.drop off).take k) (.id id)) (fun cs e=>by cases e) (fun cs e=>by cases e) (by simp only[aF.size,ay];congr 1;omega) (by simp only[aF.size];exact bN _ h2) h3 (fun i hi=> ?_) (gP.2 hwt) (fun x' off' hoff hcell=> ?_) (fun _ _=>rfl)
    ·simp only[aF.size,ay]at hi
     simp only[aF.cell,aa,bE];have hd:i/sz'<off+k:=Nat.div_lt_of_lt_mul (by rw[dR];exact Nat.lt_of_lt_of_le hi (bN _ (Nat.min_le_left _ _)));rw[if_pos hd]
    ·have hlen:((xs.drop off).take k).length=k:=by simp;omega
     have hgr:∀i,i<k->((xs.drop off).take k).getD i []=(xs.take (off+k)).getD (off+i) []:=fun i hi=>by simp only[aa,bE,if_pos hi,bi,if_pos (show off+i<off+k by omega)]
     have hrl:∀i,i<k->((xs.drop off).take k).getD i []∈xs.take (off+k):=fun i hi=>by rw[hgr i hi,aa,af (show off+i<(xs.take (off+k)).length by rw[ay];omega)];exact bj _
     have hcl:∀i j,i<k->j<sz'->∃u,x'.G ((x'.bk o).1) (off'+i*sz'+j)=some u/\cP x'.G ((((xs.drop off).take k).getD i []).getD j .undef) u:=by
      intro i j hi hj;have hoff':off'=off*sz':=hoff.resolve_left (by omega)
      have hlt:(off+i)*sz'+j<(off+k)*sz':=by have:=bN sz' (show off+i+1<=off+k by omega);rw[bQ,Nat.one_mul]at this;omega
      obtain⟨u,hu,hr⟩:=hcell ((off+i)*sz'+j) (by simp only[aF.size,ay];rw[fu (by omega)];exact hlt);refine⟨u,by rw[hoff',<-bQ];exact hu, ?_⟩;simp only[aF.cell]at hr;have e1:((off+i)*sz'+j)/sz'=off+i:=by rw[dR,Nat.mul_add_div (by omega),Nat.div_eq_of_lt hj,fz]
      have e2:((off+i)*sz'+j) % sz'=j:=by rw[dR,Nat.mul_add_mod,ym hj]
      rw[e1,e2]at hr;rw[hgr i hi];exact hr
     refine .lst _ _ _ _ _ _ _ (fun i j=>(x'.G ((x'.bk o).1) (off'+i*sz'+j)).getD Go.undef) hlen.symm h3 (fun i hi=>hwt _ (hrl i hi)) (fun i j hi hj=> ?_) (fun i j hi hj=> ?_)
     ·obtain⟨u,hu,_⟩:=hcl i j hi hj
      rw[hu];rfl
     ·obtain⟨u,hu,hr⟩:=hcl i j hi hj
      rw[hu];exact hr
   ·exact h
theorem kH(hM:aO C x s a w)(hS:Sim N c s)(id:Nat)(t:Option Nat)(ht:∀k,t=some k->k∈c.tk){n:Nat}(hn:n<N){v:SV}
 (hv:∀u,Rep x (c.get n) u->Rep (x.newT id ((t.elim (0,0,0) x.τ)).1 ((t.elim (0,0,0) x.τ)).2.1 ((t.elim (0,0,0) x.τ)).2.2) v u):
 M C N ⟨jo (dv id (id+1) c.tm) n v,bF id (id+1) c.ob,mX (cA id (id+1) (t.elim c.tk fun k=>cA k (k+1) c.tk)) id⟩ a w:=by
 generalize hT:t.elim (0,0,0) x.τ=T at hv;generalize hL:(t.elim c.tk fun k=>cA k (k+1) c.tk)=L;have hH:=hM.heap
 have hLs:∀u∈L,u∈s.tk/\∀k,t=some k->u≠k:=by
  intro u hu;rw[<-hL]at hu;cases t with
  |none=>exact⟨(hS.tk u).2 hu,fun k e=>by cases e⟩
  |some k=>obtain⟨h1,h2⟩:=bI.1 hu;exact⟨(hS.tk u).2 h1,fun k' e=>by cases e;omega⟩
 have hadd:cW C (x.newT id T.1 T.2.1 T.2.2) (bF id (id+1) s.ob) (id::cA id (id+1) L) w:=by
  refine(hH.sub (tk':=L) (oj.refl _) (fun u hu=>(hLs u hu).1)).addT id T.1 T.2.1 T.2.2 ?_ ?_ ?_
  ·cases t with
   |none=>subst hT;exact .inl rfl
   |some k=>have:=hH.tks k ((hS.tk k).2 (ht k rfl));unfold ic at this;subst hT;exact this
  ·cases t with
   |none=>subst hT;exact .inl rfl
   |some k=>
    by_cases hc:(x.τ k).2.1=(x.τ k).2.2
    ·subst hT;exact .inl hc
    ·subst hT
     exact .inr fun p hp _=>(hH.tko k ((hS.tk k).2 (ht k rfl)) p hp).resolve_right hc
  ·cases t with
   |none=>subst hT;exact .inl rfl
   |some k=>
    by_cases hc:(x.τ k).2.1=(x.τ k).2.2
    ·subst hT;exact .inl hc
    ·subst hT
     refine .inr fun u hu _=> ?_
     obtain⟨h1,h2⟩:=hLs u hu;rcases hH.tkd k ((hS.tk k).2 (ht k rfl)) u h1 (fun e=>h2 k rfl e.symm)with h|h|h
     ·exact .inl h
     ·exact absurd h hc
     ·exact .inr h
 have hM1:aO C (x.newT id T.1 T.2.1 T.2.2) ⟨SV.purgeL id (id+1) s.tm,bF id (id+1) s.ob,id::cA id (id+1) L⟩ a w:=
  ⟨cw.mono (x:=x) (x':=x.newT id T.1 T.2.1 T.2.2) (lo:=id) (hi:=id+1) (fun _ _ _ h=>h) (fun _ _=>rfl) (Sit.newT_ne x id _ _ _) hM.tm,hM.defers,hadd⟩
 have hS1:Sim N ⟨dv id (id+1) c.tm,bF id (id+1) c.ob,mX (cA id (id+1) L) id⟩ ⟨SV.purgeL id (id+1) s.tm,bF id (id+1) s.ob,id::cA id (id+1) L⟩:=
  (hS.purge id (id+1)).tks (fun u=>by rw[kx,au])
 refine⟨x.newT id T.1 T.2.1 T.2.2,_, ?_,hS1.put (d:=some n) (fun k e=>by cases e;exact hn) v⟩;have hlt:n<s.tm.length:=by rw[hS.tm];simpa using hn
 refine⟨⟨?_,fun i hi=> ?_⟩,hM1.defers,hM1.heap⟩
 ·have:=hM1.tm.1;simpa[St.put]using this
 ·simp only[St.put,cu]at hi
  simp only[St.put,aa,gz]
  by_cases hni:n=i
  ·subst hni
   rw[if_pos rfl,if_pos hi];refine hv _ ?_;have:=hM.tm.2 n hlt;have e:s.tm.getD n .undef=c.get n:=hS.get n;rw[e]at this;rw[<-aa];exact this
  ·rw[if_neg hni,<-aa,<-aa]
   exact hM1.tm.2 i hi
theorem wJ(h:M C N c a w){n id:Nat}(hc:Rb c n id (c.get n)=some c'):M C N c' a w:=by
 have hnN:c.get n≠ .undef->n<N:=by
  obtain⟨x,s,hM,hS⟩:=h;intro hne;rcases bP n N with h1|h1
  ·exact h1
  ·exact absurd (hS.inv.get h1) hne
 cases hg:c.get n with
 |byt l t=>
  rw[hg]at hc;have hN:=hnN (by rw[hg];exact fun e=>by cases e);cases t with
  |no=>cases hc;exact h
  |clip=>
   cases hc;obtain⟨x,s,hM,hS⟩:=h;refine kH hM hS id none (fun k e=>by cases e) hN fun u hu=> ?_
   rw[hg]at hu;exact leT.byt id l x u hu
  |id t=>
   simp only[Rb]at hc;split at hc
   ·cases hc;exact h
   ·split at hc<;>cases hc
    rename_i h1 h2;obtain⟨x,s,hM,hS⟩:=h;refine kH hM hS id (some t) (fun k e=>by cases e;simpa using h2) hN fun u hu=> ?_
    rw[hg]at hu;obtain⟨b,cap,he,_,hD,hsp⟩:=hu.byt_inv;refine .dat _ _ (hD.tok (.byt l (.id id)) (.inl ⟨l,_,_,rfl,rfl⟩)) ?_;obtain⟨a',n',cap',he',hh⟩:=hsp;refine⟨a',n',cap',he',hh.imp (fun h=>h) ?_⟩;rintro⟨b,off,h3,h4⟩;exact⟨b,off,h3,by rw[Sit.newT_eq];exact h4⟩
 |lst sz xs t=>
  rw[hg]at hc;have hN:=hnN (by rw[hg];exact fun e=>by cases e);cases t with
  |no=>cases hc;exact h
  |clip=>
   cases hc;obtain⟨x,s,hM,hS⟩:=h;refine kH hM hS id none (fun k e=>by cases e) hN fun u hu=> ?_
   rw[hg]at hu;exact leT.lst id sz xs x u hu
  |id t=>
   simp only[Rb]at hc;split at hc
   ·cases hc;exact h
   ·split at hc<;>cases hc
    rename_i h1 h2;obtain⟨x,s,hM,hS⟩:=h;refine kH hM hS id (some t) (fun k e=>by cases e;simpa using h2) hN fun u hu=> ?_
    rw[hg]at hu;obtain⟨b,cap,he,_,hD,hsp⟩:=hu.lst_inv;refine .dat _ _ (hD.tok (.lst sz xs (.id id)) (.inr ⟨sz,xs,_,_,rfl,rfl⟩)) ?_;obtain⟨a',n',cap',he',hh⟩:=hsp;refine⟨a',n',cap',he',hh.imp (fun h=>h) ?_⟩;rintro⟨b,off,h3,h4⟩;exact⟨b,off,h3,by rw[Sit.newT_eq];exact h4⟩
 |psl o sz off k cp=>
  rw[hg]at hc;have hN:=hnN (by rw[hg];exact fun e=>by cases e);cases cp with
  |none=>cases hc;exact h
  |some cp=>exact wI h hg hc hN
 |_=>rw[hg]at hc;cases hc;exact h
theorem aO.retag(hM:aO C x s a w)(n:Nat){v:SV}(hval:Rep x v (a.tmps.toList.getD n Go.undef)):aO C x (s.put (some n) v) a w:=by
 refine⟨⟨?_,fun i hi=> ?_⟩,hM.defers,hM.heap⟩
 ·have:=hM.tm.1;simpa[St.put]using this
 ·simp only[St.put,cu]at hi
  simp only[St.put,aa,gz]
  by_cases hni:n=i
  ·subst hni
   rw[if_pos rfl,if_pos hi];rw[<-aa];exact hval
  ·rw[if_neg hni]
   have:=hM.tm.2 i hi;simp only[aa]at this;exact this
theorem cW.move{ob:List (Nat×aF)}{tk:List Nat}(h:cW C x ob tk w){o d:Nat}(hd100:100<=d){obj:aF}(ho:(o,obj)∈ob)(hnr:∀cs,obj≠ .rc cs):
 cW C (x.newO d (x.bk o).1 (x.bk o).2) ((d,obj)::bF d (d+1) (bF o (o+1) ob)) (cA d (d+1) (cA o (o+1) tk)) w:=by
 have hβ:=Sit.newO_ne x d (x.bk o).1 (k:=(x.bk o).2);obtain⟨⟨c,e,fl,fh,hO,hs,hr⟩,hm,hg⟩:=h.obs _ ho;have hd2:(x.newO d (x.bk o).1 (x.bk o).2).bk d=x.bk o:=if_pos rfl
 have hob:∀p∈bF d (d+1) (bF o (o+1) ob),(x.newO d (x.bk o).1 (x.bk o).2).bk p.1=x.bk p.1/\∃q,(p.1,q)∈ob/\p.1≠o/\¬(d<=p.1/\p.1<d+1)/\p.2=(q.purge o (o+1)).purge d (d+1):=by intro p hp;obtain⟨h1,q,h2,h3⟩:=cy hp;obtain⟨h4,q',h5,h6⟩:=cy h2;simp only at h4 h5 h6;exact⟨hβ _ h1,q',h5,by omega,h1,by rw[h3,h6]⟩
 have htk:∀t∈cA d (d+1) (cA o (o+1) tk),t∈tk:=fun t ht=>(bI.1 (bI.1 ht).1).1
 refine⟨h.per,h.g0,h.gm,h.new, ?_, ?_, ?_,fun t ht=>h.tks t (htk t ht), ?_,fun t ht u hu=>h.tkd t (htk t ht) u (htk u hu),h.os,h.tape,h.output,h.size,h.ext,fun i hi=>by rw[hβ i (by omega)];exact h.pin i hi,h.lay⟩
 ·intro p hp
  rcases au.1 hp with rfl|hp
  ·refine⟨⟨c,e,fl,fh,by rw[hd2];exact hO,by rw[hd2];exact hs,fun k hk=> ?_⟩,by rw[hd2];exact hm,fun off=>by rw[hd2];exact hg off⟩
   have:=hr k hk;cases obj with
   |rc cs=>exact absurd rfl (hnr cs)
   |arr sz xs=>exact this
   |bar l=>exact this
  ·obtain⟨he,q,h1,h2,h3,h4⟩:=hob p hp
   obtain⟨h5,h6,h7⟩:=h.obs _ h1;refine⟨?_,by rw[he];exact h6,fun off=>by rw[he];exact h7 off⟩;have e1:=h5.of_heap (x':=x) (w':=w) (lo:=o) (hi:=o+1) rfl (fun _ _ _ h=>h) (fun _ _=>rfl) (fun _ _=>rfl) (by omega);have e2:=e1.of_heap (x':=x.newO d (x.bk o).1 (x.bk o).2) (w':=w) (lo:=d) (hi:=d+1) rfl (fun _ _ _ h=>h) hβ (fun _ _=>rfl) h3;rw[h4];exact e2
 ·rw[aP,eu,eV,eV]
  refine⟨fun hmem=> ?_,(h.nd.filter _).filter _⟩;have:=(List.mem_filter.1 hmem).2;simp at this
 ·intro p hp q hq hpq
  rcases au.1 hp with rfl|hp<;>rcases au.1 hq with rfl|hq
  ·rfl
  ·obtain⟨he,q',h1,h2,_⟩:=hob q hq
   rw[hd2,he]at hpq;exact absurd (h.inj (o,obj) ho (q.1,q') h1 hpq).symm h2
  ·obtain⟨he,q',h1,h2,_⟩:=hob p hp
   rw[hd2,he]at hpq;exact absurd (h.inj (p.1,q') h1 (o,obj) ho hpq) h2
  ·obtain⟨he,q1,h1,_⟩:=hob p hp
   obtain⟨he',q2,h2,_⟩:=hob q hq;rw[he,he']at hpq;exact h.inj (p.1,q1) h1 (q.1,q2) h2 hpq
 ·intro t ht p hp
  rcases au.1 hp with rfl|hp
  ·show(x.τ t).1≠((x.newO d (x.bk o).1 (x.bk o).2).bk d).1\/_
   rw[hd2];exact h.tko t (htk t ht) (o,obj) ho
  ·obtain⟨he,q,h1,_⟩:=hob p hp
   show(x.τ t).1≠((x.newO d (x.bk o).1 (x.bk o).2).bk p.1).1\/_;rw[he];exact h.tko t (htk t ht) (p.1,q) h1
theorem aO.move(hM:aO C x s a w){o d:Nat}(hd100:100<=d){obj:aF}(hl:s.look o=some obj)(hnr:∀cs,obj≠ .rc cs):
 aO C (x.newO d (x.bk o).1 (x.bk o).2) (((s.purge o (o+1)).purge d (d+1)).addO d obj) a w:=
 ⟨cw.mono (x:=x) (x':=x.newO d (x.bk o).1 (x.bk o).2) (lo:=d) (hi:=d+1) (fun _ _ _ h=>h) (Sit.newO_ne x d _) (fun _ _=>rfl) (hM.purge o (o+1)).tm,hM.defers,hM.heap.move hd100 (cZ hl) hnr⟩
theorem vF{n id o sz off k:Nat}{cap:Option Nat}{obj:aF}(hM:aO C x s a w)(hS:Sim N c s)(hn:n<N)(hid:100<=id)(hg:c.get n= .psl o sz off k cap)(hl:c.look o=some obj)(hnr:∀cs,obj≠ .rc cs):
 M C N (mvC c n id o sz off k cap obj) a w:=by
 have hM1:=hM.move hid (by rw[hS.look];exact hl) hnr;have hS1:=(((hS.purge o (o+1)).purge id (id+1)).addO id (hS.lookmem hl)).put (d:=some n) (fun k e=>by cases e;exact hn) (.psl id sz off k cap);refine⟨x.newO id (x.bk o).1 (x.bk o).2,_, ?_,hS1⟩
 have hv:Rep x (.psl o sz off k cap) (a.tmps.toList.getD n Go.undef):=by have:=hM.tm.2 n (by rw[hS.tm];simpa using hn);rw[show s.tm.getD n .undef=c.get n from hS.get n,hg]at this;exact this
 obtain⟨cap',h1,h2,off',he,h3,h4⟩:=hv.psl_invA;refine hM1.retag n ?_;rw[he];have hd2:(x.newO id (x.bk o).1 (x.bk o).2).bk id=x.bk o:=if_pos rfl;have:=Rep.psl (x:=x.newO id (x.bk o).1 (x.bk o).2) id sz off k cap off' cap' h3 h1 h2 (by rw[hd2];exact h4);rw[hd2]at this;exact this
theorem xC(h:M C N c a w){n id:Nat}(hid:100<=id)(hc:xa8 c n id (c.get n)=some c'):M C N c' a w:=by
 obtain⟨x,s,hM,hS⟩:=h;cases hg:c.get n with
 |psl o sz off k cap=>
  rw[hg]at hc
  have hn:n<N:=by
   rcases bP n N with h|h
   ·exact h
   ·rw[hS.inv.get h]at hg;cases hg
  simp only[xa8]at hc;split at hc
  ·cases hc;exact⟨x,s,hM,hS⟩
  ·cases hl:c.look o with
   |none=>rw[hl]at hc;cases hc;exact⟨x,s,hM,hS⟩
   |some obj=>
    rw[hl]at hc;cases obj with
    |rc cs=>cases hc;exact⟨x,s,hM,hS⟩
    |arr sz' xs=>cases hc;exact vF hM hS hn hid hg hl (fun cs e=>by cases e)
    |bar l=>cases hc;exact vF hM hS hn hid hg hl (fun cs e=>by cases e)
 |_=>rw[hg]at hc;cases hc;exact⟨x,s,hM,hS⟩
theorem pJ(h:M C N c a w){q:Dir}(hc:ra c q=some c'):M C N c' a w:=by
 cases q with
 |kill l=>cases hc;exact h.kill l
 |gc l=>cases hc;exact h.gc
 |gcr lo hi=>cases hc;exact h.purge lo hi
 |pubo o=>cases hc;exact h.pub _
 |pub n=>
  simp only[ra]at hc;split at hc<;>cases hc
  ·exact h.pub _
  ·exact h
 |tok n id=>
  simp only[ra]at hc;split at hc
  ·cases hc
  ·exact wJ h hc
 |obj n id=>
  simp only[ra]at hc;split at hc
  ·cases hc
  ·exact xC h (by omega) hc
theorem kg:∀{l:List Dir}{c:CSt},M C N c a w->iC c l=some c'->M C N c' a w
 |[],_,h,hc=>by cases hc;exact h
 |q::r,c,h,hc=>by
  simp only[iC]at hc;split at hc
  ·rename_i c1 h1;exact kg (pJ h h1) hc
  ·cases hc
end Go.Sy
namespace Go.Sy
variable [bg]
variable {P : Program} {C : Ctx} {x : Sit} {a : Act} {w : World} {N : Nat} {c c' : CSt} {s : St}
def kW(P:Program)(f:Nat)(args:List SV)(os:List aF)(k:Nat)(R:ep->Prop):Prop:=
 ej P f=true/\∀(C:Ctx)(x:Sit)(w:World)(vs:List Value),C.w0=w->C.G0=x.G->
  (∀b,C.mine b->w.heap.size<=b\/(∃i,i<os.length/\(x.bk i).1=b)\/(∃t,50<=t/\t<50+k/\(x.τ t).2.1≠(x.τ t).2.2/\(x.τ t).1=b))->os.length<=40->
  (∀o∈os,o.wf=true)->cW C x (idx os) (tks 50 k) w->cw x args vs->
  Calls P f ⟨vs⟩ w fun e w'=>∃v x' q,e= .returned v/\R q/\Rep x' q.r v/\cW C x' q.os q.tk w'/\(∀p∈q.os,p.2.wf=true)/\∀i,i<os.length->x'.bk i=x.bk i
theorem kE(cs:List SV):SV.bareL cs=cs.map SV.bare:=by
 induction cs with
 |nil=>rfl
 |cons c r ih=>simp only[SV.bareL,aP,ih]
theorem Rep.bare{x x':Sit}(hG:x'.G=x.G)(hβ:x'.bk=x.bk){sv:SV}{v:Value}(h:Rep x sv v):Rep x' sv.bare v:=by
 induction h with
 |undef v=>exact .undef v
 |dat s v h ht=>
  have h':=h.toData;rw[<-hG]at h';cases s with
  |byt l t=>exact .dat _ _ h' trivial
  |lst sz xs t=>exact .dat _ _ h' trivial
  |undef=>exact .undef v
  |bool b=>exact .dat _ _ h' trivial
  |int k n=>exact .dat _ _ h' trivial
  |u8 b=>exact .dat _ _ h' trivial
  |str l=>exact .dat _ _ h' trivial
  |nilp=>exact .dat _ _ h' trivial
  |nili=>exact .dat _ _ h' trivial
  |pp cs=>exact .dat _ _ h' trivial
  |ptr o off=>cases h
  |ap o sz i j=>cases h
  |psl o sz off n cap=>cases h
  |agg cs=>cases h
  |tup cs=>cases h
  |fn f a b=>cases h
 |ptr o off=>simp only[SV.bare];rw[<-hβ];exact .ptr o off
 |ap o sz i j=>simp only[SV.bare];rw[<-hβ];exact .ap o sz i j
 |psl o sz off n cap off' cap' h hn hc hk=>simp only[SV.bare];rw[<-hβ]at hk ⊢;exact .psl o sz off n cap off' cap' h hn hc hk
 |agg cs vs hl _ ih=>simp only[SV.bare,kE];exact .agg _ _ (by simpa using hl) fun i hi=>by rw[aW _ (by rfl)];exact ih i (by simpa using hi)
 |tup cs vs hl _ ih=>simp only[SV.bare,kE];exact .tup _ _ (by simpa using hl) fun i hi=>by rw[aW _ (by rfl)];exact ih i (by simpa using hi)
 |fn f c1 c2 v1 v2 hl1 _ hl2 _ ih1 ih2=>simp only[SV.bare,kE];exact .fn _ _ _ _ _ (by simpa using hl1) (fun i hi=>by rw[aW _ (by rfl)];exact ih1 i (by simpa using hi)) (by simpa using hl2) (fun i hi=>by rw[aW _ (by rfl)];exact ih2 i (by simpa using hi))
def Pm(x:Sit):Option Nat->Nat×Nat×Nat
 |none=>(0,0,0)
 |some t=>x.τ t
def oR(x x1:Sit)(j:Nat)(l:List (Option Nat)):Prop:=∀k,k<l.length->x1.τ (j+k)=Pm x (l.getD k none)
theorem oR.left{x x1:Sit}{j:Nat}{l r:List (Option Nat)}(h:oR x x1 j (l++r)):oR x x1 j l:=fun k hk=>by have:=h k (by simp;omega);rwa[aa,bn hk,<-aa]at this
theorem oR.right{x x1:Sit}{j:Nat}{l r:List (Option Nat)}(h:oR x x1 j (l++r)):oR x x1 (j+l.length) r:=fun k hk=>by have:=h (l.length+k) (by simp;omega);rw[aa,bA (by omega),<-aa]at this;rw[cK,this];congr 2;omega
theorem kN{t:Nat}:∀{l:List (Option Nat)},t∈cz l↔some t∈l
 |[]=>by simp[cz]
 |none::r=>by simp[cz,kN]
 |some u::r=>by simp[cz,kN]
theorem fE(l r:List (Option Nat)):cz (l++r)=cz l++cz r:=by
 induction l with
 |nil=>rfl
 |cons o l ih=>cases o<;>simp[cz,ih]
theorem Ea{x x1:Sit}(hG:x1.G=x.G)(hβ:x1.bk=x.bk){v:SV}{u:Value}(h:Rep x v u):Rep x1 v.kclip u:=by
 have hb:=h.bare hG hβ;cases v with
 |lst sz xs t=>
  cases t with
  |no=>exact hb
  |id u=>exact hb
  |clip=>
   cases xs with
   |cons y r=>exact hb
   |nil=>obtain⟨b,cap,he,_,hD,hsp⟩:=h.lst_inv;obtain⟨a',n',he'⟩:=hsp;rw[<-hG]at hD;exact .dat _ _ (hD.tok (.lst _ [] .clip) (.inr ⟨_,[],_,_,rfl,rfl⟩)) ⟨a',n',he'⟩
 |byt l t=>
  cases t with
  |no=>exact hb
  |id u=>exact hb
  |clip=>
   cases l with
   |cons y r=>exact hb
   |nil=>obtain⟨b,cap,he,_,hD,hsp⟩:=h.byt_inv;obtain⟨a',n',he'⟩:=hsp;rw[<-hG]at hD;exact .dat _ _ (hD.tok (.byt [] .clip) (.inl ⟨[],_,_,rfl,rfl⟩)) ⟨a',n',he'⟩
 |_=>exact hb
theorem xI{x x1:Sit}(hG:x1.G=x.G)(hβ:x1.bk=x.bk){cs:List SV}{u:Value}(h:Rep x (.agg cs) u):Rep x1 (.agg (cs.map SV.kclip)) u:=by
 cases h with
 |dat _ _ h _=>cases h
 |agg _ vs hl h=>
  refine .agg _ vs (by rw[aX];exact hl) fun i hi=> ?_
  rw[aX]at hi;have h1:=Ea hG hβ (h i hi);rw[aa,af hi,bq]at h1;rw[aa,aS,af hi,bt,bq];exact h1
theorem kq{x x1:Sit}(hG:x1.G=x.G)(hβ:x1.bk=x.bk){tk:List Nat}{j:Nat}{v:SV}{u:Value}(h:Rep x v u)(ht:oR x x1 j (jS tk j v).2):Rep x1 (jS tk j v).1 u:=by
 have hb:=h.bare hG hβ;cases v with
 |byt l t=>
  cases t with
  |no=>exact hb
  |clip=>have e:=ht 0 (by simp[jS]);obtain⟨b,cap,he,_,hD,hsp⟩:=h.byt_inv;obtain⟨a',n',he'⟩:=hsp;rw[<-hG]at hD;exact .dat _ _ (hD.tok (.byt l (.id j)) (.inl ⟨l,_,_,rfl,rfl⟩)) ⟨a',n',n',he',.inl rfl⟩
  |id t=>
   by_cases hc:tk.contains t=true
   ·have e:=ht 0 (by simp only[jS,hc,if_true,av];omega)
    simp only[jS,hc,if_true]at e ⊢;obtain⟨b,cap,he,_,hD,hsp⟩:=h.byt_inv;obtain⟨a',n',cap',he',hh⟩:=hsp;rw[<-hG]at hD;refine .dat _ _ (hD.tok (.byt l (.id j)) (.inl ⟨l,_,_,rfl,rfl⟩)) ⟨a',n',cap',he',hh.imp id ?_⟩;rintro⟨b,off,h1,h2⟩;exact⟨b,off,h1,by rw[fz]at e;rw[e];exact h2⟩
   ·simp only[jS,hc,if_false];exact hb
 |lst sz xs t=>
  cases t with
  |no=>exact hb
  |clip=>obtain⟨b,cap,he,_,hD,hsp⟩:=h.lst_inv;obtain⟨a',n',he'⟩:=hsp;rw[<-hG]at hD;exact .dat _ _ (hD.tok (.lst sz xs (.id j)) (.inr ⟨sz,xs,_,_,rfl,rfl⟩)) ⟨a',n',n',he',.inl rfl⟩
  |id t=>
   by_cases hc:tk.contains t=true
   ·have e:=ht 0 (by simp only[jS,hc,if_true,av];omega)
    simp only[jS,hc,if_true]at e ⊢;obtain⟨b,cap,he,_,hD,hsp⟩:=h.lst_inv;obtain⟨a',n',cap',he',hh⟩:=hsp;rw[<-hG]at hD;refine .dat _ _ (hD.tok (.lst sz xs (.id j)) (.inr ⟨sz,xs,_,_,rfl,rfl⟩)) ⟨a',n',cap',he',hh.imp id ?_⟩;rintro⟨b,off,h1,h2⟩;exact⟨b,off,h1,by rw[fz]at e;rw[e];exact h2⟩
   ·simp only[jS,hc,if_false];exact hb
 |agg cs=>exact xI hG hβ h
 |_=>exact hb
theorem oX{tk:List Nat}{j:Nat}{v:SV}:∀t∈cz (jS tk j v).2,t∈tk:=by
 intro t ht;cases v with
 |byt l q=>
  cases q with
  |id u=>
   by_cases hc:tk.contains u=true
   ·simp only[jS,hc,if_true,cz,bp]at ht;subst ht;simpa using hc
   ·simp only[jS,hc,if_false,cz]at ht;cases ht
  |_=>cases ht
 |lst sz xs q=>
  cases q with
  |id u=>
   by_cases hc:tk.contains u=true
   ·simp only[jS,hc,if_true,cz,bp]at ht;subst ht;simpa using hc
   ·simp only[jS,hc,if_false,cz]at ht;cases ht
  |_=>cases ht
 |_=>cases ht
theorem fd{x:Sit}{v:SV}{u:Value}{cs:List SV}{us:List Value}:cw x (v::cs) (u::us)↔Rep x v u/\cw x cs us:=by
 constructor
 ·intro h
  exact⟨h.2 0 (by simp),by simpa using h.1,fun i hi=>by simpa using h.2 (i+1) (by simpa using hi)⟩
 ·rintro⟨h1,h2⟩
  exact⟨by simp[h2.1],fun i hi=>by
   cases i with
   |zero=>exact h1
   |succ i=>simpa using h2.2 i (by simpa using hi)⟩
theorem FN{x x1:Sit}(hG:x1.G=x.G)(hβ:x1.bk=x.bk){tk:List Nat}{j:Nat}{v:SV}{u:Value}(h:Rep x v u)(ht:oR x x1 j (rF tk j v).2):Rep x1 (rF tk j v).1 u:=by
 cases v with
 |lst sz xs t=>
  cases t with
  |clip=>
   cases hx:xs.isEmpty with
   |true=>simp only[rF,ua,hx,ub];obtain⟨b,cap,he,_,hD,hsp⟩:=h.lst_inv;rw[<-hG]at hD;exact .dat _ _ hD hsp
   |false=>simp only[rF,ua,hx,ub]at ht ⊢;exact kq (tk:=tk) hG hβ h ht
  |no=>exact kq hG hβ h ht
  |id t=>exact kq hG hβ h ht
 |_=>exact kq hG hβ h ht
theorem QZ{tk:List Nat}{j:Nat}{v:SV}:∀t∈cz (rF tk j v).2,t∈tk:=by
 cases v with
 |lst sz xs t=>
  cases t with
  |clip=>
   cases hx:xs.isEmpty with
   |true=>intro t ht;simp[rF,ua,hx,ub,cz]at ht
   |false=>intro t ht;simp[rF,ua,hx,ub,cz]at ht
  |no=>exact oX
  |id t=>exact oX
 |_=>exact oX
theorem mn{x x1:Sit}(hG:x1.G=x.G)(hβ:x1.bk=x.bk){tk own:List Nat}:∀{cs:List SV}{us:List Value}{j i:Nat},cw x cs us->oR x x1 j (jT tk own j i cs).2->cw x1 (jT tk own j i cs).1 us
 |[],[],_,_,_,_=>⟨rfl,fun i hi=>by simp[jT]at hi⟩
 |[],_::_,_,_,h,_=>absurd h.1 (by simp)
 |_::_,[],_,_,h,_=>absurd h.1 (by simp)
 |v::r,u::us,j,i,h,ht=>by
  obtain⟨h1,h2⟩:=fd.1 h;simp only[jT]at ht ⊢;split
  ·rename_i hc
   rw[if_pos hc]at ht;exact fd.2 ⟨FN hG hβ h1 ht.left,mn hG hβ h2 ht.right⟩
  ·rename_i hc
   rw[if_neg hc]at ht;exact fd.2 ⟨h1.bare hG hβ,mn hG hβ h2 ht⟩
theorem oY{tk own:List Nat}:∀{cs:List SV}{j i:Nat},∀t∈cz (jT tk own j i cs).2,t∈tk
 |[],_,_,t,ht=>by cases ht
 |v::r,j,i,t,ht=>by
  simp only[jT]at ht;split at ht
  ·rw[fE,an]at ht
   exact ht.elim (QZ t) (oY t)
  ·exact oY t ht
theorem vh{x x1:Sit}(hG:x1.G=x.G)(hβ:x1.bk=x.bk){tk:List Nat}:∀{cs:List SV}{j:Nat}{f:Nat->Value},(∀k,k<cs.length->Rep x (cs.getD k .undef) (f k))->oR x x1 j (sM tk j cs).2->
 (sM tk j cs).1.length=cs.length/\∀k,k<cs.length->Rep x1 ((sM tk j cs).1.getD k .undef) (f k)
 |[],_,_,_,_=>⟨rfl,fun i hi=>by simp at hi⟩
 |v::r,j,f,h,ht=>by
  simp only[sM]at ht ⊢;obtain⟨h1,h2⟩:=vh (f:=fun k=>f (k+1)) hG hβ (fun k hk=>by simpa using h (k+1) (by simpa using hk)) ht.right;refine⟨by simp[h1],fun k hk=> ?_⟩;cases k with
  |zero=>exact kq hG hβ (h 0 (by simp)) ht.left
  |succ k=>simpa using h2 k (by simpa using hk)
theorem Aw{tk:List Nat}:∀{cs:List SV}{j:Nat},∀t∈cz (sM tk j cs).2,t∈tk
 |[],_,t,ht=>by cases ht
 |v::r,j,t,ht=>by simp only[sM]at ht;rw[fE,an]at ht;exact ht.elim (oX t) (Aw t)
theorem Dw{x x1:Sit}(hG:x1.G=x.G)(hβ:x1.bk=x.bk){tk:List Nat}{j o:Nat}{ob:aF}(h:dJ x w o ob)(ht:oR x x1 j (jI tk j ob).2):dJ x1 w o (jI tk j ob).1:=by
 obtain⟨cc,e,fl,fh,hO,hs,hr⟩:=h;cases ob with
 |rc cs=>obtain⟨h1,h2⟩:=vh (f:=fun k=>cc.getD k Go.undef) hG hβ hr ht;exact⟨cc,e,fl,fh,by rw[hβ];exact hO,by rw[hβ];simp only[jI,aF.size,h1]at hs ⊢;exact hs,fun k hk=>h2 k (by simpa only[jI,aF.size,h1]using hk)⟩
 |arr sz xs=>exact⟨cc,e,fl,fh,by rw[hβ];exact hO,by rw[hβ];exact hs,fun k hk=>by have:=hr k hk;simp only[jI,cn]at this ⊢;rw[hG];exact this⟩
 |bar l=>exact⟨cc,e,fl,fh,by rw[hβ];exact hO,by rw[hβ];exact hs,fun k hk=>by have:=hr k hk;simp only[jI,cn]at this ⊢;rw[hG];exact this⟩
theorem FO{tk:List Nat}{j:Nat}{ob:aF}(h:ob.wf=true):(jI tk j ob).1.wf=true:=by cases ob<;>first|rfl|exact h
theorem FP{tk:List Nat}{j:Nat}{ob:aF}:∀t∈cz (jI tk j ob).2,t∈tk:=by
 intro t ht;cases ob with
 |rc cs=>exact Aw t ht
 |_=>cases ht
theorem lE{x x1:Sit}(hG:x1.G=x.G)(hβ:x1.bk=x.bk){tk:List Nat}:∀{obs:List aF}{j:Nat}{f:Nat->Nat},(∀k,k<obs.length->dJ x w (f k) (obs.getD k (.rc [])))->oR x x1 j (eh tk j obs).2->
 (eh tk j obs).1.length=obs.length/\∀k,k<obs.length->dJ x1 w (f k) ((eh tk j obs).1.getD k (.rc []))
 |[],_,_,_,_=>⟨rfl,fun i hi=>by simp at hi⟩
 |v::r,j,f,h,ht=>by
  simp only[eh]at ht ⊢;obtain⟨h1,h2⟩:=lE (f:=fun k=>f (k+1)) hG hβ (fun k hk=>by simpa using h (k+1) (by simpa using hk)) ht.right;refine⟨by simp[h1],fun k hk=> ?_⟩;cases k with
  |zero=>exact Dw hG hβ (h 0 (by simp)) ht.left
  |succ k=>simpa using h2 k (by simpa using hk)
theorem nF{tk:List Nat}:∀{obs:List aF}{j:Nat},∀t∈cz (eh tk j obs).2,t∈tk
 |[],_,t,ht=>by cases ht
 |v::r,j,t,ht=>by simp only[eh]at ht;rw[fE,an]at ht;exact ht.elim (FP t) (nF t)
theorem nE{tk:List Nat}:∀{obs:List aF}{j:Nat},(∀o∈obs,o.wf=true)->∀o∈(eh tk j obs).1,o.wf=true
 |[],_,_,o,ho=>by cases ho
 |v::r,j,h,o,ho=>by
  simp only[eh]at ho;rcases au.1 ho with e|e
  ·rw[e];exact FO (h v (aG ..))
  ·exact nE (fun o h'=>h o (aw _ h')) o e
theorem ng{m:List Nat}{o:Nat}(h:o∈m):gI m o<m.length/\m.getD (gI m o) 0=o:=by
 induction m with
 |nil=>cases h
 |cons p r ih=>
  simp only[gI];split
  ·rename_i hp;subst hp;simp
  ·rename_i hp
   obtain⟨h1,h2⟩:=ih ((au.1 h).resolve_left (Ne.symm hp));exact⟨by simpa using h1,by simpa using h2⟩
theorem jq{l:List Nat}(h:dE l=true):l.Nodup:=by
 induction l with
 |nil=>exact List.nodup_nil
 |cons p r ih=>simp only[dE,az,cR,fc,decide_eq_false_iff_not]at h;exact eu.2 ⟨h.1,ih h.2⟩
theorem vi{l r:List Nat}(h:oZ l r=true):∀o∈l,o∈r:=by intro o ho;simp only[oZ,aY,fc,decide_eq_true_eq]at h;exact h o ho
theorem qf:∀{m:List Nat}{os:List aF},gB c m=some os->os.length=m.length/\∀i,i<m.length->c.look (m.getD i 0)=some (os.getD i (.rc []))
 |[],os,h=>by cases h;exact⟨rfl,fun i hi=>by simp at hi⟩
 |o::r,os,h=>by
  simp only[gB]at h;split at h<;>cases h;rename_i ob l h1 h2;obtain⟨h3,h4⟩:=qf h2;refine⟨by simp[h3],fun i hi=> ?_⟩;cases i with
  |zero=>exact h1
  |succ i=>simpa using h4 i (by simpa using hi)
theorem gk(mo mt:Nat->Nat)(l:List aF):ey mo mt l=l.map fun o=>o.ren mo mt:=by
 induction l with
 |nil=>rfl
 |cons p r ih=>simp only[ey,aP,ih]
theorem pr{l:List aF}{o:aF}(h:o∈l):∀k∈o.ids,k∈fG l:=by
 induction l with
 |nil=>cases h
 |cons p r ih=>
  intro k hk;simp only[fG,an];rcases au.1 h with e|e
  ·subst e;exact .inl hk
  ·exact .inr (ih e k hk)
theorem oa{l:List (Option Nat)}(h:(cz l).Nodup):∀{i j:Nat}{t u:Nat},i≠j->l.getD i none=some t->l.getD j none=some u->t≠u:=by
 have key:∀{l:List (Option Nat)},(cz l).Nodup->∀{i j:Nat}{t u:Nat},i<j->l.getD i none=some t->l.getD j none=some u->t≠u:=by
  intro l;induction l with
  |nil=>intro _ i j t u _ h1;simp at h1
  |cons o r ih=>
   intro hn i j t u hij h1 h2
   have hr:(cz r).Nodup:=by cases o with
    |none=>exact hn
    |some q=>exact(eu.1 hn).2
   cases j with
   |zero=>omega
   |succ j=>
    rw[bh]at h2;cases i with
    |zero=>
     rw[bc]at h1;subst h1
     have h3:some u∈r:=by
      rw[aa]at h2;cases hj:r[j]? with
      |none=>rw[hj]at h2;cases h2
      |some q=>rw[hj]at h2;cases h2;exact List.mem_of_getElem? hj
     intro e;subst e;exact(eu.1 hn).1 (kN.2 h3)
    |succ i=>rw[bh]at h1;exact ih hr (by omega) h1 h2
 intro i j t u hij h1 h2;rcases Nat.lt_or_gt_of_ne hij with h3|h3
 ·exact key h h3 h1 h2
 ·exact(key h h3 h2 h1).symm
theorem jA{b n t:Nat}:t∈tks b n↔b<=t/\t<b+n:=by
 unfold tks
 have:∀n k,k∈km n↔k<n:=by
  intro n;induction n with
  |zero=>intro k;simp[km]
  |succ n ih=>intro k;simp only[km,an,ih,bp];omega
 simp only[aV,this];constructor
 ·rintro⟨k,h,rfl⟩;omega
 ·rintro⟨h1,h2⟩;exact⟨t-b,by omega,by omega⟩
structure Fv(x x2:Sit)(c:CSt)(m:List Nat)(mt:List (Option Nat)):Prop where
 G:x2.G=x.G
 bk:∀i,i<m.length->x2.bk i=x.bk (m.getD i 0)
 τ:oR x x2 50 mt
 nd:m.Nodup
 ob:∀i,i<m.length->∃ob,(m.getD i 0,ob)∈c.ob
 tnd:(cz mt).Nodup
 tk:∀t∈cz mt,t∈c.tk
def Ctx.took(x2:Sit)(w:World)(n k:Nat):Ctx:=
 ⟨w,x2.G,fun b=>w.heap.size<=b\/(∃i,i<n/\(x2.bk i).1=b)\/(∃t,50<=t/\t<50+k/\(x2.τ t).2.1≠(x2.τ t).2.2/\(x2.τ t).1=b),x2.bk⟩
theorem fO{m:List Nat}{i:Nat}(h:i<m.length):m.getD i 0∈m:=by rw[aa,af h];exact bj _
theorem lK{m:List Nat}(h:m.Nodup){i j:Nat}(hi:i<m.length)(hj:j<m.length)(e:m.getD i 0=m.getD j 0):i=j:=by rw[aa,aa,af hi,af hj]at e;exact rK h hi hj e
theorem iI{l:List (Option Nat)}{i t:Nat}(h:l.getD i none=some t):t∈cz l:=by
 rw[aa]at h;cases hj:l[i]? with
 |none=>rw[hj]at h;cases h
 |some q=>rw[hj]at h;cases h;exact kN.2 (List.mem_of_getElem? hj)
theorem Fv.tok{x2:Sit}{m:List Nat}{mt:List (Option Nat)}(h:Fv x x2 c m mt){t:Nat}(h1:50<=t)(h2:t<50+mt.length):
 (x2.τ t).2.1=(x2.τ t).2.2\/∃u,mt.getD (t-50) none=some u/\x2.τ t=x.τ u/\u∈c.tk/\u∈cz mt:=by
 have e:=h.τ (t-50) (by omega);rw[show 50+(t-50)=t by omega]at e;cases hu:mt.getD (t-50) none with
 |none=>rw[hu]at e;rw[e];exact .inl rfl
 |some u=>rw[hu]at e;exact .inr ⟨u,rfl,e,h.tk u (iI hu),iI hu⟩
theorem rE{x2:Sit}{m:List Nat}{mt:List (Option Nat)}(hH:cW C x c.ob c.tk w)(h:Fv x x2 c m mt){objs:List aF}(hl:objs.length=m.length)
 (ho:∀i,i<m.length->dJ x2 w i (objs.getD i (.rc []))):cW (Ctx.took x2 w m.length mt.length) x2 (idx objs) (tks 50 mt.length) w:=by
 refine⟨fun b o v hv=>hH.per b o v (by rw[<-h.G];exact hv),fun _ _ _ hv=>hv,fun _ _ _ hv=> .inl hv,fun b hb=> .inl hb, ?_,nJ objs, ?_, ?_, ?_, ?_,rfl,rfl,rfl,aM _,fun _ _=>rfl,fun _ _=>rfl,hH.lay.mono (fun b o v hv=>by show x2.G b o=some v;rw[h.G];exact hH.g0 b o v hv)⟩
 ·intro p hp
  obtain⟨h1,h2⟩:=iO.1 hp;rw[hl]at h1;obtain⟨ob,h3⟩:=h.ob p.1 h1;refine⟨by rw[h2];exact ho p.1 h1,.inr (.inl ⟨p.1,h1,rfl⟩),fun off=> ?_⟩;rw[h.G,h.bk _ h1];exact(hH.obs _ h3).2.2 off
 ·intro p hp q hq hpq
  obtain⟨h1,_⟩:=iO.1 hp;obtain⟨h2,_⟩:=iO.1 hq;rw[hl]at h1 h2;rw[h.bk _ h1,h.bk _ h2]at hpq;obtain⟨o1,g1⟩:=h.ob _ h1;obtain⟨o2,g2⟩:=h.ob _ h2;exact lK h.nd h1 h2 (hH.inj _ g1 _ g2 hpq)
 ·intro t ht
  obtain⟨h1,h2⟩:=jA.1 ht;rcases h.tok h1 h2 with h3|⟨u,_,h4,h5,_⟩
  ·exact .inl h3
  ·by_cases hne:(x2.τ t).2.1=(x2.τ t).2.2
   ·exact .inl hne
   ·have:=hH.tks u h5
    unfold ic at this ⊢;rw[h4]at hne ⊢;rcases this with g|⟨g1,g2,g3⟩
    ·exact absurd g hne
    ·exact .inr ⟨g1,.inr (.inr ⟨t,h1,h2,by rw[h4];exact hne,by rw[h4]⟩),by rw[h.G];exact g3⟩
 ·intro t ht p hp
  obtain⟨h1,h2⟩:=jA.1 ht;obtain⟨h6,_⟩:=iO.1 hp;rw[hl]at h6;rcases h.tok h1 h2 with h3|⟨u,_,h4,h5,_⟩
  ·exact .inr h3
  ·obtain⟨o1,g1⟩:=h.ob _ h6
   rw[h4,h.bk _ h6];exact hH.tko u h5 _ g1
 ·intro t ht u hu htu
  obtain⟨h1,h2⟩:=jA.1 ht;obtain⟨h3,h4⟩:=jA.1 hu;rcases h.tok h1 h2 with g|⟨t',g1,g2,g3,_⟩
  ·exact .inr (.inl g)
  ·rcases h.tok h3 h4 with k|⟨u',k1,k2,k3,_⟩
   ·exact .inr (.inr k)
   ·rw[g2,k2]
    exact hH.tkd t' g3 u' k3 (oa h.tnd (by omega) g1 k1)
end Go.Sy
namespace Go.Sy
variable [bg]
variable {P : Program} {C : Ctx} {x : Sit} {a : Act} {w : World} {N : Nat} {c c' : CSt} {s : St}
theorem Gn(d:Nat)(l:List Nat):rk d l=l.map (jz d):=by
 induction l with
 |nil=>rfl
 |cons p r ih=>simp only[rk,aP,ih]
theorem nL{k:List Nat}{t:Nat}:∀{l:List Nat},t∈mP k l↔t∈l/\t∉k
 |[]=>by simp[mP]
 |p::r=>by
  simp only[mP];split
  ·rename_i hc
   have hp:p∈k:=by simpa using hc
   rw[nL,au];constructor
   ·rintro⟨h1,h2⟩;exact⟨.inr h1,h2⟩
   ·rintro⟨h1|h1,h2⟩
    ·exact absurd (h1 ▸ hp) h2
    ·exact⟨h1,h2⟩
  ·rename_i hc
   have hp:p∉k:=by simpa using hc
   rw[au,nL,au];constructor
   ·rintro(h1|⟨h1,h2⟩)
    ·exact⟨.inl h1,h1 ▸ hp⟩
    ·exact⟨.inr h1,h2⟩
   ·rintro⟨h1|h1,h2⟩
    ·exact .inl h1
    ·exact .inr ⟨h1,h2⟩
theorem rM{t:Nat}:∀{r l:List Nat},t∈ry l r↔t∈r\/t∈l
 |[],l=>by simp[ry]
 |p::r,l=>by
  simp only[ry];rw[rM,kx,au];constructor
  ·rintro(h|h|h)
   ·exact .inl (.inr h)
   ·exact .inl (.inl h)
   ·exact .inr h
  ·rintro((h|h)|h)
   ·exact .inr (.inl h)
   ·exact .inl h
   ·exact .inr (.inr h)
theorem nK{p:Nat×aF}:∀{r l:List (Nat×aF)},p∈rx l r->p∈r\/p∈l
 |[],l,h=> .inr h
 |q::r,l,h=>by
  simp only[rx]at h;rcases nK h with e|e
  ·exact .inl (aw _ e)
  ·rcases kv e with e|e
   ·exact .inl (e ▸ aG ..)
   ·exact .inr e
theorem AE:∀{r l:List (Nat×aF)},(l.map cI).Pairwise (· < ·)->((rx l r).map cI).Pairwise (· < ·)
 |[],_,h=>h
 |_::r,_,h=>AE (r:=r) (ud h)
theorem yu{mo mt:Nat->Nat}{o:aF}(h:o.wf=true):(o.ren mo mt).wf=true:=by cases o<;>first|rfl|exact h
theorem wG{x2:Sit}{m:List Nat}{mt:List (Option Nat)}(hold:cW C x c.ob c.tk w)(h:Fv x x2 c m mt){x':Sit}{w':World}{q:ep}(hH:cW (Ctx.took x2 w m.length mt.length) x' q.os q.tk w'){D:Nat}
 (hm:∀o∈m,inR D o=false) (hos:∀p∈q.os,p.1<1000/\(∀k∈p.2.ids,k<1000)/\∀k∈p.2.toks,k<1000) (htk:∀t∈q.tk,t<1000) (hg:∀i,i<m.length->x'.bk i=x2.bk i):
 ∃x3:Sit,x3.G=x'.G/\(∀b o v,x.G b o=some v->x3.G b o=some v)/\(∀k,k<1000->x3.bk (iv D m k)=x'.bk k)/\(∀k,k<1000->x3.τ (jz D k)=x'.τ k)/\
  (∀k,¬((D+1)*1000<=k/\k<(D+2)*1000)->x3.bk k=x.bk k)/\(∀k,¬((D+1)*1000<=k/\k<(D+2)*1000)->x3.τ k=x.τ k)/\
  cW C x3 (pb D m q.os++fo m (bF ((D+1)*1000) ((D+2)*1000) c.ob)) (rk D q.tk++mP (cz mt) (cA ((D+1)*1000) ((D+2)*1000) c.tk)) w':=by
 let lo:=(D+1)*1000
 let hi:=(D+2)*1000
 have hlo:lo=(D+1)*1000:=rfl;have hhi:hi=(D+2)*1000:=rfl
 let β2:Nat->Nat×Nat:=fun k=>if inR D k then x'.bk (k-lo)else x.bk k
 let τ2:Nat->Nat×Nat×Nat:=fun k=>if inR D k then x'.τ (k-lo)else x.τ k
 have hin:∀k,k<1000->inR D (lo+k)=true:=by intro k hk;simp only[inR,az,decide_eq_true_eq];omega
 have hout:∀k,¬(lo<=k/\k<hi)->inR D k=false:=by intro k hk;rw[Bool.eq_false_iff];intro h;simp only[inR,az,decide_eq_true_eq]at h;exact hk h
 have hβ2:∀k,¬(lo<=k/\k<hi)->β2 k=x.bk k:=fun k hk=>by simp only[β2];rw[hout k hk];rfl
 have hτ2:∀k,¬(lo<=k/\k<hi)->τ2 k=x.τ k:=fun k hk=>by simp only[τ2];rw[hout k hk];rfl
 have hβnew:∀k,k<1000->β2 (iv D m k)=x'.bk k:=by
  intro k hk
  by_cases hkm:k<m.length
  ·have h1:iv D m k=m.getD k 0:=if_pos hkm
   simp only[β2];rw[h1,hm _ (fO hkm),hg k hkm,h.bk k hkm];rfl
  ·have h1:iv D m k=lo+k:=if_neg hkm
   simp only[β2];rw[h1,hin k hk,if_pos rfl];congr 1;omega
 have hτnew:∀k,k<1000->τ2 (jz D k)=x'.τ k:=by intro k hk;have h1:jz D k=lo+k:=rfl;simp only[τ2];rw[h1,hin k hk,if_pos rfl];congr 1;omega
 have hG:∀b o v,x.G b o=some v->x'.G b o=some v:=fun b o v hv=>hH.g0 b o v (by show x2.G b o=_;rw[h.G];exact hv)
 refine⟨⟨x'.G,β2,τ2⟩,rfl,hG,hβnew,hτnew,hβ2,hτ2, ?_⟩;rw[vu,Gn]
 have hmine:∀b,(Ctx.took x2 w m.length mt.length).mine b->C.mine b:=by
  rintro b (h1|⟨i,hi,rfl⟩|⟨t,h1,h2,h3,rfl⟩)
  ·exact hold.new b (cr hold.size h1)
  ·obtain⟨ob,hob⟩:=h.ob i hi
   rw[h.bk i hi];exact(hold.obs _ hob).2.1
  ·rcases h.tok h1 h2 with g|⟨u,_,g1,g2,_⟩
   ·exact absurd g h3
   ·rw[g1]at h3 ⊢
    rcases hold.tks u g2 with k|⟨_,k,_⟩
    ·exact absurd k h3
    ·exact k
 have hkeep:∀b,b<w.heap.size->(∀i,i<m.length->(x.bk (m.getD i 0)).1≠b)->(∀u∈cz mt,(x.τ u).2.1=(x.τ u).2.2\/(x.τ u).1≠b)->w'.heap[b]? =w.heap[b]? /\((∀off,x.G b off=none)->∀off,x'.G b off=none)/\
  (∀off,x.G b off=none->x'.G b off=none):=by
  intro b hb hne hnt
  have hnm:¬(Ctx.took x2 w m.length mt.length).mine b:=by
   rintro(h1|⟨i,hi,h1⟩|⟨t,h1,h2,h3,h4⟩)
   ·omega
   ·rw[h.bk i hi]at h1;exact hne i hi h1
   ·rcases h.tok h1 h2 with g|⟨u,_,g1,_,g3⟩
    ·exact h3 g
    ·rw[g1]at h3 h4
     rcases hnt u g3 with k|k
     ·exact h3 k
     ·exact k h4
  have one:∀off,x.G b off=none->x'.G b off=none:=by
   intro off ho;cases hg:x'.G b off with
   |none=>rfl
   |some v=>
    rcases hH.gm b off v hg with h1|h1
    ·change x2.G b off=some v at h1;rw[h.G,ho]at h1;cases h1
    ·exact absurd h1 hnm
  exact⟨hH.ext b hnm,fun h off=>one off (h off),one⟩
 have hlow:∀p∈fo m (bF lo hi c.ob),∃ob,(p.1,ob)∈c.ob/\p.2=ob.purge lo hi/\¬(lo<=p.1/\p.1<hi)/\p.1∉m/\(∀i,i<m.length->(x.bk (m.getD i 0)).1≠(x.bk p.1).1)/\(∀u∈cz mt,(x.τ u).2.1=(x.τ u).2.2\/(x.τ u).1≠(x.bk p.1).1)/\(x.bk p.1).1<w.heap.size:=by
  intro p hp;obtain⟨h1,h2⟩:=js.1 hp;obtain⟨h3,ob,h4,h5⟩:=cy h1;refine⟨ob,h4,h5,h3,h2,fun i hi e=> ?_,fun u hu=> ?_, ?_⟩
  ·obtain⟨ob',hob'⟩:=h.ob i hi
   have:=hold.inj _ hob' _ h4 e;simp only at this;apply h2;rw[<-this];exact fO hi
  ·exact(hold.tko u (h.tk u hu) _ h4).symm
  ·obtain⟨⟨c,e,fl,fh,hO,_⟩,_⟩:=hold.obs _ h4
   exact hO.lt
 have hnew:∀p∈q.os.map (fun p=>(iv D m p.1,p.2.ren (iv D m) (jz D))),∃r∈q.os,p=(iv D m r.1,r.2.ren (iv D m) (jz D))/\β2 p.1=x'.bk r.1:=by intro p hp;obtain⟨r,hr,rfl⟩:=aV.1 hp;exact⟨r,hr,rfl,hβnew _ (hos r hr).1⟩
 have hnewmine:∀r∈q.os,w.heap.size<=(x'.bk r.1).1\/(∃i,i<m.length/\(x.bk (m.getD i 0)).1=(x'.bk r.1).1)\/(∃u∈cz mt,(x.τ u).2.1≠(x.τ u).2.2/\(x.τ u).1=(x'.bk r.1).1):=by
  intro r hr;rcases (hH.obs r hr).2.1 with h1|⟨i,hi,h1⟩|⟨t,h1,h2,h3,h4⟩
  ·exact .inl h1
  ·exact .inr (.inl ⟨i,hi,by rw[<-h.bk i hi];exact h1⟩)
  ·rcases h.tok h1 h2 with g|⟨u,_,g1,_,g3⟩
   ·exact absurd g h3
   ·rw[g1]at h3 h4;exact .inr (.inr ⟨u,g3,h3,h4⟩)
 have htmine:∀t∈q.tk,(x'.τ t).2.1=(x'.τ t).2.2\/w.heap.size<=(x'.τ t).1\/(∃i,i<m.length/\(x.bk (m.getD i 0)).1=(x'.τ t).1)\/(∃u∈cz mt,(x.τ u).2.1≠(x.τ u).2.2/\(x.τ u).1=(x'.τ t).1):=by
  intro t ht;rcases hH.tks t ht with k|⟨_,k,_⟩
  ·exact .inl k
  ·right
   rcases k with h1|⟨i,hi,h1⟩|⟨t',h1,h2,h3,h4⟩
   ·exact .inl h1
   ·exact .inr (.inl ⟨i,hi,by rw[<-h.bk i hi];exact h1⟩)
   ·rcases h.tok h1 h2 with g|⟨u,_,g1,_,g3⟩
    ·exact absurd g h3
    ·rw[g1]at h3 h4;exact .inr (.inr ⟨u,g3,h3,h4⟩)
 have htold:∀t∈mP (cz mt) (cA lo hi c.tk),t∈c.tk/\¬(lo<=t/\t<hi)/\t∉cz mt:=fun t ht=>by obtain⟨h1,h2⟩:=nL.1 ht;obtain⟨h3,h4⟩:=bI.1 h1;exact⟨h3,h4,h2⟩
 have htblock:∀t∈c.tk,t∉cz mt->(x.τ t).2.1=(x.τ t).2.2\/((x.τ t).1<w.heap.size/\(∀i,i<m.length->(x.bk (m.getD i 0)).1≠(x.τ t).1)/\(∀u∈cz mt,(x.τ u).2.1=(x.τ u).2.2\/(x.τ u).1≠(x.τ t).1)):=by
  intro t ht hnt;rcases hold.tks t ht with h1|⟨⟨c,e,fl,fh,hO,_⟩,_⟩
  ·exact .inl h1
  ·by_cases he:(x.τ t).2.1=(x.τ t).2.2
   ·exact .inl he
   ·refine .inr ⟨hO.lt,fun i hi e'=> ?_,fun u hu=> ?_⟩
    ·obtain⟨ob,hob⟩:=h.ob i hi
     rcases hold.tko t ht _ hob with h1|h1
     ·exact h1 e'.symm
     ·exact he h1
    ·rcases hold.tkd u (h.tk u hu) t ht (fun e=>hnt (e ▸ hu))with k|k|k
     ·exact .inr k
     ·exact .inl k
     ·exact absurd k he
 refine⟨hH.per,fun b o v hv=>hG _ _ _ (hold.g0 b o v hv), ?_,hold.new, ?_, ?_, ?_, ?_, ?_, ?_,hH.os.trans hold.os,hH.tape.trans hold.tape,hH.output.trans hold.output,cr hold.size hH.size, ?_,fun i hi=>(hβ2 i (by omega)).trans (hold.pin i hi),hold.lay⟩
 ·intro b o v hv
  rcases hH.gm b o v hv with h1|h1
  ·exact hold.gm b o v (by rw[<-h.G];exact h1)
  ·exact .inr (hmine b h1)
 ·intro p hp
  rcases an.1 hp with hp|hp
  ·obtain⟨r,hr,rfl,hb⟩:=hnew p hp
   obtain⟨h1,h2,h3⟩:=hH.obs r hr;refine⟨h1.renF (x2:=⟨x'.G,β2,τ2⟩) (fun _ _ _ h=>h) (hβnew _ (hos r hr).1) (fun k hk=>hβnew k ((hos r hr).2.1 k hk)) (fun t ht=>hτnew t ((hos r hr).2.2 t ht)), ?_,fun off=> ?_⟩
   ·show C.mine (β2 (iv D m r.1)).1;rw[hβnew _ (hos r hr).1];exact hmine _ h2
   ·show x'.G (β2 (iv D m r.1)).1 off=none;rw[hβnew _ (hos r hr).1];exact h3 off
  ·obtain⟨ob,h1,h2,h3,h4,h5,h6,h7⟩:=hlow p hp
   obtain⟨g1,g2,g3⟩:=hold.obs _ h1;obtain⟨k1,k2,_⟩:=hkeep _ h7 h5 h6;have hb:β2 p.1=x.bk p.1:=hβ2 _ h3;refine⟨?_,by show C.mine (β2 p.1).1;rw[hb];exact g2,fun off=>by show x'.G (β2 p.1).1 off=none;rw[hb];exact k2 g3 off⟩;rw[h2];exact dJ.of_heap (x':=⟨x'.G,β2,τ2⟩) g1 k1 hG hβ2 hτ2 h3
 ·rw[bx,List.nodup_append]
  refine⟨?_, ?_, ?_⟩
  ·rw[List.map_map]
   have hnd':=gy.1 hH.nd;refine gy.2 (List.Pairwise.imp_of_mem (fun{p r} hp hr hne=> ?_) hnd');intro e;simp only[Function.comp]at e;have:(x'.bk p.1).1=(x'.bk r.1).1:=by rw[<-hβnew _ (hos p hp).1,<-hβnew _ (hos r hr).1,e]
   exact hne (hH.inj p hp r hr this)
  ·have h1:(fo m (bF lo hi c.ob)).Sublist (bF lo hi c.ob):=gZ _ _
   refine wE.sublist (h1.map cI) ?_;rw[eV];exact hold.nd.filter _
  ·intro o1 h1 o2 h2 e
   subst e;obtain⟨p,hp,rfl⟩:=aV.1 h1;obtain⟨r,hr,hre⟩:=aV.1 h2;obtain⟨u,hu,rfl⟩:=aV.1 hp;obtain⟨ob,k1,k2,k3,k4,_⟩:=hlow r hr;simp only at hre
   by_cases hum:u.1<m.length
   ·apply k4;rw[hre];show iv D m u.1∈m;unfold iv;rw[if_pos hum];exact fO hum
   ·apply k3;rw[hre];show lo<=iv D m u.1/\iv D m u.1<hi
    unfold iv;rw[if_neg hum];have:=(hos u hu).1;omega
 ·intro p hp r hr hpr
  change (β2 p.1).1=(β2 r.1).1 at hpr;rcases an.1 hp with hp|hp<;>rcases an.1 hr with hr|hr
  ·obtain⟨p',hp',rfl,hb⟩:=hnew p hp
   obtain⟨r',hr',rfl,hb'⟩:=hnew r hr;rw[hb,hb']at hpr;have:=hH.inj p' hp' r' hr' hpr;simp only;rw[this]
  ·obtain⟨p',hp',rfl,hb⟩:=hnew p hp
   obtain⟨ob,k1,k2,k3,k4,k5,k6,k7⟩:=hlow r hr;rw[hb,hβ2 _ k3]at hpr;rcases hnewmine p' hp' with h1|⟨i,hi,h1⟩|⟨u,hu,h1,h2⟩
   ·omega
   ·exact absurd (h1.trans hpr) (k5 i hi)
   ·rcases k6 u hu with g|g
    ·exact absurd g h1
    ·exact absurd (h2.trans hpr) g
  ·obtain⟨r',hr',rfl,hb⟩:=hnew r hr
   obtain⟨ob,k1,k2,k3,k4,k5,k6,k7⟩:=hlow p hp;rw[hb,hβ2 _ k3]at hpr;rcases hnewmine r' hr' with h1|⟨i,hi,h1⟩|⟨u,hu,h1,h2⟩
   ·omega
   ·exact absurd (h1.trans hpr.symm) (k5 i hi)
   ·rcases k6 u hu with g|g
    ·exact absurd g h1
    ·exact absurd (h2.trans hpr.symm) g
  ·obtain⟨ob,k1,k2,k3,_⟩:=hlow p hp
   obtain⟨ob',k1',k2',k3',_⟩:=hlow r hr;rw[hβ2 _ k3,hβ2 _ k3']at hpr;exact hold.inj (p.1,ob) k1 (r.1,ob') k1' hpr
 ·intro t ht
  rcases an.1 ht with ht|ht
  ·obtain⟨u,hu,rfl⟩:=aV.1 ht
   have:=hH.tks u hu;unfold ic at this ⊢;simp only[hτnew u (htk u hu)];exact this.imp id fun⟨h1,h2,h3⟩=>⟨h1,hmine _ h2,h3⟩
  ·obtain⟨h1,h2,h3⟩:=htold t ht
   have:=hold.tks t h1;unfold ic at this ⊢;simp only[hτ2 t h2];rcases this with g|⟨⟨c,e,fl,fh,hO,hc⟩,h4,h5⟩
   ·exact .inl g
   ·rcases htblock t h1 h3 with g|⟨k1,k2,k3⟩
    ·exact .inl g
    ·obtain⟨g1,_,g2⟩:=hkeep _ k1 k2 k3
     exact .inr ⟨⟨c,e,fl,fh,hO.of_heap g1,hc⟩,h4,fun o ho1 ho2=>g2 o (h5 o ho1 ho2)⟩
 ·intro t ht p hp
  rcases an.1 ht with ht|ht<;>rcases an.1 hp with hp|hp
  ·obtain⟨u,hu,rfl⟩:=aV.1 ht
   obtain⟨r,hr,rfl,hb⟩:=hnew p hp;show(τ2 (jz D u)).1≠(β2 (iv D m r.1)).1\/(τ2 (jz D u)).2.1=(τ2 (jz D u)).2.2;rw[hτnew u (htk u hu),hβnew _ (hos r hr).1];exact hH.tko u hu r hr
  ·obtain⟨u,hu,rfl⟩:=aV.1 ht
   obtain⟨ob,k1,k2,k3,k4,k5,k6,k7⟩:=hlow p hp;show(τ2 (jz D u)).1≠(β2 p.1).1\/(τ2 (jz D u)).2.1=(τ2 (jz D u)).2.2;rw[hτnew u (htk u hu),hβ2 _ k3];rcases htmine u hu with g|g|⟨i,hi,g⟩|⟨v,hv,g1,g2⟩
   ·exact .inr g
   ·left;intro e;omega
   ·left;intro e;exact k5 i hi (g.trans e)
   ·left;intro e
    rcases k6 v hv with k|k
    ·exact g1 k
    ·exact k (g2.trans e)
  ·obtain⟨h1,h2,h3⟩:=htold t ht
   obtain⟨r,hr,rfl,hb⟩:=hnew p hp;show(τ2 t).1≠(β2 (iv D m r.1)).1\/(τ2 t).2.1=(τ2 t).2.2;rw[hτ2 t h2,hβnew _ (hos r hr).1];rcases htblock t h1 h3 with g|⟨k1,k2,k3⟩
   ·exact .inr g
   ·left;intro e
    rcases hnewmine r hr with g|⟨i,hi,g⟩|⟨v,hv,g1,g2⟩
    ·omega
    ·exact k2 i hi (g.trans e.symm)
    ·rcases k3 v hv with k|k
     ·exact g1 k
     ·exact k (g2.trans e.symm)
  ·obtain⟨h1,h2,h3⟩:=htold t ht
   obtain⟨ob,k1,k2,k3,_⟩:=hlow p hp;show(τ2 t).1≠(β2 p.1).1\/(τ2 t).2.1=(τ2 t).2.2;rw[hτ2 t h2,hβ2 _ k3];exact hold.tko t h1 (p.1,ob) k1
 ·intro t ht u hu htu
  show lz (τ2 t) (τ2 u)\/(τ2 t).2.1=(τ2 t).2.2\/(τ2 u).2.1=(τ2 u).2.2;rcases an.1 ht with ht|ht<;>rcases an.1 hu with hu|hu
  ·obtain⟨t',ht',rfl⟩:=aV.1 ht
   obtain⟨u',hu',rfl⟩:=aV.1 hu;rw[hτnew t' (htk t' ht'),hτnew u' (htk u' hu')];exact hH.tkd t' ht' u' hu' (fun e=>htu (by rw[e]))
  ·obtain⟨t',ht',rfl⟩:=aV.1 ht
   obtain⟨h1,h2,h3⟩:=htold u hu;rw[hτnew t' (htk t' ht'),hτ2 u h2];rcases htblock u h1 h3 with k|⟨k1,k2,k3⟩
   ·exact .inr (.inr k)
   ·rcases htmine t' ht' with g|g|⟨i,hi,g⟩|⟨v,hv,g1,g2⟩
    ·exact .inr (.inl g)
    ·exact .inl fun e=>by omega
    ·exact .inl fun e=>k2 i hi (g.trans e)
    ·refine .inl fun e=> ?_
     rcases k3 v hv with k|k
     ·exact g1 k
     ·exact k (g2.trans e)
  ·obtain⟨u',hu',rfl⟩:=aV.1 hu
   obtain⟨h1,h2,h3⟩:=htold t ht;rw[hτnew u' (htk u' hu'),hτ2 t h2];rcases htblock t h1 h3 with k|⟨k1,k2,k3⟩
   ·exact .inr (.inl k)
   ·rcases htmine u' hu' with g|g|⟨i,hi,g⟩|⟨v,hv,g1,g2⟩
    ·exact .inr (.inr g)
    ·exact .inl fun e=>by omega
    ·exact .inl fun e=>k2 i hi (g.trans e.symm)
    ·refine .inl fun e=> ?_
     rcases k3 v hv with k|k
     ·exact g1 k
     ·exact k (g2.trans e.symm)
  ·obtain⟨h1,h2,_⟩:=htold t ht
   obtain⟨h3,h4,_⟩:=htold u hu;rw[hτ2 t h2,hτ2 u h4];exact hold.tkd t h1 u h3 htu
 ·intro b hb
  have hnm:¬(Ctx.took x2 w m.length mt.length).mine b:=fun h=>hb (hmine b h)
  exact(hH.ext b hnm).trans (hold.ext b hb)
end Go.Sy
namespace Go.Sy
variable [bg]
variable {P : Program} {C : Ctx} {x : Sit} {a : Act} {w : World} {N : Nat} {c c' : CSt} {s : St}
theorem wH(t:Tok):t.ren (fun k=>k)=t:=by cases t<;>rfl
theorem xdy(sv:SV):sv.ren (fun k=>k) (fun k=>k)=sv:=by
 refine SV.rec (motive_1:=fun sv=>sv.ren (fun k=>k) (fun k=>k)=sv) (motive_2:=fun _=>True) (motive_3:=fun l=>SV.renL (fun k=>k) (fun k=>k) l=l)
  ?_ ?_ ?_ ?_ ?_ ?_ ?_ ?_ ?_ ?_ ?_ ?_ ?_ ?_ ?_ ?_ ?_ ?_ ?_ ?_ sv
 all_goals intros
 all_goals first
  |trivial
  |rfl
  |(simp only[SV.ren,SV.renL,wH];done)
  |(simp only[SV.ren,SV.renL, *])
theorem xdk{q:ep}(h:q.small=true):(∀p∈q.os,p.1<1000/\(∀k∈p.2.ids,k<1000)/\∀k∈p.2.toks,k<1000)/\(∀k∈q.r.ids,k<1000)/\(∀k∈q.r.toks,k<1000)/\∀k∈q.tk,k<1000:=by simp only[ep.small,az,aY,decide_eq_true_eq]at h;obtain⟨⟨⟨h1,h2⟩,h3⟩,h4⟩:=h;exact⟨fun p hp=>⟨(h1 p hp).1.1,(h1 p hp).1.2,(h1 p hp).2⟩,h2,h3,h4⟩
theorem og{d:Option Nat}{m:List Nat}{mt:List (Option Nat)}{q:ep}{x2 x':Sit}{w':World}{v:Value}(hM:aO C x s a w)(hS:Sim N c s)(hd:∀k,d=some k->k<N)(h:Fv x x2 c m mt)
 (hH:cW (Ctx.took x2 w m.length mt.length) x' q.os q.tk w') (hr:Rep x' q.r v) (hwf:∀p∈q.os,p.2.wf=true) (hg:∀i,i<m.length->x'.bk i=x2.bk i) (hm:∀o∈m,inR (d.getD 0) o=false) (hs:q.small=true):
 M C N (jQ c d m (cz mt) q) (a.put d v) w':=by
 obtain⟨s1,s2,s3,s4⟩:=xdk hs;have hE:=hS.exact hM;obtain⟨x3,g1,g2,g3,g4,g5,g6,g7⟩:=wG hE.heap h hH hm s1 s4 hg
 let c3:CSt:=⟨dv ((d.getD 0+1)*1000) ((d.getD 0+2)*1000) c.tm,rx (fo m (bF ((d.getD 0+1)*1000) ((d.getD 0+2)*1000) c.ob)) (pb (d.getD 0) m q.os),
  ry (mP (cz mt) (cA ((d.getD 0+1)*1000) ((d.getD 0+2)*1000) c.tk)) (rk (d.getD 0) q.tk)⟩
 have hI:Inv N c3:=by
  refine⟨fun p hp=> ?_,AE ?_,fun p hp=> ?_⟩
  ·obtain⟨r,hr,e⟩:=jr hp
   rw[e];exact hS.inv.dom r hr
  ·exact List.Pairwise.sublist ((gZ _ _).map cI) (vk hS.inv.so)
  ·rcases nK hp with e|e
   ·rw[vu]at e
    obtain⟨r,hr,rfl⟩:=aV.1 e;exact yu (hwf r hr)
   ·obtain⟨_,ob,h1,h2⟩:=cy (js.1 e).1
    rw[h2];exact pW (hS.inv.wf _ h1)
 have hM3:aO C x3 (c3.st N) a w':=by
  refine⟨⟨?_,fun i hi=> ?_⟩,hM.defers,g7.only (fun p hp=> ?_) (i9 hI.so) (fun t ht=> ?_)⟩
  ·have:=hE.tm.1;simpa[CSt.st]using this
  ·have hiN:i<N:=by simpa[CSt.st]using hi
   have h1:=hE.tm.2 i (by simpa[CSt.st]using hiN);simp only[CSt.st,aa,aS,cN hiN,bt,bq]at h1 ⊢;have e:c3.get i=(c.get i).purge ((d.getD 0+1)*1000) ((d.getD 0+2)*1000):=gi _ _ i c.tm;rw[e];exact h1.mono (x':=x3) g2 g5 g6
  ·rcases nK hp with e|e
   ·exact an.2 (.inl e)
   ·exact an.2 (.inr e)
  ·rcases rM.1 ht with e|e
   ·exact an.2 (.inl e)
   ·exact an.2 (.inr e)
 refine⟨x3,_,hM3.put d (c:=q.r.ren (iv (d.getD 0) m) (jz (d.getD 0))) ?_,(Sim.of hI).put hd _⟩;exact Rep.renF (x:=x') (x2:=x3) (fun b o v hv=>by rw[g1];exact hv) hr (fun k hk=>g3 k (s2 k hk)) (fun t ht=>g4 t (s3 t ht))
theorem xU{call:db}{g:Nat}{d:Option Nat}{as:List SV}{vs:List Value}(hM:aO C x s a w)(hS:Sim N c s)(hd:∀k,d=some k->k<N)(hsp:∀as os k q,call g as os k=some q->kW P g as os k (· =q))
 (hc:mM c d (call g (SV.bareL as) [] 0)=some c') (hvs:cw x as vs):Calls P g ⟨vs⟩ w fun en w'=>∃v,en= .returned v/\M C N c' (a.put d v) w':=by
 cases hq:call g (SV.bareL as) [] 0 with
 |none=>rw[hq]at hc;cases hc
 |some q=>
  rw[hq]at hc
  have hb:cw x (SV.bareL as) vs:=by rw[kE];refine⟨by simpa using hvs.1,fun i hi=> ?_⟩;rw[aW _ (by rfl)];exact(hvs.2 i (by simpa using hi)).bare rfl rfl
  obtain⟨_,hS'⟩:=hsp _ _ _ _ hq
  by_cases hbare:q.bare=true
  ·simp only[mM,hbare,oC,ax.injEq]at hc
   subst hc;have hcal:=uZ (m:=[]) (os:=[]) (mo:=fun k=>k) (mt:=fun k=>k) hM (fun i hi=>by simp at hi) rfl (by simp) (fun i hi=>by simp at hi);refine(hS' (Ctx.callee x w [] (x.back (fun k=>k) (fun k=>k)).bk) x w vs rfl rfl ?_ (by simp) (by simp) hcal hb).mono ?_
   ·rintro b (h|⟨i,hi,_⟩)
    ·exact .inl h
    ·simp at hi
   ·rintro en w' ⟨v,x',q',rfl,hq',hr,hH,hwf,_⟩
    subst hq';simp only[ep.bare,az,List.isEmpty_iff]at hbare;obtain⟨⟨⟨b1,b2⟩,b3⟩,b4⟩:=hbare
    obtain⟨hG,hA⟩:=xO (m:=[]) (os:=[]) (mo:=fun k=>k) (mt:=fun k=>k) (lo:=0) (hi:=0) (β2:=x.bk) (τ2:=x.τ) hM rfl (fun i hi=>by simp at hi) hH (fun i hi=>by simp at hi) (fun i hi=>by omega) (fun _ _=>rfl) (fun _ _=>rfl)
     (fun p hp=>by rw[b1]at hp;cases hp) (fun p hp=>by rw[b1]at hp;cases hp) (fun p hp=>by rw[b1]at hp;cases hp) (fun p hp=>by rw[b1]at hp;cases hp) (fun t ht=>by rw[b2]at ht;cases ht)
    have hA':cW C ⟨x'.G,x.bk,x.τ⟩ s.ob s.tk w':=by
     refine hA.only (fun p hp=> ?_) hM.heap.nd (fun t ht=> ?_)
     ·exact an.2 (.inr (js.2 ⟨by rw[Gr];exact hp,by simp⟩))
     ·exact an.2 (.inr (bI.2 ⟨ht,by omega⟩))
    refine⟨v,rfl,⟨x'.G,x.bk,x.τ⟩,_, ?_,hS.put hd q'.r⟩;refine aO.put ⟨cw.grow (x:=x) (x':=⟨x'.G,x.bk,x.τ⟩) hG rfl rfl hM.tm,hM.defers,hA'⟩ d ?_;have:=Rep.renF (x:=x') (x2:=⟨x'.G,x.bk,x.τ⟩) (mo:=fun k=>k) (mt:=fun k=>k) (fun _ _ _ h=>h) hr (fun k hk=>by rw[b3]at hk;cases hk) (fun t ht=>by rw[b4]at ht;cases ht);rwa[xdy]at this
  ·have hbf:q.bare=false:=by simpa using hbare
   simp only[mM,hbf,oC]at hc;cases hsm:q.small with
   |false=>rw[hsm]at hc;cases hc
   |true=>
    rw[hsm]at hc;simp only[xW,ax.injEq]at hc;subst hc;have hE:=hS.exact hM;have hT:Fv x x c [] []:=⟨rfl,fun i hi=>by simp at hi,fun k hk=>by simp at hk,by simp,fun i hi=>by simp at hi,by simp[cz],fun t ht=>by simp[cz]at ht⟩;refine(hS' (Ctx.took x w 0 0) x w vs rfl rfl ?_ (by simp) (by simp) (rE hE.heap hT rfl (fun i hi=>by simp at hi)) hb).mono ?_
    ·rintro b h;exact h
    ·rintro en w' ⟨v,x',q',rfl,hq',hr,hH,hwf,_⟩
     subst hq';exact⟨v,rfl,og hM hS hd hT hH hr hwf (fun i hi=>by simp at hi) (fun o ho=>by simp at ho) hsm⟩
theorem wS{call:db}{sg:Sig}{g:Nat}{d:Option Nat}{as:List SV}{vs:List Value}(hM:aO C x s a w)(hS:Sim N c s)(hd:∀k,d=some k->k<N)(hsp:∀as os k q,call g as os k=some q->kW P g as os k (· =q))
 (hc:jJ call sg d g (c,as)=some c') (hvs:cw x as vs):Calls P g ⟨vs⟩ w fun en w'=>∃v,en= .returned v/\M C N c' (a.put d v) w':=by
 simp only[jJ]at hc;generalize hz:jT c.tk sg.own 50 0 as=z at hc;obtain⟨as2,mt1⟩:=z;simp only[ou]at hc;generalize dL c 60 [] (SV.idsL as2)=m at hc;cases ho:gB c m with
 |none=>rw[ho]at hc;cases hc
 |some os0=>
  rw[ho]at hc;simp only[lG]at hc;generalize hz2:eh c.tk (50+mt1.length) os0=z2 at hc;obtain⟨os,mt2⟩:=z2;simp only[ot]at hc;cases hb:(oZ (SV.idsL as2++fG os) m&&dE m&&dE (cz (mt1++mt2))&&decide (m.length<=40)&&m.all fun o=> !inR (d.getD 0) o)with
  |false=>rw[hb]at hc;cases hc
  |true=>
   rw[hb]at hc;simp only[oq]at hc;simp only[az,decide_eq_true_eq,aY,cR]at hb;obtain⟨⟨⟨⟨hsub,hmn⟩,htn⟩,hlen⟩,hin⟩:=hb;cases hq:call g (SV.renL (gI m) id as2) (ey (gI m) id os) (mt1.length+mt2.length)with
   |none=>rw[hq]at hc;cases hc
   |some q=>
    rw[hq]at hc;simp only[o7]at hc;cases hsm:q.small with
    |false=>rw[hsm]at hc;cases hc
    |true=>
     rw[hsm]at hc;simp only[wU,ax.injEq]at hc;subst hc;have hE:=hS.exact hM;obtain⟨hol,hog⟩:=qf ho
     let τ2:Nat->Nat×Nat×Nat:=fun t=>if 50<=t/\t<50+(mt1++mt2).length then Pm x ((mt1++mt2).getD (t-50) none)else(0,0,0)
     let x1:Sit:=⟨x.G,x.bk,τ2⟩
     let x2:Sit:=⟨x.G,fun i=>x.bk (m.getD i 0),τ2⟩
     have hτ:∀y:Sit,y.τ=τ2->oR x y 50 (mt1++mt2):=by
      intro y hy k hk;rw[hy];show(if _ then _ else _)=_;rw[if_pos ⟨by omega,by omega⟩]
      congr 2;omega
     have hmem:∀i,i<m.length->(m.getD i 0,os0.getD i (.rc []))∈c.ob:=fun i hi=>jf (hog i hi)
     have hsubm:=vi hsub;have hmnd:=jq hmn
     have hT:Fv x x2 c m (mt1++mt2):=by
      refine⟨rfl,fun _ _=>rfl,hτ x2 rfl,hmnd,fun i hi=>⟨_,hmem i hi⟩,jq htn,fun t ht=> ?_⟩;rw[fE,an]at ht;rcases ht with ht|ht
      ·have:=oY (tk:=c.tk) (own:=sg.own) (cs:=as) (j:=50) (i:=0) t (by rw[hz];exact ht)
       exact this
      ·have:=nF (tk:=c.tk) (obs:=os0) (j:=50+mt1.length) t (by rw[hz2];exact ht)
       exact this
     have hTx1:=hτ x1 rfl
     have ha1:cw x1 as2 vs:=by have:=mn (x:=x) (x1:=x1) rfl rfl (tk:=c.tk) (own:=sg.own) (j:=50) (i:=0) hvs (by rw[hz];exact hTx1.left);rwa[hz]at this
     have hβ:∀o∈m,x2.bk (gI m o)=x.bk o:=fun o ho=>by show x.bk (m.getD (gI m o) 0)=_;rw[(ng ho).2]
     have ha2:cw x2 (SV.renL (gI m) id as2) vs:=by
      rw[eT];refine⟨by simpa using ha1.1,fun i hi=> ?_⟩;have hi':i<as2.length:=by simpa using hi
      rw[aW _ (by rfl)];exact Rep.renF (x:=x1) (x2:=x2) (fun _ _ _ h=>h) (ha1.2 i hi') (fun k hk=>hβ k (hsubm k (an.2 (.inl (lu hi' k hk))))) (fun t _=>rfl)
     obtain⟨hosl,hosr⟩:=lE (x:=x) (x1:=x1) (w:=w) rfl rfl (tk:=c.tk) (obs:=os0) (j:=50+mt1.length) (f:=fun i=>m.getD i 0)
      (fun i hi=>(hE.heap.obs _ (hmem i (by omega))).1) (by rw[hz2];exact hTx1.right)
     rw[hz2]at hosl hosr;simp only at hosl hosr
     have hob2:∀i,i<m.length->dJ x2 w i ((ey (gI m) id os).getD i (.rc [])):=by
      intro i hi;have h1:=hosr i (by omega);have hio:i<os.length:=by omega
      have e:(ey (gI m) id os).getD i (.rc [])=(os.getD i (.rc [])).ren (gI m) id:=by rw[gk,aa,aa,aS,af hio];rfl
      rw[e];have hm':=fO (m:=m) hi;have hos:os.getD i (.rc [])∈os:=by rw[aa,af hio];exact bj _
      have h2:=h1.renF (x2:=x2) (mo:=gI m) (mt:=id) (fun _ _ _ h=>h) (hβ _ hm') (fun k hk=>hβ k (hsubm k (an.2 (.inr (pr hos k hk))))) (fun t _=>rfl);have e2:gI m (m.getD i 0)=i:=lK hmnd (ng hm').1 hi (ng hm').2;rwa[e2]at h2
     have hrl:(ey (gI m) id os).length=m.length:=by rw[gk,aX];omega
     obtain⟨_,hS'⟩:=hsp _ _ _ _ hq;have hl12:mt1.length+mt2.length=(mt1++mt2).length:=by simp
     rw[hl12]at hS';refine(hS' (Ctx.took x2 w m.length (mt1++mt2).length) x2 w vs rfl rfl ?_ (by omega) ?_ (rE hE.heap hT hrl hob2) ha2).mono ?_
     ·rintro b h;rw[hrl];exact h
     ·intro o ho'
      rw[gk]at ho';obtain⟨r,hr,rfl⟩:=aV.1 ho';refine yu ?_
      have:=nE (tk:=c.tk) (obs:=os0) (j:=50+mt1.length) (fun o h'=>by obtain⟨i,hi,rfl⟩:=bJ h';have:=hS.inv.wf _ (hmem i (by omega));simpa[aa,af hi]using this) r (by rw[hz2];exact hr)
      exact this
     ·rintro en w' ⟨v,x',q',rfl,hq',hr,hH,hwf,hg⟩
      subst hq';exact⟨v,rfl,og hM hS hd hT hH hr hwf (fun i hi=>hg i (by omega)) (fun o ho'=>hin o ho') hsm⟩
theorem vd{call:db}{sg:Sig}{g:Nat}{d:Option Nat}{as:List SV}{vs:List Value}(hM:aO C x s a w)(hS:Sim N c s)(hd:∀k,d=some k->k<N)(hsp:∀as os k q,call g as os k=some q->kW P g as os k (· =q))
 (hc:io call sg c d g as=some c') (hvs:cw x as vs):Calls P g ⟨vs⟩ w fun en w'=>∃v,en= .returned v/\M C N c' (a.put d v) w':=by
 unfold io at hc;generalize ((SV.idsL as).isEmpty&&sg.own.isEmpty)=b at hc;cases b with
 |true=>exact xU hM hS hd hsp hc hvs
 |false=>simp only[jP]at hc;obtain⟨x1,s1,h1,h2,h3⟩:=ji (l:=iU sg.raw 0 as) hM hS hvs;exact wS h1 h2 hd hsp hc h3
end Go.Sy
