/- Contracts. No condition. -/
import Derived.Test.YtmhhnklkcmpdkaaGreatDoorThPR
open Int renaming natCast_zero -> ak
open Go.IntKind renaming i64 -> ah, u64 -> az
open List renaming cons_append -> aL, drop -> gT, drop_eq_getElem_cons -> bD, getD_eq_getElem?_getD -> aa, getElem?_eq_getElem -> ac, getElem_mem -> aF, getElem_of_mem -> cr, length -> uZ, length_append -> af, length_cons -> ai, length_drop -> aQ, length_map -> av, length_nil -> al, length_range -> uj, length_singleton -> aT, length_take -> aw, map_cons -> ax, map_drop -> nz, map_nil -> aK, map_take -> gw, mem_append -> am, mem_cons -> aq, mem_map -> aS, mem_of_mem_drop -> ny, mem_of_mem_take -> cg, mem_range -> gO, mem_singleton -> bC, nil_append -> aA, range -> bQ, replicate -> aB, take -> dq, take_length -> cG
open Nat renaming le_of_ble_eq_true -> cP, le_refl -> aM, le_succ -> fO, not_lt_zero -> ec, zero_le -> aC
set_option maxRecDepth 100000
set_option maxHeartbeats 16000000
set_option linter.unusedSimpArgs false
set_option linter.unusedVariables false
noncomputable section
namespace Go.Proofs.YtmhhnklkcmpdkaaGreatDoor
open Go.Sy

def US(y:LAa)(q:eI):Prop:=gu Tryz.prog 305 y [] 0 (· =q)/\∃bs n e,rm bs/\q=⟨.tup [.agg (gG bs n),iV e],[],[]⟩
open Classical in
def Sa(y:LAa)(os:List aG)(k:Nat):Option eI:=if h:os=[]/\k=0/\∃q,US y q then some (Classical.choose h.2.2)else none
theorem R9:∀z os k q,Sa z os k=some q->gu Tryz.prog 305 z os k (· =q):=by
 intro z os k q y;unfold Sa at y;split at y
 ·rename_i h
  obtain⟨rfl,rfl,h3⟩:=h;cases y;exact(Classical.choose_spec h3).1
 ·cases y
open Classical in
def Uh(y:LAa)(os:List aG)(k:Nat):Option eI:=if y=[.lst 7 [xA,xB] .no]/\os=[]/\k=0 then some ⟨.str txA,[],[]⟩else none
theorem Se:∀y os k q,Uh y os k=some q->gu Tryz.prog 10 y os k (· =q):=by
 intro y os k q h;unfold Uh at h;split at h
 ·rename_i z
  obtain⟨rfl,rfl,rfl⟩:=z;cases h;exact QA
 ·cases h
open Classical in
def Sd(y:LAa)(os:List aG)(k:Nat):Option eI:=if y=[.agg Tb]/\os=[]/\k=0 then some ⟨.str Q4,[],[]⟩else p24 y os k
theorem Sb:∀y os k q,Sd y os k=some q->gu Tryz.prog 24 y os k (· =q):=by
 intro y os k q h;unfold Sd at h;split at h
 ·rename_i z
  obtain⟨rfl,rfl,rfl⟩:=z;cases h;exact Qy
 ·exact WY y os k q h
def inL(k:Nat):Bool:=[6,7,19,21,22,52,53,57,59,116,121,128,182,185,192,249,255,299,324].contains k
def inU(k:Nat):Bool:=inL k||k==305||k==24||k==10
def fU(k:Nat):Option FnB:=if inL k=true then T.fn k else if k=305 then some (.prim Sa)else if k=24 then some (.prim Sd)else if k=10 then some (.prim Uh)else none
def U:iT:=T.over fU
theorem U_c{k:Nat}{F:FnC}(y:T.fn k=some (.code F))(h:inL k=true:=by rfl):U.fn k=some (.code F):=mf (by unfold fU;rw[if_pos h];exact y)
theorem ccU(g:Nat){F:FnC}(y:T.fn g=some (.code F):=by rfl)(h:inL g=true:=by rfl)(a:LAa)(os:List aG)(k:Nat):call U g a os k=my F os.length (Cf (run U) F a os k):=wi (U_c y h) a os k
theorem xby:U.fn 305=some (.prim Sa):=mf rfl
theorem xfp:U.fn 24=some (.prim Sd):=mf rfl
theorem xiX:U.fn 10=some (.prim Uh):=mf rfl
theorem up(g:Nat)(h:inU g=false:=by rfl):call U g=call T g:=by
 funext a os k
 have y:fU g=none:=by unfold inU at h;simp only[Bool.or_eq_false_iff,beq_eq_false_iff_ne,ne_eq]at h;unfold fU;rw[if_neg (by rw[h.1.1.1];decide),if_neg h.1.1.2,if_neg h.1.2,if_neg h.2]
 cases ht:T.fn g with
 |some b=>exact fH (AN y ht) a os k
 |none=>
  have z:U.fn g=none:=by show(match fU g with|some b=>some b|none=>match T.fn g with|some _=>some (FnB.prim (call T g))|none=>none)=none;rw[y,ht]
  rw[tu,tu,ht,z];rfl
theorem xiW:oS Tryz.prog U:=Sl jF fun k b h=>by
 unfold fU at h;split at h
 ·exact jF k b h
 ·split at h
  ·rename_i e
   subst e;cases h;exact R9
  ·split at h
   ·rename_i e
    subst e;cases h;exact Sb
   ·split at h
    ·rename_i e
     subst e;cases h;exact Se
    ·cases h
theorem sgU:U.sg=T.sg:=rfl
attribute [go_sem] sgU
theorem xa2{y:LAa}{q:eI}(h:US y q):∃bs n e,rm bs/\call U 305 y [] 0=some ⟨.tup [.agg (gG bs n),iV e],[],[]⟩:=by have z:([]:List aG)=[]/\(0:Nat)=0/\∃q,US y q:=⟨rfl,rfl,q,h⟩;obtain⟨_,bs,n,e,h1,h3⟩:=Classical.choose_spec z.2.2;refine⟨bs,n,e,h1, ?_⟩;rw[fH xby];unfold Sa;rw[dif_pos z,h3]
def Kq:Prop:=∀(bs:List (List t8))(n:Int)(i:Int)(y:List t8),rm bs->0<=i->i<=11->y.length=2->(∀x∈y,x.length<=32)->∃q,US [.agg (gG bs n),iV 0,iV i,.lst 1 (bls y) .no] q
theorem xiI:call U 10 [.lst 7 [xA,xB] .no] [] 0=okV (.str txA):=by rw[fH xiX];exact if_pos ⟨rfl,rfl,rfl⟩
theorem xh5:call U 24 [.agg Tb] [] 0=okV (.str Q4):=by rw[fH xfp];exact if_pos ⟨rfl,rfl,rfl⟩
theorem xfH:T.sg 10= {}:=rfl
theorem Zv:T.sg 24= {}:=rfl
theorem f7:call U 7 [] [] 0=okV (.bool true):=by have h1:=g12;have h2:=xiI;have h3:=g13;have h4:=xh5;unfold xA xB txA at*;unfold Tb Q4 at h4;rw[ccU 7];simp only[go_sem,simprocAttr,h1,up 12,h2,xfH,h3,up 13,h4,Zv]
def lnC:t8->Int
 |[]=>0
 |x::r=>(if x=10 then 1 else 0)+lnC r
def pcC(a:UInt8):UInt8->t8->Int
 |_,[]=>0
 |p,x::r=>(if p=32/\x=a then 1 else 0)+pcC a x r
def hcC:Nat->UInt8->t8->Int
 |_,_,[]=>0
 |i,p,x::r=>(if 4<i/\p=32/\x=104 then 1 else 0)+hcC (i+1) x r
theorem jZ:∀a b:t8,lnC (a++b)=lnC a+lnC b
 |[],b=>by simp[lnC]
 |x::r,b=>by simp only[aL,lnC,jZ r b];omega
def zL(p:UInt8):t8->UInt8
 |[]=>p
 |x::r=>zL x r
theorem jW(a:UInt8):∀(p:UInt8)(l b:t8),pcC a p (l++b)=pcC a p l+pcC a (zL p l) b
 |p,[],b=>by simp[pcC,zL]
 |p,x::r,b=>by simp only[aL,pcC,zL,jW a x r b];omega
theorem Uw:∀(i:Nat)(p:UInt8)(l:t8),4<i->hcC i p l=pcC 104 p l
 |_,_,[],_=>rfl
 |i,p,x::r,h=>by simp only[hcC,pcC,Uw (i+1) x r (by omega),h,true_and]
theorem S4(r:t8):hcC 0 0 (99::108::111::99::107::r)=pcC 104 0 (99::108::111::99::107::r):=by simp only[hcC,pcC];rw[Uw _ _ _ (by omega)];simp
def up1(c:Int)(q:Prop)[Decidable q]:Int:=if q then c+1 else c
theorem l6s(S:t8)(ob:List (Nat×aG))(tk:LAb)(hS:S.length<=10000)(a b c:Int)(i:Nat)(hi:i<S.length)(ha:0<=a/\a<=i)(hb:0<=b/\b<=i)(hc:0<=c/\c<=i):
 run U (.loop vf) ⟨[(8,.ptr 108 0),(15,.str S),(16,iV a),(17,iV b),(18,iV c),(19,iV i)],ob,tk⟩=
 run U (.loop vf) ⟨[(8,.ptr 108 0),(15,.str S),(16,iV (up1 a (S.getD i 0=10))),(17,iV (up1 b (0<i/\S.getD (i-1) 0=32/\S.getD i 0=97))),(18,iV (up1 c (4<i/\S.getD (i-1) 0=32/\S.getD i 0=104))),(19,iV (i+1:Nat))],ob,tk⟩:=by
 have z:(i:Int)<(S.length:Int):=by omega
 have K:=bJ i;have w1:ah.wrap (a+1)=a+1:=w64;have w2:ah.wrap (b+1)=b+1:=w64;have w3:ah.wrap (c+1)=c+1:=w64;have d1:¬(10:UInt8)=97:=by decide
 have d2:¬(10:UInt8)=104:=by decide
 have d3:¬(97:UInt8)=10:=by decide
 have d4:¬(97:UInt8)=104:=by decide
 have d5:¬(104:UInt8)=10:=by decide
 have d6:¬(104:UInt8)=97:=by decide
 generalize F:S.getD i 0=x;unfold up1
 by_cases h0:i=0
 ·subst h0
  rw[if_neg (by omega:¬(0<0/\_)),if_neg (by omega:¬(4<0/\_))];rw[ak]at z;have H:¬(0:Int)<((0:Nat):Int):=by decide
  have Z:¬(4:Int)<((0:Nat):Int):=by decide
  by_cases hq:x=10
  ·rw[if_pos hq]
   rw[ab];simp only[go_sem,simprocAttr,z,F,hq,w1,show ah.wrap 1=1 from rfl]
  ·rw[if_neg hq]
   rw[ab];simp only[go_sem,simprocAttr,z,F,hq,show ah.wrap 1=1 from rfl]
 ·have H:(0:Int)<(i:Int):=by omega
  have I:ah.wrap ((i:Int)-1)=((i-1:Nat):Int):=by rw[w64];omega
  have Q:((i-1:Nat):Int)<(S.length:Int):=by omega
  have q3:i-1<S.length:=by omega
  have p0:0<i:=by omega
  generalize J:S.getD (i-1) 0=y
  by_cases C:y=32
  ·subst C
   by_cases h4:4<i
   ·have Z:(4:Int)<(i:Int):=by omega
    by_cases x1:x=10
    ·subst x1
     rw[if_pos rfl,if_neg (by intro h;exact absurd h.2.2 (by decide)),if_neg (by intro h;exact absurd h.2.2 (by decide)),ab];simp only[go_sem,simprocAttr,d1,d2,z,F,J,w1,K,H,I,Q,Z]
    by_cases x2:x=97
    ·subst x2
     rw[if_neg x1,if_pos ⟨p0,rfl,rfl⟩,if_neg (by intro h;exact absurd h.2.2 (by decide)),ab];simp only[go_sem,simprocAttr,d3,d4,z,F,J,w2,K,H,I,Q,Z]
    by_cases x3:x=104
    ·subst x3
     rw[if_neg x1,if_neg (by intro h;exact absurd h.2.2 (by decide)),if_pos ⟨h4,rfl,rfl⟩,ab];simp only[go_sem,simprocAttr,d5,d6,z,F,J,w3,K,H,I,Q,Z]
    ·rw[if_neg x1,if_neg (fun h=>x2 h.2.2),if_neg (fun h=>x3 h.2.2),ab]
     simp only[go_sem,simprocAttr,z,F,J,x1,x2,x3,K,H,I,Q,Z]
   ·have Z:¬(4:Int)<(i:Int):=by omega
    rw[if_neg (fun h:4<i/\(32:UInt8)=32/\x=104=>h4 h.1)]
    by_cases x1:x=10
    ·subst x1
     rw[if_pos rfl,if_neg (by intro h;exact absurd h.2.2 (by decide)),ab];simp only[go_sem,simprocAttr,d1,z,F,J,w1,K,H,I,Q,Z]
    by_cases x2:x=97
    ·subst x2
     rw[if_neg x1,if_pos ⟨p0,rfl,rfl⟩,ab];simp only[go_sem,simprocAttr,d3,z,F,J,w2,K,H,I,Q,Z]
    ·rw[if_neg x1,if_neg (fun h=>x2 h.2.2),ab]
     simp only[go_sem,simprocAttr,z,F,J,x1,x2,K,H,I,Q,Z]
  ·rw[if_neg (fun h:0<i/\y=32/\x=97=>C h.2.1),if_neg (fun h:4<i/\y=32/\x=104=>C h.2.1)]
   by_cases q5:(4:Int)<(i:Int)
   ·by_cases x1:x=10
    ·rw[if_pos x1,ab]
     simp only[go_sem,simprocAttr,z,F,J,C,x1,w1,K,H,I,Q,q5]
    ·rw[if_neg x1,ab]
     simp only[go_sem,simprocAttr,z,F,J,C,x1,K,H,I,Q,q5]
   ·by_cases x1:x=10
    ·rw[if_pos x1,ab]
     simp only[go_sem,simprocAttr,z,F,J,C,x1,w1,K,H,I,Q,q5]
    ·rw[if_neg x1,ab]
     simp only[go_sem,simprocAttr,z,F,J,C,x1,K,H,I,Q,q5]
theorem l6c(S:t8)(ob:List (Nat×aG))(tk:LAb)(J:S.length<=10000):∀(r:t8)(i:Nat)(p:UInt8),S.drop i=r->i<=S.length->(0<i->S.getD (i-1) 0=p)->(i=0->p=0)->
 ∀a b c:Int,(0<=a/\a<=i)->(0<=b/\b<=i)->(0<=c/\c<=i)->
 run U (.loop vf) ⟨[(8,.ptr 108 0),(15,.str S),(16,iV a),(17,iV b),(18,iV c),(19,iV i)],ob,tk⟩=
  some (.x 4,⟨[(8,.ptr 108 0),(16,iV (a+lnC r)),(17,iV (b+pcC 97 p r)),(18,iV (c+hcC i p r))],ob,tk⟩):=by
 intro r;induction r with
 |nil=>
  intro i p h0 h1 h2 h3 a b c C y F
  have hi:i=S.length:=by have:=congrArg uZ h0;rw[aQ,al]at this;omega
  subst hi;rw[ab];simp only[lnC,pcC,hcC,Int.add_zero];simp only[go_sem,simprocAttr]
 |cons x r I=>
  intro i p h0 h1 h2 h3 a b c C y F
  have hi:i<S.length:=by have:=congrArg uZ h0;rw[aQ,ai]at this;omega
  have z:S.getD i 0=x:=by rw[bD hi]at h0;rw[db hi];exact(List.cons.inj h0).1
  have H:S.drop (i+1)=r:=by rw[bD hi]at h0;exact(List.cons.inj h0).2
  rw[l6s S ob tk J a b c i hi C y F,z];have K:up1 a (x=10)=a+(if x=10 then 1 else 0):=by unfold up1;split<;>omega
  have Z:up1 b (0<i/\S.getD (i-1) 0=32/\x=97)=b+(if p=32/\x=97 then 1 else 0):=by
   unfold up1
   by_cases h:i=0
   ·rw[if_neg (by omega),if_neg (by rw[h3 h];intro h;exact absurd h.1 (by decide))];omega
   ·rw[h2 (by omega)]
    by_cases h4:p=32/\x=97
    ·rw[if_pos ⟨by omega,h4⟩,if_pos h4]
    ·rw[if_neg (fun h=>h4 h.2),if_neg h4];omega
  have Q:up1 c (4<i/\S.getD (i-1) 0=32/\x=104)=c+(if 4<i/\p=32/\x=104 then 1 else 0):=by
   unfold up1
   by_cases h:i=0
   ·rw[if_neg (by omega),if_neg (by omega)];omega
   ·rw[h2 (by omega)]
    split<;>omega
  rw[K,Z,Q];have i1:0<=(if x=10 then(1:Int)else 0)/\(if x=10 then(1:Int)else 0)<=1:=by split<;>decide
  have i2:0<=(if p=32/\x=97 then(1:Int)else 0)/\(if p=32/\x=97 then(1:Int)else 0)<=1:=by split<;>decide
  have i3:0<=(if 4<i/\p=32/\x=104 then(1:Int)else 0)/\(if 4<i/\p=32/\x=104 then(1:Int)else 0)<=1:=by split<;>decide
  rw[I (i+1) x H (by omega) (fun _=>by rw[Nat.add_sub_cancel];exact z) (fun h=>by omega) _ _ _ (by push_cast;omega) (by push_cast;omega) (by push_cast;omega)];simp only[lnC,pcC,hcC,Int.add_assoc]
section
open Go.RowKit Go.ChangeShapes Go.WideShapes
def smE(k:Nat)(S:t8):t8:=if k=0 then yh S else sha S
theorem QB(k:Nat)(S:t8):(smE k S).length<=32:=by
 unfold smE;split
 ·rw[Ay];decide
 ·rw[fC];decide
def bsE(bs:List (List t8))(y:List t8)(i:Nat):List (List t8):=
 (bQ bs.length).map fun k=>(bQ (bs.getD k []).length).map fun q=>lE bs y (ku bs) i smE 2 k q
theorem tv(bs:List (List t8))(y:List t8)(i:Nat):(bsE bs y i).length=bs.length:=by simp[bsE]
theorem HF{α:Type}(f:Nat->α)(d:α)(n k:Nat)(h:k<n):((bQ n).map f).getD k d=f k:=by simp[aa,h]
theorem Ij(bs:List (List t8))(y:List t8)(i k:Nat)(h:k<bs.length):(bsE bs y i).getD k []=(bQ (bs.getD k []).length).map fun q=>lE bs y (ku bs) i smE 2 k q:=HF _ _ _ _ h
theorem X6{bs:List (List t8)}(y:rm bs)(F:List t8)(i:Nat):rm (bsE bs F i):=by
 refine⟨by rw[tv];exact y.1,fun L H=> ?_⟩;obtain⟨k,z,rfl⟩:=aS.1 H;have z:=gO.1 z;have h2:=y.2 _ (gM bs [] k z);refine⟨by rw[av,uj];exact h2.1,fun x I=> ?_⟩;obtain⟨q,C,rfl⟩:=aS.1 I;have C:=gO.1 C;unfold lE;split
 ·exact QB _ _
 ·exact h2.2 _ (gM _ [] q C)
theorem Yc{x:Sit}{a b:SV}{u v:Value}(y:Rep x a u)(z:Rep x b v):Rep x (.tup [a,b]) (.tuple #[u,v]):= .tup [a,b] [u,v] rfl fun i hi=>by
 match i,hi with
 |0,_=>exact y
 |1,_=>exact z
theorem bkR{x:Sit}{bs:List (List t8)}{n:Int}{v:Value}(h:bU x.G (.lst 1 (qB bs) .no) v):Rep x (.agg (gG bs n)) (.agg #[v,.int .i64 n]):= .agg (gG bs n) [v,.int .i64 n] rfl fun i hi=>by
 match i,hi with
 |0,_=>exact .dat _ _ h trivial
 |1,_=>exact .dat _ _ (.int _ _) trivial
theorem xew:Kq:=by
 intro bs n i C Z a8 b2 a1 b1;obtain⟨i,rfl⟩:=Int.eq_ofNat_of_zero_le a8;have hi:i<=11:=by omega
 have key:∀(r:SV),(∀(x:Sit)(w w':World)(e:Ending)(y:∀b o v,x.G b o=some v->w.cell? ⟨b,o,none⟩=some v),((∃k,k<2/\ku bs k=false/\0<(C.getD k []).length)/\e= .returned (.tuple #[.agg #[.slice none 0 0,.int .i64 0],.int .i64 27]))\/
  (¬(∃k,k<2/\ku bs k=false/\0<(C.getD k []).length)/\(∃k:Nat,k<2/\ku bs k=true/\((C.getD k []).length:Int)≠(if k=0 then 20 else 32))/\e= .returned (.tuple #[.agg #[.slice none 0 0,.int .i64 0],.int .i64 24]))\/
  (¬(∃k,k<2/\ku bs k=false/\0<(C.getD k []).length)/\¬(∃k:Nat,k<2/\ku bs k=true/\((C.getD k []).length:Int)≠(if k=0 then 20 else 32))/\∃v vs X G bb,e= .returned (.tuple #[.agg #[v,.int .i64 (wrap64 (n+1))],.int .i64 0])/\w.heap.size<=bb/\(∀b o z,G b o=some z->x.G b o=some z\/w.heap.size<=b)/\BkW w' bb G v vs X bs.length (fun k=>(bs.getD k []).length) (lE bs C (ku bs) i smE 2))->
  ∃v,e= .returned v/\Rep (x.grow w w') r v)->gu Tryz.prog 305 [.agg (gG bs n),.int .i64 0,.int .i64 (i:Int),.lst 1 (bls C) .no] [] 0 (· =⟨r,[],[]⟩):=fun r hr=>by
  refine hU (by kernel_rfl) fun x w vs hv y hL=> ?_
  obtain⟨v0,v1,v2,v3,rfl,r0,r1,r2,r3⟩:=Pr.repL4 hv;obtain⟨us,rfl,hl,hc⟩:=r0.agg_inv;obtain rfl:=r1.int_inv;obtain rfl:=r2.int_inv
  match us,hl,hc with
  |[q0,q1],_,hc=>
   have d0:bU x.G (.lst 1 (qB bs) .no) q0:=(hc 0 (show 0<2 by decide)).data rfl;have d1:bU x.G (.int .i64 n) q1:=(hc 1 (show 1<2 by decide)).data rfl;obtain rfl:=sU d1;obtain⟨a0,cap,rfl⟩:=MS d0;rw[kM]at d0 ⊢;have d3:bU x.G (.lst 1 (bys C) .no) v3:=r3.data rfl;obtain⟨bd,od,cd,_,_,_,rfl,_,_⟩:=Ka d3 (i:=0) (by omega);rw[a1]
   have a7:∀k,k<2->∃a n c,x.G bd (od+k)=some (.slice a n c)/\n=(C.getD k []).length/\bU x.G (bN (C.getD k [])) (.slice a n c):=fun k H=>by obtain⟨b',o',c',a,n',c,h1,h2,h3⟩:=Ka d3 (i:=k) (by omega);cases h1;exact⟨a,n',c,h2,(qc h3 y).1,h3⟩
   have b0:∀F,Below w.heap.size w F->bU (rJ F).G (.lst 1 (qB bs) .no) (.slice a0 bs.length cap):=fun F I=>d0.mono (mU y I)
   have K:∀F,Below w.heap.size w F->Lay (GW F):=fun F I=>iC (mU y I) hL
   refine(xft w bs Z a0 cap n i hi C a1 b1 bd od cd x.G y hL d0 (ku bs) a7 (fun k F H I=> ?_) (fun F I=> ?_) (fun k F H I=> ?_) (fun k H=> ?_) smE (fun k S H hS=> ?_) _ _ Iff.rfl Iff.rfl).mono ?_
   ·refine(jv jF (YM bs n k) (vs:=[.agg #[.slice a0 bs.length cap,.int .i64 n],.int .i64 k]) ⟨rfl,fun q hq=> ?_⟩ (K F I)).mono ?_
    ·match q,hq with
     |0,_=>exact bkR (b0 F I)
     |1,_=>exact .dat _ _ (.int _ _) trivial
    ·rintro e w' ⟨v,x',rfl,h,Q⟩
     rw[h.bool_inv];exact⟨rfl,Q⟩
   ·refine(jv jF (xhJ i) (vs:=[.int .i64 i,.bool false]) ⟨rfl,fun q hq=> ?_⟩ (K F I)).mono ?_
    ·match q,hq with
     |0,_=>exact .dat _ _ (.int _ _) trivial
     |1,_=>exact .dat _ _ (.bool _) trivial
    ·rintro e w' ⟨v,x',rfl,h,Q⟩
     rw[if_neg (by omega),if_neg (by omega)]at h;rw[h.int_inv];exact⟨rfl,Q⟩
   ·refine(jv jF (UC k) xeu (K F I)).mono ?_
    rintro e w' ⟨v,x',rfl,h,Q⟩;rw[h.int_inv];refine⟨?_,Q⟩;rcases (by omega:k=0\/k=1)with rfl|rfl<;>rfl
   ·have h:=of_decide_eq_true H
    have h2:=(Z.2 _ (gM bs [] k h.1)).1;exact⟨h.1,by omega⟩
   ·rcases (by omega:k=0\/k=1)with rfl|rfl
    ·exact J9 S
    ·exact J8 S
   ·rintro e w' ⟨Q,h⟩
    obtain⟨v,h1,h2⟩:=hr x w w' e y h;exact⟨v,h1,h2,Q⟩
 by_cases J:∃k,k<2/\ku bs k=false/\0<(C.getD k []).length
 ·refine⟨⟨.tup [.agg (gG [] 0),.int .i64 27],[],[]⟩,key _ fun x w w' e y h=> ?_,[],0,27,⟨by decide,fun L hL=>by cases hL⟩,rfl⟩
  rcases h with⟨_,rfl⟩|⟨h,_⟩|⟨h,_⟩
  ·exact⟨_,rfl,Yc (bkR (.lstN _ _)) (.dat _ _ (.int _ _) trivial)⟩
  ·exact absurd J h
  ·exact absurd J h
 by_cases a6:∃k:Nat,k<2/\ku bs k=true/\((C.getD k []).length:Int)≠(if k=0 then 20 else 32)
 ·refine⟨⟨.tup [.agg (gG [] 0),.int .i64 24],[],[]⟩,key _ fun x w w' e y h=> ?_,[],0,24,⟨by decide,fun L hL=>by cases hL⟩,rfl⟩
  rcases h with⟨h,_⟩|⟨_,_,rfl⟩|⟨_,h,_⟩
  ·exact absurd h J
  ·exact⟨_,rfl,Yc (bkR (.lstN _ _)) (.dat _ _ (.int _ _) trivial)⟩
  ·exact absurd a6 h
 ·refine⟨⟨.tup [.agg (gG (bsE bs C i) (wrap64 (n+1))),.int .i64 0],[],[]⟩,key _ fun x w w' e y h=> ?_,_,_,_,X6 Z C i,rfl⟩
  rcases h with⟨h,_⟩|⟨_,h,_⟩|⟨_,_,v,vs,X,G,bb,rfl,hbb,hG,hB⟩
  ·exact absurd h J
  ·exact absurd h a6
  ·refine⟨_,rfl,Yc (bkR ?_) (.dat _ _ (.int _ _) trivial)⟩
   rw[<-tv bs C i]at hB;refine hB.rep (fun k H=> ?_) (fun k q H hq=> ?_) (fun b o z h=> ?_) (fun b o z h h2=> ?_)
   ·rw[tv]at H
    rw[Ij _ _ _ _ H,av,uj]
   ·rw[tv]at H
    rw[Ij _ _ _ _ H,HF _ _ _ _ hq]
   ·show(if w.heap.size<=b then w'.cell? ⟨b,o,none⟩else x.G b o)=some z
    split
    ·exact hB.per _ _ _ h
    ·exact(hG b o z h).resolve_right (by assumption)
   ·show(if w.heap.size<=b then w'.cell? ⟨b,o,none⟩else x.G b o)=some z
    rw[if_pos (by omega)];exact h2
end
def uW:Prop:=∀(l:List Img)(a:Int)(x:Int×Int),dZ l->ir a->lN x->∃(D:t8)(c:Int),D.length<=32/\call U 299 [.lst 4 (gK l) .no,iV a,fW x] [] 0=okV (.tup [bN D,iV c])
theorem xh6(H:uW)(l:List Img)(a:Int)(F:dZ l)(I:ir a):∃(x:Int×Int)(D:t8)(c:Int),(c=0->lN x)/\D.length<=32/\call U 249 [.lst 4 (gK l) .no,iV a] [] 0=okV (.tup [.agg (if c=0 then oR x D else [iV 0,iV 0,iV 0,bN [],iV 0,iV 0,bN [],bN [],bN [],.lst 1 [] .no]),iV c]):=by
 obtain⟨x,C,g1⟩:=YW a;obtain⟨D,c,J,z⟩:=H l a x F I C;refine⟨x,D,c,fun _=>C,J, ?_⟩;unfold oR;obtain⟨K,x1⟩:=x;unfold fW at*;rw[ccU 249]
 by_cases y:c=0
 ·subst y
  rw[if_pos rfl];simp only[go_sem,simprocAttr,g1,z,up 190]
 ·rw[if_neg y]
  simp only[go_sem,simprocAttr,g1,z,up 190,y]
def chs(l:List (List Img)):f9:=l.map fun c=> [.lst 4 (gK c) .no]
theorem yJ(l:List (List Img)):(chs l).length=l.length:=av ..
theorem TI(l:List (List Img))(i:Nat)(h:i<l.length):(chs l).getD i []=[.lst 4 (gK (l.getD i [])) .no]:=by simp[chs,aa,h]
theorem xgV(H:uW)(a:Int)(ha:ir a)(cs:List (List Img))(hc:∀c∈cs,dZ c)(hn:cs.length<=100):∀(n i:Nat)(L:List t8),cs.length-i=n->i<=cs.length->L.length=i->(∀x∈L,x.length<=32)->
 (∃I:List t8,I.length=cs.length/\(∀x∈I,x.length<=32)/\run U (.loop pl) ⟨[(0,.lst 1 (chs cs) .no),(1,iV a),(6,.lst 1 (bys L) (.id 106)),(7,iV i)],[],[106]⟩=some (.x 0,⟨[(6,.lst 1 (bys I) (.id 106))],[],[106]⟩))\/
 ∃e ob tk,e≠0/\run U (.loop pl) ⟨[(0,.lst 1 (chs cs) .no),(1,iV a),(6,.lst 1 (bys L) (.id 106)),(7,iV i)],[],[106]⟩=some (.r,⟨[(4,.lst 1 [] .clip),(5,iV e)],ob,tk⟩):=by
 intro n;have hv:=yJ cs;induction n with
 |zero=>
  intro i L h0 h1 h2 h3;have hi:i=cs.length:=by omega
  subst hi;refine .inl ⟨L,h2,h3, ?_⟩;rw[ab];simp only[go_sem,simprocAttr,hv]
 |succ n ih=>
  intro i L h0 h1 h2 h3;have hi:i<cs.length:=by omega
  have C:(i:Int)<(cs.length:Int):=by omega
  have Q:=TI cs i hi;have e1:=bJ i;have hx:dZ (cs.getD i []):=by rw[db hi];exact hc _ (aF hi)
  generalize cs.getD i []=c at*;obtain⟨x,D,e,hs,hD,g⟩:=xh6 H c a hx ha;have J:=eD L;have Z:(L.length+1)*24<=140737488355328:=by omega
  by_cases F:e=0
  ·subst F
   rw[if_pos rfl]at g;obtain⟨P,hP,g2⟩:=xa6 x D (hs rfl);have ei:bys L++ [[bN P]]=bys (L++ [P]):=by simp[bys]
   have K:=ih (i+1) (L++ [P]) (by omega) (by omega) (by rw[af,aT];omega) (by
    intro y z;rcases am.1 z with z|z
    ·exact h3 y z
    ·rw[bC.1 z];exact hP)
   unfold oR at*;rw[ab];simp only[go_sem,simprocAttr,hv,C,Q,g,g2,up 250,J,Z,ei,e1];exact K
  ·rw[if_neg F]at g
   right;exact⟨e,_,_,F,by rw[ab];simp only[go_sem,simprocAttr,hv,C,Q,g,F];rfl⟩
theorem xe0(H:uW)(a:Int)(K:ir a)(cs:List (List Img))(Q:∀c∈cs,dZ c)(J:cs.length<=100)(h1:1<=cs.length)(Z:cs.length<=8):
 ∃(L:List t8)(e:Int),(e=0->L.length=cs.length)/\L.length<=8/\(∀x∈L,x.length<=32)/\call U 185 [.lst 1 (chs cs) .no,iV a] [] 0=okV (.tup [.lst 1 (bys L) .no,iV e]):=by
 have L:=xgV H a K cs Q J _ 0 [] rfl (aC _) rfl (fun x y=>by cases y);have hv:=yJ cs;have C:¬(cs.length:Int)=0:=by omega
 have F:¬(8:Int)<(cs.length:Int):=by omega
 rw[ak,show bys []=[]from rfl]at L;rw[ccU 185];rcases L with⟨I,k1,k2,z⟩|⟨e,ob,tk,he,z⟩
 ·exact⟨I,0,fun _=>k1,by omega,k2,by simp only[go_sem,simprocAttr,hv,C,F,z]⟩
 ·exact⟨[],e,fun h=>absurd h he,by decide,(fun x y=>by cases y),by simp only[go_sem,simprocAttr,hv,C,F,z];rfl⟩
def yO:Prop:=∀(f s:Int)(l:List Ev)(x:Int×Int),l.length<=1000->lN x->∃(D:t8)(c:Int),D.length<=32/\call U 192 [.agg (bL f s l),fW x] [] 0=okV (.tup [bN D,iV c])
structure QtD(q:Qt):Prop where
 nm:q.nm.length<=1000
 no:q.no.length<=1000
 dg:q.dg.length=32
theorem xfa(H:yO)(f s:Int)(l:List Ev)(J:l.length<=1000)(m:Int)(k:Nat)(N:t8)(Z:N.length<=100000):∃q:Qt,QtD q/\call U 128 [.agg (bL f s l),iV m,iV k,bN N] [] 0=okV (.agg q.sv):=by
 obtain⟨R,c,hR,g1⟩:=f197 f s l;obtain⟨x,K,F⟩:=YW f;obtain⟨D,c2,hD,g3⟩:=H f s l x J K;obtain⟨W,hW,g4⟩:=xeW N R m Z;have I:=Y1 k
 have hu:(AJ (mZ k) 1).length<=1000:=by
  have h16:(Q2 (lvs (mZ k) 1 2)).length=16:=by rw[SC];exact gk _ _
  show(ub 1::Q2 (lvs (mZ k) 1 2)).length<=1000;rw[ai];omega
 have z:=YV (qtg k) (cP rfl) (by show(AJ (mZ k) 1).length<=_;omega);have g7:(lJ 6 (tn (qtg k))).length=32:=fC _;have hv:=cW l;generalize lJ 6 (tn (qtg k))=G at*;generalize qtg k=Q at*;obtain⟨C,x1⟩:=x;unfold fW bL Ar.sv at*;rw[ccU 128]
 by_cases y:(D.length:Int)=32
 ·refine⟨⟨G,W,s,0,17,false,l.length,C,x1,D⟩,⟨by show G.length<=_;omega,by show W.length<=_;omega,by show D.length=_;omega⟩, ?_⟩
  unfold Qt.sv;simp only[go_sem,simprocAttr,g1,up 197,F,up 190,g3,y,g4,up 200,I,up 115,z,up 199,hv]
  try rfl
 ·refine⟨⟨G,W,s,0,17,false,l.length,C,x1,aB 32 0⟩,⟨by show G.length<=_;omega,by show W.length<=_;omega,by simp⟩, ?_⟩
  unfold Qt.sv;simp only[go_sem,simprocAttr,g1,up 197,F,up 190,g3,y,g4,up 200,I,up 115,z,up 199,hv]
  try rfl
def evd(m:Int)(A S L:t8):LAa:=[iV m,bN A,bN S,bN L]
theorem xfb(f s:Int)(l:List Ev)(I:l.length<=1000)(m:Int)(k:Nat)(y:Int)(q:Qt)(z:QtD q):∃A S L:t8,A.length<=10000/\S.length<=1000/\L.length<=8192/\call T 127 [.agg (bL f s l),iV m,iV k,iV y,.agg q.sv] [] 0=okV (.agg (evd m A S L)):=by
 obtain⟨R,c,F,g1⟩:=f197 f s l;obtain⟨A,H,C⟩:=xid q z.nm z.no (by have:=z.dg;omega);have g3:=xe1 k;have hs:(mZ k).length<=64:=by unfold mZ;rw[fC];decide
 have g4:=f143 (mZ k) 1 (cy .and .i64 y 1) A hs (by omega) (by simp);have h4:=QS (mZ k) A 1 (cy .and .i64 y 1);generalize sgn (mZ k) 1 (cy .and .i64 y 1) A=S at*;generalize mZ k=K at*;refine⟨A,S,R,H,h4,F, ?_⟩;unfold evd bL Qt.sv at*;rw[ccT 127];simp only[go_sem,simprocAttr,g1,C,g3,g4]
theorem f57(H:yO)(f s:Int)(l:List Ev)(y:l.length<=1000)(m:Nat)(J:m<=100)(N:t8)(I:N.length<=100000):∃A S L:t8,A.length<=10000/\S.length<=1000/\L.length<=8192/\call U 57 [.agg (bL f s l),iV m,bN N] [] 0=okV (.agg (evd m A S L)):=by
 have C:ah.wrap (2*(m:Int))=((2*m:Nat):Int):=by rw[w64];omega
 obtain⟨q,F,g1⟩:=xfa H f s l y m (2*m) N I;obtain⟨A,S,L,h1,h2,h3,z⟩:=xfb f s l y m (2*m) 0 q F;refine⟨A,S,L,h1,h2,h3, ?_⟩;unfold evd bL Qt.sv at*;rw[ccU 57];simp only[go_sem,simprocAttr,C,g1,z,up 127]
theorem xim(H:uW)(a:Int)(J:ir a)(cs:List (List Img))(Q:∀c∈cs,dZ c)(h1:1<=cs.length)(z:cs.length<=8):
 ∃(P:t8)(e:Int),P.length<=1000/\call U 182 [.lst 1 (chs cs) .no,iV a] [] 0=okV (.tup [bN P,iV e]):=by
 obtain⟨L,e,k1,k2,I,g⟩:=xe0 H a J cs Q (by omega) h1 z;rw[ccU 182]
 by_cases y:e=0
 ·subst y
  obtain⟨P,K,F⟩:=f241 L (by have:=k1 rfl;omega) (by omega) (fun x C=>by have:=I x C;omega);exact⟨P,0,K,by simp only[go_sem,simprocAttr,g,F,up 241]⟩
 ·exact⟨[],e,by decide,by simp only[go_sem,simprocAttr,g,y]⟩
structure Sc where
 m:Int
 n:Int
 d:List UInt8
 c:List (List Img)
def Sc.sv(x:Sc):LAa:=[iV x.m,iV x.n,bN x.d,.lst 1 (chs x.c) .no]
structure CB(x:Sc):Prop where
 d:x.d.length<=1000
 c:∀c∈x.c,dZ c
 n1:1<=x.c.length
 n8:x.c.length<=8
structure Bo where
 n:Int
 k:Int
 a:Int
 h:Int
 po:List UInt8
 un:List UInt8
 pr:List UInt8
 br:List (List UInt8)
def Bo.sv(b:Bo):LAa:=[iV b.n,iV b.k,iV b.a,iV b.h,bN b.po,bN b.un,bN b.pr,.lst 1 (bys b.br) .no]
def bo0:Bo:=⟨0,0,0,0,[],[],[],[]⟩
theorem xfe(H:uW)(e:En)(x:Sc)(ha:ir e.a)(hp:e.p2.length<=64)(z:CB x):∃(b:Bo)(c:Int),call U 116 [.agg e.sv,.agg x.sv] [] 0=okV (.tup [.agg b.sv,iV c]):=by
 by_cases C:x.m=e.m
 ·obtain⟨P,f,hP,g1⟩:=xim H e.a ha x.c z.c z.n1 z.n8
  by_cases hf:f=0
  ·subst hf
   have K:=f74 [] 2 x.m (by decide) (by decide) (by decide);have g3:=f74 [] 2 x.n (by decide) (by decide) (by decide);have b2:(be 2 (az.wrap x.m)).length<=1000:=by simp[be]
   have b3:(be 2 (az.wrap x.n)).length<=1000:=by simp[be]
   simp only[aA,show((2:Nat):Int)=2 from rfl]at K g3;generalize be 2 (az.wrap x.m)=B2 at*;generalize be 2 (az.wrap x.n)=Z at*;have g4:=P5 24 [B2,Z,x.d] (by simp) (by intro y hy;simp at hy;have:=z.d;rcases hy with rfl|rfl|rfl<;>omega);have b4:(hsh 24 [B2,Z,x.d]).length=32:=jn _ _;simp only[bys,ax,aK]at g4;generalize hsh 24 [B2,Z,x.d]=S at*;obtain⟨c,a,n,hc,g5⟩:=xil S P x.d (by omega) (by have:=z.d;omega)
   by_cases F:c=0
   ·subst F
    obtain⟨k1,k2,k3,k4,k5,k6,k7⟩:=hc rfl;obtain⟨R,hR,g6⟩:=xik ⟨e.p1,e.p2,e.p3⟩ n a hp (by rw[k4];decide) (by omega) (by rw[k6];exact k7) (by rw[k1];omega) (by omega) (by simp only[eW];omega);obtain⟨L,f2,_,l2,l3,g7⟩:=xe0 H e.a ha x.c z.c (by have:=z.n8;omega) z.n1 z.n8;have I:=yJ x.c;obtain⟨xm,J,xd,Q⟩:=x;obtain⟨a1,a2,a3,a4,a5⟩:=a;obtain⟨n1,n2,n3⟩:=n;simp only at C;subst C;unfold Bo.sv;simp only[En.sv,Sc.sv,Ar.sv,Sn.sv]at*;rw[ccU 116]
    by_cases hl:(1:Int)<(Q.length:Int)
    ·refine⟨⟨J,a1,a2,a3,a4,a5,R,L⟩,0, ?_⟩
     simp only[go_sem,simprocAttr,g1,K,g3,up 74,g4,up 133,g5,up 183,g6,up 184,I,hl,g7]
    ·refine⟨⟨J,a1,a2,a3,a4,a5,R,[]⟩,0, ?_⟩
     simp only[go_sem,simprocAttr,g1,K,g3,up 74,g4,up 133,g5,up 183,g6,up 184,I,hl,show bys []=[]from rfl]
   ·refine⟨bo0,c, ?_⟩
    obtain⟨xm,J,xd,Q⟩:=x;simp only at C;subst C;unfold Bo.sv bo0;simp only[En.sv,Sc.sv,Ar.sv,Sn.sv]at*;rw[ccU 116];simp only[go_sem,simprocAttr,g1,K,g3,up 74,g4,up 133,g5,up 183,F,show bys []=[]from rfl]
  ·refine⟨bo0,f, ?_⟩
   obtain⟨xm,J,xd,Q⟩:=x;simp only at C;subst C;unfold Bo.sv bo0;simp only[En.sv,Sc.sv]at*;rw[ccU 116];simp only[go_sem,simprocAttr,g1,hf,show bys []=[]from rfl]
 ·refine⟨bo0,49, ?_⟩
  unfold Bo.sv bo0 En.sv Sc.sv;rw[ccU 116];simp only[go_sem,simprocAttr,C,show bys []=[]from rfl]
def sc0:Sc:=⟨0,0,[],[]⟩
def iz(l:List Sc):f9:=l.map Sc.sv
theorem tJ(l:List Sc):(iz l).length=l.length:=av ..
theorem tK(l:List Sc)(i:Nat)(h:i<l.length):(iz l).getD i []=(l.getD i sc0).sv:=by simp[iz,aa,h]
theorem l52(s:Sv)(l:List Sc)(hS:s.S=iz l)(x:Sc)(e:En)(b:Bo)(hn:l.length<=100):∀(n k:Nat),l.length-k=n->k<=l.length->
 ∃q,q<=l.length/\run U (.loop yY) ⟨[(2,.ptr 102 0),(3,.ptr 103 0),(4,.ptr 104 0),(10,iV k)],[(102,.rc s.sv),(103,.rc x.sv),(104,zSv),(106,.rc e.sv),(108,.rc b.sv)],[]⟩=
  some (.x 0,⟨[(2,.ptr 102 0),(3,.ptr 103 0),(4,.ptr 104 0),(10,iV (q:Nat))],[(102,.rc s.sv),(103,.rc x.sv),(104,zSv),(106,.rc e.sv),(108,.rc b.sv)],[]⟩):=by
 intro n;have hv:=tJ l;unfold zSv Sv.sv En.sv Bo.sv;rw[hS];induction n with
 |zero=>
  intro k h0 h1;have Z:k=l.length:=by omega
  subst Z;refine⟨_,aM _, ?_⟩;unfold Sc.sv;rw[ab];simp only[go_sem,simprocAttr,hv]
 |succ n ih=>
  intro k h0 h1;have hq:k<l.length:=by omega
  have z:(k:Int)<(l.length:Int):=by omega
  have F:=tK l k hq;have H:=bJ k;obtain⟨q,h2,C⟩:=ih (k+1) (by omega) (by omega);generalize l.getD k sc0=y at*;obtain⟨J,Q,yd,yc⟩:=y;obtain⟨I,K,xd,xc⟩:=x;simp only[Sc.sv]at*
  by_cases c1:J<I
  ·exact⟨q,h2,by rw[ab];simp only[go_sem,simprocAttr,hv,z,F,c1,H,C]⟩
  ·by_cases c2:J=I
   ·subst c2
    by_cases c3:Q<K
    ·exact⟨q,h2,by rw[ab];simp only[go_sem,simprocAttr,hv,z,F,c1,c3,H,C]⟩
    ·exact⟨k,by omega,by rw[ab];simp only[go_sem,simprocAttr,hv,z,F,c1,c3]⟩
   ·exact⟨k,by omega,by rw[ab];simp only[go_sem,simprocAttr,hv,z,F,c1,c2]⟩
theorem f52(H:uW)(s:Sv)(l:List Sc)(hS:s.S=iz l)(C:∀y∈l,CB y)(hn:l.length<=50)(hE:s.E.length<=1000)(I:∀e∈s.E,ir e.a/\e.p2.length<=64)(x:Sc)(hx:CB x):
 ∃(l':List Sc)(c:Int),(∀y∈l',CB y)/\l'.length<=l.length+1/\call U 52 [.agg s.sv,.agg x.sv] [] 0=okV (.tup [.agg {s with S:=iz l'}.sv,iV c]):=by
 obtain⟨e,b,hb,g1⟩:=UK s x.m hE;have z: {s with S:=iz l}.sv=s.sv:=by rw[<-hS]
 cases b with
 |false=>refine⟨l,49,C,fO _, ?_⟩;rw[z];unfold Sv.sv En.sv Sc.sv at*;rw[ccU 52];simp only[go_sem,simprocAttr,g1,up 114]
 |true=>
  obtain⟨he,_⟩:=hb rfl;obtain⟨ha,hp⟩:=I e he
  by_cases Q:x.n<1
  ·refine⟨l,1,C,fO _, ?_⟩
   rw[z];unfold Sv.sv En.sv Sc.sv at*;rw[ccU 52];simp only[go_sem,simprocAttr,g1,up 114,Q]
  by_cases q2:4<x.n
  ·refine⟨l,1,C,fO _, ?_⟩
   rw[z];unfold Sv.sv En.sv Sc.sv at*;rw[ccU 52];simp only[go_sem,simprocAttr,g1,up 114,Q,q2]
  obtain⟨bb,c,g2⟩:=xfe H e x ha hp hx
  by_cases hc:c=0
  ·subst hc
   obtain⟨k,hk,L⟩:=l52 s l hS x e bb (by omega) _ 0 rfl (aC _);rw[ak]at L;have hv:=tJ l;have tf:dq l.length (iz l)=iz l:=by rw[<-hv,cG]
   have vA:(dq k (iz l)).length=k:=by rw[aw,hv];omega
   have vD:(gT k (iz l)).length=l.length-k:=by rw[aQ,hv]
   have vE:(gT 1 (gT k (iz l))).length=l.length-k-1:=by rw[aQ,vD]
   have tg:dq (l.length-k) (gT k (iz l))=gT k (iz l):=by rw[<-vD,cG]
   have a1:k*64<=140737488355328:=by omega
   have a2:(k+1)*64<=140737488355328:=by omega
   have a3:(k+1+(l.length-k))*64<=140737488355328:=by omega
   have a4:(k+1+(l.length-k-1))*64<=140737488355328:=by omega
   have K:(k:Int)<=(l.length:Int):=by omega
   have r1:iz (l.take k++x::l.drop k)=(iz l).take k++(x.sv::(iz l).drop k):=by simp[iz,gw,nz]
   have r2:iz (l.take k++x::l.drop (k+1))=(iz l).take k++(x.sv::((iz l).drop k).drop 1):=by simp[iz,gw,nz]
   have Z:∀y∈l.take k++x::l.drop k,CB y:=by
    intro y F;rcases pC F with rfl|F
    ·exact hx
    ·exact C y F
   have o2:∀y∈l.take k++x::l.drop (k+1),CB y:=by
    intro y F;rcases am.1 F with F|F
    ·exact C y (cg F)
    ·rcases aq.1 F with rfl|F
     ·exact hx
     ·exact C y (ny F)
   have n1:=lv l k x;have n2:(l.take k++x::l.drop (k+1)).length<=l.length+1:=by rw[af,ai,aw,aQ];omega
   unfold zSv at L
   by_cases hq:k<l.length
   ·have J:(0:Int)<((l.length-k:Nat):Int):=by omega
    have a8:0<l.length-k:=by omega
    have a7:1<=l.length-k:=by omega
    have a6:(1:Int)<=((l.length-k:Nat):Int):=by omega
    have hg:((iz l).drop k).getD 0 []=(l.getD k sc0).sv:=by rw[<-tK l k hq];simp[aa]
    generalize l.getD k sc0=y at*;obtain⟨ym,yn,yd,yc⟩:=y
    by_cases c1:ym=x.m
    ·by_cases c2:yn=x.n
     ·refine⟨_,0,o2,n2, ?_⟩
      rw[r2];subst c1 c2;clear Z o2 hx C I hb r1 r2;obtain⟨xm,xn,xd,xc⟩:=x;rw[show s.sv= {s with S:=iz l}.sv by rw[z]]at*;simp only[Sv.sv,En.sv,Sc.sv,Bo.sv]at*;rw[ccU 52];simp only[go_sem,simprocAttr,g1,up 114,Q,q2,g2,L,hv,K,vA,vD,vE,tf,tg,a6,J,hg,a1,a2,a4]
     ·refine⟨_,0,Z,by omega, ?_⟩
      rw[r1];subst c1;clear Z o2 hx C I hb r1 r2;obtain⟨xm,xn,xd,xc⟩:=x;rw[show s.sv= {s with S:=iz l}.sv by rw[z]]at*;simp only[Sv.sv,En.sv,Sc.sv,Bo.sv]at*;rw[ccU 52];simp only[go_sem,simprocAttr,g1,up 114,Q,q2,g2,L,hv,K,vA,vD,tf,J,hg,c2,a1,a2,a3]
    ·refine⟨_,0,Z,by omega, ?_⟩
     rw[r1];clear Z o2 hx C I hb r1 r2;obtain⟨xm,xn,xd,xc⟩:=x;rw[show s.sv= {s with S:=iz l}.sv by rw[z]]at*;simp only[Sv.sv,En.sv,Sc.sv,Bo.sv]at*;rw[ccU 52];simp only[go_sem,simprocAttr,g1,up 114,Q,q2,g2,L,hv,K,vA,vD,tf,J,hg,c1,a1,a2,a3]
   ·have J:¬(0:Int)<((l.length-k:Nat):Int):=by omega
    refine⟨_,0,Z,by omega, ?_⟩;rw[r1];clear Z o2 hx C I hb r1 r2;obtain⟨xm,xn,xd,xc⟩:=x;rw[show s.sv= {s with S:=iz l}.sv by rw[z]]at*;simp only[Sv.sv,En.sv,Sc.sv,Bo.sv]at*;rw[ccU 52];simp only[go_sem,simprocAttr,g1,up 114,Q,q2,g2,L,hv,K,vA,vD,tf,J,a1,a2,a3]
  ·refine⟨l,c,C,fO _, ?_⟩
   rw[z];unfold Sv.sv En.sv Sc.sv Bo.sv at*;rw[ccU 52];simp only[go_sem,simprocAttr,g1,up 114,Q,q2,g2,hc]
def zBk:aG:= .rc [.lst 1 [] .clip,iV 0]
theorem xax(f s:Int)(l:List Ev)(K:l.length<=1000):∀(n i:Nat),l.length-i=n->i<=l.length->(∀j,j<i->rl (l.getD j ev0))->
 ((∀j,j<l.length->rl (l.getD j ev0))/\run U (.loop uz) ⟨[(1,.ptr 101 0),(2,.ptr 102 0),(4,iV i)],[(101,.rc (bL f s l)),(102,zBk)],[]⟩=some (.x 0,⟨[(1,.ptr 101 0),(2,.ptr 102 0)],[(101,.rc (bL f s l)),(102,zBk)],[]⟩))\/
 ∃c ob,run U (.loop uz) ⟨[(1,.ptr 101 0),(2,.ptr 102 0),(4,iV i)],[(101,.rc (bL f s l)),(102,zBk)],[]⟩=some (.r,⟨[(2,.ptr 102 0),(3,iV c)],ob,[]⟩)/\(ob=[(102,zBk)]\/ob=[(101,.rc (bL f s l)),(102,zBk)]):=by
 intro n;have hv:=cW l;induction n with
 |zero=>
  intro i h0 h1 h2;have hi:i=l.length:=by omega
  subst hi;refine .inl ⟨h2, ?_⟩;unfold zBk bL;rw[ab];simp only[go_sem,simprocAttr,hv]
 |succ n z=>
  intro i h0 h1 h2;have hi:i<l.length:=by omega
  have y:(i:Int)<(l.length:Int):=by omega
  have I:=jg l i hi;have J:=bJ i;obtain⟨c,F,g1⟩:=YQ (l.getD i ev0) f
  by_cases H:c=0
  ·have C:=z (i+1) (by omega) (by omega) (fun j Q=>by
    by_cases e:j=i
    ·rw[e];exact(F H).1
    ·exact h2 j (by omega))
   subst H;clear h2 F z;generalize l.getD i ev0=e at*;unfold zBk bL Ev.sv at*;rw[ab];simp only[go_sem,simprocAttr,hv,y,I,g1,up 262,J];exact C
  ·right
   clear h2 F z;generalize l.getD i ev0=e at*;unfold zBk bL Ev.sv at*
   exact⟨c,_,by rw[ab];simp only[go_sem,simprocAttr,hv,y,I,g1,up 262,H];rfl,by first|exact .inl rfl|exact .inr rfl⟩
theorem xaw(H:Kq)(f s:Int)(l:List Ev)(hn:l.length<=1000)(hE:∀j,j<l.length->rl (l.getD j ev0)):∀(n i:Nat),l.length-i=n->i<=l.length->∀bs m,rm bs->
 ∃y K,rm y/\run U (.loop rX) ⟨[(1,.ptr 101 0),(2,.ptr 102 0),(6,.ptr 106 0),(7,iV i)],[(101,.rc (bL f s l)),(102,zBk),(106,.rc (gG bs m))],[]⟩=
  some (.x 2,⟨[(2,.ptr 102 0),(6,.ptr 106 0)],[(101,.rc (bL f s l)),(102,zBk),(106,.rc (gG y K))],[]⟩):=by
 intro n;have hv:=cW l;induction n with
 |zero=>
  intro i h0 h1 bs m F;have hi:i=l.length:=by omega
  subst hi;refine⟨bs,m,F, ?_⟩;unfold zBk bL gG;rw[ab];simp only[go_sem,simprocAttr,hv]
 |succ n Z=>
  intro i h0 h1 bs m F;have hi:i<l.length:=by omega
  have J:(i:Int)<(l.length:Int):=by omega
  have hg:=jg l i hi;have e1:=bJ i;have C:=hE i hi;clear hE;generalize l.getD i ev0=e at*
  by_cases I:e.kind=5
  ·obtain⟨y,K,z,g⟩:=Z (i+1) (by omega) (by omega) bs m F
   refine⟨y,K,z, ?_⟩;clear C F z Z;unfold zBk bL Ev.sv gG at*;rw[ab];simp only[go_sem,simprocAttr,hv,J,hg,I,e1];exact g
  ·have hd:∀x∈e.dg,x.length<=32:=by
    intro x hx;obtain⟨k,I,rfl⟩:=cr hx;have hn:=C.n;have h0:=C.g0;have h1:=C.g1;rw[aa,ac (by omega)]at h0 h1
    match k,I with
    |0,_=>exact h0
    |1,_=>exact h1
    |k+2,I=>omega
   obtain⟨q,hq⟩:=H bs m e.reg e.dg F C.r0 C.r1 C.n hd;obtain⟨b1,m1,c1,Q,g1⟩:=xa2 hq;obtain⟨y,K,z,g⟩:=Z (i+1) (by omega) (by omega) b1 m1 Q;refine⟨y,K,z, ?_⟩;clear C F z Q hd Z;unfold zBk bL Ev.sv gG at*;rw[ab];simp only[go_sem,simprocAttr,hv,J,hg,I,e1,g1];exact g
theorem xeP(H:Kq)(f s:Int)(l:List Ev)(I:l.length<=1000):∃bs m c,rm bs/\call U 255 [.agg (bL f s l)] [] 0=okV (.tup [.agg (gG bs m),iV c]):=by
 have C:rm []:=⟨by decide,fun L hL=>by cases hL⟩;have z0:zBk= .rc [.lst 1 [] .clip,iV 0]:=rfl
 by_cases h1:f<1
 ·refine⟨[],0,1,C, ?_⟩
  unfold bL gG;rw[ccU 255];simp only[go_sem,simprocAttr,h1,qB,aK]
 by_cases h3:3<f
 ·refine⟨[],0,1,C, ?_⟩
  unfold bL gG;rw[ccU 255];simp only[go_sem,simprocAttr,h1,h3,qB,aK]
 rcases xax f s l I _ 0 rfl (aC _) (fun j hj=>absurd hj (ec _))with⟨F,g1⟩|⟨c,ob,g1,ho⟩
 ·obtain⟨J,m1,z,Z⟩:=xhP f
  obtain⟨Q,K,y,g3⟩:=xaw H f s l I F _ 0 rfl (aC _) J m1 z;refine⟨Q,K,0,y, ?_⟩;rw[ak,z0]at g1 g3;clear z y F;unfold bL gG at*;rw[ccU 255];simp only[go_sem,simprocAttr,h1,h3,g1,Z,up 304,g3]
 ·refine⟨[],0,c,C, ?_⟩
  rw[ak,z0]at g1;rw[z0]at ho;unfold bL gG at*;rw[ccU 255];rcases ho with rfl|rfl<;>simp only[go_sem,simprocAttr,h1,h3,g1,qB,aK]
theorem xeX(H:Kq):yO:=by
 intro f s l x I J;obtain⟨bs,m,c,z,g1⟩:=xeP H f s l I;obtain⟨D,c2,C,F⟩:=xeO bs m x z J;obtain⟨K,x1⟩:=x
 by_cases y:c=0
 ·subst y
  refine⟨D,c2,C, ?_⟩;unfold bL fW gG at*;rw[ccU 192];simp only[go_sem,simprocAttr,g1,F,up 256]
 ·refine⟨[],c,by decide, ?_⟩
  unfold bL fW gG at*;rw[ccU 192];simp only[go_sem,simprocAttr,g1,y]
theorem Ib(l:List Img)(a:Int)(h:l.length<=8):(evF l a).length<=200:=by have h1:=ju l a 1;have h2:=ju l a 2;have h3:=ju l a 3;have h4:=ju l a 4;have y:=oA a 8 0;unfold evF;simp only[af];omega
theorem xhL(H:Kq)(l:List Img)(z:dZ l)(a:Int)(y:ir a):∃bs m c,rm bs/\call U 324 [.lst 4 (gK l) .no,iV a] [] 0=okV (.tup [.agg (gG bs m),iV c]):=by
 have g1:=xe6 l z;have C:=f129 l z a y;obtain⟨bs,m,c,J,g3⟩:=xeP H a 0 (evF l a) (by have:=Ib l a z.n8;omega);have I:¬a<1:=by unfold ir at y;omega
 have F:¬3<a:=by unfold ir at y;omega
 refine⟨bs,m,c,J, ?_⟩;unfold bL gG at*;rw[ccU 324];simp only[go_sem,simprocAttr,g1,up 154,I,F,C,up 129,g3]
theorem xhT(H:Kq):uW:=by
 intro l a x I K J;obtain⟨bs,m,c,z,g1⟩:=xhL H l I a K;obtain⟨D,c2,C,F⟩:=xeO bs m x z J;obtain⟨Q,x1⟩:=x
 by_cases y:c=0
 ·subst y
  refine⟨D,c2,C, ?_⟩;unfold fW gG at*;rw[ccU 299];simp only[go_sem,simprocAttr,g1,F,up 256]
 ·refine⟨[],c,by decide, ?_⟩
  unfold fW gG at*;rw[ccU 299];simp only[go_sem,simprocAttr,g1,y]
end Go.Proofs.YtmhhnklkcmpdkaaGreatDoor
