/- What the functions come to. No condition. -/
import Derived.Test.YtdafipacemgcoaaGreatDoorCoMore
import Derived.Deep.SlicePairs
open Bool renaming and_eq_true -> az, eq_iff_iff -> du, false_and -> Fl, false_or -> dq, or_eq_true -> dt, true_or -> fU
open Int renaming cast_ofNat_Int -> cB, natCast_zero -> aB
open Go.IntKind renaming i64 -> ai, u32 -> aA, u64 -> bm, wrap_u64 -> cH
open List renaming all_cons -> lD, append_assoc -> aZ, append_nil -> bH, cons -> lR, cons_append -> bK, drop -> eQ, drop_drop -> eO, drop_eq_getElem_cons -> aU, drop_eq_nil_of_le -> bU, drop_length -> aL, drop_zero -> aR, ext_getElem -> sK, flatMap_cons -> jG, getD_cons_succ -> bh, getD_cons_zero -> bc, getD_eq_getElem?_getD -> aa, getElem?_drop -> bi, getElem?_eq_getElem -> af, getElem?_map -> aS, getElem?_range -> cN, length -> ri, length_append -> ah, length_cons -> av, length_drop -> aE, length_eq_zero_iff -> bR, length_map -> aX, length_nil -> aQ, length_replicate -> cQ, length_singleton -> aD, length_take -> ay, map_cons -> aP, map_nil -> df, mem_range -> jH, nil_append -> bw, range -> ce, replicate -> aq, singleton_append -> dO, take -> cj, take_append_drop -> yl, take_length -> bo, take_of_length_le -> bO
open Nat renaming add_zero -> fz, le_refl -> aM, min_eq_left -> fu, mul_one -> dx, zero_le -> bL
open UInt8 renaming lt_iff_toNat_lt -> eG, ofInt -> bM, toNat_inj -> sr
set_option maxRecDepth 100000
set_option maxHeartbeats 16000000
set_option linter.unusedSimpArgs false
set_option linter.unusedVariables false
namespace Go.Proofs.YtdafipacemgcoaaGreatDoor
open Go.Sy
open UInt8 renaming reduceLT -> Q0, reduceLE -> Q1
open Int renaming reduceToNat -> Q2, reduceLE -> Q3, reduceLT -> Q4, reduceEq -> Q5, reduceNe -> Q6, reduceNeg -> Q7, reduceAdd -> Q8, reduceSub -> Q9, reduceMul -> Qa
open Nat renaming reducePow -> Qb, reduceDiv -> Qc, reduceMod -> Qd, reduceAdd -> Qe, reduceSub -> Qf, reduceMul -> Qg, reduceLT -> Qh, reduceLeDiff -> Qi, reduceEqDiff -> Qj, reduceBEq -> Qk
theorem c0:((0:Nat):Int)=0:=rfl
theorem c1:((1:Nat):Int)=1:=rfl
theorem c10:((10:Nat):Int)=10:=rfl
theorem c12:((12:Nat):Int)=12:=rfl
theorem c2:((2:Nat):Int)=2:=rfl
theorem c20:((20:Nat):Int)=20:=rfl
theorem xmo:((200:Nat):Int)=200:=rfl
theorem xoy:((240:Nat):Int)=240:=rfl
theorem xox:((256:Nat):Int)=256:=rfl
theorem c30:((30:Nat):Int)=30:=rfl
theorem c5:((5:Nat):Int)=5:=rfl
theorem c64:((64:Nat):Int)=64:=rfl
theorem c8:((8:Nat):Int)=8:=rfl
theorem c80:((80:Nat):Int)=80:=rfl
theorem c9:((9:Nat):Int)=9:=rfl
attribute [go_sem] rF ua ub
theorem w64{n:Int}(h1: -9223372036854775808<=n)(h2:n<=9223372036854775807):ai.wrap n=n:=by rw[IntKind.wrap_i64];omega
theorem wZ{a b:Int}(h:-9223372036854775808<=a/\a<=9223372036854775807/\a=b):ai.wrap a=b:=by rw[w64 h.1 h.2.1];exact h.2.2
theorem bV(i:Nat)(h:i<9223372036854775807):ai.wrap ((i:Int)+1)=((i+1:Nat):Int):=wZ (by omega)
theorem nR{α:Type}[Inhabited α](l:List α)(i:Nat)(h:i<l.length):l.drop i=l.getD i default::l.drop (i+1):=by rw[aU h,aa,af h];rfl
theorem cV(l:List UInt8)(i:Nat)(h:i<l.length):l.drop i=l.getD i 0::l.drop (i+1):=nR l i h
theorem l25(a b:List UInt8)(hl:a.length<=140737488355328)(hab:a.length=b.length):∀(n i:Nat),a.length-i=n->i<=a.length->
 run T (.loop PX) ⟨[(0,.byt a .no),(1,.byt b .no),(5,.int .i64 i)],[],[]⟩=if a.drop i=b.drop i then some (.x 0,⟨[],[],[]⟩)else some (.r,⟨[(4,.bool false)],[],[]⟩):=by
 intro n;induction n with
 |zero=>
  intro i h0 h1;have hi:i=a.length:=by omega
  subst hi;rw[aj];have e:eQ a.length b=[]:=by rw[hab,aL]
  simp only[go_sem,Qh,Qj,Qk,reduceCtorEq,reduceIte,aL,e]
 |succ n ih=>
  intro i h0 h1;have hi:i<a.length:=by omega
  have hi2:i<b.length:=by omega
  rw[aj,cV a i hi,cV b i hi2];have e3:ai.wrap ((i:Int)+1)=((i+1:Nat):Int):=wZ (by omega)
  simp only[go_sem,Qh,Qj,Qk,reduceCtorEq,reduceIte,hi,hi2,e3,ih (i+1) (by omega) (by omega),lR.injEq]
  by_cases hc:a.getD i 0=b.getD i 0<;>simp only[hc,go_sem,reduceIte]
theorem f25(a b:List UInt8)(hl:a.length<=140737488355328):call T 25 [.byt a .no,.byt b .no] [] 0=some ⟨.bool (decide (a=b)),[],[]⟩:=by
 rw[am xpy]
 by_cases hab:a.length=b.length
 ·have h:=l25 a b hl hab _ 0 rfl (by omega)
  simp only[aB,aR]at h;simp only[go_sem,Qe,Qh,Qi,Qj,Qk,reduceCtorEq,reduceIte,hab,h]
  by_cases hc:a=b<;>simp only[hc,go_sem,reduceIte]
 ·have hc:a≠b:=fun e=>hab (by rw[e])
  simp only[go_sem,Qe,Qh,Qi,Qj,Qk,reduceCtorEq,reduceIte,hab,hc]
def fJ(n m:Int):Int:=if m<1 then 0 else if n.tmod m<0 then n.tmod m+m else n.tmod m
theorem f18(a b:Int)(ha: -9223372036854775808<=a)(ha2:a<=9223372036854775807)(hb:b<=9223372036854775807):call T 18 [.int .i64 a,.int .i64 b] [] 0=some ⟨.int .i64 (fJ a b),[],[]⟩:=by
 rw[am xpF]
 by_cases h:b<1
 ·simp only[go_sem,Qe,Qh,Qi,Qj,Qk,reduceCtorEq,reduceIte,h,fJ]
 ·have h0:¬b=0:=by omega
  simp only[go_sem,Qe,Qh,Qi,Qj,Qk,reduceCtorEq,reduceIte,h,h0,fJ]
  by_cases h2:a.tmod b<0
  ·have h3: -b<a.tmod b:=by
    have:=Int.lt_tmod_of_pos a (b:=b) (by omega);omega
   have h4:ai.wrap (a.tmod b+b)=a.tmod b+b:=w64 (by omega) (by omega);simp only[h2,go_sem,reduceIte,h4]
  ·simp only[h2,go_sem,reduceIte]
def aI(B:List UInt8)(at':Nat):aF:= .rc [.byt B .no,.int .i64 at']
theorem f35(a:List UInt8)(n:Nat):call T 35 [.byt a .no,.int .i64 n] [] 0=some ⟨.ptr 100 0,[(100,aI (a.take n) 0)],[]⟩:=by
 rw[am xpr]
 by_cases h:n<a.length
 ·have h2:n<=a.length:=by omega
  simp only[go_sem,Q2,Q3,Qe,Qh,Qi,Qj,Qk,reduceCtorEq,reduceIte,h,h2,aI];rfl
 ·simp only[go_sem,Q2,Q3,Qe,Qh,Qi,Qj,Qk,reduceCtorEq,reduceIte,h,aI,bO (Nat.le_of_not_lt h)]
  rfl
theorem xmd(a:List UInt8)(b:Nat):call T 131 [.ptr 0 0] [aI a b] 0=some ⟨.bool (decide (b<a.length)),[(0,aI a b)],[]⟩:=by rw[am xj2];simp only[go_sem,Qe,Qh,Qi,Qj,Qk,reduceCtorEq,reduceIte,aI]
def dz(a:List UInt8)(b n:Nat):Nat:=if b<a.length then(a.getD b 0).toNat % n else 0
def cg(a:List UInt8)(b:Nat):Nat:=if b<a.length then b+1 else b
theorem f37(a:List UInt8)(b n:Nat)(hn:0<n)(hl:a.length<=1000000000000):call T 37 [.ptr 0 0,.int .i64 n] [aI a b] 0=some ⟨.int .i64 (dz a b n),[(0,aI a (cg a b))],[]⟩:=by
 rw[am xpq]
 by_cases h:b<a.length
 ·have h1:¬a.length<=b:=by omega
  have e1:ai.wrap ((b:Int)+1)=((b+1:Nat):Int):=wZ (by omega)
  have e2:ai.wrap (((b+1:Nat):Int)-1)=(b:Int):=wZ (by omega)
  have e3:¬(n:Int)=0:=by omega
  simp only[go_sem,Qe,Qh,Qi,Qj,Qk,reduceCtorEq,reduceIte,aI,h,h1,e1,e2,e3,dz,cg,<-Int.ofNat_tmod]
 ·have h1:a.length<=b:=by omega
  simp only[go_sem,Qe,Qh,Qi,Qj,Qk,reduceCtorEq,reduceIte,aI,h,h1,dz,cg,aB]
def ft(c:UInt8):List UInt8->List UInt8
 |[]=> []
 |x::r=>if x=c then ft c r else x::r
theorem xl4(c:UInt8):∀s:List UInt8,run T (.loop yW) ⟨[(0,.str s),(1,.u8 c)],[],[]⟩=some (.x 0,⟨[(0,.str (ft c s))],[],[]⟩)
 |[]=>by rw[aj];simp only[go_sem,Q2,Q3,Q4,Qh,Qj,Qk,reduceCtorEq,reduceIte,ft,aB]
 |x::r=>by
  rw[aj];have h:=xl4 c r;have e1:(0:Int)<((r.length+1:Nat):Int):=by omega
  have e2:(1:Int)<=((r.length+1:Nat):Int):=by omega
  by_cases hc:x=c
  ·simp only[go_sem,Q2,Q3,Qh,Qj,Qk,reduceCtorEq,reduceIte,ft,hc,h,av,bc,e1,e2,List.drop_succ_cons,aR,bo]
  ·simp only[go_sem,Q2,Q3,Qh,Qj,Qk,reduceCtorEq,reduceIte,ft,hc,av,bc,e1]
theorem xn2(c:UInt8)(s:List UInt8):call T 159 [.str s,.u8 c] [] 0=some ⟨.str (ft c s),[],[]⟩:=by rw[am xjO];simp only[go_sem,Qe,Qh,Qi,Qj,Qk,reduceCtorEq,reduceIte,xl4]
def lO(c:UInt8)(s:List UInt8):List UInt8:=(ft c s.reverse).reverse
theorem sa(c:UInt8):lO c []=[]:=rfl
theorem Et(c x:UInt8)(s:List UInt8):lO c (s++ [x])=if x=c then lO c s else s++ [x]:=by
 unfold lO;rw[List.reverse_append,List.reverse_singleton,dO,ft];split
 ·rfl
 ·simp
theorem xnE(c:UInt8):∀(n:Nat)(s:List UInt8),s.length=n->n<9223372036854775807->run T (.loop yV) ⟨[(0,.str s),(1,.u8 c)],[],[]⟩=some (.x 0,⟨[(0,.str (lO c s))],[],[]⟩):=by
 intro n;induction n with
 |zero=>
  intro s hs _;cases s with
  |cons _ _=>simp at hs
  |nil=>rw[aj];simp only[go_sem,Q4,Q7,Q9,Qh,Qj,Qk,reduceCtorEq,reduceIte,sa,aQ,aB]
 |succ n ih=>
  intro s hs hn;obtain⟨t,x,rfl⟩:∃t x,s=t++ [x]:=⟨s.dropLast,s.getLast (by intro e;subst e;simp at hs),(List.dropLast_concat_getLast _).symm⟩;have ht:t.length=n:=by simpa using hs
  have h:=ih t ht (by omega);rw[aj];generalize hu:t++ [x]=u;have e0:(0:Int)<((u.length:Nat):Int):=by subst hu;simp
  have hul:u.length=t.length+1:=by subst hu;simp
  have e1:ai.wrap ((u.length:Int)-1)=((t.length:Nat):Int):=wZ (by omega)
  have e2:u.getD t.length 0=x:=by subst hu;simp[aa]
  have e3:u.take t.length=t:=by subst hu;simp
  have e6:t.length<u.length:=by subst hu;simp
  have e7:t.length<=u.length:=by omega
  have e8:lO c u=if x=c then lO c t else u:=by subst hu;exact Et c x t
  by_cases hc:x=c
  ·simp only[go_sem,Q2,Q3,Qh,Qj,Qk,reduceCtorEq,reduceIte,hc,h,e0,e1,e2,e3,e6,e7,e8]
  ·simp only[go_sem,Qh,Qj,Qk,reduceCtorEq,reduceIte,hc,e0,e1,e2,e6,e8]
theorem xn1(c:UInt8)(s:List UInt8)(hs:s.length<9223372036854775807):call T 160 [.str s,.u8 c] [] 0=some ⟨.str (lO c s),[],[]⟩:=by rw[am xjN];simp only[go_sem,Qe,Qh,Qi,Qj,Qk,reduceCtorEq,reduceIte,xnE c _ s rfl hs]
theorem xn9(s:List UInt8)(hs:s.length<9223372036854775807):call T 133 [.str s,.str [42]] [] 0=some ⟨.str (ft 42 (lO 42 s)),[],[]⟩:=by
 rw[am xj0]
 by_cases h:s=[]
 ·subst h
  simp only[go_sem,Qe,Qh,Qi,Qj,Qk,reduceCtorEq,reduceIte,sa,ft]
 ·simp only[go_sem,Q0,Q2,Q3,Q4,Qb,Qc,Qd,Qe,Qh,Qi,Qj,Qk,reduceCtorEq,reduceIte,h,xn1 42 s hs,xn2,c1,xkr,xkq]
end Go.Proofs.YtdafipacemgcoaaGreatDoor
namespace Go.Glob
def tl(f:List UInt8->Bool):List UInt8->Bool
 |[]=>f []
 |x::r=>f (x::r)||tl f r
def gl:List UInt8->List UInt8->Bool
 |[],l=>l.isEmpty
 |c::p,l=>if c=42 then tl (gl p) l else match l with
  |[]=>false
  |x::r=>(decide (c=63)||decide (c=x))&&gl p r
theorem lY(f:List UInt8->Bool):∀l:List UInt8,tl f l=true↔∃k,k<=l.length/\f (l.drop k)=true
 |[]=>by simp only[tl,aQ,List.drop_nil];exact⟨fun h=>⟨0,aM _,h⟩,fun⟨_,_,h⟩=>h⟩
 |x::r=>by
  simp only[tl,dt,lY f r];constructor
  ·rintro(h|⟨k,hk,h⟩)
   ·exact⟨0,bL _,h⟩
   ·exact⟨k+1,by simpa using hk,h⟩
  ·rintro⟨k,hk,h⟩
   cases k with
   |zero=>exact .inl h
   |succ k=>exact .inr ⟨k,by simpa using hk,h⟩
theorem jD(p l:List UInt8):gl (42::p) l=tl (gl p) l:=by simp[gl]
theorem zh(l:List UInt8):gl [] l=l.isEmpty:=rfl
theorem oL(c:UInt8)(p:List UInt8)(h:c≠42):gl (c::p) []=false:=by simp[gl,h]
theorem jE(c:UInt8)(p:List UInt8)(x:UInt8)(l:List UInt8)(h:c≠42):gl (c::p) (x::l)=((decide (c=63)||decide (c=x))&&gl p l):=by simp[gl,h]
def jm(p:List UInt8):Bool:=p.all fun c=>decide (c=42)
theorem qk:∀p:List UInt8,gl p []=jm p
 |[]=>rfl
 |c::p=>by
  by_cases h:c=42
  ·subst h
   rw[jD,tl,qk p];simp[jm]
  ·rw[oL _ _ h];simp[jm,h]
def free(s:List UInt8):Bool:=s.all fun c=>decide (c≠42)
def C8:List UInt8->List UInt8->Bool
 |[],_=>true
 |_::_,[]=>false
 |c::s,x::m=>(decide (c=63)||decide (c=x))&&C8 s m
theorem OZ:∀(s q m:List UInt8),free s=true->gl (s++q) m=(C8 s m&&gl q (m.drop s.length))
 |[],q,m,_=>by simp[C8]
 |c::s,q,[],h=>by simp only[free,lD,az,decide_eq_true_eq]at h;simp[C8,gl,h.1]
 |c::s,q,x::m,h=>by simp only[free,lD,az,decide_eq_true_eq]at h;rw[bK,jE _ _ _ _ h.1,OZ s q m (by simpa[free]using h.2)];simp[C8,Bool.and_assoc]
theorem vZ:∀{s m:List UInt8},C8 s m=true->s.length<=m.length
 |[],_,_=>bL _
 |_::_,[],h=>by cases h
 |c::s,x::m,h=>by simp only[C8,az]at h;have:=vZ h.2;simp;omega
theorem Rc{f:List UInt8->Bool}{m:List UInt8}{i j:Nat}(h:i<=j)(ht:tl f (m.drop j)=true):tl f (m.drop i)=true:=by
 rw[lY]at ht ⊢;obtain⟨k,hk,h1⟩:=ht;rw[aE]at hk;rw[eO]at h1
 by_cases hj:j<=m.length
 ·refine⟨j-i+k,by rw[aE];omega, ?_⟩
  rw[eO,show i+(j-i+k)=j+k by omega];exact h1
 ·refine⟨m.length-i,by rw[aE];omega, ?_⟩
  rw[eO];rw[bU (by omega)]at h1 ⊢;exact h1
structure Inv(P L:List UInt8)(K r p l:Nat)(B:Bool):Prop where
 kp:K<=p
 pP:p<=P.length
 rl:r<=l
 lL:l<=L.length
 b0:K=0->B=gl (P.drop p) (L.drop l)
 b1:0<K->B=(gl (P.drop p) (L.drop l)||tl (gl (P.drop K)) (L.drop (r+1)))
 pl:0<K->p-K=l-r
 fr:0<K->free ((P.drop K).take (p-K))=true
theorem oD(l:List UInt8)(i:Nat)(h:i<l.length):l.drop i=l.getD i 0::l.drop (i+1):=by rw[aU h,aa,af h];rfl
variable {P L : List UInt8} {K r p l : Nat} {B : Bool}
theorem Inv.split(h:Inv P L K r p l B):P.drop K=(P.drop K).take (p-K)++P.drop p:=by have:=yl (p-K) (P.drop K);rw[eO,show K+(p-K)=p by have:=h.kp;omega]at this;exact this.symm
theorem Inv.seglen(h:Inv P L K r p l B):((P.drop K).take (p-K)).length=p-K:=by have:=h.pP;rw[ay,aE];omega
theorem Inv.seg(h:Inv P L K r p l B)(hk:0<K)(m:List UInt8):gl (P.drop K) m=(C8 ((P.drop K).take (p-K)) m&&gl (P.drop p) (m.drop (p-K))):=by have:=OZ _ (P.drop p) m (h.fr hk);rw[<-h.split,h.seglen]at this;exact this
theorem Inv.later(h:Inv P L K r p l B)(hk:0<K)(ht:tl (gl (P.drop K)) (L.drop (r+1))=true):(l=L.length/\r=L.length/\gl (P.drop p) []=true)\/∃j,l<j/\j<=L.length/\gl (P.drop p) (L.drop j)=true:=by
 have h1:=h.rl;have h2:=h.lL;have h3:=h.pl hk;have h4:=h.kp;obtain⟨k,hk1,hk2⟩:=(lY _ _).1 ht;rw[h.seg hk,az]at hk2;have h5:=vZ hk2.1;rw[h.seglen]at h5;have h6:=hk2.2;rw[eO,eO]at h6;rw[eO,aE]at h5;rw[aE]at hk1
 by_cases hr:r=L.length
 ·refine .inl ⟨by omega,hr, ?_⟩
  have e0:L.drop (r+1+(k+(p-K)))=[]:=bU (by omega);rwa[e0]at h6
 ·exact .inr ⟨r+1+(k+(p-K)),by omega,by omega,h6⟩
theorem Inv.star(h:Inv P L K r p l B)(hp:p<P.length)(hl:l<L.length)(hc:P.getD p 0=42):Inv P L (p+1) l (p+1) l B:=by
 have e:gl (P.drop p) (L.drop l)=(gl (P.drop (p+1)) (L.drop l)||tl (gl (P.drop (p+1))) (L.drop (l+1))):=by rw[oD P p hp,hc,jD,oD L l hl];rfl
 refine⟨aM _,hp,aM _,h.lL,fun h0=>by omega,fun _=> ?_,fun _=>by omega,fun _=>by rw[Nat.sub_self];rfl⟩;rw[<-e]
 by_cases hk:K=0
 ·exact h.b0 hk
 ·rw[h.b1 (by omega)]
  cases hg:gl (P.drop p) (L.drop l)with
  |true=>rfl
  |false=>
   rw[dq];cases ht:tl (gl (P.drop K)) (L.drop (r+1))with
   |false=>rfl
   |true=>
    exfalso;rcases h.later (by omega) ht with⟨h1,_⟩|⟨j,h1,h2,h3⟩
    ·omega
    ·rw[oD P p hp,hc,jD]at h3 hg
     rw[Rc (Nat.le_of_lt h1) h3]at hg;cases hg
theorem Inv.step(h:Inv P L K r p l B)(hp:p<P.length)(hl:l<L.length)(hc:P.getD p 0≠42)(hm:P.getD p 0=63\/P.getD p 0=L.getD l 0):Inv P L K r (p+1) (l+1) B:=by
 have h1:=h.kp;have h2:=h.rl
 have e:gl (P.drop p) (L.drop l)=gl (P.drop (p+1)) (L.drop (l+1)):=by
  rw[oD P p hp,oD L l hl,jE _ _ _ _ hc];have:(decide (P.getD p 0=63)||decide (P.getD p 0=L.getD l 0))=true:=by simpa using hm
  rw[this,Bool.true_and]
 refine⟨by omega,hp,by omega,hl,fun h0=>by rw[<-e];exact h.b0 h0,fun h0=>by rw[<-e];exact h.b1 h0,fun h0=>by have:=h.pl h0;omega,fun h0=> ?_⟩
 have e2:(P.drop K).take (p+1-K)=(P.drop K).take (p-K)++ [P.getD p 0]:=by
  rw[show p+1-K=(p-K)+1 by omega,List.take_add_one]
  congr 1
  rw[bi,show K+(p-K)=p by omega,af hp,aa,af hp];rfl
 rw[e2];have:=h.fr h0;unfold free at this ⊢;rw[List.all_append,this];simpa using hc
theorem Inv.miss(h:Inv P L K r p l B)(hl:l<L.length)(hm:p<P.length->P.getD p 0≠42/\P.getD p 0≠63/\P.getD p 0≠L.getD l 0):gl (P.drop p) (L.drop l)=false:=by
 by_cases hp:p<P.length
 ·obtain⟨h1,h2,h3⟩:=hm hp
  rw[oD P p hp,oD L l hl,jE _ _ _ _ h1];simp only[h2,h3,decide_false,Bool.or_false,Fl]
 ·rw[bU (by omega),oD L l hl];rfl
theorem Inv.back(h:Inv P L K r p l B)(hk:0<K)(hl:l<L.length)(hm:p<P.length->P.getD p 0≠42/\P.getD p 0≠63/\P.getD p 0≠L.getD l 0):Inv P L K (r+1) K (r+1) B:=by
 have h1:=h.rl;have h2:=h.kp;have h3:=h.pP;refine⟨aM _,by omega,aM _,by omega,fun h0=>by omega,fun _=> ?_,fun _=>by omega,fun _=>by rw[Nat.sub_self];rfl⟩;rw[h.b1 hk,h.miss hl hm,dq]
 by_cases hr:r+1<L.length
 ·rw[oD L (r+1) hr];rfl
 ·have e1:L.drop (r+1)=[]:=bU (by omega)
  have e2:L.drop (r+1+1)=[]:=bU (by omega);rw[e1,e2];simp only[tl,Bool.or_self]
theorem Inv.fail(h:Inv P L K r p l B)(hk:K=0)(hl:l<L.length)(hm:p<P.length->P.getD p 0≠42/\P.getD p 0≠63/\P.getD p 0≠L.getD l 0):B=false:=by rw[h.b0 hk,h.miss hl hm]
theorem Inv.fin(h:Inv P L K r p l B)(hl:l=L.length):jm (P.drop p)=B:=by
 have e:gl (P.drop p) (L.drop l)=jm (P.drop p):=by rw[hl,aL,qk]
 by_cases hk:K=0
 ·rw[h.b0 hk,e]
 ·rw[h.b1 (by omega),e]
  cases ht:tl (gl (P.drop K)) (L.drop (r+1))with
  |false=>rw[Bool.or_false]
  |true=>
   rcases h.later (by omega) ht with⟨_,_,h3⟩|⟨j,h1,h2,_⟩
   ·rw[qk]at h3;rw[h3];rfl
   ·omega
theorem Inv.init(P L:List UInt8):Inv P L 0 0 0 0 (gl P L):=
 ⟨aM _,bL _,aM _,bL _,fun _=>rfl,fun h=>by omega,fun h=>by omega,fun h=>by omega⟩
end Go.Glob
namespace Go.Proofs.YtdafipacemgcoaaGreatDoor
open Go.Sy
open UInt8 renaming reduceLT -> Q0, reduceLE -> Q1
open Int renaming reduceToNat -> Q2, reduceLE -> Q3, reduceLT -> Q4, reduceEq -> Q5, reduceNe -> Q6, reduceNeg -> Q7, reduceAdd -> Q8, reduceSub -> Q9, reduceMul -> Qa
open Nat renaming reducePow -> Qb, reduceDiv -> Qc, reduceMod -> Qd, reduceAdd -> Qe, reduceSub -> Qf, reduceMul -> Qg, reduceLT -> Qh, reduceLeDiff -> Qi, reduceEqDiff -> Qj, reduceBEq -> Qk
end Go.Proofs.YtdafipacemgcoaaGreatDoor
namespace Go.Glob
theorem oM:∀(p q l:List UInt8),gl (p++q) l=true↔∃k,k<=l.length/\gl p (l.take k)=true/\gl q (l.drop k)=true
 |[],q,l=>by
  constructor
  ·intro h;exact⟨0,by omega,rfl,by simpa using h⟩
  ·rintro⟨k,hk,h1,h2⟩
   have:(l.take k)=[]:=by simpa[zh]using h1
   have h0:k=0\/l=[]:=by
    have:=congrArg ri this;rw[ay]at this;rcases l with _|⟨x,l⟩
    ·exact .inr rfl
    ·left;simp at this;omega
   rcases h0 with rfl|rfl
   ·simpa using h2
   ·simpa using h2
 |c::p,q,l=>by
  by_cases hc:c=42
  ·subst hc
   rw[bK,jD,lY];constructor
   ·rintro⟨j,hj,h⟩
    obtain⟨k,hk,h1,h2⟩:=(oM p q _).1 h;rw[aE]at hk;refine⟨j+k,by omega, ?_,by rw[eO]at h2;exact h2⟩;rw[jD,lY];refine⟨j,by rw[ay];omega, ?_⟩;rw[List.drop_take];simpa using h1
   ·rintro⟨m,hm,h1,h2⟩
    rw[jD,lY]at h1;obtain⟨j,hj,h1⟩:=h1;rw[ay]at hj;refine⟨j,by omega,(oM p q _).2 ⟨m-j,by rw[aE];omega,by rw[List.drop_take]at h1;exact h1, ?_⟩⟩;rw[eO];rw[show j+(m-j)=m from by omega];exact h2
  ·rcases l with _|⟨x,l⟩
   ·rw[bK,oL _ _ hc]
    constructor
    ·intro h;cases h
    ·rintro⟨k,hk,h1,h2⟩
     rw[List.take_nil,oL _ _ hc]at h1;cases h1
   ·rw[bK,jE _ _ _ _ hc,az,oM p q l]
    constructor
    ·rintro⟨h0,k,hk,h1,h2⟩
     refine⟨k+1,by simpa using hk, ?_,by simpa using h2⟩;rw[List.take_succ_cons,jE _ _ _ _ hc,az];exact⟨h0,h1⟩
    ·rintro⟨k,hk,h1,h2⟩
     rcases k with _|k
     ·rw[List.take_zero,oL _ _ hc]at h1;cases h1
     ·rw[List.take_succ_cons,jE _ _ _ _ hc,az]at h1
      exact⟨h1.1,k,by simpa using hk,h1.2,by simpa using h2⟩
theorem xfI(l:List UInt8):gl [42] l=true:=by rw[jD,lY];exact⟨l.length,aM _,by rw[aL];rfl⟩
def rw1(P L:List UInt8)(k i:Nat):Bool:=gl (P.take k) (L.take i)
theorem fX(P:List UInt8)(k:Nat)(h:k<P.length):P.take (k+1)=P.take k++ [P.getD k 0]:=by rw[List.take_add_one,af h,aa,af h];rfl
theorem xdx(P L:List UInt8)(i:Nat)(hi:i<=L.length):rw1 P L 0 i=decide (i=0):=by
 unfold rw1;rw[List.take_zero,zh];rcases i with _|i
 ·simp
 ·rcases L with _|⟨x,L⟩
  ·simp at hi
  ·simp
theorem Gc(P L:List UInt8)(k i:Nat)(hk:k<P.length)(hi:i<=L.length)(hc:P.getD k 0=42):rw1 P L (k+1) i=(rw1 P L k i||(decide (0<i)&&rw1 P L (k+1) (i-1))):=by
 have key:∀i,i<=L.length->(rw1 P L (k+1) i=true↔∃j,j<=i/\rw1 P L k j=true):=by
  intro i hi;unfold rw1;rw[fX P k hk,hc,oM];constructor
  ·rintro⟨j,hj,h1,_⟩
   rw[ay]at hj;rw[List.take_take]at h1;exact⟨min j i,by omega,h1⟩
  ·rintro⟨j,hj,h1⟩
   refine⟨j,by rw[ay];omega, ?_,xfI _⟩;rw[List.take_take,fu hj];exact h1
 rw[du,key i hi,dt,az,decide_eq_true_eq];constructor
 ·rintro⟨j,hj,h⟩
  by_cases hji:j=i
  ·subst hji;exact .inl h
  ·exact .inr ⟨by omega,(key (i-1) (by omega)).2 ⟨j,by omega,h⟩⟩
 ·rintro(h|⟨h0,h⟩)
  ·exact⟨i,aM _,h⟩
  ·obtain⟨j,hj,h⟩:=(key (i-1) (by omega)).1 h
   exact⟨j,by omega,h⟩
theorem DR(P L:List UInt8)(k:Nat)(hk:k<P.length)(hc:P.getD k 0≠42):rw1 P L (k+1) 0=false:=by unfold rw1;rw[fX P k hk,List.take_zero,<-Bool.not_eq_true,oM];rintro⟨j,hj,_,h2⟩;rw[List.drop_nil,oL _ _ hc]at h2;cases h2
theorem Gd(P L:List UInt8)(k i:Nat)(hk:k<P.length)(hi:i<L.length)(hc:P.getD k 0≠42):rw1 P L (k+1) (i+1)=(rw1 P L k i&&(decide (P.getD k 0=63)||decide (P.getD k 0=L.getD i 0))):=by
 unfold rw1;rw[fX P k hk,du,oM];have hl:(L.take (i+1)).length=i+1:=by rw[ay];omega
 have h1:∀m:List UInt8,gl [P.getD k 0] m=true↔∃x,m=[x]/\(decide (P.getD k 0=63)||decide (P.getD k 0=x))=true:=by
  intro m;rcases m with _|⟨x,m⟩
  ·rw[oL _ _ hc];simp
  ·rw[jE _ _ _ _ hc,zh,az]
   rcases m with _|⟨y,m⟩
   ·simp
   ·simp
 have hd:(L.take (i+1)).drop i=[L.getD i 0]:=by rw[fX L i hi,List.drop_append_of_le_length (by rw[ay];omega),bU (by rw[ay];omega)];rfl
 rw[az];constructor
 ·rintro⟨j,hj,h2,h3⟩
  obtain⟨x,hx,h4⟩:=(h1 _).1 h3;have e:=congrArg ri hx;rw[aE,hl,aD]at e;have hji:j=i:=by omega
  subst hji;rw[hd]at hx;simp only[lR.injEq,and_true]at hx;rw[List.take_take,fu (by omega)]at h2;rw[hx];exact⟨h2,h4⟩
 ·rintro⟨h2,h3⟩
  refine⟨i,by omega, ?_, ?_⟩
  ·rw[List.take_take,fu (by omega)];exact h2
  ·rw[hd,h1];exact⟨_,rfl,h3⟩
theorem Rv(P L:List UInt8):rw1 P L P.length L.length=gl P L:=by unfold rw1;rw[bo,bo]
end Go.Glob
namespace Go.Proofs.YtdafipacemgcoaaGreatDoor
open Go.Sy
open UInt8 renaming reduceLT -> Q0, reduceLE -> Q1
open Int renaming reduceToNat -> Q2, reduceLE -> Q3, reduceLT -> Q4, reduceEq -> Q5, reduceNe -> Q6, reduceNeg -> Q7, reduceAdd -> Q8, reduceSub -> Q9, reduceMul -> Qa
open Nat renaming reducePow -> Qb, reduceDiv -> Qc, reduceMod -> Qd, reduceAdd -> Qe, reduceSub -> Qf, reduceMul -> Qg, reduceLT -> Qh, reduceLeDiff -> Qi, reduceEqDiff -> Qj, reduceBEq -> Qk
section
open Go.Glob
theorem ia:∀s:List UInt8,ft 42 s=[]↔jm s=true
 |[]=>by simp[ft,jm]
 |x::r=>by
  have:=ia r
  by_cases h:x=42
  ·simp only[ft,h,if_true,this,jm,lD,decide_true,Bool.true_and]
  ·simp[ft,h,jm]
theorem kI(s:List UInt8):jm s.reverse=jm s:=by simp[jm]
theorem FM(s:List UInt8):ft 42 (lO 42 s)=[]↔jm s=true:=by
 rw[ia];unfold lO;rw[kI];constructor
 ·intro h
  rw[<-ia]at h
  have e:∀t:List UInt8,ft 42 t=t\/ft 42 t=[]\/∃x r,ft 42 t=x::r/\x≠42:=by
   intro t;induction t with
   |nil=>exact .inl rfl
   |cons x r ih=>
    by_cases hx:x=42
    ·simp only[ft,hx,if_true]
     rcases ih with h|h|h
     ·cases r with
      |nil=>exact .inr (.inl h)
      |cons y r'=>
       rw[h]
       by_cases hy:y=42
       ·exfalso
        have l1:∀t:List UInt8,(ft 42 t).length<=t.length:=by
         intro t;induction t with
         |nil=>exact aM _
         |cons z t iht=>simp only[ft];split<;>simp only[av]<;>omega
        rw[hy]at h;simp only[ft,if_true]at h;have:=l1 r';rw[h]at this;simp at this;omega
       ·exact .inr (.inr ⟨y,r',rfl,hy⟩)
     ·exact .inr (.inl h)
     ·exact .inr (.inr h)
    ·exact .inl (by simp[ft,hx])
  rcases e s.reverse with h1|h1|⟨x,r,h1,h2⟩
  ·rw[h1,ia,kI]at h;exact h
  ·rw[ia,kI]at h1;exact h1
  ·rw[h1]at h;simp[ft,h2]at h
 ·intro h
  rw[<-kI,<-ia]at h;rw[h];rfl
def Out(P:List UInt8)(B:Bool)(o:Option (Ex×CSt)):Prop:=
 (∃q,q<=P.length/\jm (P.drop q)=B/\o=some (.x 0,⟨[(0,.str P),(5,.int .i64 (q:Nat))],[],[]⟩))\/(B=false/\o=some (.r,⟨[(4,.bool false)],[],[]⟩))
theorem l92(P L:List UInt8)(hP:P.length<=1000000000000)(hL:L.length<=1000000000000)(B:Bool)(K r p l:Nat)(s:Int)(hs:s=(K:Int)-1)(h:Inv P L K r p l B):
 Out P B (run T (.loop yv) ⟨[(0,.str P),(1,.byt L .no),(5,.int .i64 p),(6,.int .i64 l),(7,.int .i64 s),(8,.int .i64 r)],[],[]⟩):=by
 have a1:=h.kp;have a2:=h.pP;have a3:=h.rl;have a4:=h.lL;rw[aj]
 by_cases hl:l<L.length
 ·have e2:ai.wrap ((p:Int)+1)=((p+1:Nat):Int):=bV p (by omega)
  have e3:ai.wrap ((l:Int)+1)=((l+1:Nat):Int):=bV l (by omega);have e4:ai.wrap ((r:Int)+1)=((r+1:Nat):Int):=bV r (by omega);have e5:ai.wrap (s+1)=(K:Int):=by rw[hs,w64 (by omega) (by omega)];omega
  by_cases hp:p<P.length
  ·by_cases hc:P.getD p 0=42
   ·have ih:=l92 P L hP hL B (p+1) l (p+1) l p (by omega) (h.star hp hl hc)
    simp only[go_sem,Qh,Qj,Qk,reduceCtorEq,reduceIte,hl,hp,hc,e2];exact ih
   ·by_cases hq:P.getD p 0=63
    ·have ih:=l92 P L hP hL B K r (p+1) (l+1) s hs (h.step hp hl hc (.inl hq))
     simp only[go_sem,Qh,Qj,Qk,reduceCtorEq,reduceIte,hl,hp,hq,e2,e3,e4,e5];exact ih
    ·by_cases hx:P.getD p 0=L.getD l 0
     ·have ih:=l92 P L hP hL B K r (p+1) (l+1) s hs (h.step hp hl hc (.inr hx))
      have hc':¬L.getD l 0=42:=hx ▸ hc;have hq':¬L.getD l 0=63:=hx ▸ hq;simp only[go_sem,Qh,Qj,Qk,reduceCtorEq,reduceIte,hl,hp,hx,hc',hq',e2,e3,e4,e5];exact ih
     ·by_cases hk:K=0
      ·have hs0:¬0<=s:=by omega
       simp only[go_sem,Qh,Qj,Qk,reduceCtorEq,reduceIte,hl,hp,hc,hq,hx,hs0,e2,e3,e4,e5];exact .inr ⟨h.fail hk hl (fun _=>⟨hc,hq,hx⟩),rfl⟩
      ·have hs0:0<=s:=by omega
       have ih:=l92 P L hP hL B K (r+1) K (r+1) s hs (h.back (by omega) hl (fun _=>⟨hc,hq,hx⟩));simp only[go_sem,Qh,Qj,Qk,reduceCtorEq,reduceIte,hl,hp,hc,hq,hx,hs0,e2,e3,e4,e5];exact ih
  ·by_cases hk:K=0
   ·have hs0:¬0<=s:=by omega
    simp only[go_sem,Qh,Qj,Qk,reduceCtorEq,reduceIte,hl,hp,hs0,e2,e3,e4,e5];exact .inr ⟨h.fail hk hl (fun hp'=>absurd hp' hp),rfl⟩
   ·have hs0:0<=s:=by omega
    have ih:=l92 P L hP hL B K (r+1) K (r+1) s hs (h.back (by omega) hl (fun hp'=>absurd hp' hp));simp only[go_sem,Qh,Qj,Qk,reduceCtorEq,reduceIte,hl,hp,hs0,e2,e3,e4,e5];exact ih
 ·simp only[go_sem,Qh,Qj,Qk,reduceCtorEq,reduceIte,hl]
  exact .inl ⟨p,a2,h.fin (by omega),rfl⟩
termination_by (P.length-K,L.length-r,L.length-l)
decreasing_by
 all_goals first
  |(apply Prod.Lex.left;omega)
  |(apply Prod.Lex.right;apply Prod.Lex.left;omega)
  |(apply Prod.Lex.right;apply Prod.Lex.right;omega)
end
section
open Go.Glob
theorem f92(P L:List UInt8)(hP:P.length<=1000000000000)(hL:L.length<=1000000000000):call T 92 [.str P,.byt L .no] [] 0=some ⟨.bool (gl P L),[],[]⟩:=by
 rw[am xoJ];have h:=l92 P L hP hL (gl P L) 0 0 0 0 (-1) rfl (Inv.init P L);simp only[aB]at h;rcases h with⟨q,hq,hs,h⟩|⟨hB,h⟩
 ·have hd:(P.drop q).length<9223372036854775807:=by rw[aE];omega
  have ht:=FM (P.drop q);rw[hs]at ht;simp only[go_sem,Q7,Qe,Qh,Qi,Qj,Qk,reduceCtorEq,reduceIte,h,hq,bo,xn9 _ hd,xkw,ht];cases gl P L<;>rfl
 ·simp only[go_sem,Q7,Qe,Qh,Qi,Qj,Qk,reduceCtorEq,reduceIte,h,hB]
end
section
open Go.Glob
def prn:List UInt8->Bool
 |[]=>true
 |c::r=>if c<32 then false else if 126<c then false else prn r
def chk(k:Int)(t:List UInt8)(lo hi:Int):Int:=
 if k<1 then 1 else if 4<k then 1 else if prn t then
  (if k=4 then(if lo<0 then 1 else if hi<lo then 1 else if 1000000000<hi then 1 else if 32<t.length then 4 else 0)
   else if lo=0 then(if hi=0 then(if k=1 then(if t=[]then 0 else 1)else if 32<t.length then 4 else 0)else 1)else 1)
 else 1
theorem l90(k:Int)(t:List UInt8)(lo hi:Int)(hl:t.length<=1000000000000):∀(n i:Nat),t.length-i=n->i<=t.length->
 run T (.loop yw) ⟨[(1,.ptr 101 0),(15,.int .i64 t.length),(16,.int .i64 i)],[(101,.rc [.int .i64 k,.str t,.int .i64 lo,.int .i64 hi])],[]⟩=
 if prn (t.drop i)then some (.x 0,⟨[(1,.ptr 101 0)],[(101,.rc [.int .i64 k,.str t,.int .i64 lo,.int .i64 hi])],[]⟩)
 else some (.r,⟨[(2,.int .i64 1)],[(101,.rc [.int .i64 k,.str t,.int .i64 lo,.int .i64 hi])],[]⟩):=by
 intro n;induction n with
 |zero=>
  intro i h0 h1;have hi:i=t.length:=by omega
  subst hi;rw[aj];simp only[go_sem,Qh,Qj,Qk,reduceIte,aL,prn]
 |succ n ih=>
  intro i h0 h1;have hi:i<t.length:=by omega
  have e1:=bV i (by omega);have ih':=ih (i+1) (by omega) (by omega);rw[aj,cV t i hi]
  by_cases h2:t.getD i 0<32
  ·simp only[go_sem,Qe,Qh,Qi,Qj,Qk,reduceIte,hi,prn,h2]
  ·by_cases h3:126<t.getD i 0
   ·simp only[go_sem,Qe,Qh,Qi,Qj,Qk,reduceIte,hi,prn,h2,h3]
   ·simp only[go_sem,Qe,Qh,Qi,Qj,Qk,reduceIte,hi,e1,prn,h2,h3,ih']
theorem l96(k:Int)(t:List UInt8)(lo hi:Int)(hl:t.length<=1000000000000):∀(n i:Nat),t.length-i=n->i<=t.length->
 run T (.loop Ps) ⟨[(1,.ptr 101 0),(3,.int .i64 i)],[(101,.rc [.int .i64 k,.str t,.int .i64 lo,.int .i64 hi])],[]⟩=
 if prn (t.drop i)then some (.x 0,⟨[(1,.ptr 101 0)],[(101,.rc [.int .i64 k,.str t,.int .i64 lo,.int .i64 hi])],[]⟩)
 else some (.r,⟨[(2,.int .i64 1)],[(101,.rc [.int .i64 k,.str t,.int .i64 lo,.int .i64 hi])],[]⟩):=by
 intro n;induction n with
 |zero=>
  intro i h0 h1;have hi:i=t.length:=by omega
  subst hi;rw[aj];simp only[go_sem,Qe,Qh,Qi,Qj,Qk,reduceIte,aL,prn]
 |succ n ih=>
  intro i h0 h1;have hi:i<t.length:=by omega
  have e1:=bV i (by omega);have ih':=ih (i+1) (by omega) (by omega);rw[aj,cV t i hi]
  by_cases h2:t.getD i 0<32
  ·simp only[go_sem,Qe,Qh,Qi,Qj,Qk,reduceIte,hi,prn,h2]
  ·by_cases h3:126<t.getD i 0
   ·simp only[go_sem,Qe,Qh,Qi,Qj,Qk,reduceIte,hi,prn,h2,h3]
   ·simp only[go_sem,Qe,Qh,Qi,Qj,Qk,reduceIte,hi,e1,prn,h2,h3,ih']
end
section
open Go.Glob
theorem px(t:List UInt8):((32:Int)<(t.length:Int))↔32<t.length:=by omega
theorem f90(k:Int)(t:List UInt8)(lo hi:Int)(hl:t.length<=1000000000000):call T 90 [.agg [.int .i64 k,.str t,.int .i64 lo,.int .i64 hi]] [] 0=some ⟨.int .i64 (chk k t lo hi),[],[]⟩:=by
 rw[am xoL];have h:=l90 k t lo hi hl _ 0 rfl (by omega);simp only[aB,aR]at h;unfold chk
 by_cases c1:k<1
 ·simp only[go_sem,Qe,Qh,Qi,Qj,Qk,reduceCtorEq,reduceIte,c1]
 by_cases c2:4<k
 ·simp only[go_sem,Qe,Qh,Qi,Qj,Qk,reduceCtorEq,reduceIte,c1,c2]
 cases c3:prn t with
 |false=>simp only[go_sem,Qe,Qh,Qi,Qj,Qk,reduceCtorEq,reduceIte,h,c1,c2,c3]
 |true=>
  by_cases c4:k=4
  ·subst c4
   by_cases c5:lo<0
   ·simp only[go_sem,Q4,Q5,Qe,Qh,Qi,Qj,Qk,reduceCtorEq,reduceIte,h,c3,c5]
   by_cases c6:hi<lo
   ·simp only[go_sem,Q4,Q5,Qe,Qh,Qi,Qj,Qk,reduceCtorEq,reduceIte,h,c3,c5,c6]
   by_cases c7:1000000000<hi
   ·simp only[go_sem,Q4,Q5,Qe,Qh,Qi,Qj,Qk,reduceCtorEq,reduceIte,h,c3,c5,c6,c7]
   by_cases c8:32<t.length
   ·simp only[go_sem,Q4,Q5,Qe,Qh,Qi,Qj,Qk,reduceCtorEq,reduceIte,h,c3,c5,c6,c7,c8,px]
   ·simp only[go_sem,Q4,Q5,Qe,Qh,Qi,Qj,Qk,reduceCtorEq,reduceIte,h,c3,c5,c6,c7,c8,px]
  ·by_cases c5:lo=0
   ·subst c5
    by_cases c6:hi=0
    ·subst c6
     by_cases c7:k=1
     ·subst c7
      by_cases c8:t=[]
      ·subst c8
       try simp only[aQ,aB]at h
       simp only[go_sem,Q4,Q5,Qe,Qh,Qi,Qj,Qk,reduceCtorEq,reduceIte,h,c3,aQ,aB]
      ·simp only[go_sem,Q4,Q5,Qe,Qh,Qi,Qj,Qk,reduceCtorEq,reduceIte,h,c3,c8]
     ·by_cases c8:32<t.length
      ·simp only[go_sem,Q4,Qe,Qh,Qi,Qj,Qk,reduceCtorEq,reduceIte,h,c1,c2,c3,c4,c7,c8,px]
      ·simp only[go_sem,Q4,Qe,Qh,Qi,Qj,Qk,reduceCtorEq,reduceIte,h,c1,c2,c3,c4,c7,c8,px]
    ·simp only[go_sem,Q4,Qe,Qh,Qi,Qj,Qk,reduceCtorEq,reduceIte,h,c1,c2,c3,c4,c6]
   ·simp only[go_sem,Qe,Qh,Qi,Qj,Qk,reduceCtorEq,reduceIte,h,c1,c2,c3,c4,c5]
theorem f96(k:Int)(t:List UInt8)(lo hi:Int)(hl:t.length<=1000000000000):call T 96 [.agg [.int .i64 k,.str t,.int .i64 lo,.int .i64 hi]] [] 0=some ⟨.int .i64 (chk k t lo hi),[],[]⟩:=by
 rw[am xoF];have h:=l96 k t lo hi hl _ 0 rfl (by omega);simp only[aB,aR]at h;unfold chk
 by_cases c1:k<1
 ·simp only[go_sem,Qe,Qh,Qi,Qj,Qk,reduceCtorEq,reduceIte,c1]
 by_cases c2:4<k
 ·simp only[go_sem,Qe,Qh,Qi,Qj,Qk,reduceCtorEq,reduceIte,c1,c2]
 cases c3:prn t with
 |false=>simp only[go_sem,Qe,Qh,Qi,Qj,Qk,reduceCtorEq,reduceIte,h,c1,c2,c3]
 |true=>
  by_cases c4:k=4
  ·subst c4
   by_cases c5:lo<0
   ·simp only[go_sem,Q4,Q5,Qe,Qh,Qi,Qj,Qk,reduceCtorEq,reduceIte,h,c3,c5]
   by_cases c6:hi<lo
   ·simp only[go_sem,Q4,Q5,Qe,Qh,Qi,Qj,Qk,reduceCtorEq,reduceIte,h,c3,c5,c6]
   by_cases c7:1000000000<hi
   ·simp only[go_sem,Q4,Q5,Qe,Qh,Qi,Qj,Qk,reduceCtorEq,reduceIte,h,c3,c5,c6,c7]
   by_cases c8:32<t.length
   ·simp only[go_sem,Q4,Q5,Qe,Qh,Qi,Qj,Qk,reduceCtorEq,reduceIte,h,c3,c5,c6,c7,c8,px]
   ·simp only[go_sem,Q4,Q5,Qe,Qh,Qi,Qj,Qk,reduceCtorEq,reduceIte,h,c3,c5,c6,c7,c8,px]
  ·by_cases c5:lo=0
   ·subst c5
    by_cases c6:hi=0
    ·subst c6
     by_cases c7:k=1
     ·subst c7
      by_cases c8:t=[]
      ·subst c8
       try simp only[aQ,aB]at h
       simp only[go_sem,Q4,Q5,Qe,Qh,Qi,Qj,Qk,reduceCtorEq,reduceIte,h,c3,aQ,aB]
      ·simp only[go_sem,Q4,Q5,Qe,Qh,Qi,Qj,Qk,reduceCtorEq,reduceIte,h,c3,c8]
     ·by_cases c8:32<t.length
      ·simp only[go_sem,Q4,Qe,Qh,Qi,Qj,Qk,reduceCtorEq,reduceIte,h,c1,c2,c3,c4,c7,c8,px]
      ·simp only[go_sem,Q4,Qe,Qh,Qi,Qj,Qk,reduceCtorEq,reduceIte,h,c1,c2,c3,c4,c7,c8,px]
    ·simp only[go_sem,Q4,Qe,Qh,Qi,Qj,Qk,reduceCtorEq,reduceIte,h,c1,c2,c3,c4,c6]
   ·simp only[go_sem,Qe,Qh,Qi,Qj,Qk,reduceCtorEq,reduceIte,h,c1,c2,c3,c4,c5]
end
section
open Go.Glob
theorem xl8(s t:List UInt8):call T 166 [.str s,.str t] [] 0=some ⟨.bool (decide (t.length<=s.length/\s.take t.length=t)),[],[]⟩:=by
 rw[am xjM]
 by_cases h:t.length<=s.length
 ·by_cases h2:s.take t.length=t
  ·simp only[go_sem,Q2,Q3,Qe,Qh,Qi,Qj,Qk,reduceCtorEq,reduceIte,h,h2]
  ·simp only[go_sem,Q2,Q3,Qe,Qh,Qi,Qj,Qk,reduceCtorEq,reduceIte,h,h2]
 ·simp only[go_sem,Q2,Q3,Qe,Qh,Qi,Qj,Qk,reduceCtorEq,reduceIte,h]
theorem xmc(s t:List UInt8):call T 134 [.str s,.str t] [] 0=some ⟨if t.length<=s.length/\s.take t.length=t then .tup [.str (s.drop t.length),.bool true]else .tup [.str s,.bool false],[],[]⟩:=by
 rw[am xjZ]
 by_cases h:t.length<=s.length/\s.take t.length=t
 ·have h1:=h.1
  simp only[go_sem,Qe,Qh,Qi,Qj,Qk,reduceCtorEq,reduceIte,xl8,xbN,h,bo]
 ·simp only[go_sem,Qe,Qh,Qi,Qj,Qk,reduceCtorEq,reduceIte,xl8,xbN,h]
theorem f93(s t:List UInt8):call T 93 [.str s,.str t] [] 0=some ⟨if t.length<=s.length/\s.take t.length=t then .tup [.str (s.drop t.length),.bool true]else .tup [.str s,.bool false],[],[]⟩:=by
 rw[am xoI]
 by_cases h:t.length<=s.length/\s.take t.length=t
 ·simp only[go_sem,Qe,Qh,Qi,Qj,Qk,reduceCtorEq,reduceIte,xmc,xbQ,h]
 ·simp only[go_sem,Qe,Qh,Qi,Qj,Qk,reduceCtorEq,reduceIte,xmc,xbQ,h]
def num:Nat->List UInt8->Nat
 |n,[]=>n
 |n,c::r=>num (n*10+(c.toNat-48)) r
def gW:List UInt8->Bool
 |[]=>true
 |c::r=>if c<48 then false else if 57<c then false else gW r
theorem tt(c:UInt8)(h1:¬c<48)(h2:¬57<c):(c-48).toNat=c.toNat-48/\¬9<c-48/\c.toNat-48<=9:=by
 have h1':48<=c.toNat:=by simpa[eG]using h1
 have h2':c.toNat<=57:=by simpa[eG]using h2
 have e:(c-48).toNat=c.toNat-48:=UInt8.toNat_sub_of_le c 48 (by simpa[UInt8.le_iff_toNat_le]using h1');refine⟨e, ?_,by omega⟩;rw[eG,e];simp;omega
def lim:Nat->Nat
 |0=>0
 |i+1=>lim i*10+9
theorem xfB(i:Nat)(h:i<=9):lim i<=999999999:=by
 have:i=0\/i=1\/i=2\/i=3\/i=4\/i=5\/i=6\/i=7\/i=8\/i=9:=by omega
 rcases this with rfl|rfl|rfl|rfl|rfl|rfl|rfl|rfl|rfl|rfl<;>simp[lim]
theorem xjd(s0 s:List UInt8)(n:Nat):run T (.loop pe) ⟨[(5,.str s0),(6,.int .i64 n),(47,.byt s .no),(48,.int .i64 s.length),(49,.int .i64 s.length)],[],[]⟩=some (.x 0,⟨[(5,.str s0),(6,.int .i64 n)],[],[]⟩):=by rw[aj];simp only[go_sem,Qh,Qj,Qk,reduceIte]
theorem xnD(s0 s:List UInt8)(hl:s.length<=10):∀(m i n:Nat),s.length-i=m->i<=s.length->n<=lim i->gW (s.drop i)=true->
 run T (.loop pe) ⟨[(5,.str s0),(6,.int .i64 n),(47,.byt s .no),(48,.int .i64 s.length),(49,.int .i64 i)],[],[]⟩=some (.x 0,⟨[(5,.str s0),(6,.int .i64 (num n (s.drop i)))],[],[]⟩):=by
 intro m;induction m with
 |zero=>
  intro i n h0 h1 hn hd;have hi:i=s.length:=by clear hn;omega
  rw[hi,aL];exact xjd s0 s n
 |succ m ih=>
  intro i n h0 h1 hn hd;have hi:i<s.length:=by omega
  rw[cV s i hi]at hd;simp only[gW]at hd
  by_cases h2:s.getD i 0<48
  ·rw[if_pos h2]at hd;cases hd
  rw[if_neg h2]at hd
  by_cases h3:57<s.getD i 0
  ·rw[if_pos h3]at hd;cases hd
  rw[if_neg h3]at hd;obtain⟨d1,d2,d3⟩:=tt _ h2 h3;have hp:lim i<=999999999:=xfB i (by omega);have hn':n*10+((s.getD i 0).toNat-48)<=lim (i+1):=by simp only[lim];omega
  have ih':=ih (i+1) (n*10+((s.getD i 0).toNat-48)) (by omega) (by omega) hn' hd;have e1:=bV i (by omega);have e2:ai.wrap ((n:Int)*10)=((n*10:Nat):Int):=wZ (by omega)
  have e3:ai.wrap (((n*10:Nat):Int)+(((s.getD i 0).toNat-48:Nat):Int))=((n*10+((s.getD i 0).toNat-48):Nat):Int):=wZ (by omega)
  rw[aj,cV s i hi];simp only[go_sem,Qh,Qj,Qk,reduceIte,hi,e1,e2,e3,d1,d2];show _=some (Ex.x 0,CSt.mk [(5,.str s0),(6,.int .i64 ((num (n*10+((s.getD i 0).toNat-48)) (s.drop (i+1)):Nat):Int))] [] []);exact ih'
end
section
open Go.Glob
theorem xn0(s:List UInt8)(h0:s≠ [])(hl:s.length<=10)(hd:gW s=true):call T 167 [.str s] [] 0=some ⟨.tup [.int .i64 (num 0 s),.nili],[],[]⟩:=by
 rw[am xjL];have h:=xnD s s hl _ 0 0 rfl (by omega) (by simp[lim]) (by simpa using hd);simp only[aB,aR]at h;cases s with
 |nil=>exact absurd rfl h0
 |cons c r=>
  simp only[gW]at hd
  by_cases h2:c<48
  ·rw[if_pos h2]at hd;cases hd
  rw[if_neg h2]at hd
  by_cases h3:57<c
  ·rw[if_pos h3]at hd;cases hd
  have h2':48<=c.toNat:=by simpa[eG]using h2
  have h4:¬c=45:=by rintro rfl;simp at h2'
  have h5:¬c=43:=by rintro rfl;simp at h2'
  have h6:(0:Int)<(((c::r).length:Nat):Int):=by rw[av];omega
  have h7:¬(10:Int)<=(((c::r).length:Nat):Int)\/True:= .inr trivial;have h8:(((c::r).length:Nat):Int)<19:=by omega
  have h9:List.getD (c::r) 0 0=c:=rfl;generalize hs:c::r=s at*;simp only[go_sem,Q2,Q3,Qh,Qi,Qj,Qk,reduceCtorEq,reduceIte,h,h4,h5,h6,h8,h9]
theorem xmb(s:List UInt8)(h0:s≠ [])(hl:s.length<=10)(hd:gW s=true):call T 135 [.str s] [] 0=some ⟨.tup [.int .i64 (num 0 s),.nili],[],[]⟩:=by rw[am xjY];simp only[go_sem,Qe,Qh,Qi,Qj,Qk,reduceCtorEq,reduceIte,xn0 s h0 hl hd,xkp]
def qR(s:List UInt8):Int:=if s=[]then-1 else if 10<s.length then-1 else if 1<s.length/\s.getD 0 0=48 then-1 else if gW s then(num 0 s:Nat)else-1
theorem l94(s:List UInt8)(hl:s.length<=10):∀(m i:Nat),s.length-i=m->i<=s.length->
 run T (.loop Pw) ⟨[(0,.str s),(24,.int .i64 s.length),(25,.int .i64 i)],[],[]⟩=if gW (s.drop i)then some (.x 0,⟨[(0,.str s)],[],[]⟩)else some (.r,⟨[(2,.int .i64 (-1))],[],[]⟩):=by
 intro m;induction m with
 |zero=>
  intro i h0 h1;have hi:i=s.length:=by omega
  subst hi;rw[aj];simp only[go_sem,Q7,Qh,Qj,Qk,reduceCtorEq,reduceIte,aL,gW]
 |succ m ih=>
  intro i h0 h1;have hi:i<s.length:=by omega
  have e1:=bV i (by omega);have ih':=ih (i+1) (by omega) (by omega);rw[aj,cV s i hi]
  by_cases h2:s.getD i 0<48
  ·simp only[go_sem,Q7,Qh,Qj,Qk,reduceCtorEq,reduceIte,hi,gW,h2]
  ·by_cases h3:57<s.getD i 0
   ·simp only[go_sem,Q7,Qh,Qj,Qk,reduceCtorEq,reduceIte,hi,gW,h2,h3]
   ·simp only[go_sem,Q7,Qh,Qj,Qk,reduceCtorEq,reduceIte,hi,e1,gW,h2,h3,ih']
theorem f94(s:List UInt8)(hs:s.length<=1000000000000):call T 94 [.str s] [] 0=some ⟨.int .i64 (qR s),[],[]⟩:=by
 rw[am xoH];unfold qR
 by_cases h1:s=[]
 ·simp only[go_sem,Q7,Qh,Qi,Qj,Qk,reduceCtorEq,reduceIte,h1]
 by_cases h2:10<s.length
 ·have h2':(10:Int)<((s.length:Nat):Int):=by omega
  simp only[go_sem,Q7,Qh,Qi,Qj,Qk,reduceCtorEq,reduceIte,h1,h2,h2']
 have h2':¬(10:Int)<((s.length:Nat):Int):=by omega
 have hp:(0:Int)<((s.length:Nat):Int):=by cases s with|nil=>exact absurd rfl h1|cons c r=>rw[av];omega
 have h:=l94 s (by omega) _ 0 rfl (by omega);simp only[aB,aR]at h
 by_cases h3:1<s.length
 ·have h3':(1:Int)<((s.length:Nat):Int):=by omega
  by_cases h4:s.getD 0 0=48
  ·simp only[go_sem,Q2,Q3,Q7,Qh,Qi,Qj,Qk,reduceCtorEq,reduceIte,h1,h2,h2',h3,h3',h4,hp]
  ·cases hd:gW s with
   |true=>simp only[go_sem,Q2,Q3,Q7,Qe,Qh,Qi,Qj,Qk,reduceCtorEq,reduceIte,h1,h2,h2',h3,h3',h4,hp,h,hd,xmb s h1 (by omega) hd,xbP]
   |false=>simp only[go_sem,Q2,Q3,Q7,Qh,Qi,Qj,Qk,reduceCtorEq,reduceIte,h1,h2,h2',h3,h3',h4,hp,h,hd]
 ·have h3':¬(1:Int)<((s.length:Nat):Int):=by omega
  cases hd:gW s with
  |true=>simp only[go_sem,Q2,Q3,Q7,Qe,Qh,Qi,Qj,Qk,reduceCtorEq,reduceIte,h1,h2,h2',h3,h3',hp,h,hd,xmb s h1 (by omega) hd,xbP]
  |false=>simp only[go_sem,Q2,Q3,Q7,Qh,Qi,Qj,Qk,reduceCtorEq,reduceIte,h1,h2,h2',h3,h3',hp,h,hd]
end
section
open Go.Glob
def alw(k:Int)(t:List UInt8)(lo hi:Int)(b:List UInt8):Bool:=
 if chk k t lo hi=0 then
  (if k=2 then decide (b=t)else if k=3 then gl t b else if k=4 then
   (if t.length<=b.length/\b.take t.length=t then(if lo<=qR (b.drop t.length)then decide (qR (b.drop t.length)<=hi)else false)else false)
   else true)
 else false
theorem f53(k:Int)(t:List UInt8)(lo hi:Int)(b:List UInt8)(ht:t.length<=1000000000000)(hb:b.length<=1000000000000):
 call T 53 [.agg [.int .i64 k,.str t,.int .i64 lo,.int .i64 hi],.byt b .no] [] 0=some ⟨.bool (alw k t lo hi b),[],[]⟩:=by
 rw[am xpb];have h:=f90 k t lo hi ht;unfold alw
 by_cases c0:chk k t lo hi=0
 ·by_cases c2:k=2
  ·subst c2
   by_cases c3:b=t
   ·simp only[go_sem,Q5,Qe,Qh,Qi,Qj,Qk,reduceCtorEq,reduceIte,h,tX,c0,c3]
   ·simp only[go_sem,Q5,Qe,Qh,Qi,Qj,Qk,reduceCtorEq,reduceIte,h,tX,c0,c3]
  by_cases c3:k=3
  ·subst c3
   simp only[go_sem,Q5,Qe,Qh,Qi,Qj,Qk,reduceCtorEq,reduceIte,h,tX,c0,f92 t b ht hb,xpN]
  by_cases c4:k=4
  ·subst c4
   have hn:=f94 (b.drop t.length) (by rw[aE];omega)
   by_cases c5:t.length<=b.length/\b.take t.length=t
   ·by_cases c6:lo<=qR (b.drop t.length)
    ·simp only[go_sem,Q5,Qe,Qh,Qi,Qj,Qk,reduceCtorEq,reduceIte,h,tX,c0,f93,xgA,c5,hn,xgz,c6]
    ·simp only[go_sem,Q5,Qe,Qh,Qi,Qj,Qk,reduceCtorEq,reduceIte,h,tX,c0,f93,xgA,c5,hn,xgz,c6]
   ·simp only[go_sem,Q5,Qe,Qh,Qi,Qj,Qk,reduceCtorEq,reduceIte,h,tX,c0,f93,xgA,c5,f94 b hb,xgz]
  ·simp only[go_sem,Qe,Qh,Qi,Qj,Qk,reduceCtorEq,reduceIte,h,tX,c0,c2,c3,c4]
 ·simp only[go_sem,Qe,Qh,Qi,Qj,Qk,reduceCtorEq,reduceIte,h,tX,c0]
end
section
open Go.Glob
theorem dH(B:List UInt8)(i n:Nat)(h:0<n):dz B i n<n:=by
 unfold dz;split
 ·exact Nat.mod_lt _ h
 ·exact h
def bl(f:Nat->Bool)(n:Nat):List (List SV):=(ce n).map fun i=> [.bool (f i)]
theorem re(f:Nat->Bool)(n:Nat):(bl f n).length=n:=by simp[bl]
theorem uI(f:Nat->Bool)(n i:Nat)(h:i<n):(bl f n).getD i []=[.bool (f i)]:=by simp[bl,aa,aS,cN h]
theorem kD{f g:Nat->Bool}{n:Nat}(h:∀i,i<n->f i=g i):bl f n=bl g n:=by unfold bl;exact List.map_congr_left fun i hi=>by rw[h i (jH.1 hi)]
theorem O8(n:Nat):aq n [SV.bool false]=bl (fun _=>false) n:=by unfold bl;rw[List.map_const'];simp
theorem O7(f:Nat->Bool)(n i:Nat)(b:Bool):(bl f n).set i [.bool b]=bl (fun j=>if j=i then b else f j) n:=by
 apply sK
 ·simp[bl]
 ·intro k h1 h2
  simp only[bl,List.getElem_set,List.getElem_map,List.getElem_range]
  by_cases h:i=k
  ·rw[if_pos h,if_pos h.symm]
  ·rw[if_neg h,if_neg (fun e=>h e.symm)]
def nx(P L:List UInt8)(k i:Nat):Nat->Bool:=fun j=>decide (j<i)&&rw1 P L (k+1) j
theorem xa9{P L:List UInt8}{k i j:Nat}(h:j<i):nx P L k i j=rw1 P L (k+1) j:=by unfold nx;rw[decide_eq_true h,Bool.true_and]
theorem xnf(P L:List UInt8)(k n:Nat):bl (nx P L k 0) n=bl (fun _=>false) n:=kD fun j _=>by simp[nx]
theorem oK{P L:List UInt8}{k i n:Nat}{b:Bool}(hb:rw1 P L (k+1) i=b):(bl (nx P L k i) n).set i [.bool b]=bl (nx P L k (i+1)) n:=by
 rw[O7];refine kD fun j _=> ?_
 unfold nx
 by_cases h:j=i
 ·subst h;rw[if_pos rfl,hb];simp
 ·rw[if_neg h]
  by_cases h2:j<i
  ·rw[decide_eq_true h2,decide_eq_true (by omega:j<i+1)]
  ·rw[decide_eq_false h2,decide_eq_false (by omega:¬j<i+1)]
theorem Sh{P L:List UInt8}{k i n:Nat}(hb:rw1 P L (k+1) i=false):bl (nx P L k i) n=bl (nx P L k (i+1)) n:=by
 refine kD fun j _=> ?_
 unfold nx
 by_cases h:j=i
 ·subst h;rw[hb];simp
 ·by_cases h2:j<i
  ·rw[decide_eq_true h2,decide_eq_true (by omega:j<i+1)]
  ·rw[decide_eq_false h2,decide_eq_false (by omega:¬j<i+1)]
theorem xjs(P L:List UInt8)(k:Nat)(hk:k<P.length)(hL:L.length<=1000000000000):∀(n i:Nat),L.length+1-i=n->i<=L.length+1->
 run T (.loop s8) ⟨[(0,.str P),(1,.byt L .no),(5,.lst 1 (bl (rw1 P L k) (L.length+1)) .clip),(6,.int .i64 k),(7,.psl 124 1 0 (L.length+1) (some (L.length+1))),(8,.int .i64 i)],[(124,.arr 1 (bl (nx P L k i) (L.length+1)))],[]⟩=
 some (.x 2,⟨[(0,.str P),(1,.byt L .no),(6,.int .i64 k),(7,.psl 124 1 0 (L.length+1) (some (L.length+1)))],[(124,.arr 1 (bl (rw1 P L (k+1)) (L.length+1)))],[]⟩):=by
 intro n;induction n with
 |zero=>
  intro i h0 h1;have hi:i=L.length+1:=by omega
  subst hi;have e:bl (nx P L k (L.length+1)) (L.length+1)=bl (rw1 P L (k+1)) (L.length+1):=kD fun j hj=>xa9 hj
  have c:¬(L.length+1)<=L.length:=by omega
  rw[aj];simp only[go_sem,Qh,Qj,Qk,reduceCtorEq,reduceIte,c,e]
 |succ n ih=>
  intro i h0 h1;have hi:i<=L.length:=by omega
  have hi2:i<L.length+1:=by omega
  have hi3:(i:Int)<((L.length+1:Nat):Int):=by omega
  have e1:=bV i (by omega);have ih':=ih (i+1) (by omega) (by omega);have hg:=uI (rw1 P L k) (L.length+1) i hi2;have hlen:=re (rw1 P L k) (L.length+1);have hlen2:=re (nx P L k i) (L.length+1);rw[aj]
  by_cases h42:P.getD k 0=42
  ·have hs:=Gc P L k i hk hi h42
   cases hr:rw1 P L k i with
   |true=>rw[hr,fU]at hs;rw[hr]at hg;have hset:=oK (n:=L.length+1) hs;simp only[go_sem,Qh,Qj,Qk,reduceCtorEq,reduceIte,hi,hi2,hi3,hk,h42,hg,hlen,hlen2,hset,e1,ih']
   |false=>
    rw[hr,dq]at hs;rw[hr]at hg
    by_cases hp:0<i
    ·have hp':(0:Int)<(i:Int):=by omega
     rw[decide_eq_true hp,Bool.true_and]at hs;have hset:=oK (n:=L.length+1) hs;have e2:ai.wrap ((i:Int)-1)=((i-1:Nat):Int):=wZ (by omega)
     have hg2:=uI (nx P L k i) (L.length+1) (i-1) (by omega);rw[xa9 (by omega)]at hg2;have hi4:i-1<L.length+1:=by omega
     simp only[go_sem,Qh,Qj,Qk,reduceCtorEq,reduceIte,hi,hi2,hi3,hi4,hk,h42,hg,hg2,hp',hlen,hlen2,hset,e1,e2,ih']
    ·have hp':¬(0:Int)<(i:Int):=by omega
     rw[decide_eq_false hp,Fl]at hs;have hset:=oK (n:=L.length+1) hs;simp only[go_sem,Qh,Qj,Qk,reduceCtorEq,reduceIte,hi,hi2,hi3,hk,h42,hg,hp',hlen,hlen2,hset,e1,ih']
  ·by_cases hp:0<i
   ·have hp':(0:Int)<(i:Int):=by omega
    have e2:ai.wrap ((i:Int)-1)=((i-1:Nat):Int):=wZ (by omega)
    have hs:=Gd P L k (i-1) hk (by omega) h42;rw[show i-1+1=i from by omega]at hs;have hg2:=uI (rw1 P L k) (L.length+1) (i-1) (by omega);have hi4:i-1<L.length+1:=by omega
    have hi5:i-1<L.length:=by omega
    cases hr:rw1 P L k (i-1)with
    |false=>rw[hr]at hs hg2;rw[Fl]at hs;have hset:=oK (n:=L.length+1) hs;simp only[go_sem,Qb,Qc,Qd,Qh,Qj,Qk,reduceCtorEq,reduceIte,hi,hi2,hi3,hi4,hk,h42,hg2,hp',hlen,hlen2,hset,e1,e2,ih']
    |true=>
     rw[hr]at hs hg2;rw[Bool.true_and]at hs
     by_cases h63:P.getD k 0=63
     ·rw[decide_eq_true h63,fU]at hs
      have hset:=oK (n:=L.length+1) hs;have c63:¬(63:UInt8)=42:=by decide
      simp only[go_sem,Qb,Qc,Qd,Qh,Qj,Qk,reduceCtorEq,reduceIte,hi,hi2,hi3,hi4,hk,h63,c63,hg2,hp',hlen,hlen2,hset,e1,e2,ih']
     ·rw[decide_eq_false h63,dq]at hs
      have hset:=oK (n:=L.length+1) hs;simp only[go_sem,Qb,Qc,Qd,Qh,Qj,Qk,reduceCtorEq,reduceIte,hi,hi2,hi3,hi4,hi5,hk,h42,h63,hg2,hp',hlen,hlen2,hset,e1,e2,ih']
   ·have hp':¬(0:Int)<(i:Int):=by omega
    have hi0:i=0:=by omega
    have hs:rw1 P L (k+1) i=false:=by rw[hi0];exact DR P L k hk h42
    rw[<-Sh hs]at ih';simp only[go_sem,Qh,Qj,Qk,reduceCtorEq,reduceIte,hi,hk,h42,hp',e1,ih']
theorem xjr(P L:List UInt8)(hP:P.length<=1000000000000)(hL:L.length<=1000000000000):∀(n k:Nat),P.length-k=n->k<=P.length->
 run T (.loop s7) ⟨[(0,.str P),(1,.byt L .no),(5,.lst 1 (bl (rw1 P L k) (L.length+1)) .clip),(6,.int .i64 k)],[],[]⟩=
 some (.x 0,⟨[(1,.byt L .no),(5,.lst 1 (bl (rw1 P L P.length) (L.length+1)) .clip)],[],[]⟩):=by
 intro n;induction n with
 |zero=>
  intro k h0 h1;have hk:k=P.length:=by omega
  subst hk;rw[aj];simp only[go_sem,Qh,Qj,Qk,reduceCtorEq,reduceIte]
 |succ n ih=>
  intro k h0 h1;have hk:k<P.length:=by omega
  have e1:=bV k (by omega);have e2:=bV L.length (by omega);have ih':=ih (k+1) (by omega) (by omega);have h:=xjs P L k hk hL _ 0 rfl (by omega);rw[xnf,<-O8]at h;have hb:((L.length+1:Nat):Int)<=9223372036854775807:=by omega
  have hb2:((L.length+1:Nat):Int)<=140737488355328:=by omega
  have hlen:=re (rw1 P L (k+1)) (L.length+1);have ht:(bl (rw1 P L (k+1)) (L.length+1)).take (L.length+1)=bl (rw1 P L (k+1)) (L.length+1):=bO (by rw[hlen];omega);rw[aj];simp only[aB]at h;simp only[go_sem,Qe,Qh,Qj,Qk,reduceCtorEq,reduceIte,hk,e1,e2,hb,hb2,c1,Int.one_mul,h,hlen,ht,ih']
theorem xop(P L:List UInt8)(hP:P.length<=1000000000000)(hL:L.length<=1000000000000):call T 100 [.str P,.byt L .no] [] 0=some ⟨.bool (gl P L),[],[]⟩:=by
 rw[am xko];have e2:=bV L.length (by omega);have h:=xjr P L hP hL _ 0 rfl (by omega);have hb:((L.length+1:Nat):Int)<=9223372036854775807:=by omega
 have hb2:((L.length+1:Nat):Int)<=140737488355328:=by omega
 have hb3:(0:Int)<((L.length+1:Nat):Int):=by omega
 have h0:0<L.length+1:=by omega
 have hset:(bl (fun _=>false) (L.length+1)).set 0 [.bool true]=bl (rw1 P L 0) (L.length+1):=by rw[O7];exact kD fun i hi=>by rw[xdx P L i (by omega)];by_cases hi0:i=0<;>simp[hi0]
 have hset2:(aq (L.length+1) [SV.bool false]).set 0 [.bool true]=bl (rw1 P L 0) (L.length+1):=by rw[O8];exact hset
 have hlen:=re (rw1 P L 0) (L.length+1);have ht:(bl (rw1 P L 0) (L.length+1)).take (L.length+1)=bl (rw1 P L 0) (L.length+1):=bO (by rw[hlen];omega);have hlen2:=re (rw1 P L P.length) (L.length+1);have hg:=uI (rw1 P L P.length) (L.length+1) L.length (by omega);rw[Rv]at hg;have hl2:L.length<L.length+1:=by omega
 simp only[aB]at h;simp only[go_sem,Q2,Q3,Qe,Qh,Qi,Qj,Qk,reduceCtorEq,reduceIte,e2,hb,hb2,hb3,h0,c1,Int.one_mul,h,hlen,hlen2,ht,hset2,hg,hl2]
end
section
open Go.Glob
def gh:Nat->List UInt8
 |0=> [97,61,49]
 |1=> [99,111,117,110,116,61,53]
 |2=> [99,111,117,110,116,61,49,55]
 |3=> [104,111,115,116,61,120]
 |4=> [109,111,100,101,32,98]
 |_=> [126]
def E9:Nat->List UInt8
 |0=> []
 |1=> [42]
 |2=> [97,61,63]
 |3=> [42,61,42]
 |4=> [63,111,42,53]
 |5=> [99,111,117,110,116,61,63,63]
 |_=> [42,97,42,42,49,42]
def xba:Nat->List UInt8
 |0=> [99,111,117,110,116,61]
 |1=> [97,61]
 |_=> []
theorem vN:∀v,v<6->chk 2 (gh v) 0 0=0/\(gh v).length<=20:=by decide
theorem vU:∀v,v<7->chk 3 (E9 v) 0 0=0/\(E9 v).length<=20:=by decide
theorem tg:∀v,v<3->prn (xba v)=true/\(xba v).length<=20:=by decide
theorem cz0:((0:Nat):Int)=0:=rfl
theorem cz1:((1:Nat):Int)=1:=rfl
theorem cz2:((2:Nat):Int)=2:=rfl
theorem cz3:((3:Nat):Int)=3:=rfl
theorem cz4:((4:Nat):Int)=4:=rfl
theorem cz5:((5:Nat):Int)=5:=rfl
theorem cz6:((6:Nat):Int)=6:=rfl
theorem cz7:((7:Nat):Int)=7:=rfl
theorem f86(B:List UInt8)(i:Nat)(hB:B.length<=1000):call T 86 [.ptr 0 0] [aI B i] 0=some ⟨.byt (gh (dz B i 6)) .no,[(0,aI B (cg B i))],[]⟩:=by
 rw[am xoO];have g:=f37 B i 6 (by omega) (by omega);have hm:=dH B i 6 (by omega);rw[cz6]at g;generalize dz B i 6=v at g hm;simp only[aI]at g;have:v=0\/v=1\/v=2\/v=3\/v=4\/v=5:=by omega
 rcases this with rfl|rfl|rfl|rfl|rfl|rfl<;>simp only[cz0,cz1,cz2,cz3,cz4,cz5]at g<;>simp only[go_sem,Q2,Q3,Q4,Qe,Qg,Qh,Qi,Qj,Qk,reduceCtorEq,reduceIte,List.all_replicate,cz6,aI,g,eI,gh]
theorem Tg(t:List UInt8)(ht:prn t=true)(hl:t.length<=20)(a b:Nat)(ha:a<1000)(hb:b<1000):chk 4 t a ((a:Int)+b)=0:=by unfold chk;rw[if_neg (by omega),if_neg (by omega),if_pos ht,if_pos rfl,if_neg (by omega),if_neg (by omega),if_neg (by omega),if_neg (by omega)]
theorem xol(B:List UInt8)(i:Nat)(hB:B.length<=1000):∃(k:Int)(t:List UInt8)(lo hi:Int)(j:Nat),chk k t lo hi=0/\t.length<=20/\
 call T 107 [.ptr 0 0] [aI B i] 0=some ⟨.agg [.int .i64 k,.str t,.int .i64 lo,.int .i64 hi],[(0,aI B j)],[]⟩:=by
 rw[am Fc];have g:=f37 B i 5 (by omega) (by omega);have hm:=dH B i 5 (by omega);rw[cz5]at g;generalize dz B i 5=v at g hm;simp only[aI]at g;have hv:v=0\/v=1\/v=2\/v=3\/v=4:=by omega
 generalize cg B i=i1 at g;have g7:=f37 B i1 7 (by omega) (by omega);have h7:=dH B i1 7 (by omega);have g20:=f37 B i1 20 (by omega) (by omega);have h20:=dH B i1 20 (by omega);have g3:=f37 B (cg B i1) 3 (by omega) (by omega);have h3:=dH B (cg B i1) 3 (by omega);have g30:=f37 B (cg B (cg B i1)) 30 (by omega) (by omega);have h30:=dH B (cg B (cg B i1)) 30 (by omega);have hl:=f86 B i1 hB;have h6:=dH B i1 6 (by omega);simp only[aI]at g7 g20 g3 g30 hl;rw[cz7]at g7;rw[c20]at g20;rw[cz3]at g3;rw[c30]at g30;generalize dz B i1 6=v6 at*;generalize dz B i1 7=v7 at*;generalize dz B i1 20=v20 at*;generalize dz B (cg B i1) 3=v3 at*;generalize dz B (cg B (cg B i1)) 30=v30 at*
 have hN:v=3\/v=4->∃(k:Int)(t:List UInt8)(lo hi:Int)(j:Nat),chk k t lo hi=0/\t.length<=20/\
  call T 107 [.ptr 0 0] [aI B i] 0=some ⟨.agg [.int .i64 k,.str t,.int .i64 lo,.int .i64 hi],[(0,aI B j)],[]⟩:=by
  intro hv;refine⟨4,xba v3,v20,(v20:Int)+v30,cg B (cg B (cg B i1)),Tg _ (tg _ h3).1 (tg _ h3).2 _ _ (by omega) (by omega),(tg _ h3).2, ?_⟩;have e:ai.wrap ((v20:Int)+(v30:Int))=(v20:Int)+v30:=w64 (by omega) (by omega);rw[am Fc];have:v3=0\/v3=1\/v3=2:=by omega
  rcases hv with rfl|rfl<;>rcases this with rfl|rfl|rfl<;>simp only[cz0,cz1,cz2,cz3,cz4]at g g3<;>simp only[go_sem,Q2,Q3,Q4,Q5,Qb,Qc,Qd,Qe,Qg,Qh,Qi,Qj,Qk,reduceCtorEq,reduceIte,List.all_replicate,cz3,aI,g,g20,g3,g30,eI,e,xba]
 rcases hv with rfl|rfl|rfl|rfl|rfl
 ·refine⟨1,[],0,0,i1,by decide,by decide, ?_⟩
  simp only[cz0]at g;simp only[go_sem,Q5,Qe,Qg,Qh,Qi,Qj,Qk,reduceCtorEq,reduceIte,List.all_replicate,aI,g,eI]
 ·refine⟨2,gh v6,0,0,cg B i1,(vN _ h6).1,(vN _ h6).2, ?_⟩
  simp only[cz1]at g;simp only[go_sem,Q5,Qe,Qg,Qh,Qi,Qj,Qk,reduceCtorEq,reduceIte,List.all_replicate,aI,g,eI,hl,oi]
 ·refine⟨3,E9 v7,0,0,cg B i1,(vU _ h7).1,(vU _ h7).2, ?_⟩
  simp only[cz2]at g;have:v7=0\/v7=1\/v7=2\/v7=3\/v7=4\/v7=5\/v7=6:=by omega
  rcases this with rfl|rfl|rfl|rfl|rfl|rfl|rfl<;>simp only[cz0,cz1,cz2,cz3,cz4,cz5,cz6]at g7<;>simp only[go_sem,Q2,Q3,Q4,Q5,Qe,Qg,Qh,Qi,Qj,Qk,reduceCtorEq,reduceIte,List.all_replicate,cz7,aI,g,g7,eI,E9]
 ·rw[<-am Fc];exact hN (.inl rfl)
 ·rw[<-am Fc];exact hN (.inr rfl)
end
section
open Go.Glob
def dg(d:Nat):UInt8:=bM ((48+d:Nat):Int)
theorem xby:∀d,d<10->(dg d).toNat=48+d/\¬dg d<48/\¬57<dg d/\(d≠0->dg d≠48):=by decide
def dec(n:Nat):List UInt8:=if h:n<10 then [dg n]else dec (n/10)++ [dg (n % 10)]
termination_by n
decreasing_by omega
theorem ez{n:Nat}(h:n<10):dec n=[dg n]:=by rw[dec,dif_pos h]
theorem cd{n:Nat}(h:¬n<10):dec n=dec (n/10)++ [dg (n % 10)]:=by rw[dec,dif_neg h]
theorem Td:∀n,(dec n).length<=n+1:=by
 intro n;induction n using Nat.strongRecOn with
 |_ n ih=>
  by_cases h:n<10
  ·rw[ez h];simp
  ·have:=ih (n/10) (by omega)
   rw[cd h,ah,aD];omega
theorem xgg(n:Nat):dec n≠ []:=by
 by_cases h:n<10
 ·rw[ez h];simp
 ·rw[cd h];simp
theorem jg:∀k n,n<10^(k+1)->(dec n).length<=k+1
 |0,n,h=>by rw[ez (by simpa using h)];simp
 |k+1,n,h=>by
  by_cases h1:n<10
  ·rw[ez h1];simp
  ·have:=jg k (n/10) (by rw[Nat.pow_succ]at h;omega)
   rw[cd h1,ah,aD];omega
theorem CX:∀(s t:List UInt8)(a:Nat),num a (s++t)=num (num a s) t
 |[],_,_=>rfl
 |c::s,t,a=>CX s t _
theorem GB(s:List UInt8)(c:UInt8)(a:Nat):num a (s++ [c])=num a s*10+(c.toNat-48):=by rw[CX];rfl
theorem kS(c:UInt8)(s:List UInt8):gW (c::s)=(decide (¬c<48/\¬57<c)&&gW s):=by
 simp only[gW]
 by_cases h1:c<48
 ·rw[if_pos h1,decide_eq_false (by simp[h1])];rfl
 ·by_cases h2:57<c
  ·rw[if_neg h1,if_pos h2,decide_eq_false (by simp[h2])];rfl
  ·rw[if_neg h1,if_neg h2,decide_eq_true ⟨h1,h2⟩];rfl
theorem wj:∀s t:List UInt8,gW (s++t)=(gW s&&gW t)
 |[],_=>rfl
 |c::s,t=>by rw[bK,kS,kS,wj s t,Bool.and_assoc]
theorem He{c:UInt8}(h:gW [c]=true):¬c<48/\¬57<c:=by rw[kS,az,decide_eq_true_eq]at h;exact h.1
theorem vT{s t:List UInt8}(h:s≠ []):(s++t).getD 0 0=s.getD 0 0:=by
 cases s with
 |nil=>exact absurd rfl h
 |cons c s=>rfl
theorem Hg:∀n,1<=n->(dec n).getD 0 0≠48:=by
 intro n;induction n using Nat.strongRecOn with
 |_ n ih=>
  intro h1
  by_cases h:n<10
  ·rw[ez h];exact(xby n h).2.2.2 (by omega)
  ·rw[cd h,vT (xgg _)];exact ih (n/10) (by omega) (by omega)
theorem xbz(c:UInt8)(h1:¬c<48)(h2:¬57<c):dg (c.toNat-48)=c/\c.toNat-48<10:=by
 have h1':48<=c.toNat:=by simpa[eG]using h1
 have h2':c.toNat<=57:=by simpa[eG]using h2
 have h3:c.toNat-48<10:=by omega
 refine⟨?_,h3⟩;apply sr.1;rw[(xby _ h3).1];omega
theorem Hf(N:Nat)(r:List UInt8)(c:UInt8)(h1:¬c<48)(h2:¬57<c)(e1:dec N=r)(e2:1<=N):dec (N*10+(c.toNat-48))=r++ [c]/\1<=N*10+(c.toNat-48):=by
 obtain⟨q1,q2⟩:=xbz c h1 h2;generalize c.toNat-48=d at*;have h3:¬N*10+d<10:=by omega
 refine⟨?_,by omega⟩;rw[cd h3,show(N*10+d)/10=N from by omega,show(N*10+d) % 10=d from by omega,e1,q1]
theorem Tb(c:UInt8)(h1:¬c<48)(h2:¬57<c)(hc:c≠48):dec (c.toNat-48)=[c]/\1<=c.toNat-48:=by
 obtain⟨q1,q2⟩:=xbz c h1 h2;have h1':48<=c.toNat:=by simpa[eG]using h1
 have:c.toNat≠48:=fun e=>hc (sr.1 e)
 have h3:1<=c.toNat-48:=by omega
 exact⟨by rw[ez q2,q1],h3⟩
theorem Si(c:UInt8):num 0 [c]=c.toNat-48:=by show 0*10+(c.toNat-48)=_;generalize c.toNat-48=d;omega
theorem Tc:∀(n:Nat)(s:List UInt8),s.length=n->gW s=true->s≠ []->s.getD 0 0≠48->dec (num 0 s)=s/\1<=num 0 s:=by
 intro n;induction n with
 |zero=>intro s h _ h0;exact absurd (bR.1 h) h0
 |succ n ih=>
  intro s hl hd h0 hh;obtain⟨r,c,rfl⟩:∃r c,s=r++ [c]:=⟨s.dropLast,s.getLast h0,(List.dropLast_concat_getLast h0).symm⟩;rw[wj,az]at hd;obtain⟨h1,h2⟩:=He hd.2;rcases Classical.em (r=[])with hr|hr
  ·subst hr
   have hc:c≠48:=hh;rw[bw,Si];exact Tb c h1 h2 hc
  ·rw[vT hr]at hh
   obtain⟨e1,e2⟩:=ih r (by simpa using hl) hd.1 hr hh;rw[GB];generalize num 0 r=N at*;exact Hf N r c h1 h2 e1 e2
theorem Sk{s:List UInt8}(h0:s≠ [])(h1:s.length<=10)(h2:gW s=true):qR s=if dec (num 0 s)=s then((num 0 s:Nat):Int)else-1:=by
 unfold qR;rw[if_neg h0,if_neg (show ¬10<s.length by omega)]
 by_cases h3:1<s.length/\s.getD 0 0=48
 ·rw[if_pos h3,if_neg]
  intro e
  by_cases hz:1<=num 0 s
  ·have:=Hg _ hz
   rw[e]at this;exact this h3.2
  ·rw[show num 0 s=0 from by omega,ez (by omega)]at e
   have:=h3.1;rw[<-e]at this;simp at this
 ·rw[if_neg h3,if_pos h2,if_pos]
  by_cases hh:s.getD 0 0=48
  ·have hl:s.length=1:=by
    have:s.length≠0:=fun e=>h0 (bR.1 e)
    have h4:¬1<s.length:=fun q=>h3 ⟨q,hh⟩
    omega
   match s,hl with
   |[c],_=>have hc:c=48:=hh;subst hc;rw[show num 0 [48]=0 from rfl,ez (by omega)];rfl
  ·exact(Tc _ s rfl h2 h0 hh).1
theorem Sj{s:List UInt8}(h2:gW s=false):qR s= -1:=by
 unfold qR;rw[h2]
 repeat' split
 all_goals first|rfl|(rename_i h;cases h)
theorem D2{s:List UInt8}(h:10<s.length):qR s= -1:=by
 unfold qR;split
 ·rfl
 ·first|rfl|rw[if_pos h]
theorem f97:∀n:Nat,n<=1000000000000->call T 97 [.int .i64 n] [] 0=some ⟨.byt (dec n) (.id 60),[],[60]⟩:=by
 intro n;induction n using Nat.strongRecOn with
 |_ n ih=>
  intro hn;rw[am xoE]
  by_cases h:n<10
  ·have h':(n:Int)<10:=by omega
   have e1:ai.wrap (48+(n:Int))=((48+n:Nat):Int):=wZ (by omega)
   have e2:bM ((48+n:Nat):Int)=dg n:=rfl;simp only[go_sem,Qh,Qi,Qj,Qk,reduceCtorEq,reduceIte,h',e1,e2,ez h]
  ·have h':¬(n:Int)<10:=by omega
   have i1:=ih (n/10) (by omega) (by omega);have e0:(n:Int).tdiv 10=((n/10:Nat):Int):=rfl;have e0':(n:Int).tmod 10=((n % 10:Nat):Int):=rfl;have e00:ai.wrap ((n/10:Nat):Int)=((n/10:Nat):Int):=w64 (by omega) (by omega);have e1:ai.wrap (48+((n % 10:Nat):Int))=((48+n % 10:Nat):Int):=wZ (by omega)
   have e2:bM ((48+n % 10:Nat):Int)=dg (n % 10):=rfl;have hl:=Td (n/10);have hl2:(dec (n/10)).length+1<=140737488355328:=by omega
   simp only[go_sem,Q5,Qe,Qg,Qh,Qi,Qj,Qk,reduceCtorEq,reduceIte,h',i1,e0,e0',e00,e1,e2,hl2,Tw,cd h]
theorem l58(b:List UInt8)(k:Int)(t:List UInt8)(lo hi:Int)(nn:Int):∀(m i v j:Nat),b.length-i=m->i<=b.length->b.length<=1000000000000->v<10^j->j+m<=10->
 run T (.loop yG) ⟨[(1,.byt b .no),(2,.ptr 102 0),(5,.int .i64 nn),(6,.int .i64 v),(7,.int .i64 i)],[(102,.rc [.int .i64 k,.str t,.int .i64 lo,.int .i64 hi])],[]⟩=
 if gW (b.drop i)then some (.x 1,⟨[(1,.byt b .no),(2,.ptr 102 0),(5,.int .i64 nn),(6,.int .i64 (num v (b.drop i):Nat))],[(102,.rc [.int .i64 k,.str t,.int .i64 lo,.int .i64 hi])],[]⟩)
 else some (.r,⟨[(4,.bool false)],[(102,.rc [.int .i64 k,.str t,.int .i64 lo,.int .i64 hi])],[]⟩):=by
 intro m;induction m with
 |zero=>
  intro i v j h0 h1 hb hv hj;have hi:i=b.length:=by omega
  subst hi;have hn:num v (b.drop b.length)=v:=by rw[aL];rfl
  have hd:gW (b.drop b.length)=true:=by rw[aL];rfl
  rw[aj,hd,hn];simp only[go_sem,Qh,Qj,Qk,reduceIte]
 |succ m ih=>
  intro i v j h0 h1 hb hv hj;have hi:i<b.length:=by omega
  have e1:=bV i (by omega);have hn:num v (b.drop i)=num (v*10+((b.getD i 0).toNat-48)) (b.drop (i+1)):=by rw[cV b i hi];rfl
  have hd:gW (b.drop i)=(if b.getD i 0<48 then false else if 57<b.getD i 0 then false else gW (b.drop (i+1))):=by rw[cV b i hi];rfl
  rw[aj,hd,hn]
  by_cases h2:b.getD i 0<48
  ·simp only[go_sem,Qh,Qj,Qk,reduceIte,hi,h2]
  ·by_cases h3:57<b.getD i 0
   ·simp only[go_sem,Qh,Qj,Qk,reduceIte,hi,h2,h3]
   ·obtain⟨q1,q2,q3⟩:=tt _ h2 h3
    have hp:10^j<=10^9:=Nat.pow_le_pow_right (by omega) (by omega);have hv9:v<1000000000:=by have:(10:Nat)^9=1000000000:=rfl;omega
    have hv':v*10+((b.getD i 0).toNat-48)<10^(j+1):=by rw[Nat.pow_succ];omega
    have ih':=ih (i+1) (v*10+((b.getD i 0).toNat-48)) (j+1) (by omega) (by omega) hb hv' (by omega);have e2:ai.wrap (10*(v:Int))=((10*v:Nat):Int):=wZ (by omega)
    have e3:ai.wrap (((10*v:Nat):Int)+((b.getD i 0-48).toNat:Nat))=((v*10+((b.getD i 0).toNat-48):Nat):Int):=by rw[q1,w64 (by omega) (by omega)];omega
    generalize v*10+((b.getD i 0).toNat-48)=v' at*;simp only[go_sem,Qh,Qj,Qk,reduceIte,hi,e1,h2,h3,e2,e3,ih']
theorem xjF{k lo hi:Int}{t b:List UInt8}(hk:k=4)(hc:chk k t lo hi=0):0<=lo:=by
 subst hk;unfold chk at hc
 by_cases h:prn t=true
 ·rw[if_neg (by omega),if_neg (by omega),if_pos h,if_pos rfl]at hc
  by_cases h1:lo<0
  ·rw[if_pos h1]at hc;cases hc
  ·omega
 ·rw[if_neg (by omega),if_neg (by omega),if_neg h]at hc;cases hc
theorem f58(k:Int)(t:List UInt8)(lo hi:Int)(b:List UInt8)(ht:t.length<=1000000000000)(hb:b.length<=1000000000000):
 call T 58 [.agg [.int .i64 k,.str t,.int .i64 lo,.int .i64 hi],.byt b .no] [] 0=some ⟨.bool (alw k t lo hi b),[],[]⟩:=by
 rw[am xo6];have h:=f96 k t lo hi ht;unfold alw
 by_cases c0:chk k t lo hi=0
 ·by_cases c1:k=1
  ·subst c1
   simp only[go_sem,Q5,Qe,Qh,Qi,Qj,Qk,reduceCtorEq,reduceIte,h,nt,c0]
  by_cases c2:k=2
  ·subst c2
   have g:=f25 t b
   by_cases c3:b=t
   ·subst c3
    have g:=f25 b b (by omega);simp only[go_sem,Q5,Qe,Qh,Qi,Qj,Qk,reduceCtorEq,reduceIte,h,nt,c0,g,iS]
   ·have c3':¬t=b:=fun e=>c3 e.symm
    have g:=f25 t b (by omega);simp only[go_sem,Q5,Qe,Qh,Qi,Qj,Qk,reduceCtorEq,reduceIte,h,nt,c0,g,iS,c3,c3']
  by_cases c3:k=3
  ·subst c3
   simp only[go_sem,Q5,Qe,Qh,Qi,Qj,Qk,reduceCtorEq,reduceIte,h,nt,c0,xop t b ht hb,xkH]
  have c4:k=4:=by
   unfold chk at c0
   by_cases q1:k<1
   ·rw[if_pos q1]at c0;cases c0
   by_cases q2:4<k
   ·rw[if_neg q1,if_pos q2]at c0;cases c0
   omega
  have hlo:=xjF (b:=b) c4 c0;subst c4;have e1:ai.wrap ((t.length:Int)+10)=((t.length+10:Nat):Int):=wZ (by omega)
  have hneg:¬lo<= -1:=by omega
  by_cases d1:b.length<=t.length
  ·have hv:(t.length<=b.length/\b.take t.length=t)->qR (b.drop t.length)= -1:=by
    rintro⟨q,_⟩;rw[bU d1];rfl
   by_cases q:t.length<=b.length/\b.take t.length=t
   ·rw[if_pos q,hv q]
    simp only[go_sem,Q5,Q7,Qb,Qc,Qd,Qe,Qh,Qi,Qj,Qk,reduceCtorEq,reduceIte,h,nt,c0,d1,hneg]
   ·simp only[go_sem,Q5,Qb,Qc,Qd,Qe,Qh,Qi,Qj,Qk,reduceCtorEq,reduceIte,h,nt,c0,d1,q]
  by_cases d2:t.length+10<b.length
  ·have hv:qR (b.drop t.length)= -1:=D2 (by rw[aE];omega)
   rw[hv]
   by_cases q:t.length<=b.length/\b.take t.length=t
   ·simp only[go_sem,Q5,Q7,Qb,Qc,Qd,Qe,Qh,Qi,Qj,Qk,reduceCtorEq,reduceIte,h,nt,c0,d1,d2,e1,hneg,q]
   ·simp only[go_sem,Q5,Q7,Qb,Qc,Qd,Qe,Qh,Qi,Qj,Qk,reduceCtorEq,reduceIte,h,nt,c0,d1,d2,e1,hneg,q]
  have d3:t.length<=b.length:=by omega
  have g:=f25 t (b.take t.length) (by omega)
  by_cases q:b.take t.length=t
  ·rw[q]at g
   have hl:=l58 b 4 t lo hi t.length _ t.length 0 0 rfl d3 hb (by simp) (by omega);simp only[aB]at hl
   have hne:b.drop t.length≠ []:=by intro e;have:=congrArg ri e;rw[aE]at this;simp at this;omega
   have hl10:(b.drop t.length).length<=10:=by rw[aE];omega
   cases hd:gW (b.drop t.length)with
   |false=>rw[Sj hd];rw[hd]at hl;simp only[go_sem,Q2,Q3,Q5,Q7,Qb,Qc,Qd,Qe,Qh,Qi,Qj,Qk,reduceCtorEq,reduceIte,h,nt,c0,d1,d2,d3,e1,hneg,q,g,iS,hl]
   |true=>
    rw[Sk hne hl10 hd];rw[hd]at hl;generalize hr:b.drop t.length=r at*
    have hnb:num 0 r<=1000000000000:=by
     have key:∀(s:List UInt8)(a j:Nat),gW s=true->a<10^j->num a s<10^(j+s.length):=by
      intro s;induction s with
      |nil=>intro a j _ h;exact h
      |cons c s ih=>intro a j hd ha;rw[kS,az,decide_eq_true_eq]at hd;obtain⟨_,_,q3⟩:=tt c hd.1.1 hd.1.2;have:=ih (a*10+(c.toNat-48)) (j+1) hd.2 (by rw[Nat.pow_succ];omega);rw[av,show j+(s.length+1)=j+1+s.length from by omega];exact this
     have h1:=key r 0 0 hd (by simp);have h2:10^(0+r.length)<=10^10:=Nat.pow_le_pow_right (by omega) (by omega);have:(10:Nat)^10=10000000000:=rfl;omega
    have g2:=f97 (num 0 r) hnb;have g3:=f25 (dec (num 0 r)) r (by have:=jg 12 (num 0 r) (by have:(10:Nat)^13=10000000000000:=rfl;omega);omega);generalize num 0 r=v at*
    by_cases q5:dec v=r
    ·rw[q5]at g2 g3
     by_cases q6:lo<=(v:Int)
     ·simp only[go_sem,Q2,Q3,Q5,Q7,Qb,Qc,Qd,Qe,Qg,Qh,Qi,Qj,Qk,reduceCtorEq,reduceIte,h,nt,c0,d1,d2,d3,e1,q,g,iS,hl,bo,hr,g2,Tw,g3,q5,q6]
     ·simp only[go_sem,Q2,Q3,Q5,Q7,Qb,Qc,Qd,Qe,Qg,Qh,Qi,Qj,Qk,reduceCtorEq,reduceIte,h,nt,c0,d1,d2,d3,e1,q,g,iS,hl,bo,hr,g2,Tw,g3,q5,q6]
    ·simp only[go_sem,Q2,Q3,Q5,Q7,Qb,Qc,Qd,Qe,Qg,Qh,Qi,Qj,Qk,reduceCtorEq,reduceIte,h,nt,c0,d1,d2,d3,e1,hneg,q,g,iS,hl,bo,hr,g2,Tw,g3,q5]
  ·have q':¬t=b.take t.length:=fun e=>q e.symm
   simp only[go_sem,Q2,Q3,Q5,Qb,Qc,Qd,Qe,Qh,Qi,Qj,Qk,reduceCtorEq,reduceIte,h,nt,c0,d1,d2,d3,e1,q,q',g,iS]
 ·simp only[go_sem,Qe,Qh,Qi,Qj,Qk,reduceCtorEq,reduceIte,h,nt,c0]
end
def rr(x:Int)(n:Nat):Int:=bC .or .u32 (x.fdiv (2^n)) (aA.wrap (x*2^(32-n)))
theorem lv(k:IntKind)(x y:Int):bC .or k x y=bC .or k y x:=by simp only[bC,BitVec.or_comm]
theorem wa(x:Int)(n:Nat)(h:n<=32):call T 129 [.int .u32 x,.int .u64 n] [] 0=some ⟨.int .u32 (rr x n),[],[]⟩:=by
 rw[am xj4];have e:bm.wrap (32-(n:Int))=((32-n:Nat):Int):=by rw[cH];omega
 have e2:min n 32=n:=by omega
 have e3:min (32-n) 32=32-n:=by omega
 have e4:(0:Int)<=((32-n:Nat):Int):=by omega
 simp only[go_sem,Qe,Qh,Qi,Qj,Qk,reduceCtorEq,reduceIte,e,e2,e3,e4,rr]
theorem q7(x k:Int)(n:Nat)(h:n<=32)(hk:bC .and .u64 (bm.wrap k) 31=((32-n:Nat):Int)):call T 142 [.int .u32 x,.int .i64 k] [] 0=some ⟨.int .u32 (rr x n),[],[]⟩:=by
 rw[am xjU];have e:bm.wrap (32-((32-n:Nat):Int))=(n:Int):=by rw[cH];omega
 have e2:min n 32=n:=by omega
 have e3:min (32-n) 32=32-n:=by omega
 simp only[go_sem,Qe,Qh,Qi,Qj,Qk,reduceCtorEq,reduceIte,hk,e,e2,e3,rr,lv]
theorem m24:min 24 32=24:=rfl
theorem m16:min 16 32=16:=rfl
theorem m8:min 8 32=8:=rfl
theorem m3:min 3 32=3:=rfl
theorem m10:min 10 32=10:=rfl
def wd(B:List UInt8)(t:Nat):Int:=
 bC .or .u32 (bC .or .u32 (bC .or .u32 (aA.wrap (((B.getD (4*t) 0).toNat:Int)*2^24)) (aA.wrap (((B.getD (4*t+1) 0).toNat:Int)*2^16)))
  (aA.wrap (((B.getD (4*t+2) 0).toNat:Int)*2^8))) ((B.getD (4*t+3) 0).toNat:Int)
theorem xma(B:List UInt8)(t:Nat)(h:4*t+3<B.length)(hl:B.length<=1000000000000):call T 141 [.byt B .no,.int .i64 t] [] 0=some ⟨.int .u32 (wd B t),[],[]⟩:=by
 rw[am xjV];have e0:ai.wrap (4*(t:Int))=((4*t:Nat):Int):=wZ (by omega)
 have e1:ai.wrap (((4*t:Nat):Int)+1)=((4*t+1:Nat):Int):=wZ (by omega)
 have e2:ai.wrap (((4*t:Nat):Int)+2)=((4*t+2:Nat):Int):=wZ (by omega)
 have e3:ai.wrap (((4*t:Nat):Int)+3)=((4*t+3:Nat):Int):=wZ (by omega)
 have h0:4*t<B.length:=by omega
 have h1:4*t+1<B.length:=by omega
 have h2:4*t+2<B.length:=by omega
 simp only[go_sem,Q2,Q3,Qe,Qh,Qi,Qj,Qk,reduceCtorEq,reduceIte,e0,e1,e2,e3,h,h0,h1,h2,wd,m24,m16,m8]
theorem xmf(B:List UInt8)(t:Nat)(h:4*t+3<B.length)(hl:B.length<=1000000000000):call T 128 [.byt B .no,.int .i64 t] [] 0=some ⟨.int .u32 (wd B t),[],[]⟩:=by
 rw[am xj5];have e0:ai.wrap (4*(t:Int))=((4*t:Nat):Int):=wZ (by omega)
 have e1:ai.wrap (((4*t:Nat):Int)+1)=((4*t+1:Nat):Int):=wZ (by omega)
 have e2:ai.wrap (((4*t:Nat):Int)+2)=((4*t+2:Nat):Int):=wZ (by omega)
 have e3:ai.wrap (((4*t:Nat):Int)+3)=((4*t+3:Nat):Int):=wZ (by omega)
 have h0:4*t<B.length:=by omega
 have h1:4*t+1<B.length:=by omega
 have h2:4*t+2<B.length:=by omega
 simp only[go_sem,Q2,Q3,Qe,Qh,Qi,Qj,Qk,reduceCtorEq,reduceIte,e0,e1,e2,e3,h,h0,h1,h2,wd,m24,m16,m8]
def nw(B:List UInt8)(L:List Int)(t:Nat):Int:=
 if t<16 then wd B t else
  let x:=L.getD (t-15) 0
  let y:=L.getD (t-2) 0
  aA.wrap (aA.wrap (aA.wrap (bC .xor .u32 (bC .xor .u32 (rr y 17) (rr y 19)) (y.fdiv (2^10))+L.getD (t-7) 0)+
   bC .xor .u32 (bC .xor .u32 (rr x 7) (rr x 18)) (x.fdiv (2^3)))+L.getD (t-16) 0)
def Wl(B:List UInt8):Nat->List Int
 |0=>aq 64 0
 |t+1=>(Wl B t).set t (nw B (Wl B t) t)
theorem uL(B:List UInt8)(t:Nat):(Wl B t).length=64:=by
 induction t with
 |zero=>simp[Wl]
 |succ n ih=>simp[Wl,ih]
def ws(L:List Int):List (List SV):=L.map fun x=> [.int .u32 x]
theorem dD(L:List Int):(ws L).length=L.length:=by simp[ws]
theorem cf(L:List Int)(i:Nat)(h:i<L.length):(ws L).getD i []=[.int .u32 (L.getD i 0)]:=by simp[ws,aa,aS,af h]
theorem ld(L:List Int)(i:Nat)(x:Int):(ws L).set i [.int .u32 x]=ws (L.set i x):=by unfold ws;rw[List.map_set]
theorem tZ(n:Nat):aq n [SV.int .u32 0]=ws (aq n 0):=by unfold ws;rw[List.map_replicate]
theorem xjk(B:List UInt8)(O:aF)(hB:B.length=64):∀(n t:Nat),64-t=n->t<=64->
 run T (.loop sY) ⟨[(0,.ptr 0 0),(1,.byt B .no),(4,.ptr 104 0),(17,.int .i64 t)],[(0,O),(104,.arr 1 (ws (Wl B t)))],[]⟩=
 some (.x 0,⟨[(0,.ptr 0 0),(4,.ptr 104 0)],[(0,O),(104,.arr 1 (ws (Wl B 64)))],[]⟩):=by
 intro n;induction n with
 |zero=>
  intro t h0 h1;have hi:t=64:=by omega
  subst hi;rw[aj];simp only[c64,go_sem,Q4,Q7,Qh,Qj,Qk,reduceCtorEq,reduceIte]
 |succ n ih=>
  intro t h0 h1;have ih':=ih (t+1) (by omega) (by omega);have e1:=bV t (by omega);have hlt:(t:Int)<64:=by omega
  have hl:=uL B t;have hw:=dD (Wl B t);have hn:t<64:=by omega
  have hs:Wl B (t+1)=(Wl B t).set t (nw B (Wl B t) t):=rfl;rw[aj]
  by_cases h16:t<16
  ·have g:=xma B t (by omega) (by omega)
   have h16':(t:Int)<16:=by omega
   have hx:nw B (Wl B t) t=wd B t:=by unfold nw;rw[if_pos h16]
   rw[hs,hx]at ih';simp only[go_sem,Q7,Qh,Qj,Qk,reduceCtorEq,reduceIte,hlt,h16',e1,g,hl,hw,xbO,hn,ld,ih']
  ·have h16':¬(t:Int)<16:=by omega
   have a15:ai.wrap ((t:Int)-15)=((t-15:Nat):Int):=wZ (by omega)
   have a2:ai.wrap ((t:Int)-2)=((t-2:Nat):Int):=wZ (by omega)
   have a7:ai.wrap ((t:Int)-7)=((t-7:Nat):Int):=wZ (by omega)
   have a16:ai.wrap ((t:Int)-16)=((t-16:Nat):Int):=wZ (by omega)
   have b15:t-15<64:=by omega
   have b2:t-2<64:=by omega
   have b7:t-7<64:=by omega
   have b16:t-16<64:=by omega
   have d15:=cf (Wl B t) (t-15) (by omega);have d2:=cf (Wl B t) (t-2) (by omega);have d7:=cf (Wl B t) (t-7) (by omega);have d16:=cf (Wl B t) (t-16) (by omega);have r7:=fun x=>q7 x (-7) 7 (by omega) (by decide)
   have r18:=fun x=>q7 x (-18) 18 (by omega) (by decide)
   have r17:=fun x=>q7 x (-17) 17 (by omega) (by decide)
   have r19:=fun x=>q7 x (-19) 19 (by omega) (by decide)
   rw[hs]at ih';unfold nw at ih';rw[if_neg h16]at ih';simp only[go_sem,Q2,Q3,Q7,Qb,Qc,Qd,Qh,Qj,Qk,reduceCtorEq,reduceIte,hlt,h16',e1,hl,hw,rB,hn,a15,a2,a7,a16,b15,b2,b7,b16,d15,d2,d7,d16,r7,r18,r17,r19,ld,m3,m10,ih']
def Kl:List Int:=iX.map fun| .int _ x=>x|_=>0
theorem As:Kl.length=64:=rfl
theorem nO:iX.length=64:=rfl
theorem xgm:iX=Kl.map (SV.int .u32):=rfl
theorem xfG{t:Nat}(h:t<64):(1<=(eQ (t*1) iX).length)=True:=by refine eq_true ?_;rw[aE,nO];omega
theorem xfH{t:Nat}(h:t<64):(List.map SV.data (eQ (t*1) iX)).getD 0 SV.undef= .int .u32 (Kl.getD t 0):=by
 rw[xgm,aa,aS,bi,aS,dx,fz,aa,
  af (show t<Kl.length from h)]
 rfl
def rnd(k w:Int)(s:List Int):List Int:=
 let a:=s.getD 0 0
 let e:=s.getD 4 0
 let t1:=aA.wrap (aA.wrap (aA.wrap (aA.wrap (s.getD 7 0+bC .xor .u32 (bC .xor .u32 (rr e 6) (rr e 11)) (rr e 25))+
  bC .xor .u32 (bC .and .u32 e (s.getD 5 0)) (bC .and .u32 (bC .xor .u32 (if aA.signed=true then-1 else aA.max) e) (s.getD 6 0)))+k)+w)
 let t2:=aA.wrap (bC .xor .u32 (bC .xor .u32 (rr a 2) (rr a 13)) (rr a 22)+
  bC .xor .u32 (bC .xor .u32 (bC .and .u32 a (s.getD 1 0)) (bC .and .u32 a (s.getD 2 0))) (bC .and .u32 (s.getD 1 0) (s.getD 2 0)))
 [aA.wrap (t1+t2),a,s.getD 1 0,s.getD 2 0,aA.wrap (s.getD 3 0+t1),e,s.getD 5 0,s.getD 6 0]
theorem ws8(a b c d e f g h:Int):ws [a,b,c,d,e,f,g,h]=[[.int .u32 a],[.int .u32 b],[.int .u32 c],[.int .u32 d],[.int .u32 e],[.int .u32 f],[.int .u32 g],[.int .u32 h]]:=rfl
def rounds(W:List Int)(h:List Int):Nat->List Int
 |0=>h
 |t+1=>rnd (Kl.getD t 0) (W.getD t 0) (rounds W h t)
theorem ik(W h:List Int)(hh:h.length=8)(t:Nat):(rounds W h t).length=8:=by
 cases t<;>simp[rounds,rnd,hh]
theorem n6(x:Int):call T 142 [.int .u32 x,.int .i64 (-6)] [] 0=some ⟨.int .u32 (rr x 6),[],[]⟩:=q7 x (-6) 6 (by omega) (by decide)
theorem n11(x:Int):call T 142 [.int .u32 x,.int .i64 (-11)] [] 0=some ⟨.int .u32 (rr x 11),[],[]⟩:=q7 x (-11) 11 (by omega) (by decide)
theorem n25(x:Int):call T 142 [.int .u32 x,.int .i64 (-25)] [] 0=some ⟨.int .u32 (rr x 25),[],[]⟩:=q7 x (-25) 25 (by omega) (by decide)
theorem n2(x:Int):call T 142 [.int .u32 x,.int .i64 (-2)] [] 0=some ⟨.int .u32 (rr x 2),[],[]⟩:=q7 x (-2) 2 (by omega) (by decide)
theorem n13(x:Int):call T 142 [.int .u32 x,.int .i64 (-13)] [] 0=some ⟨.int .u32 (rr x 13),[],[]⟩:=q7 x (-13) 13 (by omega) (by decide)
theorem n22(x:Int):call T 142 [.int .u32 x,.int .i64 (-22)] [] 0=some ⟨.int .u32 (rr x 22),[],[]⟩:=q7 x (-22) 22 (by omega) (by decide)
theorem xjj(W h:List Int)(O:aF)(hW:W.length=64)(hh:h.length=8):∀(n t:Nat),64-t=n->t<=64->
 run T (.loop sX) ⟨[(0,.ptr 0 0),(4,.ptr 104 0),(10,.ptr 110 0),(70,.int .i64 t)],[(0,O),(104,.arr 1 (ws W)),(110,.arr 1 (ws (rounds W h t)))],[]⟩=
 some (.x 2,⟨[(0,.ptr 0 0),(10,.ptr 110 0)],[(0,O),(104,.arr 1 (ws W)),(110,.arr 1 (ws (rounds W h 64)))],[]⟩):=by
 intro n;induction n with
 |zero=>
  intro t h0 h1;have hi:t=64:=by omega
  subst hi;rw[aj];simp only[c64,go_sem,Q4,Q7,Qh,Qj,Qk,reduceCtorEq,reduceIte]
 |succ n ih=>
  intro t h0 h1;have ih':=ih (t+1) (by omega) (by omega);have e1:=bV t (by omega);have hlt:(t:Int)<64:=by omega
  have hn:t<64:=by omega
  have hl:=ik W h hh t;have hw:=dD (rounds W h t);have hw2:=dD W;have hs:rounds W h (t+1)=rnd (Kl.getD t 0) (W.getD t 0) (rounds W h t):=rfl;rw[hs]at ih';simp only[rnd,ws8]at ih';generalize rounds W h t=s at*;have d0:=cf s 0 (by omega);have d1:=cf s 1 (by omega);have d2:=cf s 2 (by omega);have d3:=cf s 3 (by omega);have d4:=cf s 4 (by omega);have d5:=cf s 5 (by omega);have d6:=cf s 6 (by omega);have d7:=cf s 7 (by omega);have dW:=cf W t (by omega);have dK:=cf Kl t (by rw[As];exact hn);rw[aj];simp only[go_sem,Q2,Q3,Q4,Q7,Qb,Qc,Qd,Qe,Qg,Qh,Qi,Qj,Qk,reduceCtorEq,reduceIte,hlt,e1,hl,hw,hw2,hW,rB,hn,d0,d1,d2,d3,d4,d5,d6,d7,dW,n6,n11,n25,n2,n13,n22,c8,c64,nO,xfG hn,xfH hn,ih']
def tV:List Int->List Int->List Int
 |x::l,y::r=>aA.wrap (x+y)::tV l r
 |_,_=> []
theorem xji(h s:List Int)(P:aF)(hh:h.length=8)(hs:s.length=8):
 run T (.loop sW) ⟨[(0,.ptr 0 0),(10,.ptr 110 0),(152,.int .i64 0)],[(0,.arr 1 (ws h)),(104,P),(110,.arr 1 (ws s))],[]⟩=
 some (.x 4,⟨[],[(0,.arr 1 (ws (tV h s))),(104,P),(110,.arr 1 (ws s))],[]⟩):=by
 match h,hh with
 |[a0,a1,a2,a3,a4,a5,a6,a7],_=>match s,hs with
  |[b0,b1,b2,b3,b4,b5,b6,b7],_=>
   have k1:ai.wrap 1=1:=rfl;have k2:ai.wrap 2=2:=rfl;have k3:ai.wrap 3=3:=rfl;have k4:ai.wrap 4=4:=rfl;have k5:ai.wrap 5=5:=rfl;have k6:ai.wrap 6=6:=rfl;have k7:ai.wrap 7=7:=rfl;have k8:ai.wrap 8=8:=rfl;simp only[ws8,tV]
   iterate 9
    rw[aj];simp only[go_sem,Q2,Q3,Q4,Q8,Qb,Qc,Qd,Qe,Qh,Qj,Qk,reduceCtorEq,reduceIte,av,aQ,c8,k1,k2,k3,k4,k5,k6,k7,k8]
def comp(h:List Int)(B:List UInt8):List Int:=tV h (rounds (Wl B 64) h 64)
theorem wy(h s:List Int)(hs:h.length<=s.length):(tV h s).length=h.length:=by
 induction h generalizing s with
 |nil=>simp[tV]
 |cons x l ih=>
  cases s with
  |nil=>simp at hs
  |cons y r=>simp only[tV,av];rw[ih r (by simpa using hs)]
theorem qC(h:List Int)(B:List UInt8)(hh:h.length=8):(comp h B).length=8:=by unfold comp;rw[wy _ _ (by rw[ik _ _ hh,hh];exact aM 8),hh]
theorem xof(h:List Int)(B:List UInt8)(hh:h.length=8)(hB:B.length=64):call T 116 [.ptr 0 0,.byt B .no] [.arr 1 (ws h)] 0=some ⟨.tup [],[(0,.arr 1 (ws (comp h B)))],[]⟩:=by
 have g1:=xjk B (.arr 1 (ws h)) hB _ 0 rfl (by omega);have g2:=xjj (Wl B 64) h (.arr 1 (ws h)) (uL B 64) hh _ 0 rfl (by omega);have g3:=xji h (rounds (Wl B 64) h 64) (.arr 1 (ws (Wl B 64))) hh (ik _ _ hh 64);have hw:Wl B 0=aq 64 0:=rfl;have hr:rounds (Wl B 64) h 0=h:=rfl;rw[hw,<-tZ]at g1;rw[hr]at g2;simp only[aB]at g1 g2;rw[am xke]
 match h,hh with
 |[a0,a1,a2,a3,a4,a5,a6,a7],_=>simp only[ws8]at g1 g2 g3;simp only[go_sem,Qe,Qg,Qh,Qi,Qj,Qk,reduceCtorEq,reduceIte,ws8,g1,g2,g3,comp,List.flatten_cons,List.flatten_nil,aP,df,bK,bw,SV.data,List.take_succ_cons,List.take_zero,av,aQ]
def zn(n:Nat):Nat:=(120-n % 64) % 64
theorem xjo(B:List UInt8):∀(n:Nat)(acc:List UInt8),zn acc.length=n->acc.length+n<=100000000000000->
 run T (.loop za) ⟨[(0,.byt B .no),(3,.byt acc (.id 103))],[],[103]⟩=
 some (.x 0,⟨[(0,.byt B .no),(3,.byt (acc++aq n 0) (.id 103))],[],[103]⟩):=by
 intro n;induction n with
 |zero=>
  intro acc h0 h1;have hm:acc.length % 64=56:=by unfold zn at h0;omega
  have hi:(acc.length:Int).tmod 64=56:=by rw[Int.tmod_eq_emod_of_nonneg (by omega)];omega
  rw[aj];simp only[go_sem,Q5,Qh,Qj,Qk,reduceCtorEq,reduceIte,hi,List.replicate_zero,bH]
 |succ n ih=>
  intro acc h0 h1;have hm:acc.length % 64≠56:=by unfold zn at h0;omega
  have hi:¬(acc.length:Int).tmod 64=56:=by rw[Int.tmod_eq_emod_of_nonneg (by omega)];omega
  have ih':=ih (acc++ [0]) (by unfold zn at*;rw[ah,aD];omega) (by rw[ah,aD];omega);have hc:acc.length+1<=140737488355328:=by omega
  rw[aZ,dO,<-List.replicate_succ]at ih';rw[aj];simp only[go_sem,Q5,Qe,Qh,Qi,Qj,Qk,reduceCtorEq,reduceIte,hi,hc,ih']
def iQ(v:Int)(s:Nat):UInt8:=bM (v.fdiv (2^s))
def be:Nat->Int->List UInt8
 |0,_=> []
 |k+1,v=>iQ v (8*k)::be k v
theorem ib(n:Nat)(v:Int):(be n v).length=n:=by induction n with
 |zero=>rfl
 |succ n ih=>simp[be,ih]
theorem xjn(v:Int):∀(k:Nat)(acc:List UInt8),k<=8->acc.length+k<=100000000000000->
 run T (.loop s6) ⟨[(3,.byt acc (.id 103)),(4,.int .u64 v),(5,.int .i64 (8*(k:Int)-8))],[],[103]⟩=
 some (.x 2,⟨[(3,.byt (acc++be k v) (.id 103))],[],[103]⟩):=by
 intro k;induction k with
 |zero=>
  intro acc hk h;rw[aj];have hg:¬(0:Int)<=8*((0:Nat):Int)-8:=by omega
  simp only[go_sem,Qh,Qj,Qk,reduceIte,hg,be,bH]
 |succ k ih=>
  intro acc hk h;have ih':=ih (acc++ [iQ v (8*k)]) (by omega) (by rw[ah,aD];omega);have c1:acc.length+1<=140737488355328:=by omega
  have hg:(0:Int)<=8*((k+1:Nat):Int)-8:=by omega
  have he:bm.wrap (8*((k+1:Nat):Int)-8)=((8*k:Nat):Int):=by rw[cH];omega
  have hs:ai.wrap (8*((k+1:Nat):Int)-8-8)=8*(k:Int)-8:=wZ (by omega)
  have hm:min (8*k) 64=8*k:=by omega
  rw[aZ,dO]at ih';rw[aj];unfold iQ at ih';simp only[go_sem,Qe,Qh,Qi,Qj,Qk,reduceIte,c1,hg,he,hs,hm,be,iQ,ih']
def eF(B:List UInt8):List UInt8:=B++128::(aq (zn (B.length+1)) 0++be 8 (bm.wrap (bm.wrap B.length*8)))
theorem kt(B:List UInt8):(eF B).length=B.length+1+zn (B.length+1)+8:=by simp only[eF,ah,av,cQ,ib];omega
theorem mD(B:List UInt8):(eF B).length % 64=0:=by rw[kt];unfold zn;omega
theorem xmk(B:List UInt8)(h:B.length<=10000000000000):call T 113 [.byt B .no] [] 0=some ⟨.byt (eF B) .no,[],[]⟩:=by
 have hz:zn (B.length+1)<64:=by unfold zn;omega
 have g1:=xjo B _ (B++ [128]) rfl (by simp;omega);have g2:=xjn (bm.wrap (bm.wrap B.length*8)) 8 (B++128::aq (zn (B.length+1)) 0) (by omega) (by simp;omega);have e8:8*((8:Nat):Int)-8=56:=rfl;rw[e8]at g2;rw[am xkh];have e:ai.wrap ((B.length:Int)+72)=((B.length+72:Nat):Int):=wZ (by omega)
 have c2:((B.length+72:Nat):Int)<=140737488355328:=by omega
 have c3:B.length<=140737488355328:=by omega
 have c4:B.length+1<=140737488355328:=by omega
 simp only[go_sem,Q2,Q3,Qe,Qh,Qi,Qj,Qk,reduceCtorEq,reduceIte,e,g1,g2,c2,c3,c4,eF]
theorem xjh(B:List UInt8):∀(n:Nat)(acc:List UInt8),zn acc.length=n->acc.length+n<=100000000000000->
 run T (.loop y0) ⟨[(0,.byt B .no),(3,.byt acc (.id 103))],[],[103]⟩=
 some (.x 0,⟨[(0,.byt B .no),(3,.byt (acc++aq n 0) (.id 103))],[],[103]⟩):=by
 intro n;induction n with
 |zero=>
  intro acc h0 h1;have hm:acc.length % 64=56:=by unfold zn at h0;omega
  have hi:(acc.length:Int).tmod 64=56:=by rw[Int.tmod_eq_emod_of_nonneg (by omega)];omega
  rw[aj];simp only[go_sem,Q5,Qh,Qj,Qk,reduceCtorEq,reduceIte,hi,List.replicate_zero,bH]
 |succ n ih=>
  intro acc h0 h1;have hm:acc.length % 64≠56:=by unfold zn at h0;omega
  have hi:¬(acc.length:Int).tmod 64=56:=by rw[Int.tmod_eq_emod_of_nonneg (by omega)];omega
  have ih':=ih (acc++ [0]) (by unfold zn at*;rw[ah,aD];omega) (by rw[ah,aD];omega);have hc:acc.length+1<=140737488355328:=by omega
  rw[aZ,dO,<-List.replicate_succ]at ih';rw[aj];simp only[go_sem,Q5,Qe,Qh,Qi,Qj,Qk,reduceCtorEq,reduceIte,hi,hc,ih']
theorem xjg(v:Int):∀(k:Nat)(acc:List UInt8),k<=8->acc.length+k<=100000000000000->
 run T (.loop sV) ⟨[(3,.byt acc (.id 103)),(4,.int .u64 v),(5,.int .i64 ((k:Int)-1))],[],[103]⟩=
 some (.x 2,⟨[(3,.byt (acc++be k v) (.id 103))],[],[103]⟩):=by
 intro k;induction k with
 |zero=>
  intro acc hk h;rw[aj];have hg:¬(0:Int)<=((0:Nat):Int)-1:=by omega
  simp only[go_sem,Qh,Qj,Qk,reduceIte,hg,be,bH]
 |succ k ih=>
  intro acc hk h;have ih':=ih (acc++ [iQ v (8*k)]) (by omega) (by rw[ah,aD];omega);have c1:acc.length+1<=140737488355328:=by omega
  have hg:(0:Int)<=((k+1:Nat):Int)-1:=by omega
  have he:bm.wrap (((k+1:Nat):Int)-1)=(k:Int):=by rw[cH];omega
  have he2:bm.wrap (8*(k:Int))=((8*k:Nat):Int):=by rw[cH];omega
  have hs:ai.wrap (((k+1:Nat):Int)-1-1)=(k:Int)-1:=wZ (by omega)
  have hm:min (8*k) 64=8*k:=by omega
  rw[aZ,dO]at ih';rw[aj];unfold iQ at ih';simp only[go_sem,Qe,Qh,Qi,Qj,Qk,reduceIte,c1,hg,he,he2,hs,hm,be,iQ,ih']
theorem xmg(B:List UInt8)(h:B.length<=10000000000000):call T 127 [.byt B .no] [] 0=some ⟨.byt (eF B) .no,[],[]⟩:=by
 have hz:zn (B.length+1)<64:=by unfold zn;omega
 have g1:=xjh B _ (B++ [128]) rfl (by simp;omega);have g2:=xjg (bm.wrap (bm.wrap B.length*8)) 8 (B++128::aq (zn (B.length+1)) 0) (by omega) (by simp;omega);have e8:((8:Nat):Int)-1=7:=rfl;rw[e8]at g2;rw[am xj6];have c3:B.length<=140737488355328:=by omega
 have c4:B.length+1<=140737488355328:=by omega
 simp only[go_sem,Qe,Qh,Qi,Qj,Qk,reduceCtorEq,reduceIte,g1,g2,c3,c4,eF]
def w4(x:Int):List UInt8:=[iQ x 24,iQ x 16,iQ x 8,bM x]
def sp(h:List Int):List UInt8:=h.flatMap w4
theorem HB(h:List Int):(sp h).length=4*h.length:=by
 induction h with
 |nil=>rfl
 |cons x l ih=>simp only[sp,jG,ah,w4,av,aQ]at*;omega
theorem d0(h:List Int)(i:Nat)(hi:i<h.length):h.drop i=h.getD i 0::h.drop (i+1):=nR h i hi
theorem xnI(h:List Int)(hh:h.length<=1000000000000):∀(n i:Nat)(acc:List UInt8),h.length-i=n->i<=h.length->acc.length=4*i->
 run T (.loop y8) ⟨[(3,.byt acc (.id 103)),(10,.lst 1 (ws h) .no),(11,.int .i64 h.length),(12,.int .i64 i)],[],[103]⟩=
 some (.x 0,⟨[(3,.byt (acc++sp (h.drop i)) (.id 103))],[],[103]⟩):=by
 intro n;induction n with
 |zero=>
  intro i acc h0 h1 ha;have hi:i=h.length:=by omega
  subst hi;rw[aj];simp only[go_sem,Qh,Qj,Qk,reduceIte,aL,sp,List.flatMap_nil,bH]
 |succ n ih=>
  intro i acc h0 h1 ha;have hi:i<h.length:=by omega
  have e1:=bV i (by omega);have ih':=ih (i+1) (acc++w4 (h.getD i 0)) (by omega) (by omega) (by simp[w4];omega);have hg:=cf h i hi;have hl:=dD h;have c1:acc.length+4<=140737488355328:=by omega
  rw[aj];rw[aZ]at ih';simp only[w4,iQ]at ih';simp only[go_sem,Q2,Q3,Qe,Qh,Qi,Qj,Qk,reduceCtorEq,reduceIte,hi,hg,hl,e1,c1,m24,m16,m8,ih',d0 h i hi,sp,jG,w4,iQ]
theorem xmj(h:List Int)(hh:h.length<=1000000000000):call T 115 [.lst 1 (ws h) .no] [] 0=some ⟨.byt (sp h) .no,[],[]⟩:=by
 have g:=xnI h hh _ 0 [] rfl (by omega) rfl;have hl:=dD h;rw[am xkf];have e:ai.wrap (4*(h.length:Int))=((4*h.length:Nat):Int):=wZ (by omega)
 have c2:((4*h.length:Nat):Int)<=140737488355328:=by omega
 simp only[aB,aR,bw]at g;simp only[go_sem,Q2,Q3,Qe,Qh,Qi,Qj,Qk,reduceCtorEq,reduceIte,e,hl,c2,g]
theorem xnG(h:List Int)(hh:h.length<=1000000000000):∀(n i:Nat)(acc:List UInt8),h.length-i=n->i<=h.length->acc.length=4*i->
 run T (.loop yY) ⟨[(0,.lst 1 (ws h) .no),(3,.byt acc (.id 103)),(4,.int .i64 i)],[],[103]⟩=
 some (.x 0,⟨[(3,.byt (acc++sp (h.drop i)) (.id 103))],[],[103]⟩):=by
 intro n;induction n with
 |zero=>
  intro i acc h0 h1 ha;have hi:i=h.length:=by omega
  have hl:=dD h;subst hi;rw[aj];simp only[go_sem,Qh,Qj,Qk,reduceCtorEq,reduceIte,hl,aL,sp,List.flatMap_nil,bH]
 |succ n ih=>
  intro i acc h0 h1 ha;have hi:i<h.length:=by omega
  have e1:=bV i (by omega);have ih':=ih (i+1) (acc++w4 (h.getD i 0)) (by omega) (by omega) (by simp[w4];omega);have hg:=cf h i hi;have hl:=dD h;have c1:acc.length+4<=140737488355328:=by omega
  rw[aj];rw[aZ]at ih';simp only[w4,iQ]at ih';simp only[go_sem,Q2,Q3,Qb,Qc,Qd,Qe,Qh,Qi,Qj,Qk,reduceCtorEq,reduceIte,hi,hg,hl,e1,c1,m24,m16,m8,ih',d0 h i hi,sp,jG,w4,iQ]
theorem xme(h:List Int)(hh:h.length<=1000000000000):call T 130 [.lst 1 (ws h) .no] [] 0=some ⟨.byt (sp h) .no,[],[]⟩:=by have g:=xnG h hh _ 0 [] rfl (by omega) rfl;have hl:=dD h;rw[am xj3];simp only[aB,aR,bw]at g;simp only[go_sem,Qh,Qi,Qj,Qk,reduceCtorEq,reduceIte,g]
def fq(h:List Int)(X:List UInt8):Nat->List Int
 |0=>h
 |n+1=>fq (comp h (X.take 64)) (X.drop 64) n
theorem lQ(n:Nat):∀(h:List Int)(X:List UInt8),h.length=8->(fq h X n).length=8:=by
 induction n with
 |zero=>intro h X hh;exact hh
 |succ n ih=>intro h X hh;exact ih _ _ (qC h _ hh)
def H0:List Int:=[1779033703,3144134277,1013904242,2773480762,1359893119,2600822924,528734635,1541459225]
def sha(B:List UInt8):List UInt8:=sp (fq H0 (eF B) ((eF B).length/64))
theorem fQ(B:List UInt8):(sha B).length=32:=by unfold sha;rw[HB,lQ _ _ _ rfl]
theorem l69:∀(n:Nat)(h:List Int)(X:List UInt8),h.length=8->X.length=64*n->X.length<=1000000000000->
 run T (.loop yE) ⟨[(7,.ptr 107 0),(8,.byt X .no)],[(107,.arr 1 (ws h))],[]⟩=
 some (.x 3,⟨[(7,.ptr 107 0)],[(107,.arr 1 (ws (fq h X n)))],[]⟩):=by
 intro n;induction n with
 |zero=>
  intro h X hh hX hl;rw[aj];have h0:¬(0:Int)<X.length:=by omega
  simp only[go_sem,Qh,Qj,Qk,reduceIte,h0,fq]
 |succ n ih=>
  intro h X hh hX hl;have ih':=ih (comp h (X.take 64)) (X.drop 64) (qC h _ hh) (by rw[aE];omega) (by rw[aE];omega);have g:=xof h (X.take 64) hh (by rw[ay];omega);have h1:(0:Int)<X.length:=by omega
  have h2:(64:Int)<=X.length:=by omega
  have h3:64<=X.length:=by omega
  rw[aj];simp only[go_sem,Q2,Q3,Qe,Qg,Qh,Qi,Qj,Qk,reduceIte,h1,h2,g,xkD,bo,ih',fq]
theorem f69(B:List UInt8)(hB:B.length<=100000000000):call T 69 [.int .i64 1,.byt B .no] [] 0=some ⟨.byt (sha B) .no,[],[]⟩:=by
 have g0:=xmk B (by omega);have hl:=kt B;have hz:zn (B.length+1)<64:=by unfold zn;omega
 have hm:=mD B;have g1:=l69 ((eF B).length/64) H0 (eF B) rfl (by omega) (by omega);have hb:=lQ ((eF B).length/64) H0 (eF B) rfl;have g2:=xmj (fq H0 (eF B) ((eF B).length/64)) (by omega);have hw:=dD (fq H0 (eF B) ((eF B).length/64));have hH:ws H0=[[.int .u32 1779033703],[.int .u32 3144134277],[.int .u32 1013904242],[.int .u32 2773480762],[.int .u32 1359893119],[.int .u32 2600822924],[.int .u32 528734635],[.int .u32 1541459225]]:=rfl;rw[hH]at g1;rw[am xms];unfold sha;generalize fq H0 (eF B) ((eF B).length/64)=b at*;have ht:cj 8 (ws b)=ws b:=bO (by rw[hw,hb];exact aM 8);simp only[go_sem,Q2,Q3,Q5,Qe,Qf,Qg,Qh,Qi,Qj,Qk,reduceCtorEq,reduceIte,g0,g1,g2,xbW,xbV,hw,hb,c8,ht]
theorem xob:call T 126 [] [] 0=some ⟨.agg iX,[],[]⟩:=by rw[am xj7];simp only[go_sem,Qe,Qg,Qi,Qj,Qk,reduceCtorEq,reduceIte];rfl
def bk(X:List UInt8)(a:Nat):List UInt8:=eQ a (cj (a+64) X)
theorem uK(X:List UInt8)(a:Nat)(h:a+64<=X.length):(bk X a).length=64:=by unfold bk;rw[aE,ay];omega
theorem xbC(X:List UInt8)(a:Nat):bk X a=(X.drop a).take 64:=by unfold bk;rw[List.drop_take];congr 1;omega
theorem rq7(x:Int):call T 129 [.int .u32 x,.int .u64 7] [] 0=some ⟨.int .u32 (rr x 7),[],[]⟩:=wa x 7 (by omega)
theorem xm1(x:Int):call T 129 [.int .u32 x,.int .u64 18] [] 0=some ⟨.int .u32 (rr x 18),[],[]⟩:=wa x 18 (by omega)
theorem xm2(x:Int):call T 129 [.int .u32 x,.int .u64 17] [] 0=some ⟨.int .u32 (rr x 17),[],[]⟩:=wa x 17 (by omega)
theorem xm0(x:Int):call T 129 [.int .u32 x,.int .u64 19] [] 0=some ⟨.int .u32 (rr x 19),[],[]⟩:=wa x 19 (by omega)
theorem rq6(x:Int):call T 129 [.int .u32 x,.int .u64 6] [] 0=some ⟨.int .u32 (rr x 6),[],[]⟩:=wa x 6 (by omega)
theorem xm4(x:Int):call T 129 [.int .u32 x,.int .u64 11] [] 0=some ⟨.int .u32 (rr x 11),[],[]⟩:=wa x 11 (by omega)
theorem xmY(x:Int):call T 129 [.int .u32 x,.int .u64 25] [] 0=some ⟨.int .u32 (rr x 25),[],[]⟩:=wa x 25 (by omega)
theorem rq2(x:Int):call T 129 [.int .u32 x,.int .u64 2] [] 0=some ⟨.int .u32 (rr x 2),[],[]⟩:=wa x 2 (by omega)
theorem xm3(x:Int):call T 129 [.int .u32 x,.int .u64 13] [] 0=some ⟨.int .u32 (rr x 13),[],[]⟩:=wa x 13 (by omega)
theorem xmZ(x:Int):call T 129 [.int .u32 x,.int .u64 22] [] 0=some ⟨.int .u32 (rr x 22),[],[]⟩:=wa x 22 (by omega)
theorem xnn(X:List UInt8)(a:Nat)(h:List Int)(ha:a+64<=X.length)(hX:X.length<=1000000000000):∀(n t:Nat),64-t=n->t<=64->
 run T (.loop yB) ⟨[(3,.ptr 103 0),(4,.psl 119 1 0 8 (some 8)),(5,.byt X .no),(6,.int .i64 a),(7,.ptr 107 0),(8,.int .i64 t)],[(103,.arr 1 (ws Kl)),(107,.arr 1 (ws (Wl (bk X a) t))),(119,.arr 1 (ws h))],[]⟩=
 some (.x 2,⟨[(3,.ptr 103 0),(4,.psl 119 1 0 8 (some 8)),(5,.byt X .no),(6,.int .i64 a),(7,.ptr 107 0)],[(103,.arr 1 (ws Kl)),(107,.arr 1 (ws (Wl (bk X a) 64))),(119,.arr 1 (ws h))],[]⟩):=by
 intro n;induction n with
 |zero=>
  intro t h0 h1;have hi:t=64:=by omega
  subst hi;rw[aj];simp only[c64,go_sem,Q4,Qh,Qj,Qk,reduceIte]
 |succ n ih=>
  intro t h0 h1;have ih':=ih (t+1) (by omega) (by omega);have e1:=bV t (by omega);have hlt:(t:Int)<64:=by omega
  have hl:=uL (bk X a) t;have hw:=dD (Wl (bk X a) t);have hn:t<64:=by omega
  have hs:Wl (bk X a) (t+1)=(Wl (bk X a) t).set t (nw (bk X a) (Wl (bk X a) t) t):=rfl;have a1:ai.wrap ((a:Int)+64)=((a+64:Nat):Int):=wZ (by omega)
  have a3:a<=a+64:=by omega
  rw[aj]
  by_cases h16:t<16
  ·have g:=xmf (bk X a) t (by rw[uK X a ha];omega) (by rw[uK X a ha];omega)
   have h16':(t:Int)<16:=by omega
   have hx:nw (bk X a) (Wl (bk X a) t) t=wd (bk X a) t:=by unfold nw;rw[if_pos h16]
   rw[hs,hx]at ih';generalize hb:Wl (bk X a) t=L at*;generalize hc:wd (bk X a) t=z at*;unfold bk at g;simp only[go_sem,Qh,Qj,Qk,reduceIte,hlt,h16',e1,a1,ha,a3,g,hl,hw,xbT,hn,ld,ih']
  ·have h16':¬(t:Int)<16:=by omega
   have a15:ai.wrap ((t:Int)-15)=((t-15:Nat):Int):=wZ (by omega)
   have a2:ai.wrap ((t:Int)-2)=((t-2:Nat):Int):=wZ (by omega)
   have a7:ai.wrap ((t:Int)-7)=((t-7:Nat):Int):=wZ (by omega)
   have a16:ai.wrap ((t:Int)-16)=((t-16:Nat):Int):=wZ (by omega)
   have b15:t-15<64:=by omega
   have b2:t-2<64:=by omega
   have b7:t-7<64:=by omega
   have b16:t-16<64:=by omega
   rw[hs]at ih';unfold nw at ih';rw[if_neg h16]at ih';generalize hb:Wl (bk X a) t=L at*;have d15:=cf L (t-15) (by omega);have d2:=cf L (t-2) (by omega);have d7:=cf L (t-7) (by omega);have d16:=cf L (t-16) (by omega);simp only[go_sem,Q2,Q3,Qb,Qc,Qd,Qh,Qj,Qk,reduceCtorEq,reduceIte,hlt,h16',e1,hl,hw,xbS,hn,a15,a2,a7,a16,b15,b2,b7,b16,d15,d2,d7,d16,rq7,xm1,xm2,xm0,ld,m3,m10,ih']
theorem xnm(X:List UInt8)(a:Nat)(W h:List Int)(O:aF)(hW:W.length=64)(hh:h.length=8):∀(n t:Nat)(q:Tok),64-t=n->t<=64->
 run T (.loop yA) ⟨[(3,.ptr 103 0),(4,.psl 119 1 0 8 (some 8)),(5,.byt X .no),(6,.int .i64 a),(7,.ptr 107 0),(11,.lst 1 (ws (rounds W h t)) q),(12,.int .i64 t)],[(103,.arr 1 (ws Kl)),(107,.arr 1 (ws W)),(119,O)],[194]⟩=
 some (.x 4,⟨[(3,.ptr 103 0),(4,.psl 119 1 0 8 (some 8)),(5,.byt X .no),(6,.int .i64 a),(11,.lst 1 (ws (rounds W h 64)) (if t=64 then q else .clip))],[(103,.arr 1 (ws Kl)),(107,.arr 1 (ws W)),(119,O)],[194]⟩):=by
 intro n;induction n with
 |zero=>
  intro t q h0 h1;have hi:t=64:=by omega
  subst hi;rw[aj];simp only[c64,go_sem,Q4,Qh,Qj,Qk,reduceIte]
 |succ n ih=>
  intro t q h0 h1;have ih':=ih (t+1) .clip (by omega) (by omega);have e1:=bV t (by omega);have hlt:(t:Int)<64:=by omega
  have hn:t<64:=by omega
  have hn2:t≠64:=by omega
  have hl:=ik W h hh t;have hw:=dD (rounds W h t);have hw2:=dD W;have hw3:=dD Kl;have hk:=As;have hs:rounds W h (t+1)=rnd (Kl.getD t 0) (W.getD t 0) (rounds W h t):=rfl;rw[hs]at ih';simp only[rnd,ws8]at ih';rw[ite_self]at ih';generalize rounds W h t=s at*;have d0:=cf s 0 (by omega);have d1:=cf s 1 (by omega);have d2:=cf s 2 (by omega);have d3:=cf s 3 (by omega);have d4:=cf s 4 (by omega);have d5:=cf s 5 (by omega);have d6:=cf s 6 (by omega);have d7:=cf s 7 (by omega);have dW:=cf W t (by omega);have dK:=cf Kl t (by rw[As];exact hn);rw[aj];simp only[go_sem,Q2,Q3,Q4,Q7,Qb,Qc,Qd,Qh,Qj,Qk,reduceCtorEq,reduceIte,hlt,e1,hl,hw,hw2,hw3,hk,hW,xbS,hn,hn2,d0,d1,d2,d3,d4,d5,d6,d7,dW,dK,rq6,xm4,xmY,rq2,xm3,xmZ,c8,c64,ih']
theorem xnl(X:List UInt8)(a:Nat)(h s:List Int)(P Q:aF)(hh:h.length=8)(hs:s.length=8):
 run T (.loop yy) ⟨[(3,.ptr 103 0),(4,.psl 119 1 0 8 (some 8)),(5,.byt X .no),(6,.int .i64 a),(11,.lst 1 (ws s) .clip),(17,.int .i64 0)],[(103,P),(107,Q),(119,.arr 1 (ws h))],[194]⟩=
 some (.x 6,⟨[(3,.ptr 103 0),(4,.psl 119 1 0 8 (some 8)),(5,.byt X .no),(6,.int .i64 a)],[(103,P),(107,Q),(119,.arr 1 (ws (tV h s)))],[194]⟩):=by
 match h,hh with
 |[a0,a1,a2,a3,a4,a5,a6,a7],_=>match s,hs with
  |[b0,b1,b2,b3,b4,b5,b6,b7],_=>
   have k1:ai.wrap 1=1:=rfl;have k2:ai.wrap 2=2:=rfl;have k3:ai.wrap 3=3:=rfl;have k4:ai.wrap 4=4:=rfl;have k5:ai.wrap 5=5:=rfl;have k6:ai.wrap 6=6:=rfl;have k7:ai.wrap 7=7:=rfl;have k8:ai.wrap 8=8:=rfl;simp only[ws8,tV]
   iterate 9
    rw[aj];simp only[go_sem,Q2,Q3,Q4,Q8,Qb,Qc,Qd,Qe,Qh,Qj,Qk,reduceIte,av,aQ,c8,k1,k2,k3,k4,k5,k6,k7,k8]
theorem l80(X:List UInt8)(hX:X.length<=1000000000000):∀(n a:Nat)(h:List Int),h.length=8->X.length=a+64*n->
 run T (.loop yx) ⟨[(3,.ptr 103 0),(4,.psl 119 1 0 8 (some 8)),(5,.byt X .no),(6,.int .i64 a)],[(103,.arr 1 (ws Kl)),(119,.arr 1 (ws h))],[]⟩=
 some (.x 0,⟨[(4,.psl 119 1 0 8 (some 8))],[(103,.arr 1 (ws Kl)),(119,.arr 1 (ws (fq h (X.drop a) n)))],[]⟩):=by
 intro n;induction n with
 |zero=>
  intro a h hh hl;rw[aj];have h0:¬(a:Int)<X.length:=by omega
  simp only[go_sem,Qh,Qj,Qk,reduceIte,h0,fq]
 |succ n ih=>
  intro a h hh hl;have ih':=ih (a+64) (comp h (bk X a)) (qC h _ hh) (by omega);have h0:(a:Int)<X.length:=by omega
  have a1:ai.wrap ((a:Int)+64)=((a+64:Nat):Int):=wZ (by omega)
  have g1:=xnn X a h (by omega) hX _ 0 rfl (by omega);have g2:=xnm X a (Wl (bk X a) 64) h (.arr 1 (ws h)) (uL _ 64) hh _ 0 (.id 194) rfl (by omega);have g3:=xnl X a h (rounds (Wl (bk X a) 64) h 64) (.arr 1 (ws Kl)) (.arr 1 (ws (Wl (bk X a) 64))) hh (ik _ _ hh 64);have hw:Wl (bk X a) 0=aq 64 0:=rfl;have hr:rounds (Wl (bk X a) 64) h 0=h:=rfl;have hz:¬(0:Nat)=64:=by omega
  have hwl:=dD h;rw[hw,<-tZ]at g1;rw[hr,if_neg hz]at g2;simp only[aB]at g1 g2
  have hbl:fq h (X.drop a) (n+1)=fq (comp h (bk X a)) (X.drop (a+64)) n:=by rw[fq,xbC,eO]
  rw[hbl,aj];unfold comp at ih' ⊢;have ht:cj 8 (ws h)=ws h:=bO (by rw[hwl,hh];exact aM 8);simp only[go_sem,Qe,Qg,Qh,Qi,Qj,Qk,reduceCtorEq,reduceIte,h0,a1,g1,g2,g3,hwl,hh,ht,ih']
  trace_state
attribute [-go_sem] jv
theorem f80(B:List UInt8)(hB:B.length<=100000000000):call T 80 [.byt B .no] [] 0=some ⟨.byt (sha B) .no,[],[]⟩:=by
 have g1:=xob;have g0:=xmg B (by omega);have ck:jv 1 64 (List.map SV.data iX)=ws Kl:=rfl;have i3:iX.all SV.isData=true:=rfl;have i4:=nO;have pg:SV.purgeL 103 104 iX=iX:=rfl;have i1:SV.idsL iX=[]:=rfl;have i2:SV.toksL iX=[]:=rfl;have hl:=kt B;have hz:zn (B.length+1)<64:=by unfold zn;omega
 have hm:=mD B;have g3:=l80 (eF B) (by omega) ((eF B).length/64) 0 H0 rfl (by omega);have hb:=lQ ((eF B).length/64) H0 (eF B) rfl;have g2:=xme (fq H0 (eF B) ((eF B).length/64)) (by omega);have hw:=dD (fq H0 (eF B) ((eF B).length/64));have hH:ws H0=[[.int .u32 1779033703],[.int .u32 3144134277],[.int .u32 1013904242],[.int .u32 2773480762],[.int .u32 1359893119],[.int .u32 2600822924],[.int .u32 528734635],[.int .u32 1541459225]]:=rfl;rw[hH]at g3;simp only[aB,aR]at g3;unfold sha;generalize fq H0 (eF B) ((eF B).length/64)=b at*;have ht:cj 8 (ws b)=ws b:=bO (by rw[hw,hb];exact aM 8);rw[am xoU];simp only[go_sem,Qe,Qg,Qh,Qi,Qj,Qk,reduceCtorEq,reduceIte,g1,g0,xbU,xky,i1,i2,List.isEmpty,ck,i3,i4,pg,g2,g3,xbR,hw,hb,ht]
attribute [go_sem] jv
theorem xnH(v:Int):∀(k:Nat)(acc:List UInt8),k<=8->acc.length+k<=100000000000000->
 run T (.loop y7) ⟨[(2,.int .i64 v),(7,.byt acc (.id 107)),(8,.int .i64 ((k:Int)-1))],[],[107]⟩=
 some (.x 0,⟨[(7,.byt (acc++be k (bm.wrap v)) (.id 107))],[],[107]⟩):=by
 intro k;induction k with
 |zero=>
  intro acc hk h;rw[aj];have hg:¬(0:Int)<=((0:Nat):Int)-1:=by omega
  simp only[go_sem,Qh,Qj,Qk,reduceIte,hg,be,bH]
 |succ k ih=>
  intro acc hk h;have ih':=ih (acc++ [iQ (bm.wrap v) (8*k)]) (by omega) (by rw[ah,aD];omega);have c1:acc.length+1<=140737488355328:=by omega
  have hg:(0:Int)<=((k+1:Nat):Int)-1:=by omega
  have he:bm.wrap (((k+1:Nat):Int)-1)=(k:Int):=by rw[cH];omega
  have he2:ai.wrap (8*(((k+1:Nat):Int)-1))=((8*k:Nat):Int):=wZ (by omega)
  have he3:bm.wrap (((8*k:Nat):Int))=((8*k:Nat):Int):=by rw[cH];omega
  have he4:bm.wrap (8*(k:Int))=((8*k:Nat):Int):=by rw[cH];omega
  have hs:ai.wrap (((k+1:Nat):Int)-1-1)=(k:Int)-1:=wZ (by omega)
  have hm:min (8*k) 64=8*k:=by omega
  rw[aZ,dO]at ih';rw[aj];unfold iQ at ih';simp only[go_sem,Qe,Qh,Qi,Qj,Qk,reduceIte,c1,hg,he2,he3,hs,hm,be,iQ,ih']
theorem xmi(B:List UInt8)(k:Nat)(v:Int)(h1:1<=k)(h8:k<=8)(hB:B.length<=10000000000000):
 call T 117 [.byt B .no,.int .i64 k,.int .i64 v] [] 0=some ⟨.byt (B++be k (bm.wrap v)) (.id 60),[],[60]⟩:=by
 have g:=xnH v k B h8 (by omega);have c1:¬(k:Int)<1:=by omega
 have c2:¬(8:Int)<k:=by omega
 have c3:ai.wrap ((k:Int)-1)=(k:Int)-1:=w64 (by omega) (by omega);have c4:B.length<=140737488355328:=by omega
 rw[am xkd];simp only[go_sem,Qe,Qh,Qi,Qj,Qk,reduceCtorEq,reduceIte,c1,c2,c3,c4,g]
theorem l82(v:Int):∀(k:Nat)(acc:List UInt8),k<=8->acc.length+k<=100000000000000->
 run T (.loop PA) ⟨[(2,.int .i64 v),(7,.byt acc (.id 107)),(8,.int .i64 ((k:Int)-1))],[],[107]⟩=
 some (.x 0,⟨[(7,.byt (acc++be k (bm.wrap v)) (.id 107))],[],[107]⟩):=by
 intro k;induction k with
 |zero=>
  intro acc hk h;rw[aj];have hg:¬(0:Int)<=((0:Nat):Int)-1:=by omega
  simp only[go_sem,Qh,Qj,Qk,reduceIte,hg,be,bH]
 |succ k ih=>
  intro acc hk h;have ih':=ih (acc++ [iQ (bm.wrap v) (8*k)]) (by omega) (by rw[ah,aD];omega);have c1:acc.length+1<=140737488355328:=by omega
  have hg:(0:Int)<=((k+1:Nat):Int)-1:=by omega
  have he:bm.wrap (((k+1:Nat):Int)-1)=(k:Int):=by rw[cH];omega
  have he4:bm.wrap (8*(k:Int))=((8*k:Nat):Int):=by rw[cH];omega
  have hs:ai.wrap (((k+1:Nat):Int)-1-1)=(k:Int)-1:=wZ (by omega)
  have hm:min (8*k) 64=8*k:=by omega
  rw[aZ,dO]at ih';rw[aj];unfold iQ at ih';simp only[go_sem,Qe,Qh,Qi,Qj,Qk,reduceIte,c1,hg,he,he4,hs,hm,be,iQ,ih']
theorem f82(B:List UInt8)(k:Nat)(v:Int)(h1:1<=k)(h8:k<=8)(hB:B.length<=10000000000000):
 call T 82 [.byt B .no,.int .i64 k,.int .i64 v] [] 0=some ⟨.byt (B++be k (bm.wrap v)) (.id 60),[],[60]⟩:=by
 have g:=l82 v k B h8 (by omega);have c1:¬(k:Int)<1:=by omega
 have c2:¬(8:Int)<k:=by omega
 have c3:ai.wrap ((k:Int)-1)=(k:Int)-1:=w64 (by omega) (by omega);have c4:B.length<=140737488355328:=by omega
 rw[am xoS];simp only[go_sem,Qe,Qh,Qi,Qj,Qk,reduceCtorEq,reduceIte,c1,c2,c3,c4,g]
def jw(B X:List UInt8):List UInt8:=B++be 2 (bm.wrap (X.take 65535).length)++X.take 65535
theorem f83(B X:List UInt8)(hB:B.length<=1000000000000)(hX:X.length<=1000000000000):call T 83 [.byt B .no,.byt X .no] [] 0=some ⟨.byt (jw B X) (.id 60),[],[60]⟩:=by
 have g:=f82 B 2 (X.take 65535).length (by omega) (by omega) (by omega);rw[c2]at g;rw[am xoR];have hl:(X.take 65535).length<=65535:=by rw[ay];omega
 have c4:(B++be 2 (bm.wrap (X.take 65535).length)).length+(X.take 65535).length<=140737488355328:=by rw[ah,ib];omega
 by_cases h:(65535:Int)<X.length
 ·have h3:(65535:Int)<=X.length:=by omega
  have h4:65535<=X.length:=by omega
  simp only[ah]at c4;simp only[go_sem,Q2,Q3,Qe,Qg,Qh,Qi,Qj,Qk,reduceCtorEq,reduceIte,h,h3,g,Fx,jw,c4,aZ]
 ·have ht:X.take 65535=X:=bO (by omega)
  rw[ht]at g c4;simp only[ah]at c4;simp only[go_sem,Q2,Q3,Qe,Qg,Qh,Qi,Qj,Qk,reduceCtorEq,reduceIte,h,g,Fx,jw,ht,c4,aZ]
theorem xgu(B X:List UInt8)(hB:B.length<=1000000000000)(hX:X.length<=1000000000000):call T 118 [.byt B .no,.byt X .no] [] 0=some ⟨.byt (jw B X) (.id 60),[],[60]⟩:=by
 have g:=xmi B 2 (X.take 65535).length (by omega) (by omega) (by omega);rw[c2]at g;rw[am xkc];have hl:(X.take 65535).length<=65535:=by rw[ay];omega
 have c4:(B++be 2 (bm.wrap (X.take 65535).length)).length+(X.take 65535).length<=140737488355328:=by rw[ah,ib];omega
 simp only[ah]at c4
 by_cases h:(65535:Int)<X.length
 ·have h3:min (X.length:Int) 65535=65535:=by omega
  have h4:(65535:Int)<=X.length:=by omega
  have h5:65535<=X.length:=by omega
  simp only[go_sem,Q2,Q3,Qe,Qg,Qh,Qi,Qj,Qk,reduceCtorEq,reduceIte,h,h4,g,lc,jw,c4,aZ]
 ·have h3:min (X.length:Int) 65535=X.length:=by omega
  have ht:X.take 65535=X:=bO (by omega);have ht2:X.take X.length=X:=bo;rw[ht]at g c4;simp only[go_sem,Q2,Q3,Qe,Qg,Qh,Qi,Qj,Qk,reduceCtorEq,reduceIte,h,ht2,g,lc,jw,ht,c4,aZ]
def frame(t:Int)(X:List UInt8):List UInt8:=bM t::(w4 (X.length:Int)++X)
theorem xn7(t:Int)(X:List UInt8)(hX:X.length<=1000000000):call T 137 [.int .i64 t,.lst 1 [[.byt X .no]] .no] [] 0=some ⟨.byt (frame t X) .no,[],[]⟩:=by
 have k1:ai.wrap 1=1:=rfl;have e1:aA.wrap (X.length:Int)=X.length:=by rw[IntKind.wrap_u32];omega
 have c4:1+4+X.length<=140737488355328:=by omega
 have c5:5+X.length<=140737488355328:=by omega
 rw[am xjW];simp only[go_sem,Qe,Qh,Qi,Qj,Qk,reduceCtorEq,reduceIte,av,aQ,c1];rw[aj];simp only[go_sem,Q2,Q3,Q4,Q8,Qe,Qh,Qi,Qj,Qk,reduceCtorEq,reduceIte,av,aQ,c1,k1,e1,m24,m16,m8,c4];rw[aj];simp only[go_sem,Q4,Qh,Qj,Qk,reduceIte,frame,w4,iQ]
 trace_state
theorem xoi(t:Int)(X:List UInt8)(hX:X.length<=1000000000):call T 110 [.int .i64 t,.lst 1 [[.byt X .no]] .no] [] 0=some ⟨.byt (frame t X) .no,[],[]⟩:=by
 have k1:ai.wrap 1=1:=rfl;have c4:1+4+X.length<=140737488355328:=by omega
 have c5:5+X.length<=140737488355328:=by omega
 have m24':min 24 64=24:=rfl;have m16':min 16 64=16:=rfl;have m8':min 8 64=8:=rfl;rw[am xkj];simp only[go_sem,Qe,Qh,Qi,Qj,Qk,reduceCtorEq,reduceIte,av,aQ];rw[aj];simp only[go_sem,Q2,Q3,Q4,Q8,Qe,Qh,Qi,Qj,Qk,reduceCtorEq,reduceIte,av,aQ,c1,k1,m24',m16',m8',c4];rw[aj];simp only[go_sem,Q4,Qh,Qj,Qk,reduceIte,av,aQ,c1,frame,w4,iQ]
theorem rV(t:Int)(X:List UInt8):(frame t X).length=X.length+5:=by simp[frame,w4]
def uB(t:Int)(X:List UInt8):List UInt8:=sha (frame t X)
theorem xon(t:Int)(X:List UInt8)(hX:X.length<=1000000000):call T 102 [.int .i64 t,.lst 1 [[.byt X .no]] .no] [] 0=some ⟨.byt (uB t X) .no,[],[]⟩:=by have g1:=xn7 t X hX;have g2:=f69 (frame t X) (by rw[rV];omega);rw[am xkn];simp only[go_sem,Qe,Qh,Qi,Qj,Qk,reduceCtorEq,reduceIte,g1,g2,xku,FA,uB]
theorem f67(t:Int)(X:List UInt8)(hX:X.length<=1000000000):call T 67 [.int .i64 t,.lst 1 [[.byt X .no]] .no] [] 0=some ⟨.byt (uB t X) .no,[],[]⟩:=by have g1:=xoi t X hX;have g2:=f80 (frame t X) (by rw[rV];omega);rw[am xo2];simp only[go_sem,Qe,Qh,Qi,Qj,Qk,reduceCtorEq,reduceIte,g1,g2,xkF,Pb,uB]
theorem xgt(x:Int)(n m:Nat)(h:n+m=32):call T 169 [.int .u32 x,.int .u64 n] [] 0=some ⟨.int .u32 (rr x m),[],[]⟩:=by
 rw[am xjK];have e:bm.wrap (32-(n:Int))=(m:Int):=by rw[cH];omega
 have e2:min n 32=n:=by omega
 have e3:min m 32=m:=by omega
 have e4:32-m=n:=by omega
 simp only[go_sem,Qe,Qh,Qi,Qj,Qk,reduceCtorEq,reduceIte,e,e2,e3,rr,e4,lv]
def nw1(B:List UInt8)(L:List Int)(t:Nat):Int:=
 if t<16 then wd B t else
  rr (bC .xor .u32 (bC .xor .u32 (bC .xor .u32 (L.getD (t-3) 0) (L.getD (t-8) 0)) (L.getD (t-14) 0)) (L.getD (t-16) 0)) 31
def Wl1(B:List UInt8):Nat->List Int
 |0=>aq 80 0
 |t+1=>(Wl1 B t).set t (nw1 B (Wl1 B t) t)
theorem pR(B:List UInt8)(t:Nat):(Wl1 B t).length=80:=by
 induction t with
 |zero=>simp[Wl1]
 |succ n ih=>simp[Wl1,ih]
theorem p1(x:Int):call T 142 [.int .u32 x,.int .i64 1] [] 0=some ⟨.int .u32 (rr x 31),[],[]⟩:=q7 x 1 31 (by omega) (by decide)
theorem p5(x:Int):call T 142 [.int .u32 x,.int .i64 5] [] 0=some ⟨.int .u32 (rr x 27),[],[]⟩:=q7 x 5 27 (by omega) (by decide)
theorem p30(x:Int):call T 142 [.int .u32 x,.int .i64 30] [] 0=some ⟨.int .u32 (rr x 2),[],[]⟩:=q7 x 30 2 (by omega) (by decide)
theorem z1(x:Int):call T 169 [.int .u32 x,.int .u64 1] [] 0=some ⟨.int .u32 (rr x 31),[],[]⟩:=xgt x 1 31 rfl
theorem z5(x:Int):call T 169 [.int .u32 x,.int .u64 5] [] 0=some ⟨.int .u32 (rr x 27),[],[]⟩:=xgt x 5 27 rfl
theorem z30(x:Int):call T 169 [.int .u32 x,.int .u64 30] [] 0=some ⟨.int .u32 (rr x 2),[],[]⟩:=xgt x 30 2 rfl
theorem xjm(B:List UInt8)(O:aF)(hB:B.length=64):∀(n t:Nat),80-t=n->t<=80->
 run T (.loop y9) ⟨[(0,.ptr 0 0),(1,.byt B .no),(4,.ptr 104 0),(14,.int .i64 t)],[(0,O),(104,.arr 1 (ws (Wl1 B t)))],[]⟩=
 some (.x 0,⟨[(0,.ptr 0 0),(4,.ptr 104 0)],[(0,O),(104,.arr 1 (ws (Wl1 B 80)))],[]⟩):=by
 intro n;induction n with
 |zero=>
  intro t h0 h1;have hi:t=80:=by omega
  subst hi;rw[aj];simp only[c80,go_sem,Q4,Qh,Qj,Qk,reduceCtorEq,reduceIte]
 |succ n ih=>
  intro t h0 h1;have ih':=ih (t+1) (by omega) (by omega);have e1:=bV t (by omega);have hlt:(t:Int)<80:=by omega
  have hl:=pR B t;have hw:=dD (Wl1 B t);have hn:t<80:=by omega
  have hs:Wl1 B (t+1)=(Wl1 B t).set t (nw1 B (Wl1 B t) t):=rfl;rw[aj]
  by_cases h16:t<16
  ·have g:=xma B t (by omega) (by omega)
   have h16':(t:Int)<16:=by omega
   have hx:nw1 B (Wl1 B t) t=wd B t:=by unfold nw1;rw[if_pos h16]
   rw[hs,hx]at ih';simp only[go_sem,Qh,Qj,Qk,reduceCtorEq,reduceIte,hlt,h16',e1,g,hl,hw,xbO,hn,ld,ih']
  ·have h16':¬(t:Int)<16:=by omega
   have a3:ai.wrap ((t:Int)-3)=((t-3:Nat):Int):=wZ (by omega)
   have a8:ai.wrap ((t:Int)-8)=((t-8:Nat):Int):=wZ (by omega)
   have a14:ai.wrap ((t:Int)-14)=((t-14:Nat):Int):=wZ (by omega)
   have a16:ai.wrap ((t:Int)-16)=((t-16:Nat):Int):=wZ (by omega)
   have b3:t-3<80:=by omega
   have iQ:t-8<80:=by omega
   have b14:t-14<80:=by omega
   have b16:t-16<80:=by omega
   have d3:=cf (Wl1 B t) (t-3) (by omega);have d8:=cf (Wl1 B t) (t-8) (by omega);have d14:=cf (Wl1 B t) (t-14) (by omega);have d16:=cf (Wl1 B t) (t-16) (by omega);rw[hs]at ih';unfold nw1 at ih';rw[if_neg h16]at ih';simp only[go_sem,Qb,Qc,Qd,Qh,Qj,Qk,reduceCtorEq,reduceIte,hlt,h16',e1,hl,hw,rB,hn,a3,a8,a14,a16,b3,iQ,b14,b16,d3,d8,d14,d16,p1,ld,ih']
def ff(t:Nat)(b c d:Int):Int:=
 if t<20 then bC .xor .u32 (bC .and .u32 b c) (bC .and .u32 (bC .xor .u32 (if aA.signed=true then-1 else aA.max) b) d)
 else if t<40 then bC .xor .u32 (bC .xor .u32 b c) d
 else if t<60 then bC .xor .u32 (bC .xor .u32 (bC .and .u32 b c) (bC .and .u32 b d)) (bC .and .u32 c d)
 else bC .xor .u32 (bC .xor .u32 b c) d
def kk(t:Nat):Int:=if t<20 then 1518500249 else if t<40 then 1859775393 else if t<60 then 2400959708 else 3395469782
def HI(t:Nat)(w:Int)(s:List Int):List Int:=
 [aA.wrap (aA.wrap (aA.wrap (aA.wrap (rr (s.getD 0 0) 27+ff t (s.getD 1 0) (s.getD 2 0) (s.getD 3 0))+s.getD 4 0)+kk t)+w),s.getD 0 0,rr (s.getD 1 0) 2,s.getD 2 0,s.getD 3 0]
def cm(W:List Int)(h:List Int):Nat->List Int
 |0=>h
 |t+1=>HI t (W.getD t 0) (cm W h t)
theorem kd(W h:List Int)(hh:h.length=5)(t:Nat):(cm W h t).length=5:=by
 cases t<;>simp[cm,HI,hh]
theorem xdw(W:List Int)(O:aF)(hW:W.length=80)(t:Nat)(hn:t<80)(hd:t/20=0)(a b c d e:Int):
 run T (.loop fS) ⟨[(0,.ptr 0 0),(4,.ptr 104 0),(6,.int .u32 a),(7,.int .u32 b),(8,.int .u32 c),(9,.int .u32 d),(10,.int .u32 e),(67,.int .i64 t)],[(0,O),(104,.arr 1 (ws W))],[]⟩=
 run T (.loop fS) ⟨[(0,.ptr 0 0),(4,.ptr 104 0),(6,.int .u32 (aA.wrap (aA.wrap (aA.wrap (aA.wrap (rr a 27+bC .xor .u32 (bC .and .u32 b c) (bC .and .u32 (bC .xor .u32 (if aA.signed=true then-1 else aA.max) b) d))+e)+1518500249)+W.getD t 0))),(7,.int .u32 a),(8,.int .u32 (rr b 2)),(9,.int .u32 c),(10,.int .u32 d),(67,.int .i64 ((t+1:Nat):Int))],[(0,O),(104,.arr 1 (ws W))],[]⟩:=by
 have e1:=bV t (by omega);have hlt:(t:Int)<80:=by omega
 have hw2:=dD W;have dW:=cf W t (by omega)
 have hq:(t:Int).tdiv 20=0:=by
  have h:(t:Int).tdiv 20=((t/20:Nat):Int):=by rw[Int.tdiv_eq_ediv_of_nonneg (by omega)];omega
  rw[h,hd];rfl
 have k0:ai.wrap 0=0:=rfl;have k1:ai.wrap 1=1:=rfl;have k2:ai.wrap 2=2:=rfl;have k3:ai.wrap 3=3:=rfl;rw[aj];simp only[go_sem,Q5,Q7,Qb,Qc,Qd,Qh,Qj,Qk,reduceCtorEq,reduceIte,hlt,e1,hw2,hW,rB,hn,hq,k0,dW,p5,p30]
theorem xdv(W:List Int)(O:aF)(hW:W.length=80)(t:Nat)(hn:t<80)(hd:t/20=1)(a b c d e:Int):
 run T (.loop fS) ⟨[(0,.ptr 0 0),(4,.ptr 104 0),(6,.int .u32 a),(7,.int .u32 b),(8,.int .u32 c),(9,.int .u32 d),(10,.int .u32 e),(67,.int .i64 t)],[(0,O),(104,.arr 1 (ws W))],[]⟩=
 run T (.loop fS) ⟨[(0,.ptr 0 0),(4,.ptr 104 0),(6,.int .u32 (aA.wrap (aA.wrap (aA.wrap (aA.wrap (rr a 27+bC .xor .u32 (bC .xor .u32 b c) d)+e)+1859775393)+W.getD t 0))),(7,.int .u32 a),(8,.int .u32 (rr b 2)),(9,.int .u32 c),(10,.int .u32 d),(67,.int .i64 ((t+1:Nat):Int))],[(0,O),(104,.arr 1 (ws W))],[]⟩:=by
 have e1:=bV t (by omega);have hlt:(t:Int)<80:=by omega
 have hw2:=dD W;have dW:=cf W t (by omega)
 have hq:(t:Int).tdiv 20=1:=by
  have h:(t:Int).tdiv 20=((t/20:Nat):Int):=by rw[Int.tdiv_eq_ediv_of_nonneg (by omega)];omega
  rw[h,hd];rfl
 have k0:ai.wrap 0=0:=rfl;have k1:ai.wrap 1=1:=rfl;have k2:ai.wrap 2=2:=rfl;have k3:ai.wrap 3=3:=rfl;rw[aj];simp only[go_sem,Q5,Q7,Qb,Qc,Qd,Qh,Qj,Qk,reduceCtorEq,reduceIte,hlt,e1,hw2,hW,rB,hn,hq,k1,dW,p5,p30]
theorem xdu(W:List Int)(O:aF)(hW:W.length=80)(t:Nat)(hn:t<80)(hd:t/20=2)(a b c d e:Int):
 run T (.loop fS) ⟨[(0,.ptr 0 0),(4,.ptr 104 0),(6,.int .u32 a),(7,.int .u32 b),(8,.int .u32 c),(9,.int .u32 d),(10,.int .u32 e),(67,.int .i64 t)],[(0,O),(104,.arr 1 (ws W))],[]⟩=
 run T (.loop fS) ⟨[(0,.ptr 0 0),(4,.ptr 104 0),(6,.int .u32 (aA.wrap (aA.wrap (aA.wrap (aA.wrap (rr a 27+bC .xor .u32 (bC .xor .u32 (bC .and .u32 b c) (bC .and .u32 b d)) (bC .and .u32 c d))+e)+2400959708)+W.getD t 0))),(7,.int .u32 a),(8,.int .u32 (rr b 2)),(9,.int .u32 c),(10,.int .u32 d),(67,.int .i64 ((t+1:Nat):Int))],[(0,O),(104,.arr 1 (ws W))],[]⟩:=by
 have e1:=bV t (by omega);have hlt:(t:Int)<80:=by omega
 have hw2:=dD W;have dW:=cf W t (by omega)
 have hq:(t:Int).tdiv 20=2:=by
  have h:(t:Int).tdiv 20=((t/20:Nat):Int):=by rw[Int.tdiv_eq_ediv_of_nonneg (by omega)];omega
  rw[h,hd];rfl
 have k0:ai.wrap 0=0:=rfl;have k1:ai.wrap 1=1:=rfl;have k2:ai.wrap 2=2:=rfl;have k3:ai.wrap 3=3:=rfl;rw[aj];simp only[go_sem,Q5,Q7,Qb,Qc,Qd,Qh,Qj,Qk,reduceCtorEq,reduceIte,hlt,e1,hw2,hW,rB,hn,hq,k2,dW,p5,p30]
theorem xdt(W:List Int)(O:aF)(hW:W.length=80)(t:Nat)(hn:t<80)(hd:t/20=3)(a b c d e:Int):
 run T (.loop fS) ⟨[(0,.ptr 0 0),(4,.ptr 104 0),(6,.int .u32 a),(7,.int .u32 b),(8,.int .u32 c),(9,.int .u32 d),(10,.int .u32 e),(67,.int .i64 t)],[(0,O),(104,.arr 1 (ws W))],[]⟩=
 run T (.loop fS) ⟨[(0,.ptr 0 0),(4,.ptr 104 0),(6,.int .u32 (aA.wrap (aA.wrap (aA.wrap (aA.wrap (rr a 27+bC .xor .u32 (bC .xor .u32 b c) d)+e)+3395469782)+W.getD t 0))),(7,.int .u32 a),(8,.int .u32 (rr b 2)),(9,.int .u32 c),(10,.int .u32 d),(67,.int .i64 ((t+1:Nat):Int))],[(0,O),(104,.arr 1 (ws W))],[]⟩:=by
 have e1:=bV t (by omega);have hlt:(t:Int)<80:=by omega
 have hw2:=dD W;have dW:=cf W t (by omega)
 have hq:(t:Int).tdiv 20=3:=by
  have h:(t:Int).tdiv 20=((t/20:Nat):Int):=by rw[Int.tdiv_eq_ediv_of_nonneg (by omega)];omega
  rw[h,hd];rfl
 have k0:ai.wrap 0=0:=rfl;have k1:ai.wrap 1=1:=rfl;have k2:ai.wrap 2=2:=rfl;have k3:ai.wrap 3=3:=rfl;rw[aj];simp only[go_sem,Q5,Q7,Qb,Qc,Qd,Qh,Qj,Qk,reduceCtorEq,reduceIte,hlt,e1,hw2,hW,rB,hn,hq,k3,dW,p5,p30]
theorem xjl(W h:List Int)(O:aF)(hW:W.length=80)(hh:h.length=5):∀(n t:Nat),80-t=n->t<=80->
 run T (.loop fS) ⟨[(0,.ptr 0 0),(4,.ptr 104 0),(6,.int .u32 ((cm W h t).getD 0 0)),(7,.int .u32 ((cm W h t).getD 1 0)),(8,.int .u32 ((cm W h t).getD 2 0)),(9,.int .u32 ((cm W h t).getD 3 0)),(10,.int .u32 ((cm W h t).getD 4 0)),(67,.int .i64 t)],[(0,O),(104,.arr 1 (ws W))],[]⟩=
 some (.x 2,⟨[(0,.ptr 0 0),(6,.int .u32 ((cm W h 80).getD 0 0)),(7,.int .u32 ((cm W h 80).getD 1 0)),(8,.int .u32 ((cm W h 80).getD 2 0)),(9,.int .u32 ((cm W h 80).getD 3 0)),(10,.int .u32 ((cm W h 80).getD 4 0))],[(0,O),(104,.arr 1 (ws W))],[]⟩):=by
 intro n;induction n with
 |zero=>
  intro t h0 h1;have hi:t=80:=by omega
  subst hi;rw[aj];simp only[c80,go_sem,Q4,Qh,Qj,Qk,reduceCtorEq,reduceIte]
 |succ n ih=>
  intro t h0 h1;have ih':=ih (t+1) (by omega) (by omega);have hs:cm W h (t+1)=HI t (W.getD t 0) (cm W h t):=rfl;rw[hs]at ih';simp only[HI,bc,bh]at ih'
  by_cases h20:t<20
  ·have hk:kk t=1518500249:=by unfold kk;rw[if_pos h20]
   unfold ff at ih';rw[if_pos h20,hk]at ih';rw[xdw W O hW t (by omega) (by omega)];rw[ih']
  ·by_cases h40:t<40
   ·have hk:kk t=1859775393:=by unfold kk;rw[if_neg h20,if_pos h40]
    unfold ff at ih';rw[if_neg h20,if_pos h40,hk]at ih';rw[xdv W O hW t (by omega) (by omega)];rw[ih']
   ·by_cases h60:t<60
    ·have hk:kk t=2400959708:=by unfold kk;rw[if_neg h20,if_neg h40,if_pos h60]
     unfold ff at ih';rw[if_neg h20,if_neg h40,if_pos h60,hk]at ih';rw[xdu W O hW t (by omega) (by omega)];rw[ih']
    ·have hk:kk t=3395469782:=by unfold kk;rw[if_neg h20,if_neg h40,if_neg h60]
     unfold ff at ih';rw[if_neg h20,if_neg h40,if_neg h60,hk]at ih';rw[xdt W O hW t (by omega) (by omega)];rw[ih']
theorem ws5(a b c d e:Int):ws [a,b,c,d,e]=[[.int .u32 a],[.int .u32 b],[.int .u32 c],[.int .u32 d],[.int .u32 e]]:=rfl
def oE(h:List Int)(B:List UInt8):List Int:=tV h (cm (Wl1 B 80) h 80)
theorem nS(h:List Int)(B:List UInt8)(hh:h.length=5):(oE h B).length=5:=by unfold oE;rw[wy _ _ (by rw[kd _ _ hh,hh];exact aM 5),hh]
theorem E4(l:List Int)(h:l.length=5):∃a b c d e,l=[a,b,c,d,e]:=by
 match l,h with
 |[a,b,c,d,e],_=>exact⟨a,b,c,d,e,rfl⟩
theorem xbF(a b c d e p q r s t:Int):tV [a,b,c,d,e] [p,q,r,s,t]=[aA.wrap (a+p),aA.wrap (b+q),aA.wrap (c+r),aA.wrap (d+s),aA.wrap (e+t)]:=rfl
theorem xog(h:List Int)(B:List UInt8)(hh:h.length=5)(hB:B.length=64):call T 114 [.ptr 0 0,.byt B .no] [.arr 1 (ws h)] 0=some ⟨.tup [],[(0,.arr 1 (ws (oE h B)))],[]⟩:=by
 have g1:=xjm B (.arr 1 (ws h)) hB _ 0 rfl (by omega);have g2:=xjl (Wl1 B 80) h (.arr 1 (ws h)) (pR B 80) hh _ 0 rfl (by omega);have hw:Wl1 B 0=aq 80 0:=by rw[Wl1]
 have hr:cm (Wl1 B 80) h 0=h:=by rw[cm]
 have hl:=kd (Wl1 B 80) h hh 80;rw[hw,<-tZ]at g1;rw[hr]at g2;simp only[aB]at g1 g2;unfold oE;generalize cm (Wl1 B 80) h 80=s at*;generalize Wl1 B 80=W at*;clear hw hr;obtain⟨a0,a1,a2,a3,a4,rfl⟩:=E4 h hh;obtain⟨s0,s1,s2,s3,s4,rfl⟩:=E4 s hl;rw[am xkg];simp only[ws5,bc,bh]at g1 g2;simp only[go_sem,Q2,Q3,Q4,Qb,Qc,Qd,Qe,Qh,Qi,Qj,Qk,reduceCtorEq,reduceIte,ws5,xbF,g1,g2,av,aQ,c5]
def eC(h:List Int)(X:List UInt8):Nat->List Int
 |0=>h
 |n+1=>eC (oE h (X.take 64)) (X.drop 64) n
theorem ki(n:Nat):∀(h:List Int)(X:List UInt8),h.length=5->(eC h X n).length=5:=by
 induction n with
 |zero=>intro h X hh;exact hh
 |succ n ih=>intro h X hh;exact ih _ _ (nS h _ hh)
def H1:List Int:=[1732584193,4023233417,2562383102,271733878,3285377520]
def iZ(B:List UInt8):List UInt8:=sp (eC H1 (eF B) ((eF B).length/64))
theorem vo(B:List UInt8):(iZ B).length=20:=by unfold iZ;rw[HB,ki _ _ _ rfl]
theorem xnp:∀(n:Nat)(h:List Int)(X:List UInt8),h.length=5->X.length=64*n->X.length<=1000000000000->
 run T (.loop PD) ⟨[(5,.ptr 105 0),(6,.byt X .no)],[(105,.arr 1 (ws h))],[]⟩=
 some (.x 1,⟨[(5,.ptr 105 0)],[(105,.arr 1 (ws (eC h X n)))],[]⟩):=by
 intro n;induction n with
 |zero=>
  intro h X hh hX hl;rw[aj];have h0:¬(0:Int)<X.length:=by omega
  simp only[go_sem,Qh,Qj,Qk,reduceIte,h0,eC]
 |succ n ih=>
  intro h X hh hX hl;have ih':=ih (oE h (X.take 64)) (X.drop 64) (nS h _ hh) (by rw[aE];omega) (by rw[aE];omega);have g:=xog h (X.take 64) hh (by rw[ay];omega);have h1:(0:Int)<X.length:=by omega
  have h2:(64:Int)<=X.length:=by omega
  have h3:64<=X.length:=by omega
  rw[aj];simp only[go_sem,Q2,Q3,Qe,Qg,Qh,Qi,Qj,Qk,reduceIte,h1,h2,g,xkE,bo,ih',eC]
theorem xnQ(B:List UInt8)(hB:B.length<=100000000000):call T 69 [.int .i64 0,.byt B .no] [] 0=some ⟨.byt (iZ B) .no,[],[]⟩:=by
 have g0:=xmk B (by omega);have hl:=kt B;have hz:zn (B.length+1)<64:=by unfold zn;omega
 have hm:=mD B;have g1:=xnp ((eF B).length/64) H1 (eF B) rfl (by omega) (by omega);have hb:=ki ((eF B).length/64) H1 (eF B) rfl;have g2:=xmj (eC H1 (eF B) ((eF B).length/64)) (by omega);have c8:((5:Nat):Int)=5:=rfl;have hw:=dD (eC H1 (eF B) ((eF B).length/64));have hH:ws H1=[[.int .u32 1732584193],[.int .u32 4023233417],[.int .u32 2562383102],[.int .u32 271733878],[.int .u32 3285377520]]:=rfl;rw[hH]at g1;rw[am xms];unfold iZ;generalize eC H1 (eF B) ((eF B).length/64)=b at*;have ht:cj 5 (ws b)=ws b:=bO (by rw[hw,hb];exact aM 5);simp only[go_sem,Q2,Q3,Q5,Qe,Qf,Qg,Qh,Qi,Qj,Qk,reduceCtorEq,reduceIte,g0,g1,g2,xbW,xbV,hw,hb,c8,ht]
theorem xjf(X:List UInt8)(a:Nat)(h:List (List SV))(ha:a+64<=X.length)(hX:X.length<=1000000000000):∀(n t:Nat),80-t=n->t<=80->
 run T (.loop sU) ⟨[(3,.lst 1 h .clip),(4,.byt X .no),(5,.int .i64 a),(6,.ptr 106 0),(7,.int .i64 t)],[(106,.arr 1 (ws (Wl1 (bk X a) t)))],[]⟩=
 some (.x 2,⟨[(3,.lst 1 h .clip),(4,.byt X .no),(5,.int .i64 a),(6,.ptr 106 0)],[(106,.arr 1 (ws (Wl1 (bk X a) 80)))],[]⟩):=by
 intro n;induction n with
 |zero=>
  intro t h0 h1;have hi:t=80:=by omega
  subst hi;rw[aj];simp only[c80,go_sem,Q4,Qh,Qj,Qk,reduceIte]
 |succ n ih=>
  intro t h0 h1;have ih':=ih (t+1) (by omega) (by omega);have e1:=bV t (by omega);have hlt:(t:Int)<80:=by omega
  have hl:=pR (bk X a) t;have hw:=dD (Wl1 (bk X a) t);have hn:t<80:=by omega
  have hs:Wl1 (bk X a) (t+1)=(Wl1 (bk X a) t).set t (nw1 (bk X a) (Wl1 (bk X a) t) t):=rfl;have a1:ai.wrap ((a:Int)+64)=((a+64:Nat):Int):=wZ (by omega)
  have a3:a<=a+64:=by omega
  rw[aj]
  by_cases h16:t<16
  ·have g:=xmf (bk X a) t (by rw[uK X a ha];omega) (by rw[uK X a ha];omega)
   have h16':(t:Int)<16:=by omega
   have hx:nw1 (bk X a) (Wl1 (bk X a) t) t=wd (bk X a) t:=by unfold nw1;rw[if_pos h16]
   rw[hs,hx]at ih';generalize hb:Wl1 (bk X a) t=L at*;generalize hc:wd (bk X a) t=z at*;unfold bk at g;simp only[go_sem,Qh,Qj,Qk,reduceIte,hlt,h16',e1,a1,ha,a3,g,hl,hw,xbT,hn,ld,ih']
  ·have h16':¬(t:Int)<16:=by omega
   have a3:ai.wrap ((t:Int)-3)=((t-3:Nat):Int):=wZ (by omega)
   have a8:ai.wrap ((t:Int)-8)=((t-8:Nat):Int):=wZ (by omega)
   have a14:ai.wrap ((t:Int)-14)=((t-14:Nat):Int):=wZ (by omega)
   have a16:ai.wrap ((t:Int)-16)=((t-16:Nat):Int):=wZ (by omega)
   have b3:t-3<80:=by omega
   have iQ:t-8<80:=by omega
   have b14:t-14<80:=by omega
   have b16:t-16<80:=by omega
   rw[hs]at ih';unfold nw1 at ih';rw[if_neg h16]at ih';generalize hb:Wl1 (bk X a) t=L at*;have d3:=cf L (t-3) (by omega);have d8:=cf L (t-8) (by omega);have d14:=cf L (t-14) (by omega);have d16:=cf L (t-16) (by omega);simp only[go_sem,Qb,Qc,Qd,Qh,Qj,Qk,reduceCtorEq,reduceIte,hlt,h16',e1,hl,hw,yi,hn,a3,a8,a14,a16,b3,iQ,b14,b16,d3,d8,d14,d16,z1,ld,ih']
theorem xds(W:List Int)(X Y:SV)(h:List (List SV))(hW:W.length=80)(t:Nat)(hn:t<80)(q0:t<20)(a b c d e:Int):
 run T (.loop fR) ⟨[(3,.lst 1 h .clip),(4,X),(5,Y),(6,.ptr 106 0),(8,.int .u32 a),(9,.int .u32 b),(10,.int .u32 c),(11,.int .u32 d),(12,.int .u32 e),(13,.int .i64 t)],[(106,.arr 1 (ws W))],[]⟩=
 run T (.loop fR) ⟨[(3,.lst 1 h .clip),(4,X),(5,Y),(6,.ptr 106 0),(8,.int .u32 (aA.wrap (aA.wrap (aA.wrap (aA.wrap (rr a 27+bC .xor .u32 (bC .and .u32 b c) (bC .and .u32 (bC .xor .u32 (if aA.signed=true then-1 else aA.max) b) d))+e)+1518500249)+W.getD t 0))),(9,.int .u32 a),(10,.int .u32 (rr b 2)),(11,.int .u32 c),(12,.int .u32 d),(13,.int .i64 ((t+1:Nat):Int))],[(106,.arr 1 (ws W))],[]⟩:=by
 have e1:=bV t (by omega);have hlt:(t:Int)<80:=by omega
 have hw2:=dD W;have dW:=cf W t (by omega);have p0:(t:Int)<20:=by omega
 rw[aj];simp only[go_sem,Q7,Qb,Qc,Qd,Qh,Qj,Qk,reduceCtorEq,reduceIte,hlt,e1,hw2,hW,yi,hn,p0,dW,z5,z30]
theorem xdr(W:List Int)(X Y:SV)(h:List (List SV))(hW:W.length=80)(t:Nat)(hn:t<80)(q0:¬t<20)(q1:t<40)(a b c d e:Int):
 run T (.loop fR) ⟨[(3,.lst 1 h .clip),(4,X),(5,Y),(6,.ptr 106 0),(8,.int .u32 a),(9,.int .u32 b),(10,.int .u32 c),(11,.int .u32 d),(12,.int .u32 e),(13,.int .i64 t)],[(106,.arr 1 (ws W))],[]⟩=
 run T (.loop fR) ⟨[(3,.lst 1 h .clip),(4,X),(5,Y),(6,.ptr 106 0),(8,.int .u32 (aA.wrap (aA.wrap (aA.wrap (aA.wrap (rr a 27+bC .xor .u32 (bC .xor .u32 b c) d)+e)+1859775393)+W.getD t 0))),(9,.int .u32 a),(10,.int .u32 (rr b 2)),(11,.int .u32 c),(12,.int .u32 d),(13,.int .i64 ((t+1:Nat):Int))],[(106,.arr 1 (ws W))],[]⟩:=by
 have e1:=bV t (by omega);have hlt:(t:Int)<80:=by omega
 have hw2:=dD W;have dW:=cf W t (by omega);have p0:¬(t:Int)<20:=by omega
 have p1:(t:Int)<40:=by omega
 rw[aj];simp only[go_sem,Q7,Qb,Qc,Qd,Qh,Qj,Qk,reduceCtorEq,reduceIte,hlt,e1,hw2,hW,yi,hn,p0,p1,dW,z5,z30]
theorem xdq(W:List Int)(X Y:SV)(h:List (List SV))(hW:W.length=80)(t:Nat)(hn:t<80)(q0:¬t<20)(q1:¬t<40)(q2:t<60)(a b c d e:Int):
 run T (.loop fR) ⟨[(3,.lst 1 h .clip),(4,X),(5,Y),(6,.ptr 106 0),(8,.int .u32 a),(9,.int .u32 b),(10,.int .u32 c),(11,.int .u32 d),(12,.int .u32 e),(13,.int .i64 t)],[(106,.arr 1 (ws W))],[]⟩=
 run T (.loop fR) ⟨[(3,.lst 1 h .clip),(4,X),(5,Y),(6,.ptr 106 0),(8,.int .u32 (aA.wrap (aA.wrap (aA.wrap (aA.wrap (rr a 27+bC .xor .u32 (bC .xor .u32 (bC .and .u32 b c) (bC .and .u32 b d)) (bC .and .u32 c d))+e)+2400959708)+W.getD t 0))),(9,.int .u32 a),(10,.int .u32 (rr b 2)),(11,.int .u32 c),(12,.int .u32 d),(13,.int .i64 ((t+1:Nat):Int))],[(106,.arr 1 (ws W))],[]⟩:=by
 have e1:=bV t (by omega);have hlt:(t:Int)<80:=by omega
 have hw2:=dD W;have dW:=cf W t (by omega);have p0:¬(t:Int)<20:=by omega
 have p1:¬(t:Int)<40:=by omega
 have p2:(t:Int)<60:=by omega
 rw[aj];simp only[go_sem,Q7,Qb,Qc,Qd,Qh,Qj,Qk,reduceCtorEq,reduceIte,hlt,e1,hw2,hW,yi,hn,p0,p1,p2,dW,z5,z30]
theorem xdp(W:List Int)(X Y:SV)(h:List (List SV))(hW:W.length=80)(t:Nat)(hn:t<80)(q0:¬t<20)(q1:¬t<40)(q2:¬t<60)(a b c d e:Int):
 run T (.loop fR) ⟨[(3,.lst 1 h .clip),(4,X),(5,Y),(6,.ptr 106 0),(8,.int .u32 a),(9,.int .u32 b),(10,.int .u32 c),(11,.int .u32 d),(12,.int .u32 e),(13,.int .i64 t)],[(106,.arr 1 (ws W))],[]⟩=
 run T (.loop fR) ⟨[(3,.lst 1 h .clip),(4,X),(5,Y),(6,.ptr 106 0),(8,.int .u32 (aA.wrap (aA.wrap (aA.wrap (aA.wrap (rr a 27+bC .xor .u32 (bC .xor .u32 b c) d)+e)+3395469782)+W.getD t 0))),(9,.int .u32 a),(10,.int .u32 (rr b 2)),(11,.int .u32 c),(12,.int .u32 d),(13,.int .i64 ((t+1:Nat):Int))],[(106,.arr 1 (ws W))],[]⟩:=by
 have e1:=bV t (by omega);have hlt:(t:Int)<80:=by omega
 have hw2:=dD W;have dW:=cf W t (by omega);have p0:¬(t:Int)<20:=by omega
 have p1:¬(t:Int)<40:=by omega
 have p2:¬(t:Int)<60:=by omega
 rw[aj];simp only[go_sem,Q7,Qb,Qc,Qd,Qh,Qj,Qk,reduceCtorEq,reduceIte,hlt,e1,hw2,hW,yi,hn,p0,p1,p2,dW,z5,z30]
theorem xje(W k:List Int)(X Y:SV)(h:List (List SV))(hW:W.length=80):∀(n t:Nat),80-t=n->t<=80->
 run T (.loop fR) ⟨[(3,.lst 1 h .clip),(4,X),(5,Y),(6,.ptr 106 0),(8,.int .u32 ((cm W k t).getD 0 0)),(9,.int .u32 ((cm W k t).getD 1 0)),(10,.int .u32 ((cm W k t).getD 2 0)),(11,.int .u32 ((cm W k t).getD 3 0)),(12,.int .u32 ((cm W k t).getD 4 0)),(13,.int .i64 t)],[(106,.arr 1 (ws W))],[]⟩=some (.x 4,⟨[(3,.lst 1 h .clip),(4,X),(5,Y),(8,.int .u32 ((cm W k 80).getD 0 0)),(9,.int .u32 ((cm W k 80).getD 1 0)),(10,.int .u32 ((cm W k 80).getD 2 0)),(11,.int .u32 ((cm W k 80).getD 3 0)),(12,.int .u32 ((cm W k 80).getD 4 0))],[(106,.arr 1 (ws W))],[]⟩):=by
 intro n;induction n with
 |zero=>
  intro t h0 h1;have hi:t=80:=by omega
  subst hi;rw[aj];simp only[c80,go_sem,Q4,Qh,Qj,Qk,reduceIte]
 |succ n ih=>
  intro t h0 h1;have ih':=ih (t+1) (by omega) (by omega);have hs:cm W k (t+1)=HI t (W.getD t 0) (cm W k t):=rfl;rw[hs]at ih';simp only[HI,bc,bh]at ih'
  by_cases h20:t<20
  ·have hk:kk t=1518500249:=by unfold kk;rw[if_pos h20]
   unfold ff at ih';rw[if_pos h20,hk]at ih';rw[xds W X Y h hW t (by omega) h20,ih']
  ·by_cases h40:t<40
   ·have hk:kk t=1859775393:=by unfold kk;rw[if_neg h20,if_pos h40]
    unfold ff at ih';rw[if_neg h20,if_pos h40,hk]at ih';rw[xdr W X Y h hW t (by omega) h20 h40,ih']
   ·by_cases h60:t<60
    ·have hk:kk t=2400959708:=by unfold kk;rw[if_neg h20,if_neg h40,if_pos h60]
     unfold ff at ih';rw[if_neg h20,if_neg h40,if_pos h60,hk]at ih';rw[xdq W X Y h hW t (by omega) h20 h40 h60,ih']
    ·have hk:kk t=3395469782:=by unfold kk;rw[if_neg h20,if_neg h40,if_neg h60]
     unfold ff at ih';rw[if_neg h20,if_neg h40,if_neg h60,hk]at ih';rw[xdp W X Y h hW t (by omega) h20 h40 h60,ih']
theorem xnF(X:List UInt8)(hX:X.length<=1000000000000):∀(n a:Nat)(h:List Int),h.length=5->X.length=a+64*n->
 run T (.loop sT) ⟨[(3,.lst 1 (ws h) .clip),(4,.byt X .no),(5,.int .i64 a)],[],[]⟩=
 some (.x 0,⟨[(3,.lst 1 (ws (eC h (X.drop a) n)) .clip)],[],[]⟩):=by
 intro n;induction n with
 |zero=>
  intro a h hh hl;rw[aj];have h0:¬(a:Int)<X.length:=by omega
  simp only[go_sem,Qh,Qj,Qk,reduceIte,h0,eC]
 |succ n ih=>
  intro a h hh hl;have ih':=ih (a+64) (oE h (bk X a)) (nS h _ hh) (by omega);have h0:(a:Int)<X.length:=by omega
  have ae:ai.wrap ((a:Int)+64)=((a+64:Nat):Int):=wZ (by omega)
  have g1:=xjf X a (ws h) (by omega) hX _ 0 rfl (by omega);have g2:=xje (Wl1 (bk X a) 80) h (.byt X .no) (.int .i64 a) (ws h) (pR _ 80) _ 0 rfl (by omega);have hw:Wl1 (bk X a) 0=aq 80 0:=by rw[Wl1]
  have hr:cm (Wl1 (bk X a) 80) h 0=h:=by rw[cm]
  have hrl:=kd (Wl1 (bk X a) 80) h hh 80;rw[hw,<-tZ]at g1;rw[hr]at g2;simp only[aB]at g1 g2
  have hbl:eC h (X.drop a) (n+1)=eC (oE h (bk X a)) (X.drop (a+64)) n:=by rw[eC,xbC,eO]
  rw[hbl,aj];unfold oE at ih' ⊢;generalize cm (Wl1 (bk X a) 80) h 80=s at*;generalize Wl1 (bk X a) 80=W at*;obtain⟨a0,a1,a2,a3,a4,rfl⟩:=E4 h hh;obtain⟨s0,s1,s2,s3,s4,rfl⟩:=E4 s hrl;simp only[ws5,bc,bh,xbF]at g1 g2 ih' ⊢;simp only[go_sem,Q2,Q3,Q4,Qb,Qc,Qd,Qe,Qh,Qj,Qk,reduceCtorEq,reduceIte,h0,ae,g1,g2,av,aQ,c5,ih']
theorem xn8(B:List UInt8)(hB:B.length<=100000000000):call T 136 [.byt B .no] [] 0=some ⟨.byt (iZ B) .no,[],[]⟩:=by
 have g0:=xmg B (by omega);have hl:=kt B;have hz:zn (B.length+1)<64:=by unfold zn;omega
 have hm:=mD B;have g3:=xnF (eF B) (by omega) ((eF B).length/64) 0 H1 rfl (by omega);have hb:=ki ((eF B).length/64) H1 (eF B) rfl;have g2:=xme (eC H1 (eF B) ((eF B).length/64)) (by omega);have hH:ws H1=[[.int .u32 1732584193],[.int .u32 4023233417],[.int .u32 2562383102],[.int .u32 271733878],[.int .u32 3285377520]]:=rfl;rw[hH]at g3;simp only[aB,aR]at g3;unfold iZ;generalize eC H1 (eF B) ((eF B).length/64)=b at*;rw[am xjX];simp only[go_sem,Qh,Qi,Qj,Qk,reduceCtorEq,reduceIte,g0,xbU,g2,g3,xbR]
theorem xgs(B:List UInt8)(hB:B.length<=100000000000):call T 99 [.int .i64 0,.byt B .no] [] 0=some ⟨.byt (iZ B) .no,[],[]⟩:=by have g:=xn8 B hB;rw[am xmr];simp only[go_sem,Q5,Qe,Qh,Qi,Qj,Qk,reduceCtorEq,reduceIte,g,xkv]
theorem xgr(B:List UInt8)(hB:B.length<=100000000000):call T 99 [.int .i64 1,.byt B .no] [] 0=some ⟨.byt (sha B) .no,[],[]⟩:=by have g:=f80 B hB;rw[am xmr];simp only[go_sem,Q5,Qe,Qh,Qi,Qj,Qk,reduceCtorEq,reduceIte,g,Pb]
attribute [go_sem] cB
structure Ev where
 reg:Int
 kind:Int
 dg:List (List UInt8)
 data:List UInt8
def bls(l:List (List UInt8)):List (List SV):=l.map fun d=> [.byt d .no]
def Ev.sv(e:Ev):List SV:=[.int .i64 e.reg,.int .i64 e.kind,.lst 1 (bls e.dg) .no,.byt e.data .no]
def bD(l:List Ev):List (List SV):=l.map Ev.sv
theorem bZ(l:List Ev):(bD l).length=l.length:=aX ..
theorem mN(l:List Ev)(i:Nat)(h:i<l.length):(bD l).getD i []=(l.getD i ⟨0,0,[],[]⟩).sv:=by simp[bD,aa,h]
def phP(e:Ev):Int:=
 if e.kind=1/\e.reg=0 then 1 else if e.kind=1/\e.reg=4 then 2 else if e.kind=2/\0<=e.reg/\e.reg<8 then 3 else if e.kind=1/\e.reg=8 then 4 else if e.kind=3/\e.reg=9 then 5 else 0
def phR(e:Ev):Int:=
 if e.kind=5 then 0 else if e.kind=1/\e.reg=0 then 1 else if e.kind=1/\e.reg=4 then 2 else if e.kind=2/\e.reg<=7 then 3 else if e.kind=1/\e.reg=8 then 4 else if e.kind=3/\e.reg=9 then 5 else-1
theorem f88(e:Ev):call T 88 [.agg e.sv] [] 0=some ⟨.int .i64 (phP e),[],[]⟩:=by
 obtain⟨g,k,d,b⟩:=e;rw[am xoN];unfold phP Ev.sv
 by_cases h1:k=1
 ·subst h1
  by_cases h2:g=0
  ·subst h2;simp only[go_sem,Q3,Q4,Q5,Qe,Qh,Qi,Qj,Qk,reduceCtorEq,reduceIte]
  ·by_cases h3:g=4
   ·subst h3;simp only[go_sem,Q3,Q4,Q5,Qe,Qh,Qi,Qj,Qk,reduceCtorEq,reduceIte]
   ·by_cases h4:g=8
    ·subst h4;simp only[go_sem,Q3,Q4,Q5,Qe,Qh,Qi,Qj,Qk,reduceCtorEq,reduceIte]
    ·simp only[go_sem,Q5,Qe,Qh,Qi,Qj,Qk,reduceCtorEq,reduceIte,h2,h3,h4]
 ·by_cases h5:k=2
  ·subst h5
   by_cases h2:0<=g
   ·by_cases h3:g<8
    ·simp only[go_sem,Q5,Qe,Qh,Qi,Qj,Qk,reduceCtorEq,reduceIte,h2,h3]
    ·simp only[go_sem,Q5,Qe,Qh,Qi,Qj,Qk,reduceCtorEq,reduceIte,h2,h3]
   ·simp only[go_sem,Q5,Qe,Qh,Qi,Qj,Qk,reduceCtorEq,reduceIte,h2]
  ·by_cases h6:k=3
   ·subst h6
    by_cases h4:g=9
    ·subst h4;simp only[go_sem,Q3,Q4,Q5,Qe,Qh,Qi,Qj,Qk,reduceCtorEq,reduceIte]
    ·simp only[go_sem,Q5,Qe,Qh,Qi,Qj,Qk,reduceCtorEq,reduceIte,h4]
   ·simp only[go_sem,Qe,Qh,Qi,Qj,Qk,reduceCtorEq,reduceIte,h1,h5,h6]
theorem f42(e:Ev):call T 42 [.agg e.sv] [] 0=some ⟨.int .i64 (phR e),[],[]⟩:=by
 obtain⟨g,k,d,b⟩:=e;rw[am xpm];unfold phR Ev.sv
 by_cases h0:k=5
 ·subst h0;simp only[go_sem,Q5,Q7,Qe,Qh,Qi,Qj,Qk,reduceCtorEq,reduceIte]
 by_cases h1:k=1
 ·subst h1
  by_cases h2:g=0
  ·subst h2;simp only[go_sem,Q3,Q5,Q7,Qe,Qh,Qi,Qj,Qk,reduceCtorEq,reduceIte]
  ·by_cases h3:g=4
   ·subst h3;simp only[go_sem,Q3,Q5,Q7,Qe,Qh,Qi,Qj,Qk,reduceCtorEq,reduceIte]
   ·by_cases h4:g=8
    ·subst h4;simp only[go_sem,Q3,Q5,Q7,Qe,Qh,Qi,Qj,Qk,reduceCtorEq,reduceIte]
    ·simp only[go_sem,Q5,Q7,Qe,Qh,Qi,Qj,Qk,reduceCtorEq,reduceIte,h2,h3,h4]
 ·by_cases h5:k=2
  ·subst h5
   by_cases h3:g<=7
   ·simp only[go_sem,Q5,Q7,Qe,Qh,Qi,Qj,Qk,reduceCtorEq,reduceIte,h3]
   ·simp only[go_sem,Q5,Q7,Qe,Qh,Qi,Qj,Qk,reduceCtorEq,reduceIte,h3]
  ·by_cases h6:k=3
   ·subst h6
    by_cases h4:g=9
    ·subst h4;simp only[go_sem,Q3,Q5,Q7,Qe,Qh,Qi,Qj,Qk,reduceCtorEq,reduceIte]
    ·simp only[go_sem,Q5,Q7,Qe,Qh,Qi,Qj,Qk,reduceCtorEq,reduceIte,h4]
   ·simp only[go_sem,Q7,Qe,Qh,Qi,Qj,Qk,reduceCtorEq,reduceIte,h0,h1,h5,h6]
structure Wk where
 ph:Int
 nx:Int
 s0:Bool
 s1:Bool
 s2:Bool
 s3:Bool
 s4:Bool
 s5:Bool
def Wk.sv(w:Wk):List SV:=[.int .i64 w.ph,.int .i64 w.nx,.bool w.s0,.bool w.s1,.bool w.s2,.bool w.s3,.bool w.s4,.bool w.s5]
def w0:Wk:=⟨0,0,false,false,false,false,false,false⟩
def okW(w:Wk)(e:Ev):Bool:=
 if e.kind=5 then true else if phP e=0 then false else if phP e<w.ph then false else if 1<phP e/\w.s1=false then false
 else if phP e=3/\e.reg≠w.nx then false else if 3<phP e/\w.nx≠8 then false else true
def stW(w:Wk)(e:Ev):Wk:=
 if okW w e=false\/e.kind=5 then w else
 {ph:=phP e,nx:=if phP e=3 then ai.wrap (w.nx+1)else w.nx,s0:=w.s0,s1:=w.s1||decide (phP e=1),s2:=w.s2||decide (phP e=2),s3:=w.s3||decide (phP e=3),s4:=w.s4||decide (phP e=4),s5:=w.s5||decide (phP e=5)}
theorem OM(e:Ev):phP e=0\/phP e=1\/phP e=2\/phP e=3\/phP e=4\/phP e=5:=by
 unfold phP;repeat' split
 all_goals simp
theorem f39(w:Wk)(e:Ev):call T 39 [.ptr 0 0,.agg e.sv] [.rc w.sv] 0=some ⟨.bool (okW w e),[(0,.rc (stW w e).sv)],[]⟩:=by
 have g:=f88 e;have hp:=OM e;have e5:phP e=5->e.kind≠5:=by unfold phP;repeat' split<;>simp_all
 obtain⟨ph,nx,s0,s1,s2,s3,s4,s5⟩:=w;rw[am xpp];unfold stW okW;generalize phP e=p at*;obtain⟨r,k,d,b⟩:=e;simp only[Ev.sv,Wk.sv]at*
 by_cases hk:k=5
 ·subst hk;simp only[go_sem,Qe,Qh,Qi,Qj,Qk,reduceCtorEq,reduceIte]
 ·rcases hp with rfl|rfl|rfl|rfl|rfl|rfl
  ·simp only[go_sem,Q4,Q5,Qe,Qh,Qi,Qj,Qk,reduceCtorEq,reduceIte,hk,g,nu]
  ·by_cases h1:(1:Int)<ph
   ·simp only[go_sem,Q4,Q5,Qe,Qh,Qi,Qj,Qk,reduceCtorEq,reduceIte,hk,g,nu,h1]
   ·cases s1<;>simp only[go_sem,Q2,Q3,Q4,Q5,Qb,Qc,Qd,Qe,Qg,Qh,Qi,Qj,Qk,reduceCtorEq,reduceIte,hk,g,nu,h1]
  ·by_cases h1:(2:Int)<ph
   ·simp only[go_sem,Q4,Q5,Qe,Qh,Qi,Qj,Qk,reduceCtorEq,reduceIte,hk,g,nu,h1]
   ·cases s1<;>simp only[go_sem,Q2,Q3,Q4,Q5,Qb,Qc,Qd,Qe,Qg,Qh,Qi,Qj,Qk,reduceCtorEq,reduceIte,hk,g,nu,h1]
  ·by_cases h1:(3:Int)<ph
   ·simp only[go_sem,Q4,Q5,Qe,Qh,Qi,Qj,Qk,reduceCtorEq,reduceIte,hk,g,nu,h1]
   ·cases s1
    ·simp only[go_sem,Q2,Q3,Q4,Q5,Qe,Qg,Qh,Qi,Qj,Qk,reduceCtorEq,reduceIte,hk,g,nu,h1]
    ·by_cases h2:r=nx
     ·subst h2;simp only[go_sem,Q2,Q3,Q4,Q5,Qb,Qc,Qd,Qe,Qg,Qh,Qi,Qj,Qk,reduceCtorEq,reduceIte,hk,g,nu,h1]
     ·simp only[go_sem,Q2,Q3,Q4,Q5,Qe,Qg,Qh,Qi,Qj,Qk,reduceCtorEq,reduceIte,hk,g,nu,h1,h2]
  ·by_cases h1:(4:Int)<ph
   ·simp only[go_sem,Q4,Q5,Qe,Qh,Qi,Qj,Qk,reduceCtorEq,reduceIte,hk,g,nu,h1]
   ·cases s1
    ·simp only[go_sem,Q2,Q3,Q4,Q5,Qe,Qg,Qh,Qi,Qj,Qk,reduceCtorEq,reduceIte,hk,g,nu,h1]
    ·by_cases h2:nx=8
     ·subst h2;simp only[go_sem,Q2,Q3,Q4,Q5,Q8,Qb,Qc,Qd,Qe,Qg,Qh,Qi,Qj,Qk,reduceCtorEq,reduceIte,hk,g,nu,h1]
     ·simp only[go_sem,Q2,Q3,Q4,Q5,Qe,Qg,Qh,Qi,Qj,Qk,reduceCtorEq,reduceIte,hk,g,nu,h1,h2]
  ·by_cases h1:(5:Int)<ph
   ·simp only[go_sem,Q4,Q5,Qe,Qh,Qi,Qj,Qk,reduceCtorEq,reduceIte,hk,g,nu,h1]
   ·cases s1
    ·simp only[go_sem,Q2,Q3,Q4,Q5,Qe,Qg,Qh,Qi,Qj,Qk,reduceCtorEq,reduceIte,hk,g,nu,h1]
    ·by_cases h2:nx=8
     ·subst h2;simp only[go_sem,Q2,Q3,Q4,Q5,Q8,Qb,Qc,Qd,Qe,Qg,Qh,Qi,Qj,Qk,reduceCtorEq,reduceIte,hk,g,nu,h1]
     ·simp only[go_sem,Q2,Q3,Q4,Q5,Qe,Qg,Qh,Qi,Qj,Qk,reduceCtorEq,reduceIte,hk,g,nu,h1,h2]
end Go.Proofs.YtdafipacemgcoaaGreatDoor
