/- What the functions come to. No condition. -/
import Derived.Test.YtkcjdeofknkndaaGreatDoorTaIt
open Bool renaming and_eq_true -> az, eq_iff_iff -> dI, false_and -> Fb, false_or -> dD, or_eq_true -> eY, true_or -> im
open Int renaming natCast_zero -> av
open Go.IntKind renaming i64 -> ac
open List renaming all_cons -> gx, cons -> iv, cons_append -> aJ, drop_drop -> dY, drop_eq_getElem_cons -> aS, drop_eq_nil_of_le -> bo, drop_length -> aX, drop_zero -> bh, ext_getElem -> sJ, getD_cons_zero -> bL, getD_eq_getElem?_getD -> aa, getElem?_drop -> bE, getElem?_eq_getElem -> ab, getElem?_map -> aT, getElem?_range -> cI, length -> qV, length_append -> af, length_cons -> aC, length_drop -> aH, length_eq_zero_iff -> bi, length_nil -> aB, length_singleton -> aM, length_take -> aj, mem_range -> gX, nil_append -> aF, range -> cj, replicate -> am, singleton_append -> cX, take_append_drop -> ki, take_length -> bv, take_nil -> b9, take_of_length_le -> ay, take_succ_cons -> mz
open Nat renaming le_refl -> aQ, min_eq_left -> dS, zero_le -> bU
open UInt8 renaming lt_iff_toNat_lt -> ey, ofInt -> bO, toNat_inj -> sB
set_option maxRecDepth 100000
set_option maxHeartbeats 16000000
set_option linter.unusedSimpArgs false
set_option linter.unusedVariables false
namespace Go.Proofs.YtkcjdeofknkndaaGreatDoor
open Go.Sy
open UInt8 renaming reduceLT -> Q0, reduceLE -> Q1
open Int renaming reduceToNat -> Q2, reduceLE -> Q3, reduceLT -> Q4, reduceEq -> Q5, reduceNe -> Q6, reduceNeg -> Q7, reduceAdd -> Q8, reduceSub -> Q9, reduceMul -> Qa
open Nat renaming reducePow -> Qb, reduceDiv -> Qc, reduceMod -> Qd, reduceAdd -> Qe, reduceSub -> Qf, reduceMul -> Qg, reduceLT -> Qh, reduceLeDiff -> Qi, reduceEqDiff -> Qj, reduceBEq -> Qk
def ft(c:UInt8):List UInt8->List UInt8
 |[]=> []
 |x::r=>if x=c then ft c r else x::r
theorem xkM(c:UInt8):∀s:List UInt8,run T (.loop yK) ⟨[(0,.str s),(1,.u8 c)],[],[]⟩=some (.x 0,⟨[(0,.str (ft c s))],[],[]⟩)
 |[]=>by rw[ai];simp only[go_sem,Q0,Q1,Q2,Q3,Q4,Q5,Q6,Q7,Q8,Q9,Qa,Qb,Qc,Qd,Qe,Qf,Qg,Qh,Qi,Qj,Qk,reduceCtorEq,reduceIte,ft,av]
 |x::r=>by
  rw[ai];have h:=xkM c r;have e1:(0:Int)<((r.length+1:Nat):Int):=by omega
  have e2:(1:Int)<=((r.length+1:Nat):Int):=by omega
  by_cases hc:x=c
  ·simp only[go_sem,Q0,Q1,Q2,Q3,Q4,Q5,Q6,Q7,Q8,Q9,Qa,Qb,Qc,Qd,Qe,Qf,Qg,Qh,Qi,Qj,Qk,reduceCtorEq,reduceIte,ft,hc,h,aC,bL,e1,e2,List.drop_succ_cons,bh,bv]
  ·simp only[go_sem,Q0,Q1,Q2,Q3,Q4,Q5,Q6,Q7,Q8,Q9,Qa,Qb,Qc,Qd,Qe,Qf,Qg,Qh,Qi,Qj,Qk,reduceCtorEq,reduceIte,ft,hc,h,aC,bL,e1]
theorem xmH(c:UInt8)(s:List UInt8):call T 146 [.str s,.u8 c] [] 0=some ⟨.str (ft c s),[],[]⟩:=by rw[ao xiL];simp only[go_sem,Q0,Q1,Q2,Q3,Q4,Q5,Q6,Q7,Q8,Q9,Qa,Qb,Qc,Qd,Qe,Qf,Qg,Qh,Qi,Qj,Qk,reduceCtorEq,reduceIte,xkM]
def lF(c:UInt8)(s:List UInt8):List UInt8:=(ft c s.reverse).reverse
theorem si(c:UInt8):lF c []=[]:=rfl
theorem Es(c x:UInt8)(s:List UInt8):lF c (s++ [x])=if x=c then lF c s else s++ [x]:=by
 unfold lF;rw[List.reverse_append,List.reverse_singleton,cX,ft];split
 ·rfl
 ·simp
theorem xmi(c:UInt8):∀(n:Nat)(s:List UInt8),s.length=n->n<9223372036854775807->run T (.loop yJ) ⟨[(0,.str s),(1,.u8 c)],[],[]⟩=some (.x 0,⟨[(0,.str (lF c s))],[],[]⟩):=by
 intro n;induction n with
 |zero=>
  intro s hs _;cases s with
  |cons _ _=>simp at hs
  |nil=>rw[ai];simp only[go_sem,Q0,Q1,Q2,Q3,Q4,Q5,Q6,Q7,Q8,Q9,Qa,Qb,Qc,Qd,Qe,Qf,Qg,Qh,Qi,Qj,Qk,reduceCtorEq,reduceIte,si,aB,av]
 |succ n ih=>
  intro s hs hn;obtain⟨t,x,rfl⟩:∃t x,s=t++ [x]:=⟨s.dropLast,s.getLast (by intro e;subst e;simp at hs),(List.dropLast_concat_getLast _).symm⟩;have ht:t.length=n:=by simpa using hs
  have h:=ih t ht (by omega);rw[ai];generalize hu:t++ [x]=u;have e0:(0:Int)<((u.length:Nat):Int):=by subst hu;simp
  have hul:u.length=t.length+1:=by subst hu;simp
  have e1:ac.wrap ((u.length:Int)-1)=((t.length:Nat):Int):=wZ (by omega)
  have e2:u.getD t.length 0=x:=by subst hu;simp[aa]
  have e3:u.take t.length=t:=by subst hu;simp
  have e6:t.length<u.length:=by subst hu;simp
  have e7:t.length<=u.length:=by omega
  have e8:lF c u=if x=c then lF c t else u:=by subst hu;exact Es c x t
  by_cases hc:x=c
  ·simp only[go_sem,Q0,Q1,Q2,Q3,Q4,Q5,Q6,Q7,Q8,Q9,Qa,Qb,Qc,Qd,Qe,Qf,Qg,Qh,Qi,Qj,Qk,reduceCtorEq,reduceIte,hc,h,e0,e1,e2,e3,e6,e7,e8]
  ·simp only[go_sem,Q0,Q1,Q2,Q3,Q4,Q5,Q6,Q7,Q8,Q9,Qa,Qb,Qc,Qd,Qe,Qf,Qg,Qh,Qi,Qj,Qk,reduceCtorEq,reduceIte,hc,h,e0,e1,e2,e3,e6,e7,e8]
theorem xmG(c:UInt8)(s:List UInt8)(hs:s.length<9223372036854775807):call T 147 [.str s,.u8 c] [] 0=some ⟨.str (lF c s),[],[]⟩:=by rw[ao xiK];simp only[go_sem,Q0,Q1,Q2,Q3,Q4,Q5,Q6,Q7,Q8,Q9,Qa,Qb,Qc,Qd,Qe,Qf,Qg,Qh,Qi,Qj,Qk,reduceCtorEq,reduceIte,xmi c _ s rfl hs]
theorem xmQ(s:List UInt8)(hs:s.length<9223372036854775807):call T 127 [.str s,.str [42]] [] 0=some ⟨.str (ft 42 (lF 42 s)),[],[]⟩:=by
 rw[ao xi0]
 by_cases h:s=[]
 ·subst h
  simp only[go_sem,Q0,Q1,Q2,Q3,Q4,Q5,Q6,Q7,Q8,Q9,Qa,Qb,Qc,Qd,Qe,Qf,Qg,Qh,Qi,Qj,Qk,reduceCtorEq,reduceIte,si,ft]
 ·simp only[go_sem,Q0,Q1,Q2,Q3,Q4,Q5,Q6,Q7,Q8,Q9,Qa,Qb,Qc,Qd,Qe,Qf,Qg,Qh,Qi,Qj,Qk,reduceCtorEq,reduceIte,h,xmG 42 s hs,xmH,c1,xjq,xjp]
end Go.Proofs.YtkcjdeofknkndaaGreatDoor
namespace Go.Glob
def tl(f:List UInt8->Bool):List UInt8->Bool
 |[]=>f []
 |x::r=>f (x::r)||tl f r
def gl:List UInt8->List UInt8->Bool
 |[],l=>l.isEmpty
 |c::p,l=>if c=42 then tl (gl p) l else match l with
  |[]=>false
  |x::r=>(decide (c=63)||decide (c=x))&&gl p r
theorem lS(f:List UInt8->Bool):∀l:List UInt8,tl f l=true↔∃k,k<=l.length/\f (l.drop k)=true
 |[]=>by simp only[tl,aB,List.drop_nil];exact⟨fun h=>⟨0,aQ _,h⟩,fun⟨_,_,h⟩=>h⟩
 |x::r=>by
  simp only[tl,eY,lS f r];constructor
  ·rintro(h|⟨k,hk,h⟩)
   ·exact⟨0,bU _,h⟩
   ·exact⟨k+1,by simpa using hk,h⟩
  ·rintro⟨k,hk,h⟩
   cases k with
   |zero=>exact .inl h
   |succ k=>exact .inr ⟨k,by simpa using hk,h⟩
theorem jz(p l:List UInt8):gl (42::p) l=tl (gl p) l:=by simp[gl]
theorem y9(l:List UInt8):gl [] l=l.isEmpty:=rfl
theorem oh(c:UInt8)(p:List UInt8)(h:c≠42):gl (c::p) []=false:=by simp[gl,h]
theorem jA(c:UInt8)(p:List UInt8)(x:UInt8)(l:List UInt8)(h:c≠42):gl (c::p) (x::l)=((decide (c=63)||decide (c=x))&&gl p l):=by simp[gl,h]
def jf(p:List UInt8):Bool:=p.all fun c=>decide (c=42)
theorem pY:∀p:List UInt8,gl p []=jf p
 |[]=>rfl
 |c::p=>by
  by_cases h:c=42
  ·subst h
   rw[jz,tl,pY p];simp[jf]
  ·rw[oh _ _ h];simp[jf,h]
def free(s:List UInt8):Bool:=s.all fun c=>decide (c≠42)
def C5:List UInt8->List UInt8->Bool
 |[],_=>true
 |_::_,[]=>false
 |c::s,x::m=>(decide (c=63)||decide (c=x))&&C5 s m
theorem Pi:∀(s q m:List UInt8),free s=true->gl (s++q) m=(C5 s m&&gl q (m.drop s.length))
 |[],q,m,_=>by simp[C5]
 |c::s,q,[],h=>by simp only[free,gx,az,decide_eq_true_eq]at h;simp[C5,gl,h.1]
 |c::s,q,x::m,h=>by simp only[free,gx,az,decide_eq_true_eq]at h;rw[aJ,jA _ _ _ _ h.1,Pi s q m (by simpa[free]using h.2)];simp[C5,Bool.and_assoc]
theorem vV:∀{s m:List UInt8},C5 s m=true->s.length<=m.length
 |[],_,_=>bU _
 |_::_,[],h=>by cases h
 |c::s,x::m,h=>by simp only[C5,az]at h;have:=vV h.2;simp;omega
theorem Rl{f:List UInt8->Bool}{m:List UInt8}{i j:Nat}(h:i<=j)(ht:tl f (m.drop j)=true):tl f (m.drop i)=true:=by
 rw[lS]at ht ⊢;obtain⟨k,hk,h1⟩:=ht;rw[aH]at hk;rw[dY]at h1
 by_cases hj:j<=m.length
 ·refine⟨j-i+k,by rw[aH];omega, ?_⟩
  rw[dY,show i+(j-i+k)=j+k by omega];exact h1
 ·refine⟨m.length-i,by rw[aH];omega, ?_⟩
  rw[dY];rw[bo (by omega)]at h1 ⊢;exact h1
structure Inv(P L:List UInt8)(K r p l:Nat)(B:Bool):Prop where
 kp:K<=p
 pP:p<=P.length
 rl:r<=l
 lL:l<=L.length
 b0:K=0->B=gl (P.drop p) (L.drop l)
 b1:0<K->B=(gl (P.drop p) (L.drop l)||tl (gl (P.drop K)) (L.drop (r+1)))
 pl:0<K->p-K=l-r
 fr:0<K->free ((P.drop K).take (p-K))=true
theorem nW(l:List UInt8)(i:Nat)(h:i<l.length):l.drop i=l.getD i 0::l.drop (i+1):=by rw[aS h,aa,ab h];rfl
variable {P L : List UInt8} {K r p l : Nat} {B : Bool}
theorem Inv.split(h:Inv P L K r p l B):P.drop K=(P.drop K).take (p-K)++P.drop p:=by have:=ki (p-K) (P.drop K);rw[dY,show K+(p-K)=p by have:=h.kp;omega]at this;exact this.symm
theorem Inv.seglen(h:Inv P L K r p l B):((P.drop K).take (p-K)).length=p-K:=by have:=h.pP;rw[aj,aH];omega
theorem Inv.seg(h:Inv P L K r p l B)(hk:0<K)(m:List UInt8):gl (P.drop K) m=(C5 ((P.drop K).take (p-K)) m&&gl (P.drop p) (m.drop (p-K))):=by have:=Pi _ (P.drop p) m (h.fr hk);rw[<-h.split,h.seglen]at this;exact this
theorem Inv.later(h:Inv P L K r p l B)(hk:0<K)(ht:tl (gl (P.drop K)) (L.drop (r+1))=true):(l=L.length/\r=L.length/\gl (P.drop p) []=true)\/∃j,l<j/\j<=L.length/\gl (P.drop p) (L.drop j)=true:=by
 have h1:=h.rl;have h2:=h.lL;have h3:=h.pl hk;have h4:=h.kp;obtain⟨k,hk1,hk2⟩:=(lS _ _).1 ht;rw[h.seg hk,az]at hk2;have h5:=vV hk2.1;rw[h.seglen]at h5;have h6:=hk2.2;rw[dY,dY]at h6;rw[dY,aH]at h5;rw[aH]at hk1
 by_cases hr:r=L.length
 ·refine .inl ⟨by omega,hr, ?_⟩
  have e0:L.drop (r+1+(k+(p-K)))=[]:=bo (by omega);rwa[e0]at h6
 ·exact .inr ⟨r+1+(k+(p-K)),by omega,by omega,h6⟩
theorem Inv.star(h:Inv P L K r p l B)(hp:p<P.length)(hl:l<L.length)(hc:P.getD p 0=42):Inv P L (p+1) l (p+1) l B:=by
 have e:gl (P.drop p) (L.drop l)=(gl (P.drop (p+1)) (L.drop l)||tl (gl (P.drop (p+1))) (L.drop (l+1))):=by rw[nW P p hp,hc,jz,nW L l hl];rfl
 refine⟨aQ _,hp,aQ _,h.lL,fun h0=>by omega,fun _=> ?_,fun _=>by omega,fun _=>by rw[Nat.sub_self];rfl⟩;rw[<-e]
 by_cases hk:K=0
 ·exact h.b0 hk
 ·rw[h.b1 (by omega)]
  cases hg:gl (P.drop p) (L.drop l)with
  |true=>rfl
  |false=>
   rw[dD];cases ht:tl (gl (P.drop K)) (L.drop (r+1))with
   |false=>rfl
   |true=>
    exfalso;rcases h.later (by omega) ht with⟨h1,_⟩|⟨j,h1,h2,h3⟩
    ·omega
    ·rw[nW P p hp,hc,jz]at h3 hg
     rw[Rl (Nat.le_of_lt h1) h3]at hg;cases hg
theorem Inv.step(h:Inv P L K r p l B)(hp:p<P.length)(hl:l<L.length)(hc:P.getD p 0≠42)(hm:P.getD p 0=63\/P.getD p 0=L.getD l 0):Inv P L K r (p+1) (l+1) B:=by
 have h1:=h.kp;have h2:=h.rl
 have e:gl (P.drop p) (L.drop l)=gl (P.drop (p+1)) (L.drop (l+1)):=by
  rw[nW P p hp,nW L l hl,jA _ _ _ _ hc];have:(decide (P.getD p 0=63)||decide (P.getD p 0=L.getD l 0))=true:=by simpa using hm
  rw[this,Bool.true_and]
 refine⟨by omega,hp,by omega,hl,fun h0=>by rw[<-e];exact h.b0 h0,fun h0=>by rw[<-e];exact h.b1 h0,fun h0=>by have:=h.pl h0;omega,fun h0=> ?_⟩
 have e2:(P.drop K).take (p+1-K)=(P.drop K).take (p-K)++ [P.getD p 0]:=by
  rw[show p+1-K=(p-K)+1 by omega,List.take_add_one]
  congr 1
  rw[bE,show K+(p-K)=p by omega,ab hp,aa,ab hp];rfl
 rw[e2];have:=h.fr h0;unfold free at this ⊢;rw[List.all_append,this];simpa using hc
theorem Inv.miss(h:Inv P L K r p l B)(hl:l<L.length)(hm:p<P.length->P.getD p 0≠42/\P.getD p 0≠63/\P.getD p 0≠L.getD l 0):gl (P.drop p) (L.drop l)=false:=by
 by_cases hp:p<P.length
 ·obtain⟨h1,h2,h3⟩:=hm hp
  rw[nW P p hp,nW L l hl,jA _ _ _ _ h1];simp only[h2,h3,decide_false,Bool.or_false,Fb]
 ·rw[bo (by omega),nW L l hl];rfl
theorem Inv.back(h:Inv P L K r p l B)(hk:0<K)(hl:l<L.length)(hm:p<P.length->P.getD p 0≠42/\P.getD p 0≠63/\P.getD p 0≠L.getD l 0):Inv P L K (r+1) K (r+1) B:=by
 have h1:=h.rl;have h2:=h.kp;have h3:=h.pP;refine⟨aQ _,by omega,aQ _,by omega,fun h0=>by omega,fun _=> ?_,fun _=>by omega,fun _=>by rw[Nat.sub_self];rfl⟩;rw[h.b1 hk,h.miss hl hm,dD]
 by_cases hr:r+1<L.length
 ·rw[nW L (r+1) hr];rfl
 ·have e1:L.drop (r+1)=[]:=bo (by omega)
  have e2:L.drop (r+1+1)=[]:=bo (by omega);rw[e1,e2];simp only[tl,Bool.or_self]
theorem Inv.fail(h:Inv P L K r p l B)(hk:K=0)(hl:l<L.length)(hm:p<P.length->P.getD p 0≠42/\P.getD p 0≠63/\P.getD p 0≠L.getD l 0):B=false:=by rw[h.b0 hk,h.miss hl hm]
theorem Inv.fin(h:Inv P L K r p l B)(hl:l=L.length):jf (P.drop p)=B:=by
 have e:gl (P.drop p) (L.drop l)=jf (P.drop p):=by rw[hl,aX,pY]
 by_cases hk:K=0
 ·rw[h.b0 hk,e]
 ·rw[h.b1 (by omega),e]
  cases ht:tl (gl (P.drop K)) (L.drop (r+1))with
  |false=>rw[Bool.or_false]
  |true=>
   rcases h.later (by omega) ht with⟨_,_,h3⟩|⟨j,h1,h2,_⟩
   ·rw[pY]at h3;rw[h3];rfl
   ·omega
theorem Inv.init(P L:List UInt8):Inv P L 0 0 0 0 (gl P L):=
 ⟨aQ _,bU _,aQ _,bU _,fun _=>rfl,fun h=>by omega,fun h=>by omega,fun h=>by omega⟩
end Go.Glob
namespace Go.Proofs.YtkcjdeofknkndaaGreatDoor
open Go.Sy
open UInt8 renaming reduceLT -> Q0, reduceLE -> Q1
open Int renaming reduceToNat -> Q2, reduceLE -> Q3, reduceLT -> Q4, reduceEq -> Q5, reduceNe -> Q6, reduceNeg -> Q7, reduceAdd -> Q8, reduceSub -> Q9, reduceMul -> Qa
open Nat renaming reducePow -> Qb, reduceDiv -> Qc, reduceMod -> Qd, reduceAdd -> Qe, reduceSub -> Qf, reduceMul -> Qg, reduceLT -> Qh, reduceLeDiff -> Qi, reduceEqDiff -> Qj, reduceBEq -> Qk
end Go.Proofs.YtkcjdeofknkndaaGreatDoor
namespace Go.Glob
theorem oi:∀(p q l:List UInt8),gl (p++q) l=true↔∃k,k<=l.length/\gl p (l.take k)=true/\gl q (l.drop k)=true
 |[],q,l=>by
  constructor
  ·intro h;exact⟨0,by omega,rfl,by simpa using h⟩
  ·rintro⟨k,hk,h1,h2⟩
   have:(l.take k)=[]:=by simpa[y9]using h1
   have h0:k=0\/l=[]:=by
    have:=congrArg qV this;rw[aj]at this;rcases l with _|⟨x,l⟩
    ·exact .inr rfl
    ·left;simp at this;omega
   rcases h0 with rfl|rfl
   ·simpa using h2
   ·simpa using h2
 |c::p,q,l=>by
  by_cases hc:c=42
  ·subst hc
   rw[aJ,jz,lS];constructor
   ·rintro⟨j,hj,h⟩
    obtain⟨k,hk,h1,h2⟩:=(oi p q _).1 h;rw[aH]at hk;refine⟨j+k,by omega, ?_,by rw[dY]at h2;exact h2⟩;rw[jz,lS];refine⟨j,by rw[aj];omega, ?_⟩;rw[List.drop_take];simpa using h1
   ·rintro⟨m,hm,h1,h2⟩
    rw[jz,lS]at h1;obtain⟨j,hj,h1⟩:=h1;rw[aj]at hj;refine⟨j,by omega,(oi p q _).2 ⟨m-j,by rw[aH];omega,by rw[List.drop_take]at h1;exact h1, ?_⟩⟩;rw[dY];rw[show j+(m-j)=m from by omega];exact h2
  ·rcases l with _|⟨x,l⟩
   ·rw[aJ,oh _ _ hc]
    constructor
    ·intro h;cases h
    ·rintro⟨k,hk,h1,h2⟩
     rw[b9,oh _ _ hc]at h1;cases h1
   ·rw[aJ,jA _ _ _ _ hc,az,oi p q l]
    constructor
    ·rintro⟨h0,k,hk,h1,h2⟩
     refine⟨k+1,by simpa using hk, ?_,by simpa using h2⟩;rw[mz,jA _ _ _ _ hc,az];exact⟨h0,h1⟩
    ·rintro⟨k,hk,h1,h2⟩
     rcases k with _|k
     ·rw[List.take_zero,oh _ _ hc]at h1;cases h1
     ·rw[mz,jA _ _ _ _ hc,az]at h1
      exact⟨h1.1,k,by simpa using hk,h1.2,by simpa using h2⟩
theorem xeM(l:List UInt8):gl [42] l=true:=by rw[jz,lS];exact⟨l.length,aQ _,by rw[aX];rfl⟩
def rw1(P L:List UInt8)(k i:Nat):Bool:=gl (P.take k) (L.take i)
theorem fW(P:List UInt8)(k:Nat)(h:k<P.length):P.take (k+1)=P.take k++ [P.getD k 0]:=by rw[List.take_add_one,ab h,aa,ab h];rfl
theorem xcr(P L:List UInt8)(i:Nat)(hi:i<=L.length):rw1 P L 0 i=decide (i=0):=by
 unfold rw1;rw[List.take_zero,y9];rcases i with _|i
 ·simp
 ·rcases L with _|⟨x,L⟩
  ·simp at hi
  ·simp
theorem FZ(P L:List UInt8)(k i:Nat)(hk:k<P.length)(hi:i<=L.length)(hc:P.getD k 0=42):rw1 P L (k+1) i=(rw1 P L k i||(decide (0<i)&&rw1 P L (k+1) (i-1))):=by
 have key:∀i,i<=L.length->(rw1 P L (k+1) i=true↔∃j,j<=i/\rw1 P L k j=true):=by
  intro i hi;unfold rw1;rw[fW P k hk,hc,oi];constructor
  ·rintro⟨j,hj,h1,_⟩
   rw[aj]at hj;rw[List.take_take]at h1;exact⟨min j i,by omega,h1⟩
  ·rintro⟨j,hj,h1⟩
   refine⟨j,by rw[aj];omega, ?_,xeM _⟩;rw[List.take_take,dS hj];exact h1
 rw[dI,key i hi,eY,az,decide_eq_true_eq];constructor
 ·rintro⟨j,hj,h⟩
  by_cases hji:j=i
  ·subst hji;exact .inl h
  ·exact .inr ⟨by omega,(key (i-1) (by omega)).2 ⟨j,by omega,h⟩⟩
 ·rintro(h|⟨h0,h⟩)
  ·exact⟨i,aQ _,h⟩
  ·obtain⟨j,hj,h⟩:=(key (i-1) (by omega)).1 h
   exact⟨j,by omega,h⟩
theorem DP(P L:List UInt8)(k:Nat)(hk:k<P.length)(hc:P.getD k 0≠42):rw1 P L (k+1) 0=false:=by unfold rw1;rw[fW P k hk,List.take_zero,<-Bool.not_eq_true,oi];rintro⟨j,hj,_,h2⟩;rw[List.drop_nil,oh _ _ hc]at h2;cases h2
theorem F0(P L:List UInt8)(k i:Nat)(hk:k<P.length)(hi:i<L.length)(hc:P.getD k 0≠42):rw1 P L (k+1) (i+1)=(rw1 P L k i&&(decide (P.getD k 0=63)||decide (P.getD k 0=L.getD i 0))):=by
 unfold rw1;rw[fW P k hk,dI,oi];have hl:(L.take (i+1)).length=i+1:=by rw[aj];omega
 have h1:∀m:List UInt8,gl [P.getD k 0] m=true↔∃x,m=[x]/\(decide (P.getD k 0=63)||decide (P.getD k 0=x))=true:=by
  intro m;rcases m with _|⟨x,m⟩
  ·rw[oh _ _ hc];simp
  ·rw[jA _ _ _ _ hc,y9,az]
   rcases m with _|⟨y,m⟩
   ·simp
   ·simp
 have hd:(L.take (i+1)).drop i=[L.getD i 0]:=by rw[fW L i hi,List.drop_append_of_le_length (by rw[aj];omega),bo (by rw[aj];omega)];rfl
 rw[az];constructor
 ·rintro⟨j,hj,h2,h3⟩
  obtain⟨x,hx,h4⟩:=(h1 _).1 h3;have e:=congrArg qV hx;rw[aH,hl,aM]at e;have hji:j=i:=by omega
  subst hji;rw[hd]at hx;simp only[iv.injEq,and_true]at hx;rw[List.take_take,dS (by omega)]at h2;rw[hx];exact⟨h2,h4⟩
 ·rintro⟨h2,h3⟩
  refine⟨i,by omega, ?_, ?_⟩
  ·rw[List.take_take,dS (by omega)];exact h2
  ·rw[hd,h1];exact⟨_,rfl,h3⟩
theorem RH(P L:List UInt8):rw1 P L P.length L.length=gl P L:=by unfold rw1;rw[bv,bv]
end Go.Glob
namespace Go.Proofs.YtkcjdeofknkndaaGreatDoor
open Go.Sy
open UInt8 renaming reduceLT -> Q0, reduceLE -> Q1
open Int renaming reduceToNat -> Q2, reduceLE -> Q3, reduceLT -> Q4, reduceEq -> Q5, reduceNe -> Q6, reduceNeg -> Q7, reduceAdd -> Q8, reduceSub -> Q9, reduceMul -> Qa
open Nat renaming reducePow -> Qb, reduceDiv -> Qc, reduceMod -> Qd, reduceAdd -> Qe, reduceSub -> Qf, reduceMul -> Qg, reduceLT -> Qh, reduceLeDiff -> Qi, reduceEqDiff -> Qj, reduceBEq -> Qk
section
open Go.Glob
theorem hZ:∀s:List UInt8,ft 42 s=[]↔jf s=true
 |[]=>by simp[ft,jf]
 |x::r=>by
  have:=hZ r
  by_cases h:x=42
  ·simp only[ft,h,if_true,this,jf,gx,decide_true,Bool.true_and]
  ·simp[ft,h,jf]
theorem kI(s:List UInt8):jf s.reverse=jf s:=by simp[jf]
theorem FC(s:List UInt8):ft 42 (lF 42 s)=[]↔jf s=true:=by
 rw[hZ];unfold lF;rw[kI];constructor
 ·intro h
  rw[<-hZ]at h
  have e:∀t:List UInt8,ft 42 t=t\/ft 42 t=[]\/∃x r,ft 42 t=x::r/\x≠42:=by
   intro t;induction t with
   |nil=>exact .inl rfl
   |cons x r ih=>
    by_cases hx:x=42
    ·simp only[ft,hx,if_true]
     rcases ih with h|h|h
     ·cases r with
      |nil=>exact .inr (.inl h)
      |cons y r'=>
       rw[h]
       by_cases hy:y=42
       ·exfalso
        have l1:∀t:List UInt8,(ft 42 t).length<=t.length:=by
         intro t;induction t with
         |nil=>exact aQ _
         |cons z t iht=>simp only[ft];split<;>simp only[aC]<;>omega
        rw[hy]at h;simp only[ft,if_true]at h;have:=l1 r';rw[h]at this;simp at this;omega
       ·exact .inr (.inr ⟨y,r',rfl,hy⟩)
     ·exact .inr (.inl h)
     ·exact .inr (.inr h)
    ·exact .inl (by simp[ft,hx])
  rcases e s.reverse with h1|h1|⟨x,r,h1,h2⟩
  ·rw[h1,hZ,kI]at h;exact h
  ·rw[hZ,kI]at h1;exact h1
  ·rw[h1]at h;simp[ft,h2]at h
 ·intro h
  rw[<-kI,<-hZ]at h;rw[h];rfl
def Out(P:List UInt8)(B:Bool)(o:Option (Ex×CSt)):Prop:=
 (∃q,q<=P.length/\jf (P.drop q)=B/\o=some (.x 0,⟨[(0,.str P),(5,.int .i64 (q:Nat))],[],[]⟩))\/(B=false/\o=some (.r,⟨[(4,.bool false)],[],[]⟩))
theorem l86(P L:List UInt8)(hP:P.length<=1000000000000)(hL:L.length<=1000000000000)(B:Bool)(K r p l:Nat)(s:Int)(hs:s=(K:Int)-1)(h:Inv P L K r p l B):
 Out P B (run T (.loop yi) ⟨[(0,.str P),(1,.byt L .no),(5,.int .i64 p),(6,.int .i64 l),(7,.int .i64 s),(8,.int .i64 r)],[],[]⟩):=by
 have a1:=h.kp;have a2:=h.pP;have a3:=h.rl;have a4:=h.lL;rw[ai]
 by_cases hl:l<L.length
 ·have e2:ac.wrap ((p:Int)+1)=((p+1:Nat):Int):=cg p (by omega)
  have e3:ac.wrap ((l:Int)+1)=((l+1:Nat):Int):=cg l (by omega);have e4:ac.wrap ((r:Int)+1)=((r+1:Nat):Int):=cg r (by omega);have e5:ac.wrap (s+1)=(K:Int):=by rw[hs,w64 (by omega) (by omega)];omega
  by_cases hp:p<P.length
  ·by_cases hc:P.getD p 0=42
   ·have ih:=l86 P L hP hL B (p+1) l (p+1) l p (by omega) (h.star hp hl hc)
    simp only[go_sem,Q0,Q1,Q2,Q3,Q4,Q5,Q6,Q7,Q8,Q9,Qa,Qb,Qc,Qd,Qe,Qf,Qg,Qh,Qi,Qj,Qk,reduceCtorEq,reduceIte,hl,hp,hc,e2,e3,e4,e5];exact ih
   ·by_cases hq:P.getD p 0=63
    ·have ih:=l86 P L hP hL B K r (p+1) (l+1) s hs (h.step hp hl hc (.inl hq))
     simp only[go_sem,Q0,Q1,Q2,Q3,Q4,Q5,Q6,Q7,Q8,Q9,Qa,Qb,Qc,Qd,Qe,Qf,Qg,Qh,Qi,Qj,Qk,reduceCtorEq,reduceIte,hl,hp,hc,hq,e2,e3,e4,e5];exact ih
    ·by_cases hx:P.getD p 0=L.getD l 0
     ·have ih:=l86 P L hP hL B K r (p+1) (l+1) s hs (h.step hp hl hc (.inr hx))
      have hc':¬L.getD l 0=42:=hx ▸ hc;have hq':¬L.getD l 0=63:=hx ▸ hq;simp only[go_sem,Q0,Q1,Q2,Q3,Q4,Q5,Q6,Q7,Q8,Q9,Qa,Qb,Qc,Qd,Qe,Qf,Qg,Qh,Qi,Qj,Qk,reduceCtorEq,reduceIte,hl,hp,hx,hc',hq',e2,e3,e4,e5];exact ih
     ·by_cases hk:K=0
      ·have hs0:¬0<=s:=by omega
       simp only[go_sem,Q0,Q1,Q2,Q3,Q4,Q5,Q6,Q7,Q8,Q9,Qa,Qb,Qc,Qd,Qe,Qf,Qg,Qh,Qi,Qj,Qk,reduceCtorEq,reduceIte,hl,hp,hc,hq,hx,hs0,e2,e3,e4,e5];exact .inr ⟨h.fail hk hl (fun _=>⟨hc,hq,hx⟩),rfl⟩
      ·have hs0:0<=s:=by omega
       have ih:=l86 P L hP hL B K (r+1) K (r+1) s hs (h.back (by omega) hl (fun _=>⟨hc,hq,hx⟩));simp only[go_sem,Q0,Q1,Q2,Q3,Q4,Q5,Q6,Q7,Q8,Q9,Qa,Qb,Qc,Qd,Qe,Qf,Qg,Qh,Qi,Qj,Qk,reduceCtorEq,reduceIte,hl,hp,hc,hq,hx,hs0,e2,e3,e4,e5];exact ih
  ·by_cases hk:K=0
   ·have hs0:¬0<=s:=by omega
    simp only[go_sem,Q0,Q1,Q2,Q3,Q4,Q5,Q6,Q7,Q8,Q9,Qa,Qb,Qc,Qd,Qe,Qf,Qg,Qh,Qi,Qj,Qk,reduceCtorEq,reduceIte,hl,hp,hs0,e2,e3,e4,e5];exact .inr ⟨h.fail hk hl (fun hp'=>absurd hp' hp),rfl⟩
   ·have hs0:0<=s:=by omega
    have ih:=l86 P L hP hL B K (r+1) K (r+1) s hs (h.back (by omega) hl (fun hp'=>absurd hp' hp));simp only[go_sem,Q0,Q1,Q2,Q3,Q4,Q5,Q6,Q7,Q8,Q9,Qa,Qb,Qc,Qd,Qe,Qf,Qg,Qh,Qi,Qj,Qk,reduceCtorEq,reduceIte,hl,hp,hs0,e2,e3,e4,e5];exact ih
 ·simp only[go_sem,Q0,Q1,Q2,Q3,Q4,Q5,Q6,Q7,Q8,Q9,Qa,Qb,Qc,Qd,Qe,Qf,Qg,Qh,Qi,Qj,Qk,reduceCtorEq,reduceIte,hl]
  exact .inl ⟨p,a2,h.fin (by omega),rfl⟩
termination_by (P.length-K,L.length-r,L.length-l)
decreasing_by
 all_goals first
  |(apply Prod.Lex.left;omega)
  |(apply Prod.Lex.right;apply Prod.Lex.left;omega)
  |(apply Prod.Lex.right;apply Prod.Lex.right;omega)
end
section
open Go.Glob
theorem f86(P L:List UInt8)(hP:P.length<=1000000000000)(hL:L.length<=1000000000000):call T 86 [.str P,.byt L .no] [] 0=some ⟨.bool (gl P L),[],[]⟩:=by
 rw[ao xnk];have h:=l86 P L hP hL (gl P L) 0 0 0 0 (-1) rfl (Inv.init P L);simp only[av]at h;rcases h with⟨q,hq,hs,h⟩|⟨hB,h⟩
 ·have hd:(P.drop q).length<9223372036854775807:=by rw[aH];omega
  have ht:=FC (P.drop q);rw[hs]at ht;simp only[go_sem,Q0,Q1,Q2,Q3,Q4,Q5,Q6,Q7,Q8,Q9,Qa,Qb,Qc,Qd,Qe,Qf,Qg,Qh,Qi,Qj,Qk,reduceCtorEq,reduceIte,h,hq,bv,xmQ _ hd,xjw,ht];cases gl P L<;>rfl
 ·simp only[go_sem,Q0,Q1,Q2,Q3,Q4,Q5,Q6,Q7,Q8,Q9,Qa,Qb,Qc,Qd,Qe,Qf,Qg,Qh,Qi,Qj,Qk,reduceCtorEq,reduceIte,h,hB]
end
section
open Go.Glob
def prn:List UInt8->Bool
 |[]=>true
 |c::r=>if c<32 then false else if 126<c then false else prn r
def chk(k:Int)(t:List UInt8)(lo hi:Int):Int:=
 if k<1 then 1 else if 4<k then 1 else if prn t then
  (if k=4 then(if lo<0 then 1 else if hi<lo then 1 else if 1000000000<hi then 1 else if 32<t.length then 4 else 0)
   else if lo=0 then(if hi=0 then(if k=1 then(if t=[]then 0 else 1)else if 32<t.length then 4 else 0)else 1)else 1)
 else 1
theorem l44(k:Int)(t:List UInt8)(lo hi:Int)(hl:t.length<=1000000000000):∀(n i:Nat),t.length-i=n->i<=t.length->
 run T (.loop yw) ⟨[(1,.ptr 101 0),(15,.int .i64 t.length),(16,.int .i64 i)],[(101,.rc [.int .i64 k,.str t,.int .i64 lo,.int .i64 hi])],[]⟩=
 if prn (t.drop i)then some (.x 0,⟨[(1,.ptr 101 0)],[(101,.rc [.int .i64 k,.str t,.int .i64 lo,.int .i64 hi])],[]⟩)
 else some (.r,⟨[(2,.int .i64 1)],[(101,.rc [.int .i64 k,.str t,.int .i64 lo,.int .i64 hi])],[]⟩):=by
 intro n;induction n with
 |zero=>
  intro i h0 h1;have hi:i=t.length:=by omega
  subst hi;rw[ai];simp only[go_sem,Q0,Q1,Q2,Q3,Q4,Q5,Q6,Q7,Q8,Q9,Qa,Qb,Qc,Qd,Qe,Qf,Qg,Qh,Qi,Qj,Qk,reduceCtorEq,reduceIte,aX,prn]
 |succ n ih=>
  intro i h0 h1;have hi:i<t.length:=by omega
  have e1:=cg i (by omega);have ih':=ih (i+1) (by omega) (by omega);rw[ai,cN t i hi]
  by_cases h2:t.getD i 0<32
  ·simp only[go_sem,Q0,Q1,Q2,Q3,Q4,Q5,Q6,Q7,Q8,Q9,Qa,Qb,Qc,Qd,Qe,Qf,Qg,Qh,Qi,Qj,Qk,reduceCtorEq,reduceIte,hi,e1,prn,h2]
  ·by_cases h3:126<t.getD i 0
   ·simp only[go_sem,Q0,Q1,Q2,Q3,Q4,Q5,Q6,Q7,Q8,Q9,Qa,Qb,Qc,Qd,Qe,Qf,Qg,Qh,Qi,Qj,Qk,reduceCtorEq,reduceIte,hi,e1,prn,h2,h3]
   ·simp only[go_sem,Q0,Q1,Q2,Q3,Q4,Q5,Q6,Q7,Q8,Q9,Qa,Qb,Qc,Qd,Qe,Qf,Qg,Qh,Qi,Qj,Qk,reduceCtorEq,reduceIte,hi,e1,prn,h2,h3,ih']
theorem l47(k:Int)(t:List UInt8)(lo hi:Int)(hl:t.length<=1000000000000):∀(n i:Nat),t.length-i=n->i<=t.length->
 run T (.loop P2) ⟨[(1,.ptr 101 0),(3,.int .i64 i)],[(101,.rc [.int .i64 k,.str t,.int .i64 lo,.int .i64 hi])],[]⟩=
 if prn (t.drop i)then some (.x 0,⟨[(1,.ptr 101 0)],[(101,.rc [.int .i64 k,.str t,.int .i64 lo,.int .i64 hi])],[]⟩)
 else some (.r,⟨[(2,.int .i64 1)],[(101,.rc [.int .i64 k,.str t,.int .i64 lo,.int .i64 hi])],[]⟩):=by
 intro n;induction n with
 |zero=>
  intro i h0 h1;have hi:i=t.length:=by omega
  subst hi;rw[ai];simp only[go_sem,Q0,Q1,Q2,Q3,Q4,Q5,Q6,Q7,Q8,Q9,Qa,Qb,Qc,Qd,Qe,Qf,Qg,Qh,Qi,Qj,Qk,reduceCtorEq,reduceIte,aX,prn]
 |succ n ih=>
  intro i h0 h1;have hi:i<t.length:=by omega
  have e1:=cg i (by omega);have ih':=ih (i+1) (by omega) (by omega);rw[ai,cN t i hi]
  by_cases h2:t.getD i 0<32
  ·simp only[go_sem,Q0,Q1,Q2,Q3,Q4,Q5,Q6,Q7,Q8,Q9,Qa,Qb,Qc,Qd,Qe,Qf,Qg,Qh,Qi,Qj,Qk,reduceCtorEq,reduceIte,hi,e1,prn,h2]
  ·by_cases h3:126<t.getD i 0
   ·simp only[go_sem,Q0,Q1,Q2,Q3,Q4,Q5,Q6,Q7,Q8,Q9,Qa,Qb,Qc,Qd,Qe,Qf,Qg,Qh,Qi,Qj,Qk,reduceCtorEq,reduceIte,hi,e1,prn,h2,h3]
   ·simp only[go_sem,Q0,Q1,Q2,Q3,Q4,Q5,Q6,Q7,Q8,Q9,Qa,Qb,Qc,Qd,Qe,Qf,Qg,Qh,Qi,Qj,Qk,reduceCtorEq,reduceIte,hi,e1,prn,h2,h3,ih']
end
section
open Go.Glob
theorem o8(t:List UInt8):((32:Int)<(t.length:Int))↔32<t.length:=by omega
theorem f44(k:Int)(t:List UInt8)(lo hi:Int)(hl:t.length<=1000000000000):call T 44 [.agg [.int .i64 k,.str t,.int .i64 lo,.int .i64 hi]] [] 0=some ⟨.int .i64 (chk k t lo hi),[],[]⟩:=by
 rw[ao xnR];have h:=l44 k t lo hi hl _ 0 rfl (by omega);simp only[av,bh]at h;unfold chk
 by_cases c1:k<1
 ·simp only[go_sem,Q0,Q1,Q2,Q3,Q4,Q5,Q6,Q7,Q8,Q9,Qa,Qb,Qc,Qd,Qe,Qf,Qg,Qh,Qi,Qj,Qk,reduceCtorEq,reduceIte,h,c1]
 by_cases c2:4<k
 ·simp only[go_sem,Q0,Q1,Q2,Q3,Q4,Q5,Q6,Q7,Q8,Q9,Qa,Qb,Qc,Qd,Qe,Qf,Qg,Qh,Qi,Qj,Qk,reduceCtorEq,reduceIte,h,c1,c2]
 cases c3:prn t with
 |false=>simp only[go_sem,Q0,Q1,Q2,Q3,Q4,Q5,Q6,Q7,Q8,Q9,Qa,Qb,Qc,Qd,Qe,Qf,Qg,Qh,Qi,Qj,Qk,reduceCtorEq,reduceIte,h,c1,c2,c3]
 |true=>
  by_cases c4:k=4
  ·subst c4
   by_cases c5:lo<0
   ·simp only[go_sem,Q0,Q1,Q2,Q3,Q4,Q5,Q6,Q7,Q8,Q9,Qa,Qb,Qc,Qd,Qe,Qf,Qg,Qh,Qi,Qj,Qk,reduceCtorEq,reduceIte,h,c3,c5]
   by_cases c6:hi<lo
   ·simp only[go_sem,Q0,Q1,Q2,Q3,Q4,Q5,Q6,Q7,Q8,Q9,Qa,Qb,Qc,Qd,Qe,Qf,Qg,Qh,Qi,Qj,Qk,reduceCtorEq,reduceIte,h,c3,c5,c6]
   by_cases c7:1000000000<hi
   ·simp only[go_sem,Q0,Q1,Q2,Q3,Q4,Q5,Q6,Q7,Q8,Q9,Qa,Qb,Qc,Qd,Qe,Qf,Qg,Qh,Qi,Qj,Qk,reduceCtorEq,reduceIte,h,c3,c5,c6,c7]
   by_cases c8:32<t.length
   ·simp only[go_sem,Q0,Q1,Q2,Q3,Q4,Q5,Q6,Q7,Q8,Q9,Qa,Qb,Qc,Qd,Qe,Qf,Qg,Qh,Qi,Qj,Qk,reduceCtorEq,reduceIte,h,c3,c5,c6,c7,c8,o8]
   ·simp only[go_sem,Q0,Q1,Q2,Q3,Q4,Q5,Q6,Q7,Q8,Q9,Qa,Qb,Qc,Qd,Qe,Qf,Qg,Qh,Qi,Qj,Qk,reduceCtorEq,reduceIte,h,c3,c5,c6,c7,c8,o8]
  ·by_cases c5:lo=0
   ·subst c5
    by_cases c6:hi=0
    ·subst c6
     by_cases c7:k=1
     ·subst c7
      by_cases c8:t=[]
      ·subst c8
       try simp only[aB,av]at h
       simp only[go_sem,Q0,Q1,Q2,Q3,Q4,Q5,Q6,Q7,Q8,Q9,Qa,Qb,Qc,Qd,Qe,Qf,Qg,Qh,Qi,Qj,Qk,reduceCtorEq,reduceIte,h,c3,aB,av]
      ·simp only[go_sem,Q0,Q1,Q2,Q3,Q4,Q5,Q6,Q7,Q8,Q9,Qa,Qb,Qc,Qd,Qe,Qf,Qg,Qh,Qi,Qj,Qk,reduceCtorEq,reduceIte,h,c3,c8]
     ·by_cases c8:32<t.length
      ·simp only[go_sem,Q0,Q1,Q2,Q3,Q4,Q5,Q6,Q7,Q8,Q9,Qa,Qb,Qc,Qd,Qe,Qf,Qg,Qh,Qi,Qj,Qk,reduceCtorEq,reduceIte,h,c1,c2,c3,c4,c7,c8,o8]
      ·simp only[go_sem,Q0,Q1,Q2,Q3,Q4,Q5,Q6,Q7,Q8,Q9,Qa,Qb,Qc,Qd,Qe,Qf,Qg,Qh,Qi,Qj,Qk,reduceCtorEq,reduceIte,h,c1,c2,c3,c4,c7,c8,o8]
    ·simp only[go_sem,Q0,Q1,Q2,Q3,Q4,Q5,Q6,Q7,Q8,Q9,Qa,Qb,Qc,Qd,Qe,Qf,Qg,Qh,Qi,Qj,Qk,reduceCtorEq,reduceIte,h,c1,c2,c3,c4,c6]
   ·simp only[go_sem,Q0,Q1,Q2,Q3,Q4,Q5,Q6,Q7,Q8,Q9,Qa,Qb,Qc,Qd,Qe,Qf,Qg,Qh,Qi,Qj,Qk,reduceCtorEq,reduceIte,h,c1,c2,c3,c4,c5]
theorem f47(k:Int)(t:List UInt8)(lo hi:Int)(hl:t.length<=1000000000000):call T 47 [.agg [.int .i64 k,.str t,.int .i64 lo,.int .i64 hi]] [] 0=some ⟨.int .i64 (chk k t lo hi),[],[]⟩:=by
 rw[ao xnO];have h:=l47 k t lo hi hl _ 0 rfl (by omega);simp only[av,bh]at h;unfold chk
 by_cases c1:k<1
 ·simp only[go_sem,Q0,Q1,Q2,Q3,Q4,Q5,Q6,Q7,Q8,Q9,Qa,Qb,Qc,Qd,Qe,Qf,Qg,Qh,Qi,Qj,Qk,reduceCtorEq,reduceIte,h,c1]
 by_cases c2:4<k
 ·simp only[go_sem,Q0,Q1,Q2,Q3,Q4,Q5,Q6,Q7,Q8,Q9,Qa,Qb,Qc,Qd,Qe,Qf,Qg,Qh,Qi,Qj,Qk,reduceCtorEq,reduceIte,h,c1,c2]
 cases c3:prn t with
 |false=>simp only[go_sem,Q0,Q1,Q2,Q3,Q4,Q5,Q6,Q7,Q8,Q9,Qa,Qb,Qc,Qd,Qe,Qf,Qg,Qh,Qi,Qj,Qk,reduceCtorEq,reduceIte,h,c1,c2,c3]
 |true=>
  by_cases c4:k=4
  ·subst c4
   by_cases c5:lo<0
   ·simp only[go_sem,Q0,Q1,Q2,Q3,Q4,Q5,Q6,Q7,Q8,Q9,Qa,Qb,Qc,Qd,Qe,Qf,Qg,Qh,Qi,Qj,Qk,reduceCtorEq,reduceIte,h,c3,c5]
   by_cases c6:hi<lo
   ·simp only[go_sem,Q0,Q1,Q2,Q3,Q4,Q5,Q6,Q7,Q8,Q9,Qa,Qb,Qc,Qd,Qe,Qf,Qg,Qh,Qi,Qj,Qk,reduceCtorEq,reduceIte,h,c3,c5,c6]
   by_cases c7:1000000000<hi
   ·simp only[go_sem,Q0,Q1,Q2,Q3,Q4,Q5,Q6,Q7,Q8,Q9,Qa,Qb,Qc,Qd,Qe,Qf,Qg,Qh,Qi,Qj,Qk,reduceCtorEq,reduceIte,h,c3,c5,c6,c7]
   by_cases c8:32<t.length
   ·simp only[go_sem,Q0,Q1,Q2,Q3,Q4,Q5,Q6,Q7,Q8,Q9,Qa,Qb,Qc,Qd,Qe,Qf,Qg,Qh,Qi,Qj,Qk,reduceCtorEq,reduceIte,h,c3,c5,c6,c7,c8,o8]
   ·simp only[go_sem,Q0,Q1,Q2,Q3,Q4,Q5,Q6,Q7,Q8,Q9,Qa,Qb,Qc,Qd,Qe,Qf,Qg,Qh,Qi,Qj,Qk,reduceCtorEq,reduceIte,h,c3,c5,c6,c7,c8,o8]
  ·by_cases c5:lo=0
   ·subst c5
    by_cases c6:hi=0
    ·subst c6
     by_cases c7:k=1
     ·subst c7
      by_cases c8:t=[]
      ·subst c8
       try simp only[aB,av]at h
       simp only[go_sem,Q0,Q1,Q2,Q3,Q4,Q5,Q6,Q7,Q8,Q9,Qa,Qb,Qc,Qd,Qe,Qf,Qg,Qh,Qi,Qj,Qk,reduceCtorEq,reduceIte,h,c3,aB,av]
      ·simp only[go_sem,Q0,Q1,Q2,Q3,Q4,Q5,Q6,Q7,Q8,Q9,Qa,Qb,Qc,Qd,Qe,Qf,Qg,Qh,Qi,Qj,Qk,reduceCtorEq,reduceIte,h,c3,c8]
     ·by_cases c8:32<t.length
      ·simp only[go_sem,Q0,Q1,Q2,Q3,Q4,Q5,Q6,Q7,Q8,Q9,Qa,Qb,Qc,Qd,Qe,Qf,Qg,Qh,Qi,Qj,Qk,reduceCtorEq,reduceIte,h,c1,c2,c3,c4,c7,c8,o8]
      ·simp only[go_sem,Q0,Q1,Q2,Q3,Q4,Q5,Q6,Q7,Q8,Q9,Qa,Qb,Qc,Qd,Qe,Qf,Qg,Qh,Qi,Qj,Qk,reduceCtorEq,reduceIte,h,c1,c2,c3,c4,c7,c8,o8]
    ·simp only[go_sem,Q0,Q1,Q2,Q3,Q4,Q5,Q6,Q7,Q8,Q9,Qa,Qb,Qc,Qd,Qe,Qf,Qg,Qh,Qi,Qj,Qk,reduceCtorEq,reduceIte,h,c1,c2,c3,c4,c6]
   ·simp only[go_sem,Q0,Q1,Q2,Q3,Q4,Q5,Q6,Q7,Q8,Q9,Qa,Qb,Qc,Qd,Qe,Qf,Qg,Qh,Qi,Qj,Qk,reduceCtorEq,reduceIte,h,c1,c2,c3,c4,c5]
end
section
open Go.Glob
theorem xkP(s t:List UInt8):call T 153 [.str s,.str t] [] 0=some ⟨.bool (decide (t.length<=s.length/\s.take t.length=t)),[],[]⟩:=by
 rw[ao xiJ]
 by_cases h:t.length<=s.length
 ·by_cases h2:s.take t.length=t
  ·simp only[go_sem,Q0,Q1,Q2,Q3,Q4,Q5,Q6,Q7,Q8,Q9,Qa,Qb,Qc,Qd,Qe,Qf,Qg,Qh,Qi,Qj,Qk,reduceCtorEq,reduceIte,h,h2]
  ·simp only[go_sem,Q0,Q1,Q2,Q3,Q4,Q5,Q6,Q7,Q8,Q9,Qa,Qb,Qc,Qd,Qe,Qf,Qg,Qh,Qi,Qj,Qk,reduceCtorEq,reduceIte,h,h2]
 ·simp only[go_sem,Q0,Q1,Q2,Q3,Q4,Q5,Q6,Q7,Q8,Q9,Qa,Qb,Qc,Qd,Qe,Qf,Qg,Qh,Qi,Qj,Qk,reduceCtorEq,reduceIte,h]
theorem xkW(s t:List UInt8):call T 128 [.str s,.str t] [] 0=some ⟨if t.length<=s.length/\s.take t.length=t then .tup [.str (s.drop t.length),.bool true]else .tup [.str s,.bool false],[],[]⟩:=by
 rw[ao xiZ]
 by_cases h:t.length<=s.length/\s.take t.length=t
 ·have h1:=h.1
  simp only[go_sem,Q0,Q1,Q2,Q3,Q4,Q5,Q6,Q7,Q8,Q9,Qa,Qb,Qc,Qd,Qe,Qf,Qg,Qh,Qi,Qj,Qk,reduceCtorEq,reduceIte,xkP,xaC,h,h1,bv]
 ·simp only[go_sem,Q0,Q1,Q2,Q3,Q4,Q5,Q6,Q7,Q8,Q9,Qa,Qb,Qc,Qd,Qe,Qf,Qg,Qh,Qi,Qj,Qk,reduceCtorEq,reduceIte,xkP,xaC,h]
theorem f87(s t:List UInt8):call T 87 [.str s,.str t] [] 0=some ⟨if t.length<=s.length/\s.take t.length=t then .tup [.str (s.drop t.length),.bool true]else .tup [.str s,.bool false],[],[]⟩:=by
 rw[ao xnj]
 by_cases h:t.length<=s.length/\s.take t.length=t
 ·simp only[go_sem,Q0,Q1,Q2,Q3,Q4,Q5,Q6,Q7,Q8,Q9,Qa,Qb,Qc,Qd,Qe,Qf,Qg,Qh,Qi,Qj,Qk,reduceCtorEq,reduceIte,xkW,xaI,h]
 ·simp only[go_sem,Q0,Q1,Q2,Q3,Q4,Q5,Q6,Q7,Q8,Q9,Qa,Qb,Qc,Qd,Qe,Qf,Qg,Qh,Qi,Qj,Qk,reduceCtorEq,reduceIte,xkW,xaI,h]
def num:Nat->List UInt8->Nat
 |n,[]=>n
 |n,c::r=>num (n*10+(c.toNat-48)) r
def gY:List UInt8->Bool
 |[]=>true
 |c::r=>if c<48 then false else if 57<c then false else gY r
theorem tw(c:UInt8)(h1:¬c<48)(h2:¬57<c):(c-48).toNat=c.toNat-48/\¬9<c-48/\c.toNat-48<=9:=by
 have h1':48<=c.toNat:=by simpa[ey]using h1
 have h2':c.toNat<=57:=by simpa[ey]using h2
 have e:(c-48).toNat=c.toNat-48:=UInt8.toNat_sub_of_le c 48 (by simpa[UInt8.le_iff_toNat_le]using h1');refine⟨e, ?_,by omega⟩;rw[ey,e];simp;omega
def lim:Nat->Nat
 |0=>0
 |i+1=>lim i*10+9
theorem xeD(i:Nat)(h:i<=9):lim i<=999999999:=by
 have:i=0\/i=1\/i=2\/i=3\/i=4\/i=5\/i=6\/i=7\/i=8\/i=9:=by omega
 rcases this with rfl|rfl|rfl|rfl|rfl|rfl|rfl|rfl|rfl|rfl<;>simp[lim]
theorem xh4(s0 s:List UInt8)(n:Nat):run T (.loop oQ) ⟨[(5,.str s0),(6,.int .i64 n),(47,.byt s .no),(48,.int .i64 s.length),(49,.int .i64 s.length)],[],[]⟩=some (.x 0,⟨[(5,.str s0),(6,.int .i64 n)],[],[]⟩):=by rw[ai];simp only[go_sem,Q0,Q1,Q2,Q3,Q4,Q5,Q6,Q7,Q8,Q9,Qa,Qb,Qc,Qd,Qe,Qf,Qg,Qh,Qi,Qj,Qk,reduceCtorEq,reduceIte]
theorem xmg(s0 s:List UInt8)(hl:s.length<=10):∀(m i n:Nat),s.length-i=m->i<=s.length->n<=lim i->gY (s.drop i)=true->
 run T (.loop oQ) ⟨[(5,.str s0),(6,.int .i64 n),(47,.byt s .no),(48,.int .i64 s.length),(49,.int .i64 i)],[],[]⟩=some (.x 0,⟨[(5,.str s0),(6,.int .i64 (num n (s.drop i)))],[],[]⟩):=by
 intro m;induction m with
 |zero=>
  intro i n h0 h1 hn hd;have hi:i=s.length:=by clear hn;omega
  rw[hi,aX];exact xh4 s0 s n
 |succ m ih=>
  intro i n h0 h1 hn hd;have hi:i<s.length:=by omega
  rw[cN s i hi]at hd;simp only[gY]at hd
  by_cases h2:s.getD i 0<48
  ·rw[if_pos h2]at hd;cases hd
  rw[if_neg h2]at hd
  by_cases h3:57<s.getD i 0
  ·rw[if_pos h3]at hd;cases hd
  rw[if_neg h3]at hd;obtain⟨d1,d2,d3⟩:=tw _ h2 h3;have hp:lim i<=999999999:=xeD i (by omega);have hn':n*10+((s.getD i 0).toNat-48)<=lim (i+1):=by simp only[lim];omega
  have ih':=ih (i+1) (n*10+((s.getD i 0).toNat-48)) (by omega) (by omega) hn' hd;have e1:=cg i (by omega);have e2:ac.wrap ((n:Int)*10)=((n*10:Nat):Int):=wZ (by omega)
  have e3:ac.wrap (((n*10:Nat):Int)+(((s.getD i 0).toNat-48:Nat):Int))=((n*10+((s.getD i 0).toNat-48):Nat):Int):=wZ (by omega)
  rw[ai,cN s i hi];simp only[go_sem,Q0,Q1,Q2,Q3,Q4,Q5,Q6,Q7,Q8,Q9,Qa,Qb,Qc,Qd,Qe,Qf,Qg,Qh,Qi,Qj,Qk,reduceCtorEq,reduceIte,hi,e1,e2,e3,d1,d2];show _=some (Ex.x 0,CSt.mk [(5,.str s0),(6,.int .i64 ((num (n*10+((s.getD i 0).toNat-48)) (s.drop (i+1)):Nat):Int))] [] []);exact ih'
end
section
open Go.Glob
theorem xmF(s:List UInt8)(h0:s≠ [])(hl:s.length<=10)(hd:gY s=true):call T 154 [.str s] [] 0=some ⟨.tup [.int .i64 (num 0 s),.nili],[],[]⟩:=by
 rw[ao xiI];have h:=xmg s s hl _ 0 0 rfl (by omega) (by simp[lim]) (by simpa using hd);simp only[av,bh]at h;cases s with
 |nil=>exact absurd rfl h0
 |cons c r=>
  simp only[gY]at hd
  by_cases h2:c<48
  ·rw[if_pos h2]at hd;cases hd
  rw[if_neg h2]at hd
  by_cases h3:57<c
  ·rw[if_pos h3]at hd;cases hd
  have h2':48<=c.toNat:=by simpa[ey]using h2
  have h4:¬c=45:=by rintro rfl;simp at h2'
  have h5:¬c=43:=by rintro rfl;simp at h2'
  have h6:(0:Int)<(((c::r).length:Nat):Int):=by rw[aC];omega
  have h7:¬(10:Int)<=(((c::r).length:Nat):Int)\/True:= .inr trivial;have h8:(((c::r).length:Nat):Int)<19:=by omega
  have h9:List.getD (c::r) 0 0=c:=rfl;generalize hs:c::r=s at*;simp only[go_sem,Q0,Q1,Q2,Q3,Q4,Q5,Q6,Q7,Q8,Q9,Qa,Qb,Qc,Qd,Qe,Qf,Qg,Qh,Qi,Qj,Qk,reduceCtorEq,reduceIte,h,h4,h5,h6,h8,h9]
theorem xkV(s:List UInt8)(h0:s≠ [])(hl:s.length<=10)(hd:gY s=true):call T 129 [.str s] [] 0=some ⟨.tup [.int .i64 (num 0 s),.nili],[],[]⟩:=by rw[ao xiY];simp only[go_sem,Q0,Q1,Q2,Q3,Q4,Q5,Q6,Q7,Q8,Q9,Qa,Qb,Qc,Qd,Qe,Qf,Qg,Qh,Qi,Qj,Qk,reduceCtorEq,reduceIte,xmF s h0 hl hd,xjo]
def qF(s:List UInt8):Int:=if s=[]then-1 else if 10<s.length then-1 else if 1<s.length/\s.getD 0 0=48 then-1 else if gY s then(num 0 s:Nat)else-1
theorem l88(s:List UInt8)(hl:s.length<=10):∀(m i:Nat),s.length-i=m->i<=s.length->
 run T (.loop PG) ⟨[(0,.str s),(24,.int .i64 s.length),(25,.int .i64 i)],[],[]⟩=if gY (s.drop i)then some (.x 0,⟨[(0,.str s)],[],[]⟩)else some (.r,⟨[(2,.int .i64 (-1))],[],[]⟩):=by
 intro m;induction m with
 |zero=>
  intro i h0 h1;have hi:i=s.length:=by omega
  subst hi;rw[ai];simp only[go_sem,Q0,Q1,Q2,Q3,Q4,Q5,Q6,Q7,Q8,Q9,Qa,Qb,Qc,Qd,Qe,Qf,Qg,Qh,Qi,Qj,Qk,reduceCtorEq,reduceIte,aX,gY]
 |succ m ih=>
  intro i h0 h1;have hi:i<s.length:=by omega
  have e1:=cg i (by omega);have ih':=ih (i+1) (by omega) (by omega);rw[ai,cN s i hi]
  by_cases h2:s.getD i 0<48
  ·simp only[go_sem,Q0,Q1,Q2,Q3,Q4,Q5,Q6,Q7,Q8,Q9,Qa,Qb,Qc,Qd,Qe,Qf,Qg,Qh,Qi,Qj,Qk,reduceCtorEq,reduceIte,hi,e1,gY,h2]
  ·by_cases h3:57<s.getD i 0
   ·simp only[go_sem,Q0,Q1,Q2,Q3,Q4,Q5,Q6,Q7,Q8,Q9,Qa,Qb,Qc,Qd,Qe,Qf,Qg,Qh,Qi,Qj,Qk,reduceCtorEq,reduceIte,hi,e1,gY,h2,h3]
   ·simp only[go_sem,Q0,Q1,Q2,Q3,Q4,Q5,Q6,Q7,Q8,Q9,Qa,Qb,Qc,Qd,Qe,Qf,Qg,Qh,Qi,Qj,Qk,reduceCtorEq,reduceIte,hi,e1,gY,h2,h3,ih']
theorem f88(s:List UInt8)(hs:s.length<=1000000000000):call T 88 [.str s] [] 0=some ⟨.int .i64 (qF s),[],[]⟩:=by
 rw[ao xni];unfold qF
 by_cases h1:s=[]
 ·simp only[go_sem,Q0,Q1,Q2,Q3,Q4,Q5,Q6,Q7,Q8,Q9,Qa,Qb,Qc,Qd,Qe,Qf,Qg,Qh,Qi,Qj,Qk,reduceCtorEq,reduceIte,h1]
 by_cases h2:10<s.length
 ·have h2':(10:Int)<((s.length:Nat):Int):=by omega
  simp only[go_sem,Q0,Q1,Q2,Q3,Q4,Q5,Q6,Q7,Q8,Q9,Qa,Qb,Qc,Qd,Qe,Qf,Qg,Qh,Qi,Qj,Qk,reduceCtorEq,reduceIte,h1,h2,h2']
 have h2':¬(10:Int)<((s.length:Nat):Int):=by omega
 have hp:(0:Int)<((s.length:Nat):Int):=by cases s with|nil=>exact absurd rfl h1|cons c r=>rw[aC];omega
 have h:=l88 s (by omega) _ 0 rfl (by omega);simp only[av,bh]at h
 by_cases h3:1<s.length
 ·have h3':(1:Int)<((s.length:Nat):Int):=by omega
  by_cases h4:s.getD 0 0=48
  ·simp only[go_sem,Q0,Q1,Q2,Q3,Q4,Q5,Q6,Q7,Q8,Q9,Qa,Qb,Qc,Qd,Qe,Qf,Qg,Qh,Qi,Qj,Qk,reduceCtorEq,reduceIte,h1,h2,h2',h3,h3',h4,hp]
  ·cases hd:gY s with
   |true=>simp only[go_sem,Q0,Q1,Q2,Q3,Q4,Q5,Q6,Q7,Q8,Q9,Qa,Qb,Qc,Qd,Qe,Qf,Qg,Qh,Qi,Qj,Qk,reduceCtorEq,reduceIte,h1,h2,h2',h3,h3',h4,hp,h,hd,xkV s h1 (by omega) hd,xaH]
   |false=>simp only[go_sem,Q0,Q1,Q2,Q3,Q4,Q5,Q6,Q7,Q8,Q9,Qa,Qb,Qc,Qd,Qe,Qf,Qg,Qh,Qi,Qj,Qk,reduceCtorEq,reduceIte,h1,h2,h2',h3,h3',h4,hp,h,hd]
 ·have h3':¬(1:Int)<((s.length:Nat):Int):=by omega
  cases hd:gY s with
  |true=>simp only[go_sem,Q0,Q1,Q2,Q3,Q4,Q5,Q6,Q7,Q8,Q9,Qa,Qb,Qc,Qd,Qe,Qf,Qg,Qh,Qi,Qj,Qk,reduceCtorEq,reduceIte,h1,h2,h2',h3,h3',hp,h,hd,xkV s h1 (by omega) hd,xaH]
  |false=>simp only[go_sem,Q0,Q1,Q2,Q3,Q4,Q5,Q6,Q7,Q8,Q9,Qa,Qb,Qc,Qd,Qe,Qf,Qg,Qh,Qi,Qj,Qk,reduceCtorEq,reduceIte,h1,h2,h2',h3,h3',hp,h,hd]
end
section
open Go.Glob
def alw(k:Int)(t:List UInt8)(lo hi:Int)(b:List UInt8):Bool:=
 if chk k t lo hi=0 then
  (if k=2 then decide (b=t)else if k=3 then gl t b else if k=4 then
   (if t.length<=b.length/\b.take t.length=t then(if lo<=qF (b.drop t.length)then decide (qF (b.drop t.length)<=hi)else false)else false)
   else true)
 else false
theorem f35(k:Int)(t:List UInt8)(lo hi:Int)(b:List UInt8)(ht:t.length<=1000000000000)(hb:b.length<=1000000000000):
 call T 35 [.agg [.int .i64 k,.str t,.int .i64 lo,.int .i64 hi],.byt b .no] [] 0=some ⟨.bool (alw k t lo hi b),[],[]⟩:=by
 rw[ao xnX];have h:=f44 k t lo hi ht;unfold alw
 by_cases c0:chk k t lo hi=0
 ·by_cases c2:k=2
  ·subst c2
   by_cases c3:b=t
   ·simp only[go_sem,Q0,Q1,Q2,Q3,Q4,Q5,Q6,Q7,Q8,Q9,Qa,Qb,Qc,Qd,Qe,Qf,Qg,Qh,Qi,Qj,Qk,reduceCtorEq,reduceIte,h,tW,c0,c3]
   ·simp only[go_sem,Q0,Q1,Q2,Q3,Q4,Q5,Q6,Q7,Q8,Q9,Qa,Qb,Qc,Qd,Qe,Qf,Qg,Qh,Qi,Qj,Qk,reduceCtorEq,reduceIte,h,tW,c0,c3]
  by_cases c3:k=3
  ·subst c3
   simp only[go_sem,Q0,Q1,Q2,Q3,Q4,Q5,Q6,Q7,Q8,Q9,Qa,Qb,Qc,Qd,Qe,Qf,Qg,Qh,Qi,Qj,Qk,reduceCtorEq,reduceIte,h,tW,c0,f86 t b ht hb,xoh]
  by_cases c4:k=4
  ·subst c4
   have hn:=f88 (b.drop t.length) (by rw[aH];omega)
   by_cases c5:t.length<=b.length/\b.take t.length=t
   ·by_cases c6:lo<=qF (b.drop t.length)
    ·simp only[go_sem,Q0,Q1,Q2,Q3,Q4,Q5,Q6,Q7,Q8,Q9,Qa,Qb,Qc,Qd,Qe,Qf,Qg,Qh,Qi,Qj,Qk,reduceCtorEq,reduceIte,h,tW,c0,f87,xfB,c5,hn,xfA,c6]
    ·simp only[go_sem,Q0,Q1,Q2,Q3,Q4,Q5,Q6,Q7,Q8,Q9,Qa,Qb,Qc,Qd,Qe,Qf,Qg,Qh,Qi,Qj,Qk,reduceCtorEq,reduceIte,h,tW,c0,f87,xfB,c5,hn,xfA,c6]
   ·simp only[go_sem,Q0,Q1,Q2,Q3,Q4,Q5,Q6,Q7,Q8,Q9,Qa,Qb,Qc,Qd,Qe,Qf,Qg,Qh,Qi,Qj,Qk,reduceCtorEq,reduceIte,h,tW,c0,f87,xfB,c5,f88 b hb,xfA]
  ·simp only[go_sem,Q0,Q1,Q2,Q3,Q4,Q5,Q6,Q7,Q8,Q9,Qa,Qb,Qc,Qd,Qe,Qf,Qg,Qh,Qi,Qj,Qk,reduceCtorEq,reduceIte,h,tW,c0,c2,c3,c4]
 ·simp only[go_sem,Q0,Q1,Q2,Q3,Q4,Q5,Q6,Q7,Q8,Q9,Qa,Qb,Qc,Qd,Qe,Qf,Qg,Qh,Qi,Qj,Qk,reduceCtorEq,reduceIte,h,tW,c0]
end
section
open Go.Glob
theorem dO(B:List UInt8)(i n:Nat)(h:0<n):dw B i n<n:=by
 unfold dw;split
 ·exact Nat.mod_lt _ h
 ·exact h
def bl(f:Nat->Bool)(n:Nat):List (List SV):=(cj n).map fun i=> [.bool (f i)]
theorem qR(f:Nat->Bool)(n:Nat):(bl f n).length=n:=by simp[bl]
theorem uG(f:Nat->Bool)(n i:Nat)(h:i<n):(bl f n).getD i []=[.bool (f i)]:=by simp[bl,aa,aT,cI h]
theorem kC{f g:Nat->Bool}{n:Nat}(h:∀i,i<n->f i=g i):bl f n=bl g n:=by unfold bl;exact List.map_congr_left fun i hi=>by rw[h i (gX.1 hi)]
theorem Pu(n:Nat):am n [SV.bool false]=bl (fun _=>false) n:=by unfold bl;rw[List.map_const'];simp
theorem Ps(f:Nat->Bool)(n i:Nat)(b:Bool):(bl f n).set i [.bool b]=bl (fun j=>if j=i then b else f j) n:=by
 apply sJ
 ·simp[bl]
 ·intro k h1 h2
  simp only[bl,List.getElem_set,List.getElem_map,List.getElem_range]
  by_cases h:i=k
  ·rw[if_pos h,if_pos h.symm]
  ·rw[if_neg h,if_neg (fun e=>h e.symm)]
def nx(P L:List UInt8)(k i:Nat):Nat->Bool:=fun j=>decide (j<i)&&rw1 P L (k+1) j
theorem ZV{P L:List UInt8}{k i j:Nat}(h:j<i):nx P L k i j=rw1 P L (k+1) j:=by unfold nx;rw[decide_eq_true h,Bool.true_and]
theorem xlP(P L:List UInt8)(k n:Nat):bl (nx P L k 0) n=bl (fun _=>false) n:=kC fun j _=>by simp[nx]
theorem oe{P L:List UInt8}{k i n:Nat}{b:Bool}(hb:rw1 P L (k+1) i=b):(bl (nx P L k i) n).set i [.bool b]=bl (nx P L k (i+1)) n:=by
 rw[Ps];refine kC fun j _=> ?_
 unfold nx
 by_cases h:j=i
 ·subst h;rw[if_pos rfl,hb];simp
 ·rw[if_neg h]
  by_cases h2:j<i
  ·rw[decide_eq_true h2,decide_eq_true (by omega:j<i+1)]
  ·rw[decide_eq_false h2,decide_eq_false (by omega:¬j<i+1)]
theorem SA{P L:List UInt8}{k i n:Nat}(hb:rw1 P L (k+1) i=false):bl (nx P L k i) n=bl (nx P L k (i+1)) n:=by
 refine kC fun j _=> ?_
 unfold nx
 by_cases h:j=i
 ·subst h;rw[hb];simp
 ·by_cases h2:j<i
  ·rw[decide_eq_true h2,decide_eq_true (by omega:j<i+1)]
  ·rw[decide_eq_false h2,decide_eq_false (by omega:¬j<i+1)]
theorem xif(P L:List UInt8)(k:Nat)(hk:k<P.length)(hL:L.length<=1000000000000):∀(n i:Nat),L.length+1-i=n->i<=L.length+1->
 run T (.loop sX) ⟨[(0,.str P),(1,.byt L .no),(5,.lst 1 (bl (rw1 P L k) (L.length+1)) .clip),(6,.int .i64 k),(7,.psl 124 1 0 (L.length+1) (some (L.length+1))),(8,.int .i64 i)],[(124,.arr 1 (bl (nx P L k i) (L.length+1)))],[]⟩=
 some (.x 2,⟨[(0,.str P),(1,.byt L .no),(6,.int .i64 k),(7,.psl 124 1 0 (L.length+1) (some (L.length+1)))],[(124,.arr 1 (bl (rw1 P L (k+1)) (L.length+1)))],[]⟩):=by
 intro n;induction n with
 |zero=>
  intro i h0 h1;have hi:i=L.length+1:=by omega
  subst hi;have e:bl (nx P L k (L.length+1)) (L.length+1)=bl (rw1 P L (k+1)) (L.length+1):=kC fun j hj=>ZV hj
  have c:¬(L.length+1)<=L.length:=by omega
  rw[ai];simp only[go_sem,Q0,Q1,Q2,Q3,Q4,Q5,Q6,Q7,Q8,Q9,Qa,Qb,Qc,Qd,Qe,Qf,Qg,Qh,Qi,Qj,Qk,reduceCtorEq,reduceIte,c,e]
 |succ n ih=>
  intro i h0 h1;have hi:i<=L.length:=by omega
  have hi2:i<L.length+1:=by omega
  have hi3:(i:Int)<((L.length+1:Nat):Int):=by omega
  have e1:=cg i (by omega);have ih':=ih (i+1) (by omega) (by omega);have hg:=uG (rw1 P L k) (L.length+1) i hi2;have hlen:=qR (rw1 P L k) (L.length+1);have hlen2:=qR (nx P L k i) (L.length+1);rw[ai]
  by_cases h42:P.getD k 0=42
  ·have hs:=FZ P L k i hk hi h42
   cases hr:rw1 P L k i with
   |true=>rw[hr,im]at hs;rw[hr]at hg;have hset:=oe (n:=L.length+1) hs;simp only[go_sem,Q0,Q1,Q2,Q3,Q4,Q5,Q6,Q7,Q8,Q9,Qa,Qb,Qc,Qd,Qe,Qf,Qg,Qh,Qi,Qj,Qk,reduceCtorEq,reduceIte,hi,hi2,hi3,hk,h42,hg,hlen,hlen2,hset,e1,ih']
   |false=>
    rw[hr,dD]at hs;rw[hr]at hg
    by_cases hp:0<i
    ·have hp':(0:Int)<(i:Int):=by omega
     rw[decide_eq_true hp,Bool.true_and]at hs;have hset:=oe (n:=L.length+1) hs;have e2:ac.wrap ((i:Int)-1)=((i-1:Nat):Int):=wZ (by omega)
     have hg2:=uG (nx P L k i) (L.length+1) (i-1) (by omega);rw[ZV (by omega)]at hg2;have hi4:i-1<L.length+1:=by omega
     simp only[go_sem,Q0,Q1,Q2,Q3,Q4,Q5,Q6,Q7,Q8,Q9,Qa,Qb,Qc,Qd,Qe,Qf,Qg,Qh,Qi,Qj,Qk,reduceCtorEq,reduceIte,hi,hi2,hi3,hi4,hk,h42,hg,hg2,hp,hp',hlen,hlen2,hset,e1,e2,ih']
    ·have hp':¬(0:Int)<(i:Int):=by omega
     rw[decide_eq_false hp,Fb]at hs;have hset:=oe (n:=L.length+1) hs;simp only[go_sem,Q0,Q1,Q2,Q3,Q4,Q5,Q6,Q7,Q8,Q9,Qa,Qb,Qc,Qd,Qe,Qf,Qg,Qh,Qi,Qj,Qk,reduceCtorEq,reduceIte,hi,hi2,hi3,hk,h42,hg,hp,hp',hlen,hlen2,hset,e1,ih']
  ·by_cases hp:0<i
   ·have hp':(0:Int)<(i:Int):=by omega
    have e2:ac.wrap ((i:Int)-1)=((i-1:Nat):Int):=wZ (by omega)
    have hs:=F0 P L k (i-1) hk (by omega) h42;rw[show i-1+1=i from by omega]at hs;have hg2:=uG (rw1 P L k) (L.length+1) (i-1) (by omega);have hi4:i-1<L.length+1:=by omega
    have hi5:i-1<L.length:=by omega
    cases hr:rw1 P L k (i-1)with
    |false=>rw[hr]at hs hg2;rw[Fb]at hs;have hset:=oe (n:=L.length+1) hs;simp only[go_sem,Q0,Q1,Q2,Q3,Q4,Q5,Q6,Q7,Q8,Q9,Qa,Qb,Qc,Qd,Qe,Qf,Qg,Qh,Qi,Qj,Qk,reduceCtorEq,reduceIte,hi,hi2,hi3,hi4,hi5,hk,h42,hg2,hp,hp',hlen,hlen2,hset,e1,e2,ih']
    |true=>
     rw[hr]at hs hg2;rw[Bool.true_and]at hs
     by_cases h63:P.getD k 0=63
     ·rw[decide_eq_true h63,im]at hs
      have hset:=oe (n:=L.length+1) hs;have c63:¬(63:UInt8)=42:=by decide
      simp only[go_sem,Q0,Q1,Q2,Q3,Q4,Q5,Q6,Q7,Q8,Q9,Qa,Qb,Qc,Qd,Qe,Qf,Qg,Qh,Qi,Qj,Qk,reduceCtorEq,reduceIte,hi,hi2,hi3,hi4,hi5,hk,h63,c63,hg2,hp,hp',hlen,hlen2,hset,e1,e2,ih']
     ·rw[decide_eq_false h63,dD]at hs
      have hset:=oe (n:=L.length+1) hs;simp only[go_sem,Q0,Q1,Q2,Q3,Q4,Q5,Q6,Q7,Q8,Q9,Qa,Qb,Qc,Qd,Qe,Qf,Qg,Qh,Qi,Qj,Qk,reduceCtorEq,reduceIte,hi,hi2,hi3,hi4,hi5,hk,h42,h63,hg2,hp,hp',hlen,hlen2,hset,e1,e2,ih']
   ·have hp':¬(0:Int)<(i:Int):=by omega
    have hi0:i=0:=by omega
    have hs:rw1 P L (k+1) i=false:=by rw[hi0];exact DP P L k hk h42
    rw[<-SA hs]at ih';simp only[go_sem,Q0,Q1,Q2,Q3,Q4,Q5,Q6,Q7,Q8,Q9,Qa,Qb,Qc,Qd,Qe,Qf,Qg,Qh,Qi,Qj,Qk,reduceCtorEq,reduceIte,hi,hi2,hi3,hk,h42,hp,hp',e1,ih']
theorem xie(P L:List UInt8)(hP:P.length<=1000000000000)(hL:L.length<=1000000000000):∀(n k:Nat),P.length-k=n->k<=P.length->
 run T (.loop sW) ⟨[(0,.str P),(1,.byt L .no),(5,.lst 1 (bl (rw1 P L k) (L.length+1)) .clip),(6,.int .i64 k)],[],[]⟩=
 some (.x 0,⟨[(1,.byt L .no),(5,.lst 1 (bl (rw1 P L P.length) (L.length+1)) .clip)],[],[]⟩):=by
 intro n;induction n with
 |zero=>
  intro k h0 h1;have hk:k=P.length:=by omega
  subst hk;rw[ai];simp only[go_sem,Q0,Q1,Q2,Q3,Q4,Q5,Q6,Q7,Q8,Q9,Qa,Qb,Qc,Qd,Qe,Qf,Qg,Qh,Qi,Qj,Qk,reduceCtorEq,reduceIte]
 |succ n ih=>
  intro k h0 h1;have hk:k<P.length:=by omega
  have e1:=cg k (by omega);have e2:=cg L.length (by omega);have ih':=ih (k+1) (by omega) (by omega);have h:=xif P L k hk hL _ 0 rfl (by omega);rw[xlP,<-Pu]at h;have hb:((L.length+1:Nat):Int)<=9223372036854775807:=by omega
  have hb2:((L.length+1:Nat):Int)<=140737488355328:=by omega
  have hlen:=qR (rw1 P L (k+1)) (L.length+1);have ht:(bl (rw1 P L (k+1)) (L.length+1)).take (L.length+1)=bl (rw1 P L (k+1)) (L.length+1):=ay (by rw[hlen];omega);rw[ai];simp only[av]at h;simp only[go_sem,Q0,Q1,Q2,Q3,Q4,Q5,Q6,Q7,Q8,Q9,Qa,Qb,Qc,Qd,Qe,Qf,Qg,Qh,Qi,Qj,Qk,reduceCtorEq,reduceIte,hk,e1,e2,hb,hb2,c1,Int.one_mul,h,hlen,ht,ih']
theorem xmR(P L:List UInt8)(hP:P.length<=1000000000000)(hL:L.length<=1000000000000):call T 126 [.str P,.byt L .no] [] 0=some ⟨.bool (gl P L),[],[]⟩:=by
 rw[ao xi1];have e2:=cg L.length (by omega);have h:=xie P L hP hL _ 0 rfl (by omega);have hb:((L.length+1:Nat):Int)<=9223372036854775807:=by omega
 have hb2:((L.length+1:Nat):Int)<=140737488355328:=by omega
 have hb3:(0:Int)<((L.length+1:Nat):Int):=by omega
 have h0:0<L.length+1:=by omega
 have hset:(bl (fun _=>false) (L.length+1)).set 0 [.bool true]=bl (rw1 P L 0) (L.length+1):=by rw[Ps];exact kC fun i hi=>by rw[xcr P L i (by omega)];by_cases hi0:i=0<;>simp[hi0]
 have hset2:(am (L.length+1) [SV.bool false]).set 0 [.bool true]=bl (rw1 P L 0) (L.length+1):=by rw[Pu];exact hset
 have hlen:=qR (rw1 P L 0) (L.length+1);have ht:(bl (rw1 P L 0) (L.length+1)).take (L.length+1)=bl (rw1 P L 0) (L.length+1):=ay (by rw[hlen];omega);have hlen2:=qR (rw1 P L P.length) (L.length+1);have hg:=uG (rw1 P L P.length) (L.length+1) L.length (by omega);rw[RH]at hg;have hl2:L.length<L.length+1:=by omega
 simp only[av]at h;simp only[go_sem,Q0,Q1,Q2,Q3,Q4,Q5,Q6,Q7,Q8,Q9,Qa,Qb,Qc,Qd,Qe,Qf,Qg,Qh,Qi,Qj,Qk,reduceCtorEq,reduceIte,e2,hb,hb2,hb3,h0,c1,Int.one_mul,h,hlen,hlen2,ht,hset2,hg,hl2]
end
section
open Go.Glob
def gh:Nat->List UInt8
 |0=> [97,61,49]
 |1=> [99,111,117,110,116,61,53]
 |2=> [99,111,117,110,116,61,49,55]
 |3=> [104,111,115,116,61,120]
 |4=> [109,111,100,101,32,98]
 |_=> [126]
def E4:Nat->List UInt8
 |0=> []
 |1=> [42]
 |2=> [97,61,63]
 |3=> [42,61,42]
 |4=> [63,111,42,53]
 |5=> [99,111,117,110,116,61,63,63]
 |_=> [42,97,42,42,49,42]
def ZW:Nat->List UInt8
 |0=> [99,111,117,110,116,61]
 |1=> [97,61]
 |_=> []
theorem vK:∀v,v<6->chk 2 (gh v) 0 0=0/\(gh v).length<=20:=by decide
theorem vN:∀v,v<7->chk 3 (E4 v) 0 0=0/\(E4 v).length<=20:=by decide
theorem tc:∀v,v<3->prn (ZW v)=true/\(ZW v).length<=20:=by decide
theorem cz0:((0:Nat):Int)=0:=rfl
theorem cz1:((1:Nat):Int)=1:=rfl
theorem cz2:((2:Nat):Int)=2:=rfl
theorem cz3:((3:Nat):Int)=3:=rfl
theorem cz4:((4:Nat):Int)=4:=rfl
theorem cz5:((5:Nat):Int)=5:=rfl
theorem cz6:((6:Nat):Int)=6:=rfl
theorem cz7:((7:Nat):Int)=7:=rfl
theorem f73(B:List UInt8)(i:Nat)(hB:B.length<=1000):call T 73 [.ptr 0 0] [aR B i] 0=some ⟨.byt (gh (dw B i 6)) .no,[(0,aR B (cy B i))],[]⟩:=by
 rw[ao xnw];have g:=f71 B i 6 (by omega) (by omega);have hm:=dO B i 6 (by omega);rw[cz6]at g;generalize dw B i 6=v at g hm;simp only[aR]at g;have:v=0\/v=1\/v=2\/v=3\/v=4\/v=5:=by omega
 rcases this with rfl|rfl|rfl|rfl|rfl|rfl<;>simp only[cz0,cz1,cz2,cz3,cz4,cz5]at g<;>simp only[go_sem,Q0,Q1,Q2,Q3,Q4,Q5,Q6,Q7,Q8,Q9,Qa,Qb,Qc,Qd,Qe,Qf,Qg,Qh,Qi,Qj,Qk,reduceCtorEq,reduceIte,List.all_replicate,cz0,cz1,cz2,cz3,cz4,cz5,cz6,cz7,aR,g,fH,gh]
theorem TH(t:List UInt8)(ht:prn t=true)(hl:t.length<=20)(a b:Nat)(ha:a<1000)(hb:b<1000):chk 4 t a ((a:Int)+b)=0:=by unfold chk;rw[if_neg (by omega),if_neg (by omega),if_pos ht,if_pos rfl,if_neg (by omega),if_neg (by omega),if_neg (by omega),if_neg (by omega)]
theorem xm3(B:List UInt8)(i:Nat)(hB:B.length<=1000):∃(k:Int)(t:List UInt8)(lo hi:Int)(j:Nat),chk k t lo hi=0/\t.length<=20/\
 call T 103 [.ptr 0 0] [aR B i] 0=some ⟨.agg [.int .i64 k,.str t,.int .i64 lo,.int .i64 hi],[(0,aR B j)],[]⟩:=by
 rw[ao E6];have g:=f71 B i 5 (by omega) (by omega);have hm:=dO B i 5 (by omega);rw[cz5]at g;generalize dw B i 5=v at g hm;simp only[aR]at g;have hv:v=0\/v=1\/v=2\/v=3\/v=4:=by omega
 generalize cy B i=i1 at g;have g7:=f71 B i1 7 (by omega) (by omega);have h7:=dO B i1 7 (by omega);have g20:=f71 B i1 20 (by omega) (by omega);have h20:=dO B i1 20 (by omega);have g3:=f71 B (cy B i1) 3 (by omega) (by omega);have h3:=dO B (cy B i1) 3 (by omega);have g30:=f71 B (cy B (cy B i1)) 30 (by omega) (by omega);have h30:=dO B (cy B (cy B i1)) 30 (by omega);have hl:=f73 B i1 hB;have h6:=dO B i1 6 (by omega);simp only[aR]at g7 g20 g3 g30 hl;rw[cz7]at g7;rw[c20]at g20;rw[cz3]at g3;rw[c30]at g30;generalize dw B i1 6=v6 at*;generalize dw B i1 7=v7 at*;generalize dw B i1 20=v20 at*;generalize dw B (cy B i1) 3=v3 at*;generalize dw B (cy B (cy B i1)) 30=v30 at*
 have hN:v=3\/v=4->∃(k:Int)(t:List UInt8)(lo hi:Int)(j:Nat),chk k t lo hi=0/\t.length<=20/\
  call T 103 [.ptr 0 0] [aR B i] 0=some ⟨.agg [.int .i64 k,.str t,.int .i64 lo,.int .i64 hi],[(0,aR B j)],[]⟩:=by
  intro hv;refine⟨4,ZW v3,v20,(v20:Int)+v30,cy B (cy B (cy B i1)),TH _ (tc _ h3).1 (tc _ h3).2 _ _ (by omega) (by omega),(tc _ h3).2, ?_⟩;have e:ac.wrap ((v20:Int)+(v30:Int))=(v20:Int)+v30:=w64 (by omega) (by omega);rw[ao E6];have:v3=0\/v3=1\/v3=2:=by omega
  rcases hv with rfl|rfl<;>rcases this with rfl|rfl|rfl<;>simp only[cz0,cz1,cz2,cz3,cz4]at g g3<;>simp only[go_sem,Q0,Q1,Q2,Q3,Q4,Q5,Q6,Q7,Q8,Q9,Qa,Qb,Qc,Qd,Qe,Qf,Qg,Qh,Qi,Qj,Qk,reduceCtorEq,reduceIte,List.all_replicate,cz0,cz1,cz2,cz3,cz4,cz5,cz6,cz7,aR,g,g20,g3,g30,fH,e,ZW]
 rcases hv with rfl|rfl|rfl|rfl|rfl
 ·refine⟨1,[],0,0,i1,by decide,by decide, ?_⟩
  simp only[cz0]at g;simp only[go_sem,Q0,Q1,Q2,Q3,Q4,Q5,Q6,Q7,Q8,Q9,Qa,Qb,Qc,Qd,Qe,Qf,Qg,Qh,Qi,Qj,Qk,reduceCtorEq,reduceIte,List.all_replicate,cz0,cz1,cz2,cz3,cz4,cz5,cz6,cz7,aR,g,fH]
 ·refine⟨2,gh v6,0,0,cy B i1,(vK _ h6).1,(vK _ h6).2, ?_⟩
  simp only[cz1]at g;simp only[go_sem,Q0,Q1,Q2,Q3,Q4,Q5,Q6,Q7,Q8,Q9,Qa,Qb,Qc,Qd,Qe,Qf,Qg,Qh,Qi,Qj,Qk,reduceCtorEq,reduceIte,List.all_replicate,cz0,cz1,cz2,cz3,cz4,cz5,cz6,cz7,aR,g,fH,hl,nG]
 ·refine⟨3,E4 v7,0,0,cy B i1,(vN _ h7).1,(vN _ h7).2, ?_⟩
  simp only[cz2]at g;have:v7=0\/v7=1\/v7=2\/v7=3\/v7=4\/v7=5\/v7=6:=by omega
  rcases this with rfl|rfl|rfl|rfl|rfl|rfl|rfl<;>simp only[cz0,cz1,cz2,cz3,cz4,cz5,cz6]at g7<;>simp only[go_sem,Q0,Q1,Q2,Q3,Q4,Q5,Q6,Q7,Q8,Q9,Qa,Qb,Qc,Qd,Qe,Qf,Qg,Qh,Qi,Qj,Qk,reduceCtorEq,reduceIte,List.all_replicate,cz0,cz1,cz2,cz3,cz4,cz5,cz6,cz7,aR,g,g7,fH,E4]
 ·rw[<-ao E6];exact hN (.inl rfl)
 ·rw[<-ao E6];exact hN (.inr rfl)
end
section
open Go.Glob
def dg(d:Nat):UInt8:=bO ((48+d:Nat):Int)
theorem xaj:∀d,d<10->(dg d).toNat=48+d/\¬dg d<48/\¬57<dg d/\(d≠0->dg d≠48):=by decide
def dec(n:Nat):List UInt8:=if h:n<10 then [dg n]else dec (n/10)++ [dg (n % 10)]
termination_by n
decreasing_by omega
theorem eh{n:Nat}(h:n<10):dec n=[dg n]:=by rw[dec,dif_pos h]
theorem cm{n:Nat}(h:¬n<10):dec n=dec (n/10)++ [dg (n % 10)]:=by rw[dec,dif_neg h]
theorem TB:∀n,(dec n).length<=n+1:=by
 intro n;induction n using Nat.strongRecOn with
 |_ n ih=>
  by_cases h:n<10
  ·rw[eh h];simp
  ·have:=ih (n/10) (by omega)
   rw[cm h,af,aM];omega
theorem xfj(n:Nat):dec n≠ []:=by
 by_cases h:n<10
 ·rw[eh h];simp
 ·rw[cm h];simp
theorem kB:∀k n,n<10^(k+1)->(dec n).length<=k+1
 |0,n,h=>by rw[eh (by simpa using h)];simp
 |k+1,n,h=>by
  by_cases h1:n<10
  ·rw[eh h1];simp
  ·have:=kB k (n/10) (by rw[Nat.pow_succ]at h;omega)
   rw[cm h1,af,aM];omega
theorem CX:∀(s t:List UInt8)(a:Nat),num a (s++t)=num (num a s) t
 |[],_,_=>rfl
 |c::s,t,a=>CX s t _
theorem Gq(s:List UInt8)(c:UInt8)(a:Nat):num a (s++ [c])=num a s*10+(c.toNat-48):=by rw[CX];rfl
theorem kS(c:UInt8)(s:List UInt8):gY (c::s)=(decide (¬c<48/\¬57<c)&&gY s):=by
 simp only[gY]
 by_cases h1:c<48
 ·rw[if_pos h1,decide_eq_false (by simp[h1])];rfl
 ·by_cases h2:57<c
  ·rw[if_neg h1,if_pos h2,decide_eq_false (by simp[h2])];rfl
  ·rw[if_neg h1,if_neg h2,decide_eq_true ⟨h1,h2⟩];rfl
theorem wh:∀s t:List UInt8,gY (s++t)=(gY s&&gY t)
 |[],_=>rfl
 |c::s,t=>by rw[aJ,kS,kS,wh s t,Bool.and_assoc]
theorem G6{c:UInt8}(h:gY [c]=true):¬c<48/\¬57<c:=by rw[kS,az,decide_eq_true_eq]at h;exact h.1
theorem vM{s t:List UInt8}(h:s≠ []):(s++t).getD 0 0=s.getD 0 0:=by
 cases s with
 |nil=>exact absurd rfl h
 |cons c s=>rfl
theorem Ha:∀n,1<=n->(dec n).getD 0 0≠48:=by
 intro n;induction n using Nat.strongRecOn with
 |_ n ih=>
  intro h1
  by_cases h:n<10
  ·rw[eh h];exact(xaj n h).2.2.2 (by omega)
  ·rw[cm h,vM (xfj _)];exact ih (n/10) (by omega) (by omega)
theorem xak(c:UInt8)(h1:¬c<48)(h2:¬57<c):dg (c.toNat-48)=c/\c.toNat-48<10:=by
 have h1':48<=c.toNat:=by simpa[ey]using h1
 have h2':c.toNat<=57:=by simpa[ey]using h2
 have h3:c.toNat-48<10:=by omega
 refine⟨?_,h3⟩;apply sB.1;rw[(xaj _ h3).1];omega
theorem G9(N:Nat)(r:List UInt8)(c:UInt8)(h1:¬c<48)(h2:¬57<c)(e1:dec N=r)(e2:1<=N):dec (N*10+(c.toNat-48))=r++ [c]/\1<=N*10+(c.toNat-48):=by
 obtain⟨q1,q2⟩:=xak c h1 h2;generalize c.toNat-48=d at*;have h3:¬N*10+d<10:=by omega
 refine⟨?_,by omega⟩;rw[cm h3,show(N*10+d)/10=N from by omega,show(N*10+d) % 10=d from by omega,e1,q1]
theorem Tz(c:UInt8)(h1:¬c<48)(h2:¬57<c)(hc:c≠48):dec (c.toNat-48)=[c]/\1<=c.toNat-48:=by
 obtain⟨q1,q2⟩:=xak c h1 h2;have h1':48<=c.toNat:=by simpa[ey]using h1
 have:c.toNat≠48:=fun e=>hc (sB.1 e)
 have h3:1<=c.toNat-48:=by omega
 exact⟨by rw[eh q2,q1],h3⟩
theorem SB(c:UInt8):num 0 [c]=c.toNat-48:=by show 0*10+(c.toNat-48)=_;generalize c.toNat-48=d;omega
theorem TA:∀(n:Nat)(s:List UInt8),s.length=n->gY s=true->s≠ []->s.getD 0 0≠48->dec (num 0 s)=s/\1<=num 0 s:=by
 intro n;induction n with
 |zero=>intro s h _ h0;exact absurd (bi.1 h) h0
 |succ n ih=>
  intro s hl hd h0 hh;obtain⟨r,c,rfl⟩:∃r c,s=r++ [c]:=⟨s.dropLast,s.getLast h0,(List.dropLast_concat_getLast h0).symm⟩;rw[wh,az]at hd;obtain⟨h1,h2⟩:=G6 hd.2;rcases Classical.em (r=[])with hr|hr
  ·subst hr
   have hc:c≠48:=hh;rw[aF,SB];exact Tz c h1 h2 hc
  ·rw[vM hr]at hh
   obtain⟨e1,e2⟩:=ih r (by simpa using hl) hd.1 hr hh;rw[Gq];generalize num 0 r=N at*;exact G9 N r c h1 h2 e1 e2
theorem SD{s:List UInt8}(h0:s≠ [])(h1:s.length<=10)(h2:gY s=true):qF s=if dec (num 0 s)=s then((num 0 s:Nat):Int)else-1:=by
 unfold qF;rw[if_neg h0,if_neg (show ¬10<s.length by omega)]
 by_cases h3:1<s.length/\s.getD 0 0=48
 ·rw[if_pos h3,if_neg]
  intro e
  by_cases hz:1<=num 0 s
  ·have:=Ha _ hz
   rw[e]at this;exact this h3.2
  ·rw[show num 0 s=0 from by omega,eh (by omega)]at e
   have:=h3.1;rw[<-e]at this;simp at this
 ·rw[if_neg h3,if_pos h2,if_pos]
  by_cases hh:s.getD 0 0=48
  ·have hl:s.length=1:=by
    have:s.length≠0:=fun e=>h0 (bi.1 e)
    have h4:¬1<s.length:=fun q=>h3 ⟨q,hh⟩
    omega
   match s,hl with
   |[c],_=>have hc:c=48:=hh;subst hc;rw[show num 0 [48]=0 from rfl,eh (by omega)];rfl
  ·exact(TA _ s rfl h2 h0 hh).1
theorem SC{s:List UInt8}(h2:gY s=false):qF s= -1:=by
 unfold qF;rw[h2]
 repeat' split
 all_goals first|rfl|(rename_i h;cases h)
theorem D0{s:List UInt8}(h:10<s.length):qF s= -1:=by
 unfold qF;split
 ·rfl
 ·first|rfl|rw[if_pos h]
theorem f85:∀n:Nat,n<=1000000000000->call T 85 [.int .i64 n] [] 0=some ⟨.byt (dec n) (.id 60),[],[60]⟩:=by
 intro n;induction n using Nat.strongRecOn with
 |_ n ih=>
  intro hn;rw[ao xnl]
  by_cases h:n<10
  ·have h':(n:Int)<10:=by omega
   have e1:ac.wrap (48+(n:Int))=((48+n:Nat):Int):=wZ (by omega)
   have e2:bO ((48+n:Nat):Int)=dg n:=rfl;simp only[go_sem,Q0,Q1,Q2,Q3,Q4,Q5,Q6,Q7,Q8,Q9,Qa,Qb,Qc,Qd,Qe,Qf,Qg,Qh,Qi,Qj,Qk,reduceCtorEq,reduceIte,h',e1,e2,eh h]
  ·have h':¬(n:Int)<10:=by omega
   have i1:=ih (n/10) (by omega) (by omega);have e0:(n:Int).tdiv 10=((n/10:Nat):Int):=rfl;have e0':(n:Int).tmod 10=((n % 10:Nat):Int):=rfl;have e00:ac.wrap ((n/10:Nat):Int)=((n/10:Nat):Int):=w64 (by omega) (by omega);have e1:ac.wrap (48+((n % 10:Nat):Int))=((48+n % 10:Nat):Int):=wZ (by omega)
   have e2:bO ((48+n % 10:Nat):Int)=dg (n % 10):=rfl;have hl:=TB (n/10);have hl2:(dec (n/10)).length+1<=140737488355328:=by omega
   simp only[go_sem,Q0,Q1,Q2,Q3,Q4,Q5,Q6,Q7,Q8,Q9,Qa,Qb,Qc,Qd,Qe,Qf,Qg,Qh,Qi,Qj,Qk,reduceCtorEq,reduceIte,h',i1,e0,e0',e00,e1,e2,hl2,T1,cm h]
theorem l84(b:List UInt8)(k:Int)(t:List UInt8)(lo hi:Int)(nn:Int):∀(m i v j:Nat),b.length-i=m->i<=b.length->b.length<=1000000000000->v<10^j->j+m<=10->
 run T (.loop yj) ⟨[(1,.byt b .no),(2,.ptr 102 0),(5,.int .i64 nn),(6,.int .i64 v),(7,.int .i64 i)],[(102,.rc [.int .i64 k,.str t,.int .i64 lo,.int .i64 hi])],[]⟩=
 if gY (b.drop i)then some (.x 1,⟨[(1,.byt b .no),(2,.ptr 102 0),(5,.int .i64 nn),(6,.int .i64 (num v (b.drop i):Nat))],[(102,.rc [.int .i64 k,.str t,.int .i64 lo,.int .i64 hi])],[]⟩)
 else some (.r,⟨[(4,.bool false)],[(102,.rc [.int .i64 k,.str t,.int .i64 lo,.int .i64 hi])],[]⟩):=by
 intro m;induction m with
 |zero=>
  intro i v j h0 h1 hb hv hj;have hi:i=b.length:=by omega
  subst hi;have hn:num v (b.drop b.length)=v:=by rw[aX];rfl
  have hd:gY (b.drop b.length)=true:=by rw[aX];rfl
  rw[ai,hd,hn];simp only[go_sem,Q0,Q1,Q2,Q3,Q4,Q5,Q6,Q7,Q8,Q9,Qa,Qb,Qc,Qd,Qe,Qf,Qg,Qh,Qi,Qj,Qk,reduceCtorEq,reduceIte]
 |succ m ih=>
  intro i v j h0 h1 hb hv hj;have hi:i<b.length:=by omega
  have e1:=cg i (by omega);have hn:num v (b.drop i)=num (v*10+((b.getD i 0).toNat-48)) (b.drop (i+1)):=by rw[cN b i hi];rfl
  have hd:gY (b.drop i)=(if b.getD i 0<48 then false else if 57<b.getD i 0 then false else gY (b.drop (i+1))):=by rw[cN b i hi];rfl
  rw[ai,hd,hn]
  by_cases h2:b.getD i 0<48
  ·simp only[go_sem,Q0,Q1,Q2,Q3,Q4,Q5,Q6,Q7,Q8,Q9,Qa,Qb,Qc,Qd,Qe,Qf,Qg,Qh,Qi,Qj,Qk,reduceCtorEq,reduceIte,hi,e1,h2]
  ·by_cases h3:57<b.getD i 0
   ·simp only[go_sem,Q0,Q1,Q2,Q3,Q4,Q5,Q6,Q7,Q8,Q9,Qa,Qb,Qc,Qd,Qe,Qf,Qg,Qh,Qi,Qj,Qk,reduceCtorEq,reduceIte,hi,e1,h2,h3]
   ·obtain⟨q1,q2,q3⟩:=tw _ h2 h3
    have hp:10^j<=10^9:=Nat.pow_le_pow_right (by omega) (by omega);have hv9:v<1000000000:=by have:(10:Nat)^9=1000000000:=rfl;omega
    have hv':v*10+((b.getD i 0).toNat-48)<10^(j+1):=by rw[Nat.pow_succ];omega
    have ih':=ih (i+1) (v*10+((b.getD i 0).toNat-48)) (j+1) (by omega) (by omega) hb hv' (by omega);have e2:ac.wrap (10*(v:Int))=((10*v:Nat):Int):=wZ (by omega)
    have e3:ac.wrap (((10*v:Nat):Int)+((b.getD i 0-48).toNat:Nat))=((v*10+((b.getD i 0).toNat-48):Nat):Int):=by rw[q1,w64 (by omega) (by omega)];omega
    generalize v*10+((b.getD i 0).toNat-48)=v' at*;simp only[go_sem,Q0,Q1,Q2,Q3,Q4,Q5,Q6,Q7,Q8,Q9,Qa,Qb,Qc,Qd,Qe,Qf,Qg,Qh,Qi,Qj,Qk,reduceCtorEq,reduceIte,hi,e1,h2,h3,e2,e3,ih']
theorem xiy{k lo hi:Int}{t b:List UInt8}(hk:k=4)(hc:chk k t lo hi=0):0<=lo:=by
 subst hk;unfold chk at hc
 by_cases h:prn t=true
 ·rw[if_neg (by omega),if_neg (by omega),if_pos h,if_pos rfl]at hc
  by_cases h1:lo<0
  ·rw[if_pos h1]at hc;cases hc
  ·omega
 ·rw[if_neg (by omega),if_neg (by omega),if_neg h]at hc;cases hc
theorem f84(k:Int)(t:List UInt8)(lo hi:Int)(b:List UInt8)(ht:t.length<=1000000000000)(hb:b.length<=1000000000000):
 call T 84 [.agg [.int .i64 k,.str t,.int .i64 lo,.int .i64 hi],.byt b .no] [] 0=some ⟨.bool (alw k t lo hi b),[],[]⟩:=by
 rw[ao xnm];have h:=f47 k t lo hi ht;unfold alw
 by_cases c0:chk k t lo hi=0
 ·by_cases c1:k=1
  ·subst c1
   simp only[go_sem,Q0,Q1,Q2,Q3,Q4,Q5,Q6,Q7,Q8,Q9,Qa,Qb,Qc,Qd,Qe,Qf,Qg,Qh,Qi,Qj,Qk,reduceCtorEq,reduceIte,h,mP,c0]
  by_cases c2:k=2
  ·subst c2
   have g:=f19 t b
   by_cases c3:b=t
   ·subst c3
    have g:=f19 b b (by omega);simp only[go_sem,Q0,Q1,Q2,Q3,Q4,Q5,Q6,Q7,Q8,Q9,Qa,Qb,Qc,Qd,Qe,Qf,Qg,Qh,Qi,Qj,Qk,reduceCtorEq,reduceIte,h,mP,c0,g,jB]
   ·have c3':¬t=b:=fun e=>c3 e.symm
    have g:=f19 t b (by omega);simp only[go_sem,Q0,Q1,Q2,Q3,Q4,Q5,Q6,Q7,Q8,Q9,Qa,Qb,Qc,Qd,Qe,Qf,Qg,Qh,Qi,Qj,Qk,reduceCtorEq,reduceIte,h,mP,c0,g,jB,c3,c3']
  by_cases c3:k=3
  ·subst c3
   simp only[go_sem,Q0,Q1,Q2,Q3,Q4,Q5,Q6,Q7,Q8,Q9,Qa,Qb,Qc,Qd,Qe,Qf,Qg,Qh,Qi,Qj,Qk,reduceCtorEq,reduceIte,h,mP,c0,xmR t b ht hb,xjx]
  have c4:k=4:=by
   unfold chk at c0
   by_cases q1:k<1
   ·rw[if_pos q1]at c0;cases c0
   by_cases q2:4<k
   ·rw[if_neg q1,if_pos q2]at c0;cases c0
   omega
  have hlo:=xiy (b:=b) c4 c0;subst c4;have e1:ac.wrap ((t.length:Int)+10)=((t.length+10:Nat):Int):=wZ (by omega)
  have hneg:¬lo<= -1:=by omega
  by_cases d1:b.length<=t.length
  ·have hv:(t.length<=b.length/\b.take t.length=t)->qF (b.drop t.length)= -1:=by
    rintro⟨q,_⟩;rw[bo d1];rfl
   by_cases q:t.length<=b.length/\b.take t.length=t
   ·rw[if_pos q,hv q]
    simp only[go_sem,Q0,Q1,Q2,Q3,Q4,Q5,Q6,Q7,Q8,Q9,Qa,Qb,Qc,Qd,Qe,Qf,Qg,Qh,Qi,Qj,Qk,reduceCtorEq,reduceIte,h,mP,c0,d1,hneg]
   ·simp only[go_sem,Q0,Q1,Q2,Q3,Q4,Q5,Q6,Q7,Q8,Q9,Qa,Qb,Qc,Qd,Qe,Qf,Qg,Qh,Qi,Qj,Qk,reduceCtorEq,reduceIte,h,mP,c0,d1,q]
  by_cases d2:t.length+10<b.length
  ·have hv:qF (b.drop t.length)= -1:=D0 (by rw[aH];omega)
   rw[hv]
   by_cases q:t.length<=b.length/\b.take t.length=t
   ·simp only[go_sem,Q0,Q1,Q2,Q3,Q4,Q5,Q6,Q7,Q8,Q9,Qa,Qb,Qc,Qd,Qe,Qf,Qg,Qh,Qi,Qj,Qk,reduceCtorEq,reduceIte,h,mP,c0,d1,d2,e1,hneg,q]
   ·simp only[go_sem,Q0,Q1,Q2,Q3,Q4,Q5,Q6,Q7,Q8,Q9,Qa,Qb,Qc,Qd,Qe,Qf,Qg,Qh,Qi,Qj,Qk,reduceCtorEq,reduceIte,h,mP,c0,d1,d2,e1,hneg,q]
  have d3:t.length<=b.length:=by omega
  have g:=f19 t (b.take t.length) (by omega)
  by_cases q:b.take t.length=t
  ·rw[q]at g
   have hl:=l84 b 4 t lo hi t.length _ t.length 0 0 rfl d3 hb (by simp) (by omega);simp only[av]at hl
   have hne:b.drop t.length≠ []:=by intro e;have:=congrArg qV e;rw[aH]at this;simp at this;omega
   have hl10:(b.drop t.length).length<=10:=by rw[aH];omega
   cases hd:gY (b.drop t.length)with
   |false=>rw[SC hd];rw[hd]at hl;simp only[go_sem,Q0,Q1,Q2,Q3,Q4,Q5,Q6,Q7,Q8,Q9,Qa,Qb,Qc,Qd,Qe,Qf,Qg,Qh,Qi,Qj,Qk,reduceCtorEq,reduceIte,h,mP,c0,d1,d2,d3,e1,hneg,q,g,jB,hl]
   |true=>
    rw[SD hne hl10 hd];rw[hd]at hl;generalize hr:b.drop t.length=r at*
    have hnb:num 0 r<=1000000000000:=by
     have key:∀(s:List UInt8)(a j:Nat),gY s=true->a<10^j->num a s<10^(j+s.length):=by
      intro s;induction s with
      |nil=>intro a j _ h;exact h
      |cons c s ih=>intro a j hd ha;rw[kS,az,decide_eq_true_eq]at hd;obtain⟨_,_,q3⟩:=tw c hd.1.1 hd.1.2;have:=ih (a*10+(c.toNat-48)) (j+1) hd.2 (by rw[Nat.pow_succ];omega);rw[aC,show j+(s.length+1)=j+1+s.length from by omega];exact this
     have h1:=key r 0 0 hd (by simp);have h2:10^(0+r.length)<=10^10:=Nat.pow_le_pow_right (by omega) (by omega);have:(10:Nat)^10=10000000000:=rfl;omega
    have g2:=f85 (num 0 r) hnb;have g3:=f19 (dec (num 0 r)) r (by have:=kB 12 (num 0 r) (by have:(10:Nat)^13=10000000000000:=rfl;omega);omega);generalize num 0 r=v at*
    by_cases q5:dec v=r
    ·rw[q5]at g2 g3
     by_cases q6:lo<=(v:Int)
     ·simp only[go_sem,Q0,Q1,Q2,Q3,Q4,Q5,Q6,Q7,Q8,Q9,Qa,Qb,Qc,Qd,Qe,Qf,Qg,Qh,Qi,Qj,Qk,reduceCtorEq,reduceIte,h,mP,c0,d1,d2,d3,e1,q,g,jB,hl,bv,hr,g2,T1,g3,q5,q6]
     ·simp only[go_sem,Q0,Q1,Q2,Q3,Q4,Q5,Q6,Q7,Q8,Q9,Qa,Qb,Qc,Qd,Qe,Qf,Qg,Qh,Qi,Qj,Qk,reduceCtorEq,reduceIte,h,mP,c0,d1,d2,d3,e1,q,g,jB,hl,bv,hr,g2,T1,g3,q5,q6]
    ·simp only[go_sem,Q0,Q1,Q2,Q3,Q4,Q5,Q6,Q7,Q8,Q9,Qa,Qb,Qc,Qd,Qe,Qf,Qg,Qh,Qi,Qj,Qk,reduceCtorEq,reduceIte,h,mP,c0,d1,d2,d3,e1,hneg,q,g,jB,hl,bv,hr,g2,T1,g3,q5]
  ·have q':¬t=b.take t.length:=fun e=>q e.symm
   simp only[go_sem,Q0,Q1,Q2,Q3,Q4,Q5,Q6,Q7,Q8,Q9,Qa,Qb,Qc,Qd,Qe,Qf,Qg,Qh,Qi,Qj,Qk,reduceCtorEq,reduceIte,h,mP,c0,d1,d2,d3,e1,q,q',g,jB]
 ·simp only[go_sem,Q0,Q1,Q2,Q3,Q4,Q5,Q6,Q7,Q8,Q9,Qa,Qb,Qc,Qd,Qe,Qf,Qg,Qh,Qi,Qj,Qk,reduceCtorEq,reduceIte,h,mP,c0]
end
end Go.Proofs.YtkcjdeofknkndaaGreatDoor
