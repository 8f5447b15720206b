/- What the functions come to. No condition. -/
import Derived.Test.YtkcjdeofknkndaaGreatDoorTaZ2
open Bool renaming and_eq_true -> aD, or_eq_true -> fK
open Int renaming natCast_zero -> aA
open Go.IntKind renaming i64 -> af
open List renaming all_cons -> iD, cons_append -> aH, drop_drop -> fo, drop_eq_getElem_cons -> aV, drop_eq_nil_of_le -> bx, drop_length -> bl, drop_zero -> bh, getD_cons_zero -> cn, getD_eq_getElem?_getD -> aa, getElem?_drop -> bB, getElem?_eq_getElem -> ab, length_append -> ac, length_cons -> aC, length_drop -> aK, length_nil -> az, length_singleton -> aS, length_take -> aj, singleton_append -> dM, take_append_drop -> kg, take_length -> bQ
open Nat renaming le_refl -> aO, zero_le -> bW
open UInt8 renaming lt_iff_toNat_lt -> sn, ofInt -> cO
set_option maxRecDepth 100000
set_option maxHeartbeats 16000000
set_option linter.unusedSimpArgs false
set_option linter.unusedVariables false
namespace Go.Proofs.YtkcjdeofknkndaaGreatDoor
open Go.Sy
open UInt8 renaming reduceLT -> Q0, reduceLE -> Q1
open Int renaming reduceToNat -> Q2, reduceLE -> Q3, reduceLT -> Q4, reduceEq -> Q5, reduceNe -> Q6, reduceNeg -> Q7, reduceAdd -> Q8, reduceSub -> Q9, reduceMul -> Qa
open Nat renaming reducePow -> Qb, reduceDiv -> Qc, reduceMod -> Qd, reduceAdd -> Qe, reduceSub -> Qf, reduceMul -> Qg, reduceLT -> Qh, reduceLeDiff -> Qi, reduceEqDiff -> Qj, reduceBEq -> Qk
def fi(c:UInt8):List UInt8->List UInt8
 |[]=> []
 |x::r=>if x=c then fi c r else x::r
theorem xie(c:UInt8):∀s:List UInt8,run T (.loop ye) ⟨[(0,.str s),(1,.u8 c)],[],[]⟩=some (.x 0,⟨[(0,.str (fi c s))],[],[]⟩)
 |[]=>by rw[ai];simp only[go_sem,Q0,Q1,Q2,Q3,Q4,Q5,Q6,Q7,Q8,Q9,Qa,Qb,Qc,Qd,Qe,Qf,Qg,Qh,Qi,Qj,Qk,reduceCtorEq,reduceIte,fi,aA]
 |x::r=>by
  rw[ai];have h:=xie c r;have e1:(0:Int)<((r.length+1:Nat):Int):=by omega
  have e2:(1:Int)<=((r.length+1:Nat):Int):=by omega
  by_cases hc:x=c
  ·simp only[go_sem,Q0,Q1,Q2,Q3,Q4,Q5,Q6,Q7,Q8,Q9,Qa,Qb,Qc,Qd,Qe,Qf,Qg,Qh,Qi,Qj,Qk,reduceCtorEq,reduceIte,fi,hc,h,aC,cn,e1,e2,List.drop_succ_cons,bh,bQ]
  ·simp only[go_sem,Q0,Q1,Q2,Q3,Q4,Q5,Q6,Q7,Q8,Q9,Qa,Qb,Qc,Qd,Qe,Qf,Qg,Qh,Qi,Qj,Qk,reduceCtorEq,reduceIte,fi,hc,h,aC,cn,e1]
theorem xkb(c:UInt8)(s:List UInt8):call T 146 [.str s,.u8 c] [] 0=some ⟨.str (fi c s),[],[]⟩:=by rw[ao xf8];simp only[go_sem,Q0,Q1,Q2,Q3,Q4,Q5,Q6,Q7,Q8,Q9,Qa,Qb,Qc,Qd,Qe,Qf,Qg,Qh,Qi,Qj,Qk,reduceCtorEq,reduceIte,xie]
def lB(c:UInt8)(s:List UInt8):List UInt8:=(fi c s.reverse).reverse
theorem rU(c:UInt8):lB c []=[]:=rfl
theorem DI(c x:UInt8)(s:List UInt8):lB c (s++ [x])=if x=c then lB c s else s++ [x]:=by
 unfold lB;rw[List.reverse_append,List.reverse_singleton,dM,fi];split
 ·rfl
 ·simp
theorem xjN(c:UInt8):∀(n:Nat)(s:List UInt8),s.length=n->n<9223372036854775807->run T (.loop yc) ⟨[(0,.str s),(1,.u8 c)],[],[]⟩=some (.x 0,⟨[(0,.str (lB c s))],[],[]⟩):=by
 intro n;induction n with
 |zero=>
  intro s hs _;cases s with
  |cons _ _=>simp at hs
  |nil=>rw[ai];simp only[go_sem,Q0,Q1,Q2,Q3,Q4,Q5,Q6,Q7,Q8,Q9,Qa,Qb,Qc,Qd,Qe,Qf,Qg,Qh,Qi,Qj,Qk,reduceCtorEq,reduceIte,rU,az,aA]
 |succ n ih=>
  intro s hs hn;obtain⟨t,x,rfl⟩:∃t x,s=t++ [x]:=⟨s.dropLast,s.getLast (by intro e;subst e;simp at hs),(List.dropLast_concat_getLast _).symm⟩;have ht:t.length=n:=by simpa using hs
  have h:=ih t ht (by omega);rw[ai];generalize hu:t++ [x]=u;have e0:(0:Int)<((u.length:Nat):Int):=by subst hu;simp
  have hul:u.length=t.length+1:=by subst hu;simp
  have e1:af.wrap ((u.length:Int)-1)=((t.length:Nat):Int):=wZ (by omega)
  have e2:u.getD t.length 0=x:=by subst hu;simp[aa]
  have e3:u.take t.length=t:=by subst hu;simp
  have e6:t.length<u.length:=by subst hu;simp
  have e7:t.length<=u.length:=by omega
  have e8:lB c u=if x=c then lB c t else u:=by subst hu;exact DI c x t
  by_cases hc:x=c
  ·simp only[go_sem,Q0,Q1,Q2,Q3,Q4,Q5,Q6,Q7,Q8,Q9,Qa,Qb,Qc,Qd,Qe,Qf,Qg,Qh,Qi,Qj,Qk,reduceCtorEq,reduceIte,hc,h,e0,e1,e2,e3,e6,e7,e8]
  ·simp only[go_sem,Q0,Q1,Q2,Q3,Q4,Q5,Q6,Q7,Q8,Q9,Qa,Qb,Qc,Qd,Qe,Qf,Qg,Qh,Qi,Qj,Qk,reduceCtorEq,reduceIte,hc,h,e0,e1,e2,e3,e6,e7,e8]
theorem xka(c:UInt8)(s:List UInt8)(hs:s.length<9223372036854775807):call T 147 [.str s,.u8 c] [] 0=some ⟨.str (lB c s),[],[]⟩:=by rw[ao xf7];simp only[go_sem,Q0,Q1,Q2,Q3,Q4,Q5,Q6,Q7,Q8,Q9,Qa,Qb,Qc,Qd,Qe,Qf,Qg,Qh,Qi,Qj,Qk,reduceCtorEq,reduceIte,xjN c _ s rfl hs]
theorem xkk(s:List UInt8)(hs:s.length<9223372036854775807):call T 127 [.str s,.str [42]] [] 0=some ⟨.str (fi 42 (lB 42 s)),[],[]⟩:=by
 rw[ao xgn]
 by_cases h:s=[]
 ·subst h
  simp only[go_sem,Q0,Q1,Q2,Q3,Q4,Q5,Q6,Q7,Q8,Q9,Qa,Qb,Qc,Qd,Qe,Qf,Qg,Qh,Qi,Qj,Qk,reduceCtorEq,reduceIte,rU,fi]
 ·simp only[go_sem,Q0,Q1,Q2,Q3,Q4,Q5,Q6,Q7,Q8,Q9,Qa,Qb,Qc,Qd,Qe,Qf,Qg,Qh,Qi,Qj,Qk,reduceCtorEq,reduceIte,h,xka 42 s hs,xkb,c1,xgL,xgK]
end Go.Proofs.YtkcjdeofknkndaaGreatDoor
namespace Go.Glob
def tl(f:List UInt8->Bool):List UInt8->Bool
 |[]=>f []
 |x::r=>f (x::r)||tl f r
def gl:List UInt8->List UInt8->Bool
 |[],l=>l.isEmpty
 |c::p,l=>if c=42 then tl (gl p) l else match l with
  |[]=>false
  |x::r=>(decide (c=63)||decide (c=x))&&gl p r
theorem xI(f:List UInt8->Bool):∀l:List UInt8,tl f l=true↔∃k,k<=l.length/\f (l.drop k)=true
 |[]=>by simp only[tl,az,List.drop_nil];exact⟨fun h=>⟨0,aO _,h⟩,fun⟨_,_,h⟩=>h⟩
 |x::r=>by
  simp only[tl,fK,xI f r];constructor
  ·rintro(h|⟨k,hk,h⟩)
   ·exact⟨0,bW _,h⟩
   ·exact⟨k+1,by simpa using hk,h⟩
  ·rintro⟨k,hk,h⟩
   cases k with
   |zero=>exact .inl h
   |succ k=>exact .inr ⟨k,by simpa using hk,h⟩
theorem sX(p l:List UInt8):gl (42::p) l=tl (gl p) l:=by simp[gl]
theorem xcq(c:UInt8)(p:List UInt8)(h:c≠42):gl (c::p) []=false:=by simp[gl,h]
theorem sY(c:UInt8)(p:List UInt8)(x:UInt8)(l:List UInt8)(h:c≠42):gl (c::p) (x::l)=((decide (c=63)||decide (c=x))&&gl p l):=by simp[gl,h]
def ja(p:List UInt8):Bool:=p.all fun c=>decide (c=42)
theorem pI:∀p:List UInt8,gl p []=ja p
 |[]=>rfl
 |c::p=>by
  by_cases h:c=42
  ·subst h
   rw[sX,tl,pI p];simp[ja]
  ·rw[xcq _ _ h];simp[ja,h]
def free(s:List UInt8):Bool:=s.all fun c=>decide (c≠42)
def Cq:List UInt8->List UInt8->Bool
 |[],_=>true
 |_::_,[]=>false
 |c::s,x::m=>(decide (c=63)||decide (c=x))&&Cq s m
theorem NI:∀(s q m:List UInt8),free s=true->gl (s++q) m=(Cq s m&&gl q (m.drop s.length))
 |[],q,m,_=>by simp[Cq]
 |c::s,q,[],h=>by simp only[free,iD,aD,decide_eq_true_eq]at h;simp[Cq,gl,h.1]
 |c::s,q,x::m,h=>by simp only[free,iD,aD,decide_eq_true_eq]at h;rw[aH,sY _ _ _ _ h.1,NI s q m (by simpa[free]using h.2)];simp[Cq,Bool.and_assoc]
theorem vw:∀{s m:List UInt8},Cq s m=true->s.length<=m.length
 |[],_,_=>bW _
 |_::_,[],h=>by cases h
 |c::s,x::m,h=>by simp only[Cq,aD]at h;have:=vw h.2;simp;omega
theorem Pj{f:List UInt8->Bool}{m:List UInt8}{i j:Nat}(h:i<=j)(ht:tl f (m.drop j)=true):tl f (m.drop i)=true:=by
 rw[xI]at ht ⊢;obtain⟨k,hk,h1⟩:=ht;rw[aK]at hk;rw[fo]at h1
 by_cases hj:j<=m.length
 ·refine⟨j-i+k,by rw[aK];omega, ?_⟩
  rw[fo,show i+(j-i+k)=j+k by omega];exact h1
 ·refine⟨m.length-i,by rw[aK];omega, ?_⟩
  rw[fo];rw[bx (by omega)]at h1 ⊢;exact h1
structure Inv(P L:List UInt8)(K r p l:Nat)(B:Bool):Prop where
 kp:K<=p
 pP:p<=P.length
 rl:r<=l
 lL:l<=L.length
 b0:K=0->B=gl (P.drop p) (L.drop l)
 b1:0<K->B=(gl (P.drop p) (L.drop l)||tl (gl (P.drop K)) (L.drop (r+1)))
 pl:0<K->p-K=l-r
 fr:0<K->free ((P.drop K).take (p-K))=true
theorem nN(l:List UInt8)(i:Nat)(h:i<l.length):l.drop i=l.getD i 0::l.drop (i+1):=by rw[aV h,aa,ab h];rfl
variable {P L : List UInt8} {K r p l : Nat} {B : Bool}
theorem Inv.split(h:Inv P L K r p l B):P.drop K=(P.drop K).take (p-K)++P.drop p:=by have:=kg (p-K) (P.drop K);rw[fo,show K+(p-K)=p by have:=h.kp;omega]at this;exact this.symm
theorem Inv.seglen(h:Inv P L K r p l B):((P.drop K).take (p-K)).length=p-K:=by have:=h.pP;rw[aj,aK];omega
theorem Inv.seg(h:Inv P L K r p l B)(hk:0<K)(m:List UInt8):gl (P.drop K) m=(Cq ((P.drop K).take (p-K)) m&&gl (P.drop p) (m.drop (p-K))):=by have:=NI _ (P.drop p) m (h.fr hk);rw[<-h.split,h.seglen]at this;exact this
theorem Inv.later(h:Inv P L K r p l B)(hk:0<K)(ht:tl (gl (P.drop K)) (L.drop (r+1))=true):(l=L.length/\r=L.length/\gl (P.drop p) []=true)\/∃j,l<j/\j<=L.length/\gl (P.drop p) (L.drop j)=true:=by
 have h1:=h.rl;have h2:=h.lL;have h3:=h.pl hk;have h4:=h.kp;obtain⟨k,hk1,hk2⟩:=(xI _ _).1 ht;rw[h.seg hk,aD]at hk2;have h5:=vw hk2.1;rw[h.seglen]at h5;have h6:=hk2.2;rw[fo,fo]at h6;rw[fo,aK]at h5;rw[aK]at hk1
 by_cases hr:r=L.length
 ·refine .inl ⟨by omega,hr, ?_⟩
  have e0:L.drop (r+1+(k+(p-K)))=[]:=bx (by omega);rwa[e0]at h6
 ·exact .inr ⟨r+1+(k+(p-K)),by omega,by omega,h6⟩
theorem Inv.star(h:Inv P L K r p l B)(hp:p<P.length)(hl:l<L.length)(hc:P.getD p 0=42):Inv P L (p+1) l (p+1) l B:=by
 have e:gl (P.drop p) (L.drop l)=(gl (P.drop (p+1)) (L.drop l)||tl (gl (P.drop (p+1))) (L.drop (l+1))):=by rw[nN P p hp,hc,sX,nN L l hl];rfl
 refine⟨aO _,hp,aO _,h.lL,fun h0=>by omega,fun _=> ?_,fun _=>by omega,fun _=>by rw[Nat.sub_self];rfl⟩;rw[<-e]
 by_cases hk:K=0
 ·exact h.b0 hk
 ·rw[h.b1 (by omega)]
  cases hg:gl (P.drop p) (L.drop l)with
  |true=>rfl
  |false=>
   rw[Bool.false_or];cases ht:tl (gl (P.drop K)) (L.drop (r+1))with
   |false=>rfl
   |true=>
    exfalso;rcases h.later (by omega) ht with⟨h1,_⟩|⟨j,h1,h2,h3⟩
    ·omega
    ·rw[nN P p hp,hc,sX]at h3 hg
     rw[Pj (Nat.le_of_lt h1) h3]at hg;cases hg
theorem Inv.step(h:Inv P L K r p l B)(hp:p<P.length)(hl:l<L.length)(hc:P.getD p 0≠42)(hm:P.getD p 0=63\/P.getD p 0=L.getD l 0):Inv P L K r (p+1) (l+1) B:=by
 have h1:=h.kp;have h2:=h.rl
 have e:gl (P.drop p) (L.drop l)=gl (P.drop (p+1)) (L.drop (l+1)):=by
  rw[nN P p hp,nN L l hl,sY _ _ _ _ hc];have:(decide (P.getD p 0=63)||decide (P.getD p 0=L.getD l 0))=true:=by simpa using hm
  rw[this,Bool.true_and]
 refine⟨by omega,hp,by omega,hl,fun h0=>by rw[<-e];exact h.b0 h0,fun h0=>by rw[<-e];exact h.b1 h0,fun h0=>by have:=h.pl h0;omega,fun h0=> ?_⟩
 have e2:(P.drop K).take (p+1-K)=(P.drop K).take (p-K)++ [P.getD p 0]:=by
  rw[show p+1-K=(p-K)+1 by omega,List.take_add_one]
  congr 1
  rw[bB,show K+(p-K)=p by omega,ab hp,aa,ab hp];rfl
 rw[e2];have:=h.fr h0;unfold free at this ⊢;rw[List.all_append,this];simpa using hc
theorem Inv.miss(h:Inv P L K r p l B)(hl:l<L.length)(hm:p<P.length->P.getD p 0≠42/\P.getD p 0≠63/\P.getD p 0≠L.getD l 0):gl (P.drop p) (L.drop l)=false:=by
 by_cases hp:p<P.length
 ·obtain⟨h1,h2,h3⟩:=hm hp
  rw[nN P p hp,nN L l hl,sY _ _ _ _ h1];simp only[h2,h3,decide_false,Bool.or_false,Bool.false_and]
 ·rw[bx (by omega),nN L l hl];rfl
theorem Inv.back(h:Inv P L K r p l B)(hk:0<K)(hl:l<L.length)(hm:p<P.length->P.getD p 0≠42/\P.getD p 0≠63/\P.getD p 0≠L.getD l 0):Inv P L K (r+1) K (r+1) B:=by
 have h1:=h.rl;have h2:=h.kp;have h3:=h.pP;refine⟨aO _,by omega,aO _,by omega,fun h0=>by omega,fun _=> ?_,fun _=>by omega,fun _=>by rw[Nat.sub_self];rfl⟩;rw[h.b1 hk,h.miss hl hm,Bool.false_or]
 by_cases hr:r+1<L.length
 ·rw[nN L (r+1) hr];rfl
 ·have e1:L.drop (r+1)=[]:=bx (by omega)
  have e2:L.drop (r+1+1)=[]:=bx (by omega);rw[e1,e2];simp only[tl,Bool.or_self]
theorem Inv.fail(h:Inv P L K r p l B)(hk:K=0)(hl:l<L.length)(hm:p<P.length->P.getD p 0≠42/\P.getD p 0≠63/\P.getD p 0≠L.getD l 0):B=false:=by rw[h.b0 hk,h.miss hl hm]
theorem Inv.fin(h:Inv P L K r p l B)(hl:l=L.length):ja (P.drop p)=B:=by
 have e:gl (P.drop p) (L.drop l)=ja (P.drop p):=by rw[hl,bl,pI]
 by_cases hk:K=0
 ·rw[h.b0 hk,e]
 ·rw[h.b1 (by omega),e]
  cases ht:tl (gl (P.drop K)) (L.drop (r+1))with
  |false=>rw[Bool.or_false]
  |true=>
   rcases h.later (by omega) ht with⟨_,_,h3⟩|⟨j,h1,h2,_⟩
   ·rw[pI]at h3;rw[h3];rfl
   ·omega
theorem Inv.init(P L:List UInt8):Inv P L 0 0 0 0 (gl P L):=
 ⟨aO _,bW _,aO _,bW _,fun _=>rfl,fun h=>by omega,fun h=>by omega,fun h=>by omega⟩
end Go.Glob
namespace Go.Proofs.YtkcjdeofknkndaaGreatDoor
open Go.Sy
open UInt8 renaming reduceLT -> Q0, reduceLE -> Q1
open Int renaming reduceToNat -> Q2, reduceLE -> Q3, reduceLT -> Q4, reduceEq -> Q5, reduceNe -> Q6, reduceNeg -> Q7, reduceAdd -> Q8, reduceSub -> Q9, reduceMul -> Qa
open Nat renaming reducePow -> Qb, reduceDiv -> Qc, reduceMod -> Qd, reduceAdd -> Qe, reduceSub -> Qf, reduceMul -> Qg, reduceLT -> Qh, reduceLeDiff -> Qi, reduceEqDiff -> Qj, reduceBEq -> Qk
end Go.Proofs.YtkcjdeofknkndaaGreatDoor
namespace Go.Glob
end Go.Glob
namespace Go.Proofs.YtkcjdeofknkndaaGreatDoor
open Go.Sy
open UInt8 renaming reduceLT -> Q0, reduceLE -> Q1
open Int renaming reduceToNat -> Q2, reduceLE -> Q3, reduceLT -> Q4, reduceEq -> Q5, reduceNe -> Q6, reduceNeg -> Q7, reduceAdd -> Q8, reduceSub -> Q9, reduceMul -> Qa
open Nat renaming reducePow -> Qb, reduceDiv -> Qc, reduceMod -> Qd, reduceAdd -> Qe, reduceSub -> Qf, reduceMul -> Qg, reduceLT -> Qh, reduceLeDiff -> Qi, reduceEqDiff -> Qj, reduceBEq -> Qk
section
open Go.Glob
theorem gW:∀s:List UInt8,fi 42 s=[]↔ja s=true
 |[]=>by simp[fi,ja]
 |x::r=>by
  have:=gW r
  by_cases h:x=42
  ·simp only[fi,h,if_true,this,ja,iD,decide_true,Bool.true_and]
  ·simp[fi,h,ja]
theorem kD(s:List UInt8):ja s.reverse=ja s:=by simp[ja]
theorem EI(s:List UInt8):fi 42 (lB 42 s)=[]↔ja s=true:=by
 rw[gW];unfold lB;rw[kD];constructor
 ·intro h
  rw[<-gW]at h
  have e:∀t:List UInt8,fi 42 t=t\/fi 42 t=[]\/∃x r,fi 42 t=x::r/\x≠42:=by
   intro t;induction t with
   |nil=>exact .inl rfl
   |cons x r ih=>
    by_cases hx:x=42
    ·simp only[fi,hx,if_true]
     rcases ih with h|h|h
     ·cases r with
      |nil=>exact .inr (.inl h)
      |cons y r'=>
       rw[h]
       by_cases hy:y=42
       ·exfalso
        have l1:∀t:List UInt8,(fi 42 t).length<=t.length:=by
         intro t;induction t with
         |nil=>exact aO _
         |cons z t iht=>simp only[fi];split<;>simp only[aC]<;>omega
        rw[hy]at h;simp only[fi,if_true]at h;have:=l1 r';rw[h]at this;simp at this;omega
       ·exact .inr (.inr ⟨y,r',rfl,hy⟩)
     ·exact .inr (.inl h)
     ·exact .inr (.inr h)
    ·exact .inl (by simp[fi,hx])
  rcases e s.reverse with h1|h1|⟨x,r,h1,h2⟩
  ·rw[h1,gW,kD]at h;exact h
  ·rw[gW,kD]at h1;exact h1
  ·rw[h1]at h;simp[fi,h2]at h
 ·intro h
  rw[<-kD,<-gW]at h;rw[h];rfl
def Out(P:List UInt8)(B:Bool)(o:Option (Ex×CSt)):Prop:=
 (∃q,q<=P.length/\ja (P.drop q)=B/\o=some (.x 0,⟨[(0,.str P),(5,.int .i64 (q:Nat))],[],[]⟩))\/(B=false/\o=some (.r,⟨[(4,.bool false)],[],[]⟩))
theorem l86(P L:List UInt8)(hP:P.length<=1000000000000)(hL:L.length<=1000000000000)(B:Bool)(K r p l:Nat)(s:Int)(hs:s=(K:Int)-1)(h:Inv P L K r p l B):
 Out P B (run T (.loop xP) ⟨[(0,.str P),(1,.byt L .no),(5,.int .i64 p),(6,.int .i64 l),(7,.int .i64 s),(8,.int .i64 r)],[],[]⟩):=by
 have a1:=h.kp;have a2:=h.pP;have a3:=h.rl;have a4:=h.lL;rw[ai]
 by_cases hl:l<L.length
 ·have e2:af.wrap ((p:Int)+1)=((p+1:Nat):Int):=cE p (by omega)
  have e3:af.wrap ((l:Int)+1)=((l+1:Nat):Int):=cE l (by omega);have e4:af.wrap ((r:Int)+1)=((r+1:Nat):Int):=cE r (by omega);have e5:af.wrap (s+1)=(K:Int):=by rw[hs,w64 (by omega) (by omega)];omega
  by_cases hp:p<P.length
  ·by_cases hc:P.getD p 0=42
   ·have ih:=l86 P L hP hL B (p+1) l (p+1) l p (by omega) (h.star hp hl hc)
    simp only[go_sem,Q0,Q1,Q2,Q3,Q4,Q5,Q6,Q7,Q8,Q9,Qa,Qb,Qc,Qd,Qe,Qf,Qg,Qh,Qi,Qj,Qk,reduceCtorEq,reduceIte,hl,hp,hc,e2,e3,e4,e5];exact ih
   ·by_cases hq:P.getD p 0=63
    ·have ih:=l86 P L hP hL B K r (p+1) (l+1) s hs (h.step hp hl hc (.inl hq))
     simp only[go_sem,Q0,Q1,Q2,Q3,Q4,Q5,Q6,Q7,Q8,Q9,Qa,Qb,Qc,Qd,Qe,Qf,Qg,Qh,Qi,Qj,Qk,reduceCtorEq,reduceIte,hl,hp,hc,hq,e2,e3,e4,e5];exact ih
    ·by_cases hx:P.getD p 0=L.getD l 0
     ·have ih:=l86 P L hP hL B K r (p+1) (l+1) s hs (h.step hp hl hc (.inr hx))
      have hc':¬L.getD l 0=42:=hx ▸ hc;have hq':¬L.getD l 0=63:=hx ▸ hq;simp only[go_sem,Q0,Q1,Q2,Q3,Q4,Q5,Q6,Q7,Q8,Q9,Qa,Qb,Qc,Qd,Qe,Qf,Qg,Qh,Qi,Qj,Qk,reduceCtorEq,reduceIte,hl,hp,hx,hc',hq',e2,e3,e4,e5];exact ih
     ·by_cases hk:K=0
      ·have hs0:¬0<=s:=by omega
       simp only[go_sem,Q0,Q1,Q2,Q3,Q4,Q5,Q6,Q7,Q8,Q9,Qa,Qb,Qc,Qd,Qe,Qf,Qg,Qh,Qi,Qj,Qk,reduceCtorEq,reduceIte,hl,hp,hc,hq,hx,hs0,e2,e3,e4,e5];exact .inr ⟨h.fail hk hl (fun _=>⟨hc,hq,hx⟩),rfl⟩
      ·have hs0:0<=s:=by omega
       have ih:=l86 P L hP hL B K (r+1) K (r+1) s hs (h.back (by omega) hl (fun _=>⟨hc,hq,hx⟩));simp only[go_sem,Q0,Q1,Q2,Q3,Q4,Q5,Q6,Q7,Q8,Q9,Qa,Qb,Qc,Qd,Qe,Qf,Qg,Qh,Qi,Qj,Qk,reduceCtorEq,reduceIte,hl,hp,hc,hq,hx,hs0,e2,e3,e4,e5];exact ih
  ·by_cases hk:K=0
   ·have hs0:¬0<=s:=by omega
    simp only[go_sem,Q0,Q1,Q2,Q3,Q4,Q5,Q6,Q7,Q8,Q9,Qa,Qb,Qc,Qd,Qe,Qf,Qg,Qh,Qi,Qj,Qk,reduceCtorEq,reduceIte,hl,hp,hs0,e2,e3,e4,e5];exact .inr ⟨h.fail hk hl (fun hp'=>absurd hp' hp),rfl⟩
   ·have hs0:0<=s:=by omega
    have ih:=l86 P L hP hL B K (r+1) K (r+1) s hs (h.back (by omega) hl (fun hp'=>absurd hp' hp));simp only[go_sem,Q0,Q1,Q2,Q3,Q4,Q5,Q6,Q7,Q8,Q9,Qa,Qb,Qc,Qd,Qe,Qf,Qg,Qh,Qi,Qj,Qk,reduceCtorEq,reduceIte,hl,hp,hs0,e2,e3,e4,e5];exact ih
 ·simp only[go_sem,Q0,Q1,Q2,Q3,Q4,Q5,Q6,Q7,Q8,Q9,Qa,Qb,Qc,Qd,Qe,Qf,Qg,Qh,Qi,Qj,Qk,reduceCtorEq,reduceIte,hl]
  exact .inl ⟨p,a2,h.fin (by omega),rfl⟩
termination_by (P.length-K,L.length-r,L.length-l)
decreasing_by
 all_goals first
  |(apply Prod.Lex.left;omega)
  |(apply Prod.Lex.right;apply Prod.Lex.left;omega)
  |(apply Prod.Lex.right;apply Prod.Lex.right;omega)
end
section
open Go.Glob
theorem f86(P L:List UInt8)(hP:P.length<=1000000000000)(hL:L.length<=1000000000000):call T 86 [.str P,.byt L .no] [] 0=some ⟨.bool (gl P L),[],[]⟩:=by
 rw[ao xkX];have h:=l86 P L hP hL (gl P L) 0 0 0 0 (-1) rfl (Inv.init P L);simp only[aA]at h;rcases h with⟨q,hq,hs,h⟩|⟨hB,h⟩
 ·have hd:(P.drop q).length<9223372036854775807:=by rw[aK];omega
  have ht:=EI (P.drop q);rw[hs]at ht;simp only[go_sem,Q0,Q1,Q2,Q3,Q4,Q5,Q6,Q7,Q8,Q9,Qa,Qb,Qc,Qd,Qe,Qf,Qg,Qh,Qi,Qj,Qk,reduceCtorEq,reduceIte,h,hq,bQ,xkk _ hd,xgR,ht];cases gl P L<;>rfl
 ·simp only[go_sem,Q0,Q1,Q2,Q3,Q4,Q5,Q6,Q7,Q8,Q9,Qa,Qb,Qc,Qd,Qe,Qf,Qg,Qh,Qi,Qj,Qk,reduceCtorEq,reduceIte,h,hB]
end
section
open Go.Glob
def prn:List UInt8->Bool
 |[]=>true
 |c::r=>if c<32 then false else if 126<c then false else prn r
def chk(k:Int)(t:List UInt8)(lo hi:Int):Int:=
 if k<1 then 1 else if 4<k then 1 else if prn t then
  (if k=4 then(if lo<0 then 1 else if hi<lo then 1 else if 1000000000<hi then 1 else if 32<t.length then 4 else 0)
   else if lo=0 then(if hi=0 then(if k=1 then(if t=[]then 0 else 1)else if 32<t.length then 4 else 0)else 1)else 1)
 else 1
theorem l44(k:Int)(t:List UInt8)(lo hi:Int)(hl:t.length<=1000000000000):∀(n i:Nat),t.length-i=n->i<=t.length->
 run T (.loop xZ) ⟨[(1,.ptr 101 0),(15,.int .i64 t.length),(16,.int .i64 i)],[(101,.rc [.int .i64 k,.str t,.int .i64 lo,.int .i64 hi])],[]⟩=
 if prn (t.drop i)then some (.x 0,⟨[(1,.ptr 101 0)],[(101,.rc [.int .i64 k,.str t,.int .i64 lo,.int .i64 hi])],[]⟩)
 else some (.r,⟨[(2,.int .i64 1)],[(101,.rc [.int .i64 k,.str t,.int .i64 lo,.int .i64 hi])],[]⟩):=by
 intro n;induction n with
 |zero=>
  intro i h0 h1;have hi:i=t.length:=by omega
  subst hi;rw[ai];simp only[go_sem,Q0,Q1,Q2,Q3,Q4,Q5,Q6,Q7,Q8,Q9,Qa,Qb,Qc,Qd,Qe,Qf,Qg,Qh,Qi,Qj,Qk,reduceCtorEq,reduceIte,bl,prn]
 |succ n ih=>
  intro i h0 h1;have hi:i<t.length:=by omega
  have e1:=cE i (by omega);have ih':=ih (i+1) (by omega) (by omega);rw[ai,dh t i hi]
  by_cases h2:t.getD i 0<32
  ·simp only[go_sem,Q0,Q1,Q2,Q3,Q4,Q5,Q6,Q7,Q8,Q9,Qa,Qb,Qc,Qd,Qe,Qf,Qg,Qh,Qi,Qj,Qk,reduceCtorEq,reduceIte,hi,e1,prn,h2]
  ·by_cases h3:126<t.getD i 0
   ·simp only[go_sem,Q0,Q1,Q2,Q3,Q4,Q5,Q6,Q7,Q8,Q9,Qa,Qb,Qc,Qd,Qe,Qf,Qg,Qh,Qi,Qj,Qk,reduceCtorEq,reduceIte,hi,e1,prn,h2,h3]
   ·simp only[go_sem,Q0,Q1,Q2,Q3,Q4,Q5,Q6,Q7,Q8,Q9,Qa,Qb,Qc,Qd,Qe,Qf,Qg,Qh,Qi,Qj,Qk,reduceCtorEq,reduceIte,hi,e1,prn,h2,h3,ih']
theorem l47(k:Int)(t:List UInt8)(lo hi:Int)(hl:t.length<=1000000000000):∀(n i:Nat),t.length-i=n->i<=t.length->
 run T (.loop Oj) ⟨[(1,.ptr 101 0),(3,.int .i64 i)],[(101,.rc [.int .i64 k,.str t,.int .i64 lo,.int .i64 hi])],[]⟩=
 if prn (t.drop i)then some (.x 0,⟨[(1,.ptr 101 0)],[(101,.rc [.int .i64 k,.str t,.int .i64 lo,.int .i64 hi])],[]⟩)
 else some (.r,⟨[(2,.int .i64 1)],[(101,.rc [.int .i64 k,.str t,.int .i64 lo,.int .i64 hi])],[]⟩):=by
 intro n;induction n with
 |zero=>
  intro i h0 h1;have hi:i=t.length:=by omega
  subst hi;rw[ai];simp only[go_sem,Q0,Q1,Q2,Q3,Q4,Q5,Q6,Q7,Q8,Q9,Qa,Qb,Qc,Qd,Qe,Qf,Qg,Qh,Qi,Qj,Qk,reduceCtorEq,reduceIte,bl,prn]
 |succ n ih=>
  intro i h0 h1;have hi:i<t.length:=by omega
  have e1:=cE i (by omega);have ih':=ih (i+1) (by omega) (by omega);rw[ai,dh t i hi]
  by_cases h2:t.getD i 0<32
  ·simp only[go_sem,Q0,Q1,Q2,Q3,Q4,Q5,Q6,Q7,Q8,Q9,Qa,Qb,Qc,Qd,Qe,Qf,Qg,Qh,Qi,Qj,Qk,reduceCtorEq,reduceIte,hi,e1,prn,h2]
  ·by_cases h3:126<t.getD i 0
   ·simp only[go_sem,Q0,Q1,Q2,Q3,Q4,Q5,Q6,Q7,Q8,Q9,Qa,Qb,Qc,Qd,Qe,Qf,Qg,Qh,Qi,Qj,Qk,reduceCtorEq,reduceIte,hi,e1,prn,h2,h3]
   ·simp only[go_sem,Q0,Q1,Q2,Q3,Q4,Q5,Q6,Q7,Q8,Q9,Qa,Qb,Qc,Qd,Qe,Qf,Qg,Qh,Qi,Qj,Qk,reduceCtorEq,reduceIte,hi,e1,prn,h2,h3,ih']
end
section
open Go.Glob
theorem oT(t:List UInt8):((32:Int)<(t.length:Int))↔32<t.length:=by omega
theorem f44(k:Int)(t:List UInt8)(lo hi:Int)(hl:t.length<=1000000000000):call T 44 [.agg [.int .i64 k,.str t,.int .i64 lo,.int .i64 hi]] [] 0=some ⟨.int .i64 (chk k t lo hi),[],[]⟩:=by
 rw[ao xlr];have h:=l44 k t lo hi hl _ 0 rfl (by omega);simp only[aA,bh]at h;unfold chk
 by_cases c1:k<1
 ·simp only[go_sem,Q0,Q1,Q2,Q3,Q4,Q5,Q6,Q7,Q8,Q9,Qa,Qb,Qc,Qd,Qe,Qf,Qg,Qh,Qi,Qj,Qk,reduceCtorEq,reduceIte,h,c1]
 by_cases c2:4<k
 ·simp only[go_sem,Q0,Q1,Q2,Q3,Q4,Q5,Q6,Q7,Q8,Q9,Qa,Qb,Qc,Qd,Qe,Qf,Qg,Qh,Qi,Qj,Qk,reduceCtorEq,reduceIte,h,c1,c2]
 cases c3:prn t with
 |false=>simp only[go_sem,Q0,Q1,Q2,Q3,Q4,Q5,Q6,Q7,Q8,Q9,Qa,Qb,Qc,Qd,Qe,Qf,Qg,Qh,Qi,Qj,Qk,reduceCtorEq,reduceIte,h,c1,c2,c3]
 |true=>
  by_cases c4:k=4
  ·subst c4
   by_cases c5:lo<0
   ·simp only[go_sem,Q0,Q1,Q2,Q3,Q4,Q5,Q6,Q7,Q8,Q9,Qa,Qb,Qc,Qd,Qe,Qf,Qg,Qh,Qi,Qj,Qk,reduceCtorEq,reduceIte,h,c3,c5]
   by_cases c6:hi<lo
   ·simp only[go_sem,Q0,Q1,Q2,Q3,Q4,Q5,Q6,Q7,Q8,Q9,Qa,Qb,Qc,Qd,Qe,Qf,Qg,Qh,Qi,Qj,Qk,reduceCtorEq,reduceIte,h,c3,c5,c6]
   by_cases c7:1000000000<hi
   ·simp only[go_sem,Q0,Q1,Q2,Q3,Q4,Q5,Q6,Q7,Q8,Q9,Qa,Qb,Qc,Qd,Qe,Qf,Qg,Qh,Qi,Qj,Qk,reduceCtorEq,reduceIte,h,c3,c5,c6,c7]
   by_cases c8:32<t.length
   ·simp only[go_sem,Q0,Q1,Q2,Q3,Q4,Q5,Q6,Q7,Q8,Q9,Qa,Qb,Qc,Qd,Qe,Qf,Qg,Qh,Qi,Qj,Qk,reduceCtorEq,reduceIte,h,c3,c5,c6,c7,c8,oT]
   ·simp only[go_sem,Q0,Q1,Q2,Q3,Q4,Q5,Q6,Q7,Q8,Q9,Qa,Qb,Qc,Qd,Qe,Qf,Qg,Qh,Qi,Qj,Qk,reduceCtorEq,reduceIte,h,c3,c5,c6,c7,c8,oT]
  ·by_cases c5:lo=0
   ·subst c5
    by_cases c6:hi=0
    ·subst c6
     by_cases c7:k=1
     ·subst c7
      by_cases c8:t=[]
      ·subst c8
       try simp only[az,aA]at h
       simp only[go_sem,Q0,Q1,Q2,Q3,Q4,Q5,Q6,Q7,Q8,Q9,Qa,Qb,Qc,Qd,Qe,Qf,Qg,Qh,Qi,Qj,Qk,reduceCtorEq,reduceIte,h,c3,az,aA]
      ·simp only[go_sem,Q0,Q1,Q2,Q3,Q4,Q5,Q6,Q7,Q8,Q9,Qa,Qb,Qc,Qd,Qe,Qf,Qg,Qh,Qi,Qj,Qk,reduceCtorEq,reduceIte,h,c3,c8]
     ·by_cases c8:32<t.length
      ·simp only[go_sem,Q0,Q1,Q2,Q3,Q4,Q5,Q6,Q7,Q8,Q9,Qa,Qb,Qc,Qd,Qe,Qf,Qg,Qh,Qi,Qj,Qk,reduceCtorEq,reduceIte,h,c1,c2,c3,c4,c7,c8,oT]
      ·simp only[go_sem,Q0,Q1,Q2,Q3,Q4,Q5,Q6,Q7,Q8,Q9,Qa,Qb,Qc,Qd,Qe,Qf,Qg,Qh,Qi,Qj,Qk,reduceCtorEq,reduceIte,h,c1,c2,c3,c4,c7,c8,oT]
    ·simp only[go_sem,Q0,Q1,Q2,Q3,Q4,Q5,Q6,Q7,Q8,Q9,Qa,Qb,Qc,Qd,Qe,Qf,Qg,Qh,Qi,Qj,Qk,reduceCtorEq,reduceIte,h,c1,c2,c3,c4,c6]
   ·simp only[go_sem,Q0,Q1,Q2,Q3,Q4,Q5,Q6,Q7,Q8,Q9,Qa,Qb,Qc,Qd,Qe,Qf,Qg,Qh,Qi,Qj,Qk,reduceCtorEq,reduceIte,h,c1,c2,c3,c4,c5]
theorem f47(k:Int)(t:List UInt8)(lo hi:Int)(hl:t.length<=1000000000000):call T 47 [.agg [.int .i64 k,.str t,.int .i64 lo,.int .i64 hi]] [] 0=some ⟨.int .i64 (chk k t lo hi),[],[]⟩:=by
 rw[ao xlo];have h:=l47 k t lo hi hl _ 0 rfl (by omega);simp only[aA,bh]at h;unfold chk
 by_cases c1:k<1
 ·simp only[go_sem,Q0,Q1,Q2,Q3,Q4,Q5,Q6,Q7,Q8,Q9,Qa,Qb,Qc,Qd,Qe,Qf,Qg,Qh,Qi,Qj,Qk,reduceCtorEq,reduceIte,h,c1]
 by_cases c2:4<k
 ·simp only[go_sem,Q0,Q1,Q2,Q3,Q4,Q5,Q6,Q7,Q8,Q9,Qa,Qb,Qc,Qd,Qe,Qf,Qg,Qh,Qi,Qj,Qk,reduceCtorEq,reduceIte,h,c1,c2]
 cases c3:prn t with
 |false=>simp only[go_sem,Q0,Q1,Q2,Q3,Q4,Q5,Q6,Q7,Q8,Q9,Qa,Qb,Qc,Qd,Qe,Qf,Qg,Qh,Qi,Qj,Qk,reduceCtorEq,reduceIte,h,c1,c2,c3]
 |true=>
  by_cases c4:k=4
  ·subst c4
   by_cases c5:lo<0
   ·simp only[go_sem,Q0,Q1,Q2,Q3,Q4,Q5,Q6,Q7,Q8,Q9,Qa,Qb,Qc,Qd,Qe,Qf,Qg,Qh,Qi,Qj,Qk,reduceCtorEq,reduceIte,h,c3,c5]
   by_cases c6:hi<lo
   ·simp only[go_sem,Q0,Q1,Q2,Q3,Q4,Q5,Q6,Q7,Q8,Q9,Qa,Qb,Qc,Qd,Qe,Qf,Qg,Qh,Qi,Qj,Qk,reduceCtorEq,reduceIte,h,c3,c5,c6]
   by_cases c7:1000000000<hi
   ·simp only[go_sem,Q0,Q1,Q2,Q3,Q4,Q5,Q6,Q7,Q8,Q9,Qa,Qb,Qc,Qd,Qe,Qf,Qg,Qh,Qi,Qj,Qk,reduceCtorEq,reduceIte,h,c3,c5,c6,c7]
   by_cases c8:32<t.length
   ·simp only[go_sem,Q0,Q1,Q2,Q3,Q4,Q5,Q6,Q7,Q8,Q9,Qa,Qb,Qc,Qd,Qe,Qf,Qg,Qh,Qi,Qj,Qk,reduceCtorEq,reduceIte,h,c3,c5,c6,c7,c8,oT]
   ·simp only[go_sem,Q0,Q1,Q2,Q3,Q4,Q5,Q6,Q7,Q8,Q9,Qa,Qb,Qc,Qd,Qe,Qf,Qg,Qh,Qi,Qj,Qk,reduceCtorEq,reduceIte,h,c3,c5,c6,c7,c8,oT]
  ·by_cases c5:lo=0
   ·subst c5
    by_cases c6:hi=0
    ·subst c6
     by_cases c7:k=1
     ·subst c7
      by_cases c8:t=[]
      ·subst c8
       try simp only[az,aA]at h
       simp only[go_sem,Q0,Q1,Q2,Q3,Q4,Q5,Q6,Q7,Q8,Q9,Qa,Qb,Qc,Qd,Qe,Qf,Qg,Qh,Qi,Qj,Qk,reduceCtorEq,reduceIte,h,c3,az,aA]
      ·simp only[go_sem,Q0,Q1,Q2,Q3,Q4,Q5,Q6,Q7,Q8,Q9,Qa,Qb,Qc,Qd,Qe,Qf,Qg,Qh,Qi,Qj,Qk,reduceCtorEq,reduceIte,h,c3,c8]
     ·by_cases c8:32<t.length
      ·simp only[go_sem,Q0,Q1,Q2,Q3,Q4,Q5,Q6,Q7,Q8,Q9,Qa,Qb,Qc,Qd,Qe,Qf,Qg,Qh,Qi,Qj,Qk,reduceCtorEq,reduceIte,h,c1,c2,c3,c4,c7,c8,oT]
      ·simp only[go_sem,Q0,Q1,Q2,Q3,Q4,Q5,Q6,Q7,Q8,Q9,Qa,Qb,Qc,Qd,Qe,Qf,Qg,Qh,Qi,Qj,Qk,reduceCtorEq,reduceIte,h,c1,c2,c3,c4,c7,c8,oT]
    ·simp only[go_sem,Q0,Q1,Q2,Q3,Q4,Q5,Q6,Q7,Q8,Q9,Qa,Qb,Qc,Qd,Qe,Qf,Qg,Qh,Qi,Qj,Qk,reduceCtorEq,reduceIte,h,c1,c2,c3,c4,c6]
   ·simp only[go_sem,Q0,Q1,Q2,Q3,Q4,Q5,Q6,Q7,Q8,Q9,Qa,Qb,Qc,Qd,Qe,Qf,Qg,Qh,Qi,Qj,Qk,reduceCtorEq,reduceIte,h,c1,c2,c3,c4,c5]
end
section
open Go.Glob
theorem xih(s t:List UInt8):call T 153 [.str s,.str t] [] 0=some ⟨.bool (decide (t.length<=s.length/\s.take t.length=t)),[],[]⟩:=by
 rw[ao xf6]
 by_cases h:t.length<=s.length
 ·by_cases h2:s.take t.length=t
  ·simp only[go_sem,Q0,Q1,Q2,Q3,Q4,Q5,Q6,Q7,Q8,Q9,Qa,Qb,Qc,Qd,Qe,Qf,Qg,Qh,Qi,Qj,Qk,reduceCtorEq,reduceIte,h,h2]
  ·simp only[go_sem,Q0,Q1,Q2,Q3,Q4,Q5,Q6,Q7,Q8,Q9,Qa,Qb,Qc,Qd,Qe,Qf,Qg,Qh,Qi,Qj,Qk,reduceCtorEq,reduceIte,h,h2]
 ·simp only[go_sem,Q0,Q1,Q2,Q3,Q4,Q5,Q6,Q7,Q8,Q9,Qa,Qb,Qc,Qd,Qe,Qf,Qg,Qh,Qi,Qj,Qk,reduceCtorEq,reduceIte,h]
theorem xio(s t:List UInt8):call T 128 [.str s,.str t] [] 0=some ⟨if t.length<=s.length/\s.take t.length=t then .tup [.str (s.drop t.length),.bool true]else .tup [.str s,.bool false],[],[]⟩:=by
 rw[ao xgm]
 by_cases h:t.length<=s.length/\s.take t.length=t
 ·have h1:=h.1
  simp only[go_sem,Q0,Q1,Q2,Q3,Q4,Q5,Q6,Q7,Q8,Q9,Qa,Qb,Qc,Qd,Qe,Qf,Qg,Qh,Qi,Qj,Qk,reduceCtorEq,reduceIte,xih,Yy,h,h1,bQ]
 ·simp only[go_sem,Q0,Q1,Q2,Q3,Q4,Q5,Q6,Q7,Q8,Q9,Qa,Qb,Qc,Qd,Qe,Qf,Qg,Qh,Qi,Qj,Qk,reduceCtorEq,reduceIte,xih,Yy,h]
theorem f87(s t:List UInt8):call T 87 [.str s,.str t] [] 0=some ⟨if t.length<=s.length/\s.take t.length=t then .tup [.str (s.drop t.length),.bool true]else .tup [.str s,.bool false],[],[]⟩:=by
 rw[ao xkW]
 by_cases h:t.length<=s.length/\s.take t.length=t
 ·simp only[go_sem,Q0,Q1,Q2,Q3,Q4,Q5,Q6,Q7,Q8,Q9,Qa,Qb,Qc,Qd,Qe,Qf,Qg,Qh,Qi,Qj,Qk,reduceCtorEq,reduceIte,xio,YE,h]
 ·simp only[go_sem,Q0,Q1,Q2,Q3,Q4,Q5,Q6,Q7,Q8,Q9,Qa,Qb,Qc,Qd,Qe,Qf,Qg,Qh,Qi,Qj,Qk,reduceCtorEq,reduceIte,xio,YE,h]
def num:Nat->List UInt8->Nat
 |n,[]=>n
 |n,c::r=>num (n*10+(c.toNat-48)) r
def pb:List UInt8->Bool
 |[]=>true
 |c::r=>if c<48 then false else if 57<c then false else pb r
theorem Ry(c:UInt8)(h1:¬c<48)(h2:¬57<c):(c-48).toNat=c.toNat-48/\¬9<c-48/\c.toNat-48<=9:=by
 have h1':48<=c.toNat:=by simpa[sn]using h1
 have h2':c.toNat<=57:=by simpa[sn]using h2
 have e:(c-48).toNat=c.toNat-48:=UInt8.toNat_sub_of_le c 48 (by simpa[UInt8.le_iff_toNat_le]using h1');refine⟨e, ?_,by omega⟩;rw[sn,e];simp;omega
def lim:Nat->Nat
 |0=>0
 |i+1=>lim i*10+9
theorem xcj(i:Nat)(h:i<=9):lim i<=999999999:=by
 have:i=0\/i=1\/i=2\/i=3\/i=4\/i=5\/i=6\/i=7\/i=8\/i=9:=by omega
 rcases this with rfl|rfl|rfl|rfl|rfl|rfl|rfl|rfl|rfl|rfl<;>simp[lim]
theorem xfq(s0 s:List UInt8)(n:Nat):run T (.loop oF) ⟨[(5,.str s0),(6,.int .i64 n),(47,.byt s .no),(48,.int .i64 s.length),(49,.int .i64 s.length)],[],[]⟩=some (.x 0,⟨[(5,.str s0),(6,.int .i64 n)],[],[]⟩):=by rw[ai];simp only[go_sem,Q0,Q1,Q2,Q3,Q4,Q5,Q6,Q7,Q8,Q9,Qa,Qb,Qc,Qd,Qe,Qf,Qg,Qh,Qi,Qj,Qk,reduceCtorEq,reduceIte]
theorem xjL(s0 s:List UInt8)(hl:s.length<=10):∀(m i n:Nat),s.length-i=m->i<=s.length->n<=lim i->pb (s.drop i)=true->
 run T (.loop oF) ⟨[(5,.str s0),(6,.int .i64 n),(47,.byt s .no),(48,.int .i64 s.length),(49,.int .i64 i)],[],[]⟩=some (.x 0,⟨[(5,.str s0),(6,.int .i64 (num n (s.drop i)))],[],[]⟩):=by
 intro m;induction m with
 |zero=>
  intro i n h0 h1 hn hd;have hi:i=s.length:=by clear hn;omega
  rw[hi,bl];exact xfq s0 s n
 |succ m ih=>
  intro i n h0 h1 hn hd;have hi:i<s.length:=by omega
  rw[dh s i hi]at hd;simp only[pb]at hd
  by_cases h2:s.getD i 0<48
  ·rw[if_pos h2]at hd;cases hd
  rw[if_neg h2]at hd
  by_cases h3:57<s.getD i 0
  ·rw[if_pos h3]at hd;cases hd
  rw[if_neg h3]at hd;obtain⟨d1,d2,d3⟩:=Ry _ h2 h3;have hp:lim i<=999999999:=xcj i (by omega);have hn':n*10+((s.getD i 0).toNat-48)<=lim (i+1):=by simp only[lim];omega
  have ih':=ih (i+1) (n*10+((s.getD i 0).toNat-48)) (by omega) (by omega) hn' hd;have e1:=cE i (by omega);have e2:af.wrap ((n:Int)*10)=((n*10:Nat):Int):=wZ (by omega)
  have e3:af.wrap (((n*10:Nat):Int)+(((s.getD i 0).toNat-48:Nat):Int))=((n*10+((s.getD i 0).toNat-48):Nat):Int):=wZ (by omega)
  rw[ai,dh s i hi];simp only[go_sem,Q0,Q1,Q2,Q3,Q4,Q5,Q6,Q7,Q8,Q9,Qa,Qb,Qc,Qd,Qe,Qf,Qg,Qh,Qi,Qj,Qk,reduceCtorEq,reduceIte,hi,e1,e2,e3,d1,d2];show _=some (Ex.x 0,CSt.mk [(5,.str s0),(6,.int .i64 ((num (n*10+((s.getD i 0).toNat-48)) (s.drop (i+1)):Nat):Int))] [] []);exact ih'
end
section
open Go.Glob
theorem xj9(s:List UInt8)(h0:s≠ [])(hl:s.length<=10)(hd:pb s=true):call T 154 [.str s] [] 0=some ⟨.tup [.int .i64 (num 0 s),.nili],[],[]⟩:=by
 rw[ao xf5];have h:=xjL s s hl _ 0 0 rfl (by omega) (by simp[lim]) (by simpa using hd);simp only[aA,bh]at h;cases s with
 |nil=>exact absurd rfl h0
 |cons c r=>
  simp only[pb]at hd
  by_cases h2:c<48
  ·rw[if_pos h2]at hd;cases hd
  rw[if_neg h2]at hd
  by_cases h3:57<c
  ·rw[if_pos h3]at hd;cases hd
  have h2':48<=c.toNat:=by simpa[sn]using h2
  have h4:¬c=45:=by rintro rfl;simp at h2'
  have h5:¬c=43:=by rintro rfl;simp at h2'
  have h6:(0:Int)<(((c::r).length:Nat):Int):=by rw[aC];omega
  have h7:¬(10:Int)<=(((c::r).length:Nat):Int)\/True:= .inr trivial;have h8:(((c::r).length:Nat):Int)<19:=by omega
  have h9:List.getD (c::r) 0 0=c:=rfl;generalize hs:c::r=s at*;simp only[go_sem,Q0,Q1,Q2,Q3,Q4,Q5,Q6,Q7,Q8,Q9,Qa,Qb,Qc,Qd,Qe,Qf,Qg,Qh,Qi,Qj,Qk,reduceCtorEq,reduceIte,h,h4,h5,h6,h8,h9]
theorem xin(s:List UInt8)(h0:s≠ [])(hl:s.length<=10)(hd:pb s=true):call T 129 [.str s] [] 0=some ⟨.tup [.int .i64 (num 0 s),.nili],[],[]⟩:=by rw[ao xgl];simp only[go_sem,Q0,Q1,Q2,Q3,Q4,Q5,Q6,Q7,Q8,Q9,Qa,Qb,Qc,Qd,Qe,Qf,Qg,Qh,Qi,Qj,Qk,reduceCtorEq,reduceIte,xj9 s h0 hl hd,xgJ]
def Qz(s:List UInt8):Int:=if s=[]then-1 else if 10<s.length then-1 else if 1<s.length/\s.getD 0 0=48 then-1 else if pb s then(num 0 s:Nat)else-1
theorem l88(s:List UInt8)(hl:s.length<=10):∀(m i:Nat),s.length-i=m->i<=s.length->
 run T (.loop N1) ⟨[(0,.str s),(24,.int .i64 s.length),(25,.int .i64 i)],[],[]⟩=if pb (s.drop i)then some (.x 0,⟨[(0,.str s)],[],[]⟩)else some (.r,⟨[(2,.int .i64 (-1))],[],[]⟩):=by
 intro m;induction m with
 |zero=>
  intro i h0 h1;have hi:i=s.length:=by omega
  subst hi;rw[ai];simp only[go_sem,Q0,Q1,Q2,Q3,Q4,Q5,Q6,Q7,Q8,Q9,Qa,Qb,Qc,Qd,Qe,Qf,Qg,Qh,Qi,Qj,Qk,reduceCtorEq,reduceIte,bl,pb]
 |succ m ih=>
  intro i h0 h1;have hi:i<s.length:=by omega
  have e1:=cE i (by omega);have ih':=ih (i+1) (by omega) (by omega);rw[ai,dh s i hi]
  by_cases h2:s.getD i 0<48
  ·simp only[go_sem,Q0,Q1,Q2,Q3,Q4,Q5,Q6,Q7,Q8,Q9,Qa,Qb,Qc,Qd,Qe,Qf,Qg,Qh,Qi,Qj,Qk,reduceCtorEq,reduceIte,hi,e1,pb,h2]
  ·by_cases h3:57<s.getD i 0
   ·simp only[go_sem,Q0,Q1,Q2,Q3,Q4,Q5,Q6,Q7,Q8,Q9,Qa,Qb,Qc,Qd,Qe,Qf,Qg,Qh,Qi,Qj,Qk,reduceCtorEq,reduceIte,hi,e1,pb,h2,h3]
   ·simp only[go_sem,Q0,Q1,Q2,Q3,Q4,Q5,Q6,Q7,Q8,Q9,Qa,Qb,Qc,Qd,Qe,Qf,Qg,Qh,Qi,Qj,Qk,reduceCtorEq,reduceIte,hi,e1,pb,h2,h3,ih']
theorem f88(s:List UInt8)(hs:s.length<=1000000000000):call T 88 [.str s] [] 0=some ⟨.int .i64 (Qz s),[],[]⟩:=by
 rw[ao xkV];unfold Qz
 by_cases h1:s=[]
 ·simp only[go_sem,Q0,Q1,Q2,Q3,Q4,Q5,Q6,Q7,Q8,Q9,Qa,Qb,Qc,Qd,Qe,Qf,Qg,Qh,Qi,Qj,Qk,reduceCtorEq,reduceIte,h1]
 by_cases h2:10<s.length
 ·have h2':(10:Int)<((s.length:Nat):Int):=by omega
  simp only[go_sem,Q0,Q1,Q2,Q3,Q4,Q5,Q6,Q7,Q8,Q9,Qa,Qb,Qc,Qd,Qe,Qf,Qg,Qh,Qi,Qj,Qk,reduceCtorEq,reduceIte,h1,h2,h2']
 have h2':¬(10:Int)<((s.length:Nat):Int):=by omega
 have hp:(0:Int)<((s.length:Nat):Int):=by cases s with|nil=>exact absurd rfl h1|cons c r=>rw[aC];omega
 have h:=l88 s (by omega) _ 0 rfl (by omega);simp only[aA,bh]at h
 by_cases h3:1<s.length
 ·have h3':(1:Int)<((s.length:Nat):Int):=by omega
  by_cases h4:s.getD 0 0=48
  ·simp only[go_sem,Q0,Q1,Q2,Q3,Q4,Q5,Q6,Q7,Q8,Q9,Qa,Qb,Qc,Qd,Qe,Qf,Qg,Qh,Qi,Qj,Qk,reduceCtorEq,reduceIte,h1,h2,h2',h3,h3',h4,hp]
  ·cases hd:pb s with
   |true=>simp only[go_sem,Q0,Q1,Q2,Q3,Q4,Q5,Q6,Q7,Q8,Q9,Qa,Qb,Qc,Qd,Qe,Qf,Qg,Qh,Qi,Qj,Qk,reduceCtorEq,reduceIte,h1,h2,h2',h3,h3',h4,hp,h,hd,xin s h1 (by omega) hd,YD]
   |false=>simp only[go_sem,Q0,Q1,Q2,Q3,Q4,Q5,Q6,Q7,Q8,Q9,Qa,Qb,Qc,Qd,Qe,Qf,Qg,Qh,Qi,Qj,Qk,reduceCtorEq,reduceIte,h1,h2,h2',h3,h3',h4,hp,h,hd]
 ·have h3':¬(1:Int)<((s.length:Nat):Int):=by omega
  cases hd:pb s with
  |true=>simp only[go_sem,Q0,Q1,Q2,Q3,Q4,Q5,Q6,Q7,Q8,Q9,Qa,Qb,Qc,Qd,Qe,Qf,Qg,Qh,Qi,Qj,Qk,reduceCtorEq,reduceIte,h1,h2,h2',h3,h3',hp,h,hd,xin s h1 (by omega) hd,YD]
  |false=>simp only[go_sem,Q0,Q1,Q2,Q3,Q4,Q5,Q6,Q7,Q8,Q9,Qa,Qb,Qc,Qd,Qe,Qf,Qg,Qh,Qi,Qj,Qk,reduceCtorEq,reduceIte,h1,h2,h2',h3,h3',hp,h,hd]
end
section
open Go.Glob
def alw(k:Int)(t:List UInt8)(lo hi:Int)(b:List UInt8):Bool:=
 if chk k t lo hi=0 then
  (if k=2 then decide (b=t)else if k=3 then gl t b else if k=4 then
   (if t.length<=b.length/\b.take t.length=t then(if lo<=Qz (b.drop t.length)then decide (Qz (b.drop t.length)<=hi)else false)else false)
   else true)
 else false
theorem f35(k:Int)(t:List UInt8)(lo hi:Int)(b:List UInt8)(ht:t.length<=1000000000000)(hb:b.length<=1000000000000):
 call T 35 [.agg [.int .i64 k,.str t,.int .i64 lo,.int .i64 hi],.byt b .no] [] 0=some ⟨.bool (alw k t lo hi b),[],[]⟩:=by
 rw[ao xlx];have h:=f44 k t lo hi ht;unfold alw
 by_cases c0:chk k t lo hi=0
 ·by_cases c2:k=2
  ·subst c2
   by_cases c3:b=t
   ·simp only[go_sem,Q0,Q1,Q2,Q3,Q4,Q5,Q6,Q7,Q8,Q9,Qa,Qb,Qc,Qd,Qe,Qf,Qg,Qh,Qi,Qj,Qk,reduceCtorEq,reduceIte,h,tH,c0,c3]
   ·simp only[go_sem,Q0,Q1,Q2,Q3,Q4,Q5,Q6,Q7,Q8,Q9,Qa,Qb,Qc,Qd,Qe,Qf,Qg,Qh,Qi,Qj,Qk,reduceCtorEq,reduceIte,h,tH,c0,c3]
  by_cases c3:k=3
  ·subst c3
   simp only[go_sem,Q0,Q1,Q2,Q3,Q4,Q5,Q6,Q7,Q8,Q9,Qa,Qb,Qc,Qd,Qe,Qf,Qg,Qh,Qi,Qj,Qk,reduceCtorEq,reduceIte,h,tH,c0,f86 t b ht hb,xlQ]
  by_cases c4:k=4
  ·subst c4
   have hn:=f88 (b.drop t.length) (by rw[aK];omega)
   by_cases c5:t.length<=b.length/\b.take t.length=t
   ·by_cases c6:lo<=Qz (b.drop t.length)
    ·simp only[go_sem,Q0,Q1,Q2,Q3,Q4,Q5,Q6,Q7,Q8,Q9,Qa,Qb,Qc,Qd,Qe,Qf,Qg,Qh,Qi,Qj,Qk,reduceCtorEq,reduceIte,h,tH,c0,f87,xc7,c5,hn,xc6,c6]
    ·simp only[go_sem,Q0,Q1,Q2,Q3,Q4,Q5,Q6,Q7,Q8,Q9,Qa,Qb,Qc,Qd,Qe,Qf,Qg,Qh,Qi,Qj,Qk,reduceCtorEq,reduceIte,h,tH,c0,f87,xc7,c5,hn,xc6,c6]
   ·simp only[go_sem,Q0,Q1,Q2,Q3,Q4,Q5,Q6,Q7,Q8,Q9,Qa,Qb,Qc,Qd,Qe,Qf,Qg,Qh,Qi,Qj,Qk,reduceCtorEq,reduceIte,h,tH,c0,f87,xc7,c5,f88 b hb,xc6]
  ·simp only[go_sem,Q0,Q1,Q2,Q3,Q4,Q5,Q6,Q7,Q8,Q9,Qa,Qb,Qc,Qd,Qe,Qf,Qg,Qh,Qi,Qj,Qk,reduceCtorEq,reduceIte,h,tH,c0,c2,c3,c4]
 ·simp only[go_sem,Q0,Q1,Q2,Q3,Q4,Q5,Q6,Q7,Q8,Q9,Qa,Qb,Qc,Qd,Qe,Qf,Qg,Qh,Qi,Qj,Qk,reduceCtorEq,reduceIte,h,tH,c0]
end
section
open Go.Glob
theorem dN(B:List UInt8)(i n:Nat)(h:0<n):dw B i n<n:=by
 unfold dw;split
 ·exact Nat.mod_lt _ h
 ·exact h
end
section
open Go.Glob
def hZ:Nat->List UInt8
 |0=> [97,61,49]
 |1=> [99,111,117,110,116,61,53]
 |2=> [99,111,117,110,116,61,49,55]
 |3=> [104,111,115,116,61,120]
 |4=> [109,111,100,101,32,98]
 |_=> [126]
def Eg:Nat->List UInt8
 |0=> []
 |1=> [42]
 |2=> [97,61,63]
 |3=> [42,61,42]
 |4=> [63,111,42,53]
 |5=> [99,111,117,110,116,61,63,63]
 |_=> [42,97,42,42,49,42]
def XU:Nat->List UInt8
 |0=> [99,111,117,110,116,61]
 |1=> [97,61]
 |_=> []
theorem vj:∀v,v<6->chk 2 (hZ v) 0 0=0/\(hZ v).length<=20:=by decide
theorem vn:∀v,v<7->chk 3 (Eg v) 0 0=0/\(Eg v).length<=20:=by decide
theorem sO:∀v,v<3->prn (XU v)=true/\(XU v).length<=20:=by decide
theorem cz0:((0:Nat):Int)=0:=rfl
theorem cz1:((1:Nat):Int)=1:=rfl
theorem cz2:((2:Nat):Int)=2:=rfl
theorem cz3:((3:Nat):Int)=3:=rfl
theorem cz4:((4:Nat):Int)=4:=rfl
theorem cz5:((5:Nat):Int)=5:=rfl
theorem cz6:((6:Nat):Int)=6:=rfl
theorem cz7:((7:Nat):Int)=7:=rfl
theorem f73(B:List UInt8)(i:Nat)(hB:B.length<=1000):call T 73 [.ptr 0 0] [bn B i] 0=some ⟨.byt (hZ (dw B i 6)) .no,[(0,bn B (cz B i))],[]⟩:=by
 rw[ao xk7];have g:=f71 B i 6 (by omega) (by omega);have hm:=dN B i 6 (by omega);rw[cz6]at g;generalize dw B i 6=v at g hm;simp only[bn]at g;have:v=0\/v=1\/v=2\/v=3\/v=4\/v=5:=by omega
 rcases this with rfl|rfl|rfl|rfl|rfl|rfl<;>simp only[cz0,cz1,cz2,cz3,cz4,cz5]at g<;>simp only[go_sem,Q0,Q1,Q2,Q3,Q4,Q5,Q6,Q7,Q8,Q9,Qa,Qb,Qc,Qd,Qe,Qf,Qg,Qh,Qi,Qj,Qk,reduceCtorEq,reduceIte,List.all_replicate,cz0,cz1,cz2,cz3,cz4,cz5,cz6,cz7,bn,g,jw,hZ]
theorem RG(t:List UInt8)(ht:prn t=true)(hl:t.length<=20)(a b:Nat)(ha:a<1000)(hb:b<1000):chk 4 t a ((a:Int)+b)=0:=by unfold chk;rw[if_neg (by omega),if_neg (by omega),if_pos ht,if_pos rfl,if_neg (by omega),if_neg (by omega),if_neg (by omega),if_neg (by omega)]
theorem xkv(B:List UInt8)(i:Nat)(hB:B.length<=1000):∃(k:Int)(t:List UInt8)(lo hi:Int)(j:Nat),chk k t lo hi=0/\t.length<=20/\
 call T 103 [.ptr 0 0] [bn B i] 0=some ⟨.agg [.int .i64 k,.str t,.int .i64 lo,.int .i64 hi],[(0,bn B j)],[]⟩:=by
 rw[ao Ei];have g:=f71 B i 5 (by omega) (by omega);have hm:=dN B i 5 (by omega);rw[cz5]at g;generalize dw B i 5=v at g hm;simp only[bn]at g;have hv:v=0\/v=1\/v=2\/v=3\/v=4:=by omega
 generalize cz B i=i1 at g;have g7:=f71 B i1 7 (by omega) (by omega);have h7:=dN B i1 7 (by omega);have g20:=f71 B i1 20 (by omega) (by omega);have h20:=dN B i1 20 (by omega);have g3:=f71 B (cz B i1) 3 (by omega) (by omega);have h3:=dN B (cz B i1) 3 (by omega);have g30:=f71 B (cz B (cz B i1)) 30 (by omega) (by omega);have h30:=dN B (cz B (cz B i1)) 30 (by omega);have hl:=f73 B i1 hB;have h6:=dN B i1 6 (by omega);simp only[bn]at g7 g20 g3 g30 hl;rw[cz7]at g7;rw[c20]at g20;rw[cz3]at g3;rw[c30]at g30;generalize dw B i1 6=v6 at*;generalize dw B i1 7=v7 at*;generalize dw B i1 20=v20 at*;generalize dw B (cz B i1) 3=v3 at*;generalize dw B (cz B (cz B i1)) 30=v30 at*
 have hN:v=3\/v=4->∃(k:Int)(t:List UInt8)(lo hi:Int)(j:Nat),chk k t lo hi=0/\t.length<=20/\
  call T 103 [.ptr 0 0] [bn B i] 0=some ⟨.agg [.int .i64 k,.str t,.int .i64 lo,.int .i64 hi],[(0,bn B j)],[]⟩:=by
  intro hv;refine⟨4,XU v3,v20,(v20:Int)+v30,cz B (cz B (cz B i1)),RG _ (sO _ h3).1 (sO _ h3).2 _ _ (by omega) (by omega),(sO _ h3).2, ?_⟩;have e:af.wrap ((v20:Int)+(v30:Int))=(v20:Int)+v30:=w64 (by omega) (by omega);rw[ao Ei];have:v3=0\/v3=1\/v3=2:=by omega
  rcases hv with rfl|rfl<;>rcases this with rfl|rfl|rfl<;>simp only[cz0,cz1,cz2,cz3,cz4]at g g3<;>simp only[go_sem,Q0,Q1,Q2,Q3,Q4,Q5,Q6,Q7,Q8,Q9,Qa,Qb,Qc,Qd,Qe,Qf,Qg,Qh,Qi,Qj,Qk,reduceCtorEq,reduceIte,List.all_replicate,cz0,cz1,cz2,cz3,cz4,cz5,cz6,cz7,bn,g,g20,g3,g30,jw,e,XU]
 rcases hv with rfl|rfl|rfl|rfl|rfl
 ·refine⟨1,[],0,0,i1,by decide,by decide, ?_⟩
  simp only[cz0]at g;simp only[go_sem,Q0,Q1,Q2,Q3,Q4,Q5,Q6,Q7,Q8,Q9,Qa,Qb,Qc,Qd,Qe,Qf,Qg,Qh,Qi,Qj,Qk,reduceCtorEq,reduceIte,List.all_replicate,cz0,cz1,cz2,cz3,cz4,cz5,cz6,cz7,bn,g,jw]
 ·refine⟨2,hZ v6,0,0,cz B i1,(vj _ h6).1,(vj _ h6).2, ?_⟩
  simp only[cz1]at g;simp only[go_sem,Q0,Q1,Q2,Q3,Q4,Q5,Q6,Q7,Q8,Q9,Qa,Qb,Qc,Qd,Qe,Qf,Qg,Qh,Qi,Qj,Qk,reduceCtorEq,reduceIte,List.all_replicate,cz0,cz1,cz2,cz3,cz4,cz5,cz6,cz7,bn,g,jw,hl,xiL]
 ·refine⟨3,Eg v7,0,0,cz B i1,(vn _ h7).1,(vn _ h7).2, ?_⟩
  simp only[cz2]at g;have:v7=0\/v7=1\/v7=2\/v7=3\/v7=4\/v7=5\/v7=6:=by omega
  rcases this with rfl|rfl|rfl|rfl|rfl|rfl|rfl<;>simp only[cz0,cz1,cz2,cz3,cz4,cz5,cz6]at g7<;>simp only[go_sem,Q0,Q1,Q2,Q3,Q4,Q5,Q6,Q7,Q8,Q9,Qa,Qb,Qc,Qd,Qe,Qf,Qg,Qh,Qi,Qj,Qk,reduceCtorEq,reduceIte,List.all_replicate,cz0,cz1,cz2,cz3,cz4,cz5,cz6,cz7,bn,g,g7,jw,Eg]
 ·rw[<-ao Ei];exact hN (.inl rfl)
 ·rw[<-ao Ei];exact hN (.inr rfl)
end
section
open Go.Glob
def dg(d:Nat):UInt8:=cO ((48+d:Nat):Int)
def dec(n:Nat):List UInt8:=if h:n<10 then [dg n]else dec (n/10)++ [dg (n % 10)]
termination_by n
decreasing_by omega
theorem fk{n:Nat}(h:n<10):dec n=[dg n]:=by rw[dec,dif_pos h]
theorem ct{n:Nat}(h:¬n<10):dec n=dec (n/10)++ [dg (n % 10)]:=by rw[dec,dif_neg h]
theorem Rz:∀n,(dec n).length<=n+1:=by
 intro n;induction n using Nat.strongRecOn with
 |_ n ih=>
  by_cases h:n<10
  ·rw[fk h];simp
  ·have:=ih (n/10) (by omega)
   rw[ct h,ac,aS];omega
theorem mm:∀k n,n<10^(k+1)->(dec n).length<=k+1
 |0,n,h=>by rw[fk (by simpa using h)];simp
 |k+1,n,h=>by
  by_cases h1:n<10
  ·rw[fk h1];simp
  ·have:=mm k (n/10) (by rw[Nat.pow_succ]at h;omega)
   rw[ct h1,ac,aS];omega
theorem f85:∀n:Nat,n<=1000000000000->call T 85 [.int .i64 n] [] 0=some ⟨.byt (dec n) (.id 60),[],[60]⟩:=by
 intro n;induction n using Nat.strongRecOn with
 |_ n ih=>
  intro hn;rw[ao xkY]
  by_cases h:n<10
  ·have h':(n:Int)<10:=by omega
   have e1:af.wrap (48+(n:Int))=((48+n:Nat):Int):=wZ (by omega)
   have e2:cO ((48+n:Nat):Int)=dg n:=rfl;simp only[go_sem,Q0,Q1,Q2,Q3,Q4,Q5,Q6,Q7,Q8,Q9,Qa,Qb,Qc,Qd,Qe,Qf,Qg,Qh,Qi,Qj,Qk,reduceCtorEq,reduceIte,h',e1,e2,fk h]
  ·have h':¬(n:Int)<10:=by omega
   have i1:=ih (n/10) (by omega) (by omega);have e0:(n:Int).tdiv 10=((n/10:Nat):Int):=rfl;have e0':(n:Int).tmod 10=((n % 10:Nat):Int):=rfl;have e00:af.wrap ((n/10:Nat):Int)=((n/10:Nat):Int):=w64 (by omega) (by omega);have e1:af.wrap (48+((n % 10:Nat):Int))=((48+n % 10:Nat):Int):=wZ (by omega)
   have e2:cO ((48+n % 10:Nat):Int)=dg (n % 10):=rfl;have hl:=Rz (n/10);have hl2:(dec (n/10)).length+1<=140737488355328:=by omega
   simp only[go_sem,Q0,Q1,Q2,Q3,Q4,Q5,Q6,Q7,Q8,Q9,Qa,Qb,Qc,Qd,Qe,Qf,Qg,Qh,Qi,Qj,Qk,reduceCtorEq,reduceIte,h',i1,e0,e0',e00,e1,e2,hl2,xiH,ct h]
end
end Go.Proofs.YtkcjdeofknkndaaGreatDoor
