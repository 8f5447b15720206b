/- Contracts. No condition. -/
import Derived.Test.YtkcjdeofknkndaaGreatDoorTaDF
open Bool renaming and_eq_true -> aB, or_eq_true -> fL
open Int renaming natCast_zero -> aD
open Go.IntKind renaming i64 -> ai
open List renaming all_cons -> iv, cons_append -> aV, drop_drop -> fq, drop_eq_getElem_cons -> aY, drop_eq_nil_of_le -> br, drop_length -> bv, drop_zero -> bh, getD_cons_zero -> bF, getD_eq_getElem?_getD -> aa, getElem?_drop -> bx, getElem?_eq_getElem -> ab, length_append -> af, length_cons -> ay, length_drop -> aL, length_nil -> bl, length_singleton -> aP, length_take -> aA, singleton_append -> dC, take_append_drop -> fY, take_length -> bB
open Nat renaming le_refl -> aN, zero_le -> bD
open UInt8 renaming lt_iff_toNat_lt -> rJ, ofInt -> dj
set_option maxRecDepth 100000
set_option maxHeartbeats 16000000
set_option linter.unusedSimpArgs false
set_option linter.unusedVariables false
namespace Go.Proofs.YtkcjdeofknkndaaGreatDoor
open Go.Sy
open UInt8 renaming reduceLT -> Q0, reduceLE -> Q1
open Int renaming reduceToNat -> Q2, reduceLE -> Q3, reduceLT -> Q4, reduceEq -> Q5, reduceNe -> Q6, reduceNeg -> Q7, reduceAdd -> Q8, reduceSub -> Q9, reduceMul -> Qa
open Nat renaming reducePow -> Qb, reduceDiv -> Qc, reduceMod -> Qd, reduceAdd -> Qe, reduceSub -> Qf, reduceMul -> Qg, reduceLT -> Qh, reduceLeDiff -> Qi, reduceEqDiff -> Qj, reduceBEq -> Qk
def fg(c:UInt8):t6->t6
 |[]=> []
 |x::r=>if x=c then fg c r else x::r
theorem xig(c:UInt8):∀s:t6,run T (.loop xO) ⟨[(0,.str s),(1,.u8 c)],[],[]⟩=some (.x 0,⟨[(0,.str (fg c s))],[],[]⟩)
 |[]=>by rw[al];simp only[go_sem,Q0,Q1,Q2,Q3,Q4,Q5,Q6,Q7,Q8,Q9,Qa,Qb,Qc,Qd,Qe,Qf,Qg,Qh,Qi,Qj,Qk,reduceCtorEq,reduceIte,fg,aD]
 |x::r=>by
  rw[al];have h:=xig c r;have z:(0:Int)<((r.length+1:Nat):Int):=by omega
  have C:(1:Int)<=((r.length+1:Nat):Int):=by omega
  by_cases y:x=c
  ·simp only[go_sem,Q0,Q1,Q2,Q3,Q4,Q5,Q6,Q7,Q8,Q9,Qa,Qb,Qc,Qd,Qe,Qf,Qg,Qh,Qi,Qj,Qk,reduceCtorEq,reduceIte,fg,y,h,ay,bF,z,C,List.drop_succ_cons,bh,bB]
  ·simp only[go_sem,Q0,Q1,Q2,Q3,Q4,Q5,Q6,Q7,Q8,Q9,Qa,Qb,Qc,Qd,Qe,Qf,Qg,Qh,Qi,Qj,Qk,reduceCtorEq,reduceIte,fg,y,h,ay,bF,z]
theorem xkj(c:UInt8)(s:t6):call T 146 [.str s,.u8 c] [] 0=some ⟨.str (fg c s),[],[]⟩:=by rw[au xgf];simp only[go_sem,Q0,Q1,Q2,Q3,Q4,Q5,Q6,Q7,Q8,Q9,Qa,Qb,Qc,Qd,Qe,Qf,Qg,Qh,Qi,Qj,Qk,reduceCtorEq,reduceIte,xig]
def ll(c:UInt8)(s:t6):t6:=(fg c s.reverse).reverse
theorem rp(c:UInt8):ll c []=[]:=rfl
theorem Dn(c x:UInt8)(s:t6):ll c (s++ [x])=if x=c then ll c s else s++ [x]:=by
 unfold ll;rw[List.reverse_append,List.reverse_singleton,dC,fg];split
 ·rfl
 ·simp
theorem xjT(c:UInt8):∀(n:Nat)(s:t6),s.length=n->n<9223372036854775807->run T (.loop xN) ⟨[(0,.str s),(1,.u8 c)],[],[]⟩=some (.x 0,⟨[(0,.str (ll c s))],[],[]⟩):=by
 intro n;induction n with
 |zero=>
  intro s y _;cases s with
  |cons _ _=>simp at y
  |nil=>rw[al];simp only[go_sem,Q0,Q1,Q2,Q3,Q4,Q5,Q6,Q7,Q8,Q9,Qa,Qb,Qc,Qd,Qe,Qf,Qg,Qh,Qi,Qj,Qk,reduceCtorEq,reduceIte,rp,bl,aD]
 |succ n Q=>
  intro s y hn;obtain⟨t,x,rfl⟩:∃t x,s=t++ [x]:=⟨s.dropLast,s.getLast (by intro e;subst e;simp at y),(List.dropLast_concat_getLast _).symm⟩;have U:t.length=n:=by simpa using y
  have h:=Q t U (by omega);rw[al];generalize hu:t++ [x]=u;have J:(0:Int)<((u.length:Nat):Int):=by subst hu;simp
  have W:u.length=t.length+1:=by subst hu;simp
  have F:ai.wrap ((u.length:Int)-1)=((t.length:Nat):Int):=wZ (by omega)
  have I:u.getD t.length 0=x:=by subst hu;simp[aa]
  have E:u.take t.length=t:=by subst hu;simp
  have O:t.length<u.length:=by subst hu;simp
  have H:t.length<=u.length:=by omega
  have C:ll c u=if x=c then ll c t else u:=by subst hu;exact Dn c x t
  by_cases z:x=c
  ·simp only[go_sem,Q0,Q1,Q2,Q3,Q4,Q5,Q6,Q7,Q8,Q9,Qa,Qb,Qc,Qd,Qe,Qf,Qg,Qh,Qi,Qj,Qk,reduceCtorEq,reduceIte,z,h,J,F,I,E,O,H,C]
  ·simp only[go_sem,Q0,Q1,Q2,Q3,Q4,Q5,Q6,Q7,Q8,Q9,Qa,Qb,Qc,Qd,Qe,Qf,Qg,Qh,Qi,Qj,Qk,reduceCtorEq,reduceIte,z,h,J,F,I,E,O,H,C]
theorem xki(c:UInt8)(s:t6)(h:s.length<9223372036854775807):call T 147 [.str s,.u8 c] [] 0=some ⟨.str (ll c s),[],[]⟩:=by rw[au xge];simp only[go_sem,Q0,Q1,Q2,Q3,Q4,Q5,Q6,Q7,Q8,Q9,Qa,Qb,Qc,Qd,Qe,Qf,Qg,Qh,Qi,Qj,Qk,reduceCtorEq,reduceIte,xjT c _ s rfl h]
theorem xku(s:t6)(y:s.length<9223372036854775807):call T 127 [.str s,.str [42]] [] 0=some ⟨.str (fg 42 (ll 42 s)),[],[]⟩:=by
 rw[au xgw]
 by_cases h:s=[]
 ·subst h
  simp only[go_sem,Q0,Q1,Q2,Q3,Q4,Q5,Q6,Q7,Q8,Q9,Qa,Qb,Qc,Qd,Qe,Qf,Qg,Qh,Qi,Qj,Qk,reduceCtorEq,reduceIte,rp,fg]
 ·simp only[go_sem,Q0,Q1,Q2,Q3,Q4,Q5,Q6,Q7,Q8,Q9,Qa,Qb,Qc,Qd,Qe,Qf,Qg,Qh,Qi,Qj,Qk,reduceCtorEq,reduceIte,h,xki 42 s y,xkj,c1,xgS,xgR]
end Go.Proofs.YtkcjdeofknkndaaGreatDoor
namespace Go.Glob
open Go.Sy (t6)
def tl(f:t6->Bool):t6->Bool
 |[]=>f []
 |x::r=>f (x::r)||tl f r
def gl:t6->t6->Bool
 |[],l=>l.isEmpty
 |c::p,l=>if c=42 then tl (gl p) l else match l with
  |[]=>false
  |x::r=>(decide (c=63)||decide (c=x))&&gl p r
theorem xb(f:t6->Bool):∀l:t6,tl f l=true↔∃k,k<=l.length/\f (l.drop k)=true
 |[]=>by simp only[tl,bl,List.drop_nil];exact⟨fun h=>⟨0,aN _,h⟩,fun⟨_,_,h⟩=>h⟩
 |x::r=>by
  simp only[tl,fL,xb f r];constructor
  ·rintro(h|⟨k,y,h⟩)
   ·exact⟨0,bD _,h⟩
   ·exact⟨k+1,by simpa using y,h⟩
  ·rintro⟨k,y,h⟩
   cases k with
   |zero=>exact .inl h
   |succ k=>exact .inr ⟨k,by simpa using y,h⟩
theorem sr(p l:t6):gl (42::p) l=tl (gl p) l:=by simp[gl]
theorem xcn(c:UInt8)(p:t6)(h:c≠42):gl (c::p) []=false:=by simp[gl,h]
theorem ss(c:UInt8)(p:t6)(x:UInt8)(l:t6)(h:c≠42):gl (c::p) (x::l)=((decide (c=63)||decide (c=x))&&gl p l):=by simp[gl,h]
def i9(p:t6):Bool:=p.all fun c=>decide (c=42)
theorem pw:∀p:t6,gl p []=i9 p
 |[]=>rfl
 |c::p=>by
  by_cases h:c=42
  ·subst h
   rw[sr,tl,pw p];simp[i9]
  ·rw[xcn _ _ h];simp[i9,h]
def free(s:t6):Bool:=s.all fun c=>decide (c≠42)
def BT:t6->t6->Bool
 |[],_=>true
 |_::_,[]=>false
 |c::s,x::m=>(decide (c=63)||decide (c=x))&&BT s m
theorem M7:∀(s q m:t6),free s=true->gl (s++q) m=(BT s m&&gl q (m.drop s.length))
 |[],q,m,_=>by simp[BT]
 |c::s,q,[],h=>by simp only[free,iv,aB,decide_eq_true_eq]at h;simp[BT,gl,h.1]
 |c::s,q,x::m,h=>by simp only[free,iv,aB,decide_eq_true_eq]at h;rw[aV,ss _ _ _ _ h.1,M7 s q m (by simpa[free]using h.2)];simp[BT,Bool.and_assoc]
theorem uQ:∀{s m:t6},BT s m=true->s.length<=m.length
 |[],_,_=>bD _
 |_::_,[],h=>by cases h
 |c::s,x::m,h=>by simp only[BT,aB]at h;have:=uQ h.2;simp;omega
theorem OI{f:t6->Bool}{m:t6}{i j:Nat}(h:i<=j)(z:tl f (m.drop j)=true):tl f (m.drop i)=true:=by
 rw[xb]at z ⊢;obtain⟨k,C,y⟩:=z;rw[aL]at C;rw[fq]at y
 by_cases E:j<=m.length
 ·refine⟨j-i+k,by rw[aL];omega, ?_⟩
  rw[fq,show i+(j-i+k)=j+k by omega];exact y
 ·refine⟨m.length-i,by rw[aL];omega, ?_⟩
  rw[fq];rw[br (by omega)]at y ⊢;exact y
structure Inv(P L:List UInt8)(K r p l:Nat)(B:Bool):Prop where
 kp:K<=p
 pP:p<=P.length
 rl:r<=l
 lL:l<=L.length
 b0:K=0->B=gl (P.drop p) (L.drop l)
 b1:0<K->B=(gl (P.drop p) (L.drop l)||tl (gl (P.drop K)) (L.drop (r+1)))
 pl:0<K->p-K=l-r
 fr:0<K->free ((P.drop K).take (p-K))=true
theorem nz(l:t6)(i:Nat)(h:i<l.length):l.drop i=l.getD i 0::l.drop (i+1):=by rw[aY h,aa,ab h];rfl
variable {P L : List UInt8} {K r p l : Nat} {B : Bool}
theorem Inv.split(h:Inv P L K r p l B):P.drop K=(P.drop K).take (p-K)++P.drop p:=by have:=fY (p-K) (P.drop K);rw[fq,show K+(p-K)=p by have:=h.kp;omega]at this;exact this.symm
theorem Inv.seglen(h:Inv P L K r p l B):((P.drop K).take (p-K)).length=p-K:=by have:=h.pP;rw[aA,aL];omega
theorem Inv.seg(h:Inv P L K r p l B)(y:0<K)(m:t6):gl (P.drop K) m=(BT ((P.drop K).take (p-K)) m&&gl (P.drop p) (m.drop (p-K))):=by have:=M7 _ (P.drop p) m (h.fr y);rw[<-h.split,h.seglen]at this;exact this
theorem Inv.later(h:Inv P L K r p l B)(E:0<K)(H:tl (gl (P.drop K)) (L.drop (r+1))=true):(l=L.length/\r=L.length/\gl (P.drop p) []=true)\/∃j,l<j/\j<=L.length/\gl (P.drop p) (L.drop j)=true:=by
 have O:=h.rl;have T:=h.lL;have Q:=h.pl E;have U:=h.kp;obtain⟨k,z,y⟩:=(xb _ _).1 H;rw[h.seg E,aB]at y;have F:=uQ y.1;rw[h.seglen]at F;have C:=y.2;rw[fq,fq]at C;rw[fq,aL]at F;rw[aL]at z
 by_cases I:r=L.length
 ·refine .inl ⟨by omega,I, ?_⟩
  have J:L.drop (r+1+(k+(p-K)))=[]:=br (by omega);rwa[J]at C
 ·exact .inr ⟨r+1+(k+(p-K)),by omega,by omega,C⟩
theorem Inv.star(h:Inv P L K r p l B)(y:p<P.length)(F:l<L.length)(z:P.getD p 0=42):Inv P L (p+1) l (p+1) l B:=by
 have e:gl (P.drop p) (L.drop l)=(gl (P.drop (p+1)) (L.drop l)||tl (gl (P.drop (p+1))) (L.drop (l+1))):=by rw[nz P p y,z,sr,nz L l F];rfl
 refine⟨aN _,y,aN _,h.lL,fun H=>by omega,fun _=> ?_,fun _=>by omega,fun _=>by rw[Nat.sub_self];rfl⟩;rw[<-e]
 by_cases E:K=0
 ·exact h.b0 E
 ·rw[h.b1 (by omega)]
  cases hg:gl (P.drop p) (L.drop l)with
  |true=>rfl
  |false=>
   rw[Bool.false_or];cases ht:tl (gl (P.drop K)) (L.drop (r+1))with
   |false=>rfl
   |true=>
    exfalso;rcases h.later (by omega) ht with⟨C,_⟩|⟨j,C,h2,h3⟩
    ·omega
    ·rw[nz P p y,z,sr]at h3 hg
     rw[OI (Nat.le_of_lt C) h3]at hg;cases hg
theorem Inv.step(h:Inv P L K r p l B)(z:p<P.length)(E:l<L.length)(C:P.getD p 0≠42)(F:P.getD p 0=63\/P.getD p 0=L.getD l 0):Inv P L K r (p+1) (l+1) B:=by
 have I:=h.kp;have J:=h.rl
 have e:gl (P.drop p) (L.drop l)=gl (P.drop (p+1)) (L.drop (l+1)):=by
  rw[nz P p z,nz L l E,ss _ _ _ _ C];have:(decide (P.getD p 0=63)||decide (P.getD p 0=L.getD l 0))=true:=by simpa using F
  rw[this,Bool.true_and]
 refine⟨by omega,z,by omega,E,fun y=>by rw[<-e];exact h.b0 y,fun y=>by rw[<-e];exact h.b1 y,fun y=>by have:=h.pl y;omega,fun y=> ?_⟩
 have H:(P.drop K).take (p+1-K)=(P.drop K).take (p-K)++ [P.getD p 0]:=by
  rw[show p+1-K=(p-K)+1 by omega,List.take_add_one]
  congr 1
  rw[bx,show K+(p-K)=p by omega,ab z,aa,ab z];rfl
 rw[H];have:=h.fr y;unfold free at this ⊢;rw[List.all_append,this];simpa using C
theorem Inv.miss(h:Inv P L K r p l B)(z:l<L.length)(H:p<P.length->P.getD p 0≠42/\P.getD p 0≠63/\P.getD p 0≠L.getD l 0):gl (P.drop p) (L.drop l)=false:=by
 by_cases y:p<P.length
 ·obtain⟨E,F,C⟩:=H y
  rw[nz P p y,nz L l z,ss _ _ _ _ E];simp only[F,C,decide_false,Bool.or_false,Bool.false_and]
 ·rw[br (by omega),nz L l z];rfl
theorem Inv.back(h:Inv P L K r p l B)(y:0<K)(z:l<L.length)(E:p<P.length->P.getD p 0≠42/\P.getD p 0≠63/\P.getD p 0≠L.getD l 0):Inv P L K (r+1) K (r+1) B:=by
 have I:=h.rl;have Q:=h.kp;have O:=h.pP;refine⟨aN _,by omega,aN _,by omega,fun J=>by omega,fun _=> ?_,fun _=>by omega,fun _=>by rw[Nat.sub_self];rfl⟩;rw[h.b1 y,h.miss z E,Bool.false_or]
 by_cases C:r+1<L.length
 ·rw[nz L (r+1) C];rfl
 ·have F:L.drop (r+1)=[]:=br (by omega)
  have H:L.drop (r+1+1)=[]:=br (by omega);rw[F,H];simp only[tl,Bool.or_self]
theorem Inv.fail(h:Inv P L K r p l B)(z:K=0)(y:l<L.length)(C:p<P.length->P.getD p 0≠42/\P.getD p 0≠63/\P.getD p 0≠L.getD l 0):B=false:=by rw[h.b0 z,h.miss y C]
theorem Inv.fin(h:Inv P L K r p l B)(C:l=L.length):i9 (P.drop p)=B:=by
 have e:gl (P.drop p) (L.drop l)=i9 (P.drop p):=by rw[C,bv,pw]
 by_cases z:K=0
 ·rw[h.b0 z,e]
 ·rw[h.b1 (by omega),e]
  cases ht:tl (gl (P.drop K)) (L.drop (r+1))with
  |false=>rw[Bool.or_false]
  |true=>
   rcases h.later (by omega) ht with⟨_,_,y⟩|⟨j,h1,h2,_⟩
   ·rw[pw]at y;rw[y];rfl
   ·omega
theorem Inv.init(P L:t6):Inv P L 0 0 0 0 (gl P L):=
 ⟨aN _,bD _,aN _,bD _,fun _=>rfl,fun h=>by omega,fun h=>by omega,fun h=>by omega⟩
end Go.Glob
namespace Go.Proofs.YtkcjdeofknkndaaGreatDoor
open Go.Sy
open UInt8 renaming reduceLT -> Q0, reduceLE -> Q1
open Int renaming reduceToNat -> Q2, reduceLE -> Q3, reduceLT -> Q4, reduceEq -> Q5, reduceNe -> Q6, reduceNeg -> Q7, reduceAdd -> Q8, reduceSub -> Q9, reduceMul -> Qa
open Nat renaming reducePow -> Qb, reduceDiv -> Qc, reduceMod -> Qd, reduceAdd -> Qe, reduceSub -> Qf, reduceMul -> Qg, reduceLT -> Qh, reduceLeDiff -> Qi, reduceEqDiff -> Qj, reduceBEq -> Qk
end Go.Proofs.YtkcjdeofknkndaaGreatDoor
namespace Go.Glob
end Go.Glob
namespace Go.Proofs.YtkcjdeofknkndaaGreatDoor
open Go.Sy
open UInt8 renaming reduceLT -> Q0, reduceLE -> Q1
open Int renaming reduceToNat -> Q2, reduceLE -> Q3, reduceLT -> Q4, reduceEq -> Q5, reduceNe -> Q6, reduceNeg -> Q7, reduceAdd -> Q8, reduceSub -> Q9, reduceMul -> Qa
open Nat renaming reducePow -> Qb, reduceDiv -> Qc, reduceMod -> Qd, reduceAdd -> Qe, reduceSub -> Qf, reduceMul -> Qg, reduceLT -> Qh, reduceLeDiff -> Qi, reduceEqDiff -> Qj, reduceBEq -> Qk
section
open Go.Glob
theorem gR:∀s:t6,fg 42 s=[]↔i9 s=true
 |[]=>by simp[fg,i9]
 |x::r=>by
  have:=gR r
  by_cases h:x=42
  ·simp only[fg,h,if_true,this,i9,iv,decide_true,Bool.true_and]
  ·simp[fg,h,i9]
theorem km(s:t6):i9 s.reverse=i9 s:=by simp[i9]
theorem Ej(s:t6):fg 42 (ll 42 s)=[]↔i9 s=true:=by
 rw[gR];unfold ll;rw[km];constructor
 ·intro h
  rw[<-gR]at h
  have e:∀t:t6,fg 42 t=t\/fg 42 t=[]\/∃x r,fg 42 t=x::r/\x≠42:=by
   intro t;induction t with
   |nil=>exact .inl rfl
   |cons x r O=>
    by_cases F:x=42
    ·simp only[fg,F,if_true]
     rcases O with h|h|h
     ·cases r with
      |nil=>exact .inr (.inl h)
      |cons y H=>
       rw[h]
       by_cases E:y=42
       ·exfalso
        have J:∀t:t6,(fg 42 t).length<=t.length:=by
         intro t;induction t with
         |nil=>exact aN _
         |cons z t I=>simp only[fg];split<;>simp only[ay]<;>omega
        rw[E]at h;simp only[fg,if_true]at h;have:=J H;rw[h]at this;simp at this;omega
       ·exact .inr (.inr ⟨y,H,rfl,E⟩)
     ·exact .inr (.inl h)
     ·exact .inr (.inr h)
    ·exact .inl (by simp[fg,F])
  rcases e s.reverse with C|C|⟨x,r,C,h2⟩
  ·rw[C,gR,km]at h;exact h
  ·rw[gR,km]at C;exact C
  ·rw[C]at h;simp[fg,h2]at h
 ·intro h
  rw[<-km,<-gR]at h;rw[h];rfl
def Out(P:t6)(B:Bool)(o:Option (Ex×CSt)):Prop:=
 (∃q,q<=P.length/\i9 (P.drop q)=B/\o=some (.x 0,⟨[(0,.str P),(5,.int .i64 (q:Nat))],[],[]⟩))\/(B=false/\o=some (.r,⟨[(4,.bool false)],[],[]⟩))
theorem l86(P L:t6)(Z:P.length<=1000000000000)(hL:L.length<=1000000000000)(B:Bool)(K r p l:Nat)(s:Int)(hs:s=(K:Int)-1)(h:Inv P L K r p l B):
 Out P B (run T (.loop xo) ⟨[(0,.str P),(1,.byt L .no),(5,.int .i64 p),(6,.int .i64 l),(7,.int .i64 s),(8,.int .i64 r)],[],[]⟩):=by
 have a1:=h.kp;have a2:=h.pP;have a3:=h.rl;have a4:=h.lL;rw[al]
 by_cases y:l<L.length
 ·have U:ai.wrap ((p:Int)+1)=((p+1:Nat):Int):=cA p (by omega)
  have J:ai.wrap ((l:Int)+1)=((l+1:Nat):Int):=cA l (by omega);have W:ai.wrap ((r:Int)+1)=((r+1:Nat):Int):=cA r (by omega);have Q:ai.wrap (s+1)=(K:Int):=by rw[hs,w64 (by omega) (by omega)];omega
  by_cases C:p<P.length
  ·by_cases E:P.getD p 0=42
   ·have F:=l86 P L Z hL B (p+1) l (p+1) l p (by omega) (h.star C y E)
    simp only[go_sem,Q0,Q1,Q2,Q3,Q4,Q5,Q6,Q7,Q8,Q9,Qa,Qb,Qc,Qd,Qe,Qf,Qg,Qh,Qi,Qj,Qk,reduceCtorEq,reduceIte,y,C,E,U,J,W,Q];exact F
   ·by_cases O:P.getD p 0=63
    ·have F:=l86 P L Z hL B K r (p+1) (l+1) s hs (h.step C y E (.inl O))
     simp only[go_sem,Q0,Q1,Q2,Q3,Q4,Q5,Q6,Q7,Q8,Q9,Qa,Qb,Qc,Qd,Qe,Qf,Qg,Qh,Qi,Qj,Qk,reduceCtorEq,reduceIte,y,C,E,O,U,J,W,Q];exact F
    ·by_cases H:P.getD p 0=L.getD l 0
     ·have F:=l86 P L Z hL B K r (p+1) (l+1) s hs (h.step C y E (.inr H))
      have a5:¬L.getD l 0=42:=H ▸ E;have a0:¬L.getD l 0=63:=H ▸ O;simp only[go_sem,Q0,Q1,Q2,Q3,Q4,Q5,Q6,Q7,Q8,Q9,Qa,Qb,Qc,Qd,Qe,Qf,Qg,Qh,Qi,Qj,Qk,reduceCtorEq,reduceIte,y,C,H,a5,a0,U,J,W,Q];exact F
     ·by_cases hk:K=0
      ·have z:¬0<=s:=by omega
       simp only[go_sem,Q0,Q1,Q2,Q3,Q4,Q5,Q6,Q7,Q8,Q9,Qa,Qb,Qc,Qd,Qe,Qf,Qg,Qh,Qi,Qj,Qk,reduceCtorEq,reduceIte,y,C,E,O,H,z,U,J,W,Q];exact .inr ⟨h.fail hk y (fun _=>⟨E,O,H⟩),rfl⟩
      ·have z:0<=s:=by omega
       have F:=l86 P L Z hL B K (r+1) K (r+1) s hs (h.back (by omega) y (fun _=>⟨E,O,H⟩));simp only[go_sem,Q0,Q1,Q2,Q3,Q4,Q5,Q6,Q7,Q8,Q9,Qa,Qb,Qc,Qd,Qe,Qf,Qg,Qh,Qi,Qj,Qk,reduceCtorEq,reduceIte,y,C,E,O,H,z,U,J,W,Q];exact F
  ·by_cases hk:K=0
   ·have z:¬0<=s:=by omega
    simp only[go_sem,Q0,Q1,Q2,Q3,Q4,Q5,Q6,Q7,Q8,Q9,Qa,Qb,Qc,Qd,Qe,Qf,Qg,Qh,Qi,Qj,Qk,reduceCtorEq,reduceIte,y,C,z,U,J,W,Q];exact .inr ⟨h.fail hk y (fun I=>absurd I C),rfl⟩
   ·have z:0<=s:=by omega
    have F:=l86 P L Z hL B K (r+1) K (r+1) s hs (h.back (by omega) y (fun I=>absurd I C));simp only[go_sem,Q0,Q1,Q2,Q3,Q4,Q5,Q6,Q7,Q8,Q9,Qa,Qb,Qc,Qd,Qe,Qf,Qg,Qh,Qi,Qj,Qk,reduceCtorEq,reduceIte,y,C,z,U,J,W,Q];exact F
 ·simp only[go_sem,Q0,Q1,Q2,Q3,Q4,Q5,Q6,Q7,Q8,Q9,Qa,Qb,Qc,Qd,Qe,Qf,Qg,Qh,Qi,Qj,Qk,reduceCtorEq,reduceIte,y]
  exact .inl ⟨p,a2,h.fin (by omega),rfl⟩
termination_by (P.length-K,L.length-r,L.length-l)
decreasing_by
 all_goals first
  |(apply Prod.Lex.left;omega)
  |(apply Prod.Lex.right;apply Prod.Lex.left;omega)
  |(apply Prod.Lex.right;apply Prod.Lex.right;omega)
end
section
open Go.Glob
theorem f86(P L:t6)(z:P.length<=1000000000000)(hL:L.length<=1000000000000):call T 86 [.str P,.byt L .no] [] 0=some ⟨.bool (gl P L),[],[]⟩:=by
 rw[au xkW];have h:=l86 P L z hL (gl P L) 0 0 0 0 (-1) rfl (Inv.init P L);simp only[aD]at h;rcases h with⟨q,C,E,h⟩|⟨hB,h⟩
 ·have hd:(P.drop q).length<9223372036854775807:=by rw[aL];omega
  have y:=Ej (P.drop q);rw[E]at y;simp only[go_sem,Q0,Q1,Q2,Q3,Q4,Q5,Q6,Q7,Q8,Q9,Qa,Qb,Qc,Qd,Qe,Qf,Qg,Qh,Qi,Qj,Qk,reduceCtorEq,reduceIte,h,C,bB,xku _ hd,xg0,y];cases gl P L<;>rfl
 ·simp only[go_sem,Q0,Q1,Q2,Q3,Q4,Q5,Q6,Q7,Q8,Q9,Qa,Qb,Qc,Qd,Qe,Qf,Qg,Qh,Qi,Qj,Qk,reduceCtorEq,reduceIte,h,hB]
end
section
open Go.Glob
def prn:t6->Bool
 |[]=>true
 |c::r=>if c<32 then false else if 126<c then false else prn r
def chk(k:Int)(t:t6)(lo hi:Int):Int:=
 if k<1 then 1 else if 4<k then 1 else if prn t then
  (if k=4 then(if lo<0 then 1 else if hi<lo then 1 else if 1000000000<hi then 1 else if 32<t.length then 4 else 0)
   else if lo=0 then(if hi=0 then(if k=1 then(if t=[]then 0 else 1)else if 32<t.length then 4 else 0)else 1)else 1)
 else 1
theorem l44(k:Int)(t:t6)(lo hi:Int)(I:t.length<=1000000000000):∀(n i:Nat),t.length-i=n->i<=t.length->
 run T (.loop xD) ⟨[(1,.ptr 101 0),(15,.int .i64 t.length),(16,.int .i64 i)],[(101,.rc [.int .i64 k,.str t,.int .i64 lo,.int .i64 hi])],[]⟩=
 if prn (t.drop i)then some (.x 0,⟨[(1,.ptr 101 0)],[(101,.rc [.int .i64 k,.str t,.int .i64 lo,.int .i64 hi])],[]⟩)
 else some (.r,⟨[(2,.int .i64 1)],[(101,.rc [.int .i64 k,.str t,.int .i64 lo,.int .i64 hi])],[]⟩):=by
 intro n;induction n with
 |zero=>
  intro i H E;have hi:i=t.length:=by omega
  subst hi;rw[al];simp only[go_sem,Q0,Q1,Q2,Q3,Q4,Q5,Q6,Q7,Q8,Q9,Qa,Qb,Qc,Qd,Qe,Qf,Qg,Qh,Qi,Qj,Qk,reduceCtorEq,reduceIte,bv,prn]
 |succ n F=>
  intro i H E;have hi:i<t.length:=by omega
  have z:=cA i (by omega);have h:=F (i+1) (by omega) (by omega);rw[al,da t i hi]
  by_cases y:t.getD i 0<32
  ·simp only[go_sem,Q0,Q1,Q2,Q3,Q4,Q5,Q6,Q7,Q8,Q9,Qa,Qb,Qc,Qd,Qe,Qf,Qg,Qh,Qi,Qj,Qk,reduceCtorEq,reduceIte,hi,z,prn,y]
  ·by_cases C:126<t.getD i 0
   ·simp only[go_sem,Q0,Q1,Q2,Q3,Q4,Q5,Q6,Q7,Q8,Q9,Qa,Qb,Qc,Qd,Qe,Qf,Qg,Qh,Qi,Qj,Qk,reduceCtorEq,reduceIte,hi,z,prn,y,C]
   ·simp only[go_sem,Q0,Q1,Q2,Q3,Q4,Q5,Q6,Q7,Q8,Q9,Qa,Qb,Qc,Qd,Qe,Qf,Qg,Qh,Qi,Qj,Qk,reduceCtorEq,reduceIte,hi,z,prn,y,C,h]
end
section
open Go.Glob
theorem DU(t:t6):((32:Int)<(t.length:Int))↔32<t.length:=by omega
theorem f44(k:Int)(t:t6)(lo hi:Int)(E:t.length<=1000000000000):call T 44 [.agg [.int .i64 k,.str t,.int .i64 lo,.int .i64 hi]] [] 0=some ⟨.int .i64 (chk k t lo hi),[],[]⟩:=by
 rw[au xlm];have h:=l44 k t lo hi E _ 0 rfl (by omega);simp only[aD,bh]at h;unfold chk
 by_cases c1:k<1
 ·simp only[go_sem,Q0,Q1,Q2,Q3,Q4,Q5,Q6,Q7,Q8,Q9,Qa,Qb,Qc,Qd,Qe,Qf,Qg,Qh,Qi,Qj,Qk,reduceCtorEq,reduceIte,h,c1]
 by_cases c2:4<k
 ·simp only[go_sem,Q0,Q1,Q2,Q3,Q4,Q5,Q6,Q7,Q8,Q9,Qa,Qb,Qc,Qd,Qe,Qf,Qg,Qh,Qi,Qj,Qk,reduceCtorEq,reduceIte,h,c1,c2]
 cases c3:prn t with
 |false=>simp only[go_sem,Q0,Q1,Q2,Q3,Q4,Q5,Q6,Q7,Q8,Q9,Qa,Qb,Qc,Qd,Qe,Qf,Qg,Qh,Qi,Qj,Qk,reduceCtorEq,reduceIte,h,c1,c2,c3]
 |true=>
  by_cases C:k=4
  ·subst C
   by_cases c5:lo<0
   ·simp only[go_sem,Q0,Q1,Q2,Q3,Q4,Q5,Q6,Q7,Q8,Q9,Qa,Qb,Qc,Qd,Qe,Qf,Qg,Qh,Qi,Qj,Qk,reduceCtorEq,reduceIte,h,c3,c5]
   by_cases z:hi<lo
   ·simp only[go_sem,Q0,Q1,Q2,Q3,Q4,Q5,Q6,Q7,Q8,Q9,Qa,Qb,Qc,Qd,Qe,Qf,Qg,Qh,Qi,Qj,Qk,reduceCtorEq,reduceIte,h,c3,c5,z]
   by_cases y:1000000000<hi
   ·simp only[go_sem,Q0,Q1,Q2,Q3,Q4,Q5,Q6,Q7,Q8,Q9,Qa,Qb,Qc,Qd,Qe,Qf,Qg,Qh,Qi,Qj,Qk,reduceCtorEq,reduceIte,h,c3,c5,z,y]
   by_cases c8:32<t.length
   ·simp only[go_sem,Q0,Q1,Q2,Q3,Q4,Q5,Q6,Q7,Q8,Q9,Qa,Qb,Qc,Qd,Qe,Qf,Qg,Qh,Qi,Qj,Qk,reduceCtorEq,reduceIte,h,c3,c5,z,y,c8,DU]
   ·simp only[go_sem,Q0,Q1,Q2,Q3,Q4,Q5,Q6,Q7,Q8,Q9,Qa,Qb,Qc,Qd,Qe,Qf,Qg,Qh,Qi,Qj,Qk,reduceCtorEq,reduceIte,h,c3,c5,z,y,c8,DU]
  ·by_cases c5:lo=0
   ·subst c5
    by_cases z:hi=0
    ·subst z
     by_cases y:k=1
     ·subst y
      by_cases c8:t=[]
      ·subst c8
       try simp only[bl,aD]at h
       simp only[go_sem,Q0,Q1,Q2,Q3,Q4,Q5,Q6,Q7,Q8,Q9,Qa,Qb,Qc,Qd,Qe,Qf,Qg,Qh,Qi,Qj,Qk,reduceCtorEq,reduceIte,h,c3,bl,aD]
      ·simp only[go_sem,Q0,Q1,Q2,Q3,Q4,Q5,Q6,Q7,Q8,Q9,Qa,Qb,Qc,Qd,Qe,Qf,Qg,Qh,Qi,Qj,Qk,reduceCtorEq,reduceIte,h,c3,c8]
     ·by_cases c8:32<t.length
      ·simp only[go_sem,Q0,Q1,Q2,Q3,Q4,Q5,Q6,Q7,Q8,Q9,Qa,Qb,Qc,Qd,Qe,Qf,Qg,Qh,Qi,Qj,Qk,reduceCtorEq,reduceIte,h,c1,c2,c3,C,y,c8,DU]
      ·simp only[go_sem,Q0,Q1,Q2,Q3,Q4,Q5,Q6,Q7,Q8,Q9,Qa,Qb,Qc,Qd,Qe,Qf,Qg,Qh,Qi,Qj,Qk,reduceCtorEq,reduceIte,h,c1,c2,c3,C,y,c8,DU]
    ·simp only[go_sem,Q0,Q1,Q2,Q3,Q4,Q5,Q6,Q7,Q8,Q9,Qa,Qb,Qc,Qd,Qe,Qf,Qg,Qh,Qi,Qj,Qk,reduceCtorEq,reduceIte,h,c1,c2,c3,C,z]
   ·simp only[go_sem,Q0,Q1,Q2,Q3,Q4,Q5,Q6,Q7,Q8,Q9,Qa,Qb,Qc,Qd,Qe,Qf,Qg,Qh,Qi,Qj,Qk,reduceCtorEq,reduceIte,h,c1,c2,c3,C,c5]
end
section
open Go.Glob
theorem xik(s t:t6):call T 153 [.str s,.str t] [] 0=some ⟨.bool (decide (t.length<=s.length/\s.take t.length=t)),[],[]⟩:=by
 rw[au xgd]
 by_cases h:t.length<=s.length
 ·by_cases y:s.take t.length=t
  ·simp only[go_sem,Q0,Q1,Q2,Q3,Q4,Q5,Q6,Q7,Q8,Q9,Qa,Qb,Qc,Qd,Qe,Qf,Qg,Qh,Qi,Qj,Qk,reduceCtorEq,reduceIte,h,y]
  ·simp only[go_sem,Q0,Q1,Q2,Q3,Q4,Q5,Q6,Q7,Q8,Q9,Qa,Qb,Qc,Qd,Qe,Qf,Qg,Qh,Qi,Qj,Qk,reduceCtorEq,reduceIte,h,y]
 ·simp only[go_sem,Q0,Q1,Q2,Q3,Q4,Q5,Q6,Q7,Q8,Q9,Qa,Qb,Qc,Qd,Qe,Qf,Qg,Qh,Qi,Qj,Qk,reduceCtorEq,reduceIte,h]
theorem f128(s t:t6):call T 128 [.str s,.str t] [] 0=some ⟨if t.length<=s.length/\s.take t.length=t then .tup [.str (s.drop t.length),.bool true]else .tup [.str s,.bool false],[],[]⟩:=by
 rw[au xgv]
 by_cases h:t.length<=s.length/\s.take t.length=t
 ·have y:=h.1
  simp only[go_sem,Q0,Q1,Q2,Q3,Q4,Q5,Q6,Q7,Q8,Q9,Qa,Qb,Qc,Qd,Qe,Qf,Qg,Qh,Qi,Qj,Qk,reduceCtorEq,reduceIte,xik,Yy,h,y,bB]
 ·simp only[go_sem,Q0,Q1,Q2,Q3,Q4,Q5,Q6,Q7,Q8,Q9,Qa,Qb,Qc,Qd,Qe,Qf,Qg,Qh,Qi,Qj,Qk,reduceCtorEq,reduceIte,xik,Yy,h]
theorem f87(s t:t6):call T 87 [.str s,.str t] [] 0=some ⟨if t.length<=s.length/\s.take t.length=t then .tup [.str (s.drop t.length),.bool true]else .tup [.str s,.bool false],[],[]⟩:=by
 rw[au xkV]
 by_cases h:t.length<=s.length/\s.take t.length=t
 ·simp only[go_sem,Q0,Q1,Q2,Q3,Q4,Q5,Q6,Q7,Q8,Q9,Qa,Qb,Qc,Qd,Qe,Qf,Qg,Qh,Qi,Qj,Qk,reduceCtorEq,reduceIte,f128,YE,h]
 ·simp only[go_sem,Q0,Q1,Q2,Q3,Q4,Q5,Q6,Q7,Q8,Q9,Qa,Qb,Qc,Qd,Qe,Qf,Qg,Qh,Qi,Qj,Qk,reduceCtorEq,reduceIte,f128,YE,h]
def num:Nat->t6->Nat
 |n,[]=>n
 |n,c::r=>num (n*10+(c.toNat-48)) r
def oU:t6->Bool
 |[]=>true
 |c::r=>if c<48 then false else if 57<c then false else oU r
theorem QL(c:UInt8)(y:¬c<48)(z:¬57<c):(c-48).toNat=c.toNat-48/\¬9<c-48/\c.toNat-48<=9:=by
 have h:48<=c.toNat:=by simpa[rJ]using y
 have C:c.toNat<=57:=by simpa[rJ]using z
 have e:(c-48).toNat=c.toNat-48:=UInt8.toNat_sub_of_le c 48 (by simpa[UInt8.le_iff_toNat_le]using h);refine⟨e, ?_,by omega⟩;rw[rJ,e];simp;omega
def lim:Nat->Nat
 |0=>0
 |i+1=>lim i*10+9
theorem xce(i:Nat)(h:i<=9):lim i<=999999999:=by
 have:i=0\/i=1\/i=2\/i=3\/i=4\/i=5\/i=6\/i=7\/i=8\/i=9:=by omega
 rcases this with rfl|rfl|rfl|rfl|rfl|rfl|rfl|rfl|rfl|rfl<;>simp[lim]
theorem xfv(h s:t6)(n:Nat):run T (.loop ou) ⟨[(5,.str h),(6,.int .i64 n),(47,.byt s .no),(48,.int .i64 s.length),(49,.int .i64 s.length)],[],[]⟩=some (.x 0,⟨[(5,.str h),(6,.int .i64 n)],[],[]⟩):=by rw[al];simp only[go_sem,Q0,Q1,Q2,Q3,Q4,Q5,Q6,Q7,Q8,Q9,Qa,Qb,Qc,Qd,Qe,Qf,Qg,Qh,Qi,Qj,Qk,reduceCtorEq,reduceIte]
theorem xjS(h s:t6)(U:s.length<=10):∀(m i n:Nat),s.length-i=m->i<=s.length->n<=lim i->oU (s.drop i)=true->
 run T (.loop ou) ⟨[(5,.str h),(6,.int .i64 n),(47,.byt s .no),(48,.int .i64 s.length),(49,.int .i64 i)],[],[]⟩=some (.x 0,⟨[(5,.str h),(6,.int .i64 (num n (s.drop i)))],[],[]⟩):=by
 intro m;induction m with
 |zero=>
  intro i n I F hn hd;have hi:i=s.length:=by clear hn;omega
  rw[hi,bv];exact xfv h s n
 |succ m Q=>
  intro i n I F hn hd;have hi:i<s.length:=by omega
  rw[da s i hi]at hd;simp only[oU]at hd
  by_cases E:s.getD i 0<48
  ·rw[if_pos E]at hd;cases hd
  rw[if_neg E]at hd
  by_cases C:57<s.getD i 0
  ·rw[if_pos C]at hd;cases hd
  rw[if_neg C]at hd;obtain⟨d1,d2,W⟩:=QL _ E C;have Z:lim i<=999999999:=xce i (by omega);have z:n*10+((s.getD i 0).toNat-48)<=lim (i+1):=by simp only[lim];omega
  have y:=Q (i+1) (n*10+((s.getD i 0).toNat-48)) (by omega) (by omega) z hd;have J:=cA i (by omega);have O:ai.wrap ((n:Int)*10)=((n*10:Nat):Int):=wZ (by omega)
  have H:ai.wrap (((n*10:Nat):Int)+(((s.getD i 0).toNat-48:Nat):Int))=((n*10+((s.getD i 0).toNat-48):Nat):Int):=wZ (by omega)
  rw[al,da s i hi];simp only[go_sem,Q0,Q1,Q2,Q3,Q4,Q5,Q6,Q7,Q8,Q9,Qa,Qb,Qc,Qd,Qe,Qf,Qg,Qh,Qi,Qj,Qk,reduceCtorEq,reduceIte,hi,J,O,H,d1,d2];show _=some (Ex.x 0,CSt.mk [(5,.str h),(6,.int .i64 ((num (n*10+((s.getD i 0).toNat-48)) (s.drop (i+1)):Nat):Int))] [] []);exact y
end
section
open Go.Glob
theorem xkh(s:t6)(J:s≠ [])(H:s.length<=10)(hd:oU s=true):call T 154 [.str s] [] 0=some ⟨.tup [.int .i64 (num 0 s),.nili],[],[]⟩:=by
 rw[au xgc];have h:=xjS s s H _ 0 0 rfl (by omega) (by simp[lim]) (by simpa using hd);simp only[aD,bh]at h;cases s with
 |nil=>exact absurd rfl J
 |cons c r=>
  simp only[oU]at hd
  by_cases z:c<48
  ·rw[if_pos z]at hd;cases hd
  rw[if_neg z]at hd
  by_cases I:57<c
  ·rw[if_pos I]at hd;cases hd
  have y:48<=c.toNat:=by simpa[rJ]using z
  have Q:¬c=45:=by rintro rfl;simp at y
  have O:¬c=43:=by rintro rfl;simp at y
  have F:(0:Int)<(((c::r).length:Nat):Int):=by rw[ay];omega
  have U:¬(10:Int)<=(((c::r).length:Nat):Int)\/True:= .inr trivial;have E:(((c::r).length:Nat):Int)<19:=by omega
  have C:List.getD (c::r) 0 0=c:=rfl;generalize W:c::r=s at*;simp only[go_sem,Q0,Q1,Q2,Q3,Q4,Q5,Q6,Q7,Q8,Q9,Qa,Qb,Qc,Qd,Qe,Qf,Qg,Qh,Qi,Qj,Qk,reduceCtorEq,reduceIte,h,Q,O,F,E,C]
theorem f129(s:t6)(y:s≠ [])(h:s.length<=10)(hd:oU s=true):call T 129 [.str s] [] 0=some ⟨.tup [.int .i64 (num 0 s),.nili],[],[]⟩:=by rw[au xgu];simp only[go_sem,Q0,Q1,Q2,Q3,Q4,Q5,Q6,Q7,Q8,Q9,Qa,Qb,Qc,Qd,Qe,Qf,Qg,Qh,Qi,Qj,Qk,reduceCtorEq,reduceIte,xkh s y h hd,xgQ]
def PL(s:t6):Int:=if s=[]then-1 else if 10<s.length then-1 else if 1<s.length/\s.getD 0 0=48 then-1 else if oU s then(num 0 s:Nat)else-1
theorem l88(s:t6)(I:s.length<=10):∀(m i:Nat),s.length-i=m->i<=s.length->
 run T (.loop Ns) ⟨[(0,.str s),(24,.int .i64 s.length),(25,.int .i64 i)],[],[]⟩=if oU (s.drop i)then some (.x 0,⟨[(0,.str s)],[],[]⟩)else some (.r,⟨[(2,.int .i64 (-1))],[],[]⟩):=by
 intro m;induction m with
 |zero=>
  intro i H E;have hi:i=s.length:=by omega
  subst hi;rw[al];simp only[go_sem,Q0,Q1,Q2,Q3,Q4,Q5,Q6,Q7,Q8,Q9,Qa,Qb,Qc,Qd,Qe,Qf,Qg,Qh,Qi,Qj,Qk,reduceCtorEq,reduceIte,bv,oU]
 |succ m F=>
  intro i H E;have hi:i<s.length:=by omega
  have z:=cA i (by omega);have h:=F (i+1) (by omega) (by omega);rw[al,da s i hi]
  by_cases y:s.getD i 0<48
  ·simp only[go_sem,Q0,Q1,Q2,Q3,Q4,Q5,Q6,Q7,Q8,Q9,Qa,Qb,Qc,Qd,Qe,Qf,Qg,Qh,Qi,Qj,Qk,reduceCtorEq,reduceIte,hi,z,oU,y]
  ·by_cases C:57<s.getD i 0
   ·simp only[go_sem,Q0,Q1,Q2,Q3,Q4,Q5,Q6,Q7,Q8,Q9,Qa,Qb,Qc,Qd,Qe,Qf,Qg,Qh,Qi,Qj,Qk,reduceCtorEq,reduceIte,hi,z,oU,y,C]
   ·simp only[go_sem,Q0,Q1,Q2,Q3,Q4,Q5,Q6,Q7,Q8,Q9,Qa,Qb,Qc,Qd,Qe,Qf,Qg,Qh,Qi,Qj,Qk,reduceCtorEq,reduceIte,hi,z,oU,y,C,h]
theorem f88(s:t6)(J:s.length<=1000000000000):call T 88 [.str s] [] 0=some ⟨.int .i64 (PL s),[],[]⟩:=by
 rw[au xkU];unfold PL
 by_cases C:s=[]
 ·simp only[go_sem,Q0,Q1,Q2,Q3,Q4,Q5,Q6,Q7,Q8,Q9,Qa,Qb,Qc,Qd,Qe,Qf,Qg,Qh,Qi,Qj,Qk,reduceCtorEq,reduceIte,C]
 by_cases E:10<s.length
 ·have y:(10:Int)<((s.length:Nat):Int):=by omega
  simp only[go_sem,Q0,Q1,Q2,Q3,Q4,Q5,Q6,Q7,Q8,Q9,Qa,Qb,Qc,Qd,Qe,Qf,Qg,Qh,Qi,Qj,Qk,reduceCtorEq,reduceIte,C,E,y]
 have y:¬(10:Int)<((s.length:Nat):Int):=by omega
 have H:(0:Int)<((s.length:Nat):Int):=by cases s with|nil=>exact absurd rfl C|cons c r=>rw[ay];omega
 have h:=l88 s (by omega) _ 0 rfl (by omega);simp only[aD,bh]at h
 by_cases F:1<s.length
 ·have z:(1:Int)<((s.length:Nat):Int):=by omega
  by_cases I:s.getD 0 0=48
  ·simp only[go_sem,Q0,Q1,Q2,Q3,Q4,Q5,Q6,Q7,Q8,Q9,Qa,Qb,Qc,Qd,Qe,Qf,Qg,Qh,Qi,Qj,Qk,reduceCtorEq,reduceIte,C,E,y,F,z,I,H]
  ·cases hd:oU s with
   |true=>simp only[go_sem,Q0,Q1,Q2,Q3,Q4,Q5,Q6,Q7,Q8,Q9,Qa,Qb,Qc,Qd,Qe,Qf,Qg,Qh,Qi,Qj,Qk,reduceCtorEq,reduceIte,C,E,y,F,z,I,H,h,hd,f129 s C (by omega) hd,YD]
   |false=>simp only[go_sem,Q0,Q1,Q2,Q3,Q4,Q5,Q6,Q7,Q8,Q9,Qa,Qb,Qc,Qd,Qe,Qf,Qg,Qh,Qi,Qj,Qk,reduceCtorEq,reduceIte,C,E,y,F,z,I,H,h,hd]
 ·have z:¬(1:Int)<((s.length:Nat):Int):=by omega
  cases hd:oU s with
  |true=>simp only[go_sem,Q0,Q1,Q2,Q3,Q4,Q5,Q6,Q7,Q8,Q9,Qa,Qb,Qc,Qd,Qe,Qf,Qg,Qh,Qi,Qj,Qk,reduceCtorEq,reduceIte,C,E,y,F,z,H,h,hd,f129 s C (by omega) hd,YD]
  |false=>simp only[go_sem,Q0,Q1,Q2,Q3,Q4,Q5,Q6,Q7,Q8,Q9,Qa,Qb,Qc,Qd,Qe,Qf,Qg,Qh,Qi,Qj,Qk,reduceCtorEq,reduceIte,C,E,y,F,z,H,h,hd]
end
section
open Go.Glob
def alw(k:Int)(t:t6)(lo hi:Int)(b:t6):Bool:=
 if chk k t lo hi=0 then
  (if k=2 then decide (b=t)else if k=3 then gl t b else if k=4 then
   (if t.length<=b.length/\b.take t.length=t then(if lo<=PL (b.drop t.length)then decide (PL (b.drop t.length)<=hi)else false)else false)
   else true)
 else false
theorem f35(k:Int)(t:t6)(lo hi:Int)(b:t6)(E:t.length<=1000000000000)(z:b.length<=1000000000000):
 call T 35 [.agg [.int .i64 k,.str t,.int .i64 lo,.int .i64 hi],.byt b .no] [] 0=some ⟨.bool (alw k t lo hi b),[],[]⟩:=by
 rw[au xlu];have h:=f44 k t lo hi E;unfold alw
 by_cases c0:chk k t lo hi=0
 ·by_cases c2:k=2
  ·subst c2
   by_cases y:b=t
   ·simp only[go_sem,Q0,Q1,Q2,Q3,Q4,Q5,Q6,Q7,Q8,Q9,Qa,Qb,Qc,Qd,Qe,Qf,Qg,Qh,Qi,Qj,Qk,reduceCtorEq,reduceIte,h,sW,c0,y]
   ·simp only[go_sem,Q0,Q1,Q2,Q3,Q4,Q5,Q6,Q7,Q8,Q9,Qa,Qb,Qc,Qd,Qe,Qf,Qg,Qh,Qi,Qj,Qk,reduceCtorEq,reduceIte,h,sW,c0,y]
  by_cases y:k=3
  ·subst y
   simp only[go_sem,Q0,Q1,Q2,Q3,Q4,Q5,Q6,Q7,Q8,Q9,Qa,Qb,Qc,Qd,Qe,Qf,Qg,Qh,Qi,Qj,Qk,reduceCtorEq,reduceIte,h,sW,c0,f86 t b E z,xlK]
  by_cases C:k=4
  ·subst C
   have hn:=f88 (b.drop t.length) (by rw[aL];omega)
   by_cases c5:t.length<=b.length/\b.take t.length=t
   ·by_cases F:lo<=PL (b.drop t.length)
    ·simp only[go_sem,Q0,Q1,Q2,Q3,Q4,Q5,Q6,Q7,Q8,Q9,Qa,Qb,Qc,Qd,Qe,Qf,Qg,Qh,Qi,Qj,Qk,reduceCtorEq,reduceIte,h,sW,c0,f87,xdb,c5,hn,xda,F]
    ·simp only[go_sem,Q0,Q1,Q2,Q3,Q4,Q5,Q6,Q7,Q8,Q9,Qa,Qb,Qc,Qd,Qe,Qf,Qg,Qh,Qi,Qj,Qk,reduceCtorEq,reduceIte,h,sW,c0,f87,xdb,c5,hn,xda,F]
   ·simp only[go_sem,Q0,Q1,Q2,Q3,Q4,Q5,Q6,Q7,Q8,Q9,Qa,Qb,Qc,Qd,Qe,Qf,Qg,Qh,Qi,Qj,Qk,reduceCtorEq,reduceIte,h,sW,c0,f87,xdb,c5,f88 b z,xda]
  ·simp only[go_sem,Q0,Q1,Q2,Q3,Q4,Q5,Q6,Q7,Q8,Q9,Qa,Qb,Qc,Qd,Qe,Qf,Qg,Qh,Qi,Qj,Qk,reduceCtorEq,reduceIte,h,sW,c0,c2,y,C]
 ·simp only[go_sem,Q0,Q1,Q2,Q3,Q4,Q5,Q6,Q7,Q8,Q9,Qa,Qb,Qc,Qd,Qe,Qf,Qg,Qh,Qi,Qj,Qk,reduceCtorEq,reduceIte,h,sW,c0]
end
section
open Go.Glob
theorem gx(B:t6)(i n:Nat)(h:0<n):dR B i n<n:=by
 unfold dR;split
 ·exact Nat.mod_lt _ h
 ·exact h
end
section
open Go.Glob
def jk:Nat->t6
 |0=> [97,61,49]
 |1=> [99,111,117,110,116,61,53]
 |2=> [99,111,117,110,116,61,49,55]
 |3=> [104,111,115,116,61,120]
 |4=> [109,111,100,101,32,98]
 |_=> [126]
theorem cz0:((0:Nat):Int)=0:=rfl
theorem cz1:((1:Nat):Int)=1:=rfl
theorem cz2:((2:Nat):Int)=2:=rfl
theorem cz3:((3:Nat):Int)=3:=rfl
theorem cz4:((4:Nat):Int)=4:=rfl
theorem cz5:((5:Nat):Int)=5:=rfl
theorem cz6:((6:Nat):Int)=6:=rfl
theorem cz7:((7:Nat):Int)=7:=rfl
theorem f73(B:t6)(i:Nat)(y:B.length<=1000):call T 73 [.ptr 0 0] [bK B i] 0=some ⟨.byt (jk (dR B i 6)) .no,[(0,bK B (cX B i))],[]⟩:=by
 rw[au xk6];have g:=f71 B i 6 (by omega) (by omega);have h:=gx B i 6 (by omega);rw[cz6]at g;generalize dR B i 6=v at g h;simp only[bK]at g;have:v=0\/v=1\/v=2\/v=3\/v=4\/v=5:=by omega
 rcases this with rfl|rfl|rfl|rfl|rfl|rfl<;>simp only[cz0,cz1,cz2,cz3,cz4,cz5]at g<;>simp only[go_sem,Q0,Q1,Q2,Q3,Q4,Q5,Q6,Q7,Q8,Q9,Qa,Qb,Qc,Qd,Qe,Qf,Qg,Qh,Qi,Qj,Qk,reduceCtorEq,reduceIte,List.all_replicate,cz0,cz1,cz2,cz3,cz4,cz5,cz6,cz7,bK,g,sU,jk]
end
section
open Go.Glob
def dg(d:Nat):UInt8:=dj ((48+d:Nat):Int)
def dec(n:Nat):t6:=if h:n<10 then [dg n]else dec (n/10)++ [dg (n % 10)]
termination_by n
decreasing_by omega
theorem fj{n:Nat}(h:n<10):dec n=[dg n]:=by rw[dec,dif_pos h]
theorem bZ{n:Nat}(h:¬n<10):dec n=dec (n/10)++ [dg (n % 10)]:=by rw[dec,dif_neg h]
theorem QN:∀n,(dec n).length<=n+1:=by
 intro n;induction n using Nat.strongRecOn with
 |_ n y=>
  by_cases h:n<10
  ·rw[fj h];simp
  ·have:=y (n/10) (by omega)
   rw[bZ h,af,aP];omega
theorem kg:∀k n,n<10^(k+1)->(dec n).length<=k+1
 |0,n,h=>by rw[fj (by simpa using h)];simp
 |k+1,n,h=>by
  by_cases y:n<10
  ·rw[fj y];simp
  ·have:=kg k (n/10) (by rw[Nat.pow_succ]at h;omega)
   rw[bZ y,af,aP];omega
theorem f85:∀n:Nat,n<=1000000000000->call T 85 [.int .i64 n] [] 0=some ⟨.byt (dec n) (.id 60),[],[60]⟩:=by
 intro n;induction n using Nat.strongRecOn with
 |_ n I=>
  intro hn;rw[au xkX]
  by_cases h:n<10
  ·have y:(n:Int)<10:=by omega
   have H:ai.wrap (48+(n:Int))=((48+n:Nat):Int):=wZ (by omega)
   have C:dj ((48+n:Nat):Int)=dg n:=rfl;simp only[go_sem,Q0,Q1,Q2,Q3,Q4,Q5,Q6,Q7,Q8,Q9,Qa,Qb,Qc,Qd,Qe,Qf,Qg,Qh,Qi,Qj,Qk,reduceCtorEq,reduceIte,y,H,C,fj h]
  ·have y:¬(n:Int)<10:=by omega
   have J:=I (n/10) (by omega) (by omega);have O:(n:Int).tdiv 10=((n/10:Nat):Int):=rfl;have E:(n:Int).tmod 10=((n % 10:Nat):Int):=rfl;have z:ai.wrap ((n/10:Nat):Int)=((n/10:Nat):Int):=w64 (by omega) (by omega);have H:ai.wrap (48+((n % 10:Nat):Int))=((48+n % 10:Nat):Int):=wZ (by omega)
   have C:dj ((48+n % 10:Nat):Int)=dg (n % 10):=rfl;have Q:=QN (n/10);have F:(dec (n/10)).length+1<=140737488355328:=by omega
   simp only[go_sem,Q0,Q1,Q2,Q3,Q4,Q5,Q6,Q7,Q8,Q9,Qa,Qb,Qc,Qd,Qe,Qf,Qg,Qh,Qi,Qj,Qk,reduceCtorEq,reduceIte,y,J,O,E,z,H,C,F,xiN,bZ h]
end
end Go.Proofs.YtkcjdeofknkndaaGreatDoor
