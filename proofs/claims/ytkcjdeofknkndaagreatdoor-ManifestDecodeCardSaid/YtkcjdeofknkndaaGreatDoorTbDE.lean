/- Contracts. No condition. -/
import Derived.Test.YtkcjdeofknkndaaGreatDoorTaDE
open Bool renaming and_eq_true -> az, or_eq_true -> fO
open Int renaming natCast_zero -> aB
open Go.IntKind renaming i64 -> af
open List renaming all_cons -> iG, cons_append -> bf, drop_drop -> fq, drop_eq_getElem_cons -> aM, drop_eq_nil_of_le -> bo, drop_length -> ba, drop_zero -> aV, getD_cons_zero -> bZ, getD_eq_getElem?_getD -> aa, getElem?_drop -> br, getElem?_eq_getElem -> ab, length_append -> ac, length_cons -> aA, length_drop -> aI, length_nil -> aY, length_singleton -> aH, length_take -> aw, singleton_append -> eo, take_append_drop -> ke, take_length -> bi
open Nat renaming le_refl -> aN, zero_le -> bH
open UInt8 renaming lt_iff_toNat_lt -> sk, ofInt -> ct
set_option maxRecDepth 100000
set_option maxHeartbeats 16000000
set_option linter.unusedSimpArgs false
set_option linter.unusedVariables false
namespace Go.Proofs.YtkcjdeofknkndaaGreatDoor
open Go.Sy
open UInt8 renaming reduceLT -> Q0, reduceLE -> Q1
open Int renaming reduceToNat -> Q2, reduceLE -> Q3, reduceLT -> Q4, reduceEq -> Q5, reduceNe -> Q6, reduceNeg -> Q7, reduceAdd -> Q8, reduceSub -> Q9, reduceMul -> Qa
open Nat renaming reducePow -> Qb, reduceDiv -> Qc, reduceMod -> Qd, reduceAdd -> Qe, reduceSub -> Qf, reduceMul -> Qg, reduceLT -> Qh, reduceLeDiff -> Qi, reduceEqDiff -> Qj, reduceBEq -> Qk
def fg(c:UInt8):t7->t7
 |[]=> []
 |x::r=>if x=c then fg c r else x::r
theorem xk6(c:UInt8):∀s:t7,run T (.loop yb) ⟨[(0,.str s),(1,.u8 c)],[],[]⟩=some (.x 0,⟨[(0,.str (fg c s))],[],[]⟩)
 |[]=>by rw[ai];simp only[go_sem,Q0,Q1,Q2,Q3,Q4,Q5,Q6,Q7,Q8,Q9,Qa,Qb,Qc,Qd,Qe,Qf,Qg,Qh,Qi,Qj,Qk,reduceCtorEq,reduceIte,fg,aB]
 |x::r=>by
  rw[ai];have h:=xk6 c r;have y:(0:Int)<((r.length+1:Nat):Int):=by omega
  have C:(1:Int)<=((r.length+1:Nat):Int):=by omega
  by_cases z:x=c
  ·simp only[go_sem,Q0,Q1,Q2,Q3,Q4,Q5,Q6,Q7,Q8,Q9,Qa,Qb,Qc,Qd,Qe,Qf,Qg,Qh,Qi,Qj,Qk,reduceCtorEq,reduceIte,fg,z,h,aA,bZ,y,C,List.drop_succ_cons,aV,bi]
  ·simp only[go_sem,Q0,Q1,Q2,Q3,Q4,Q5,Q6,Q7,Q8,Q9,Qa,Qb,Qc,Qd,Qe,Qf,Qg,Qh,Qi,Qj,Qk,reduceCtorEq,reduceIte,fg,z,h,aA,bZ,y]
theorem xna(c:UInt8)(s:t7):call T 146 [.str s,.u8 c] [] 0=some ⟨.str (fg c s),[],[]⟩:=by rw[an xi5];simp only[go_sem,Q0,Q1,Q2,Q3,Q4,Q5,Q6,Q7,Q8,Q9,Qa,Qb,Qc,Qd,Qe,Qf,Qg,Qh,Qi,Qj,Qk,reduceCtorEq,reduceIte,xk6]
def lv(c:UInt8)(s:t7):t7:=(fg c s.reverse).reverse
theorem rS(c:UInt8):lv c []=[]:=rfl
theorem DS(c x:UInt8)(s:t7):lv c (s++ [x])=if x=c then lv c s else s++ [x]:=by
 unfold lv;rw[List.reverse_append,List.reverse_singleton,eo,fg];split
 ·rfl
 ·simp
theorem xmJ(c:UInt8):∀(n:Nat)(s:t7),s.length=n->n<9223372036854775807->run T (.loop ya) ⟨[(0,.str s),(1,.u8 c)],[],[]⟩=some (.x 0,⟨[(0,.str (lv c s))],[],[]⟩):=by
 intro n;induction n with
 |zero=>
  intro s y _;cases s with
  |cons _ _=>simp at y
  |nil=>rw[ai];simp only[go_sem,Q0,Q1,Q2,Q3,Q4,Q5,Q6,Q7,Q8,Q9,Qa,Qb,Qc,Qd,Qe,Qf,Qg,Qh,Qi,Qj,Qk,reduceCtorEq,reduceIte,rS,aY,aB]
 |succ n U=>
  intro s y hn;obtain⟨t,x,rfl⟩:∃t x,s=t++ [x]:=⟨s.dropLast,s.getLast (by intro e;subst e;simp at y),(List.dropLast_concat_getLast _).symm⟩;have W:t.length=n:=by simpa using y
  have h:=U t W (by omega);rw[ai];generalize hu:t++ [x]=u;have F:(0:Int)<((u.length:Nat):Int):=by subst hu;simp
  have Q:u.length=t.length+1:=by subst hu;simp
  have z:af.wrap ((u.length:Int)-1)=((t.length:Nat):Int):=wZ (by omega)
  have H:u.getD t.length 0=x:=by subst hu;simp[aa]
  have J:u.take t.length=t:=by subst hu;simp
  have E:t.length<u.length:=by subst hu;simp
  have C:t.length<=u.length:=by omega
  have O:lv c u=if x=c then lv c t else u:=by subst hu;exact DS c x t
  by_cases I:x=c
  ·simp only[go_sem,Q0,Q1,Q2,Q3,Q4,Q5,Q6,Q7,Q8,Q9,Qa,Qb,Qc,Qd,Qe,Qf,Qg,Qh,Qi,Qj,Qk,reduceCtorEq,reduceIte,I,h,F,z,H,J,E,C,O]
  ·simp only[go_sem,Q0,Q1,Q2,Q3,Q4,Q5,Q6,Q7,Q8,Q9,Qa,Qb,Qc,Qd,Qe,Qf,Qg,Qh,Qi,Qj,Qk,reduceCtorEq,reduceIte,I,h,F,z,H,J,E,C,O]
theorem xm9(c:UInt8)(s:t7)(h:s.length<9223372036854775807):call T 147 [.str s,.u8 c] [] 0=some ⟨.str (lv c s),[],[]⟩:=by rw[an xi4];simp only[go_sem,Q0,Q1,Q2,Q3,Q4,Q5,Q6,Q7,Q8,Q9,Qa,Qb,Qc,Qd,Qe,Qf,Qg,Qh,Qi,Qj,Qk,reduceCtorEq,reduceIte,xmJ c _ s rfl h]
theorem xnj(s:t7)(y:s.length<9223372036854775807):call T 127 [.str s,.str [42]] [] 0=some ⟨.str (fg 42 (lv 42 s)),[],[]⟩:=by
 rw[an xjk]
 by_cases h:s=[]
 ·subst h
  simp only[go_sem,Q0,Q1,Q2,Q3,Q4,Q5,Q6,Q7,Q8,Q9,Qa,Qb,Qc,Qd,Qe,Qf,Qg,Qh,Qi,Qj,Qk,reduceCtorEq,reduceIte,rS,fg]
 ·simp only[go_sem,Q0,Q1,Q2,Q3,Q4,Q5,Q6,Q7,Q8,Q9,Qa,Qb,Qc,Qd,Qe,Qf,Qg,Qh,Qi,Qj,Qk,reduceCtorEq,reduceIte,h,xm9 42 s y,xna,c1,xjN,xjM]
end Go.Proofs.YtkcjdeofknkndaaGreatDoor
namespace Go.Glob
open Go.Sy (t7)
def tl(f:t7->Bool):t7->Bool
 |[]=>f []
 |x::r=>f (x::r)||tl f r
def gl:t7->t7->Bool
 |[],l=>l.isEmpty
 |c::p,l=>if c=42 then tl (gl p) l else match l with
  |[]=>false
  |x::r=>(decide (c=63)||decide (c=x))&&gl p r
theorem xB(f:t7->Bool):∀l:t7,tl f l=true↔∃k,k<=l.length/\f (l.drop k)=true
 |[]=>by simp only[tl,aY,List.drop_nil];exact⟨fun h=>⟨0,aN _,h⟩,fun⟨_,_,h⟩=>h⟩
 |x::r=>by
  simp only[tl,fO,xB f r];constructor
  ·rintro(h|⟨k,y,h⟩)
   ·exact⟨0,bH _,h⟩
   ·exact⟨k+1,by simpa using y,h⟩
  ·rintro⟨k,y,h⟩
   cases k with
   |zero=>exact .inl h
   |succ k=>exact .inr ⟨k,by simpa using y,h⟩
theorem sT(p l:t7):gl (42::p) l=tl (gl p) l:=by simp[gl]
theorem xe8(c:UInt8)(p:t7)(h:c≠42):gl (c::p) []=false:=by simp[gl,h]
theorem sU(c:UInt8)(p:t7)(x:UInt8)(l:t7)(h:c≠42):gl (c::p) (x::l)=((decide (c=63)||decide (c=x))&&gl p l):=by simp[gl,h]
def ji(p:t7):Bool:=p.all fun c=>decide (c=42)
theorem pL:∀p:t7,gl p []=ji p
 |[]=>rfl
 |c::p=>by
  by_cases h:c=42
  ·subst h
   rw[sT,tl,pL p];simp[ji]
  ·rw[xe8 _ _ h];simp[ji,h]
def free(s:t7):Bool:=s.all fun c=>decide (c≠42)
def Cx:t7->t7->Bool
 |[],_=>true
 |_::_,[]=>false
 |c::s,x::m=>(decide (c=63)||decide (c=x))&&Cx s m
theorem OM:∀(s q m:t7),free s=true->gl (s++q) m=(Cx s m&&gl q (m.drop s.length))
 |[],q,m,_=>by simp[Cx]
 |c::s,q,[],h=>by simp only[free,iG,az,decide_eq_true_eq]at h;simp[Cx,gl,h.1]
 |c::s,q,x::m,h=>by simp only[free,iG,az,decide_eq_true_eq]at h;rw[bf,sU _ _ _ _ h.1,OM s q m (by simpa[free]using h.2)];simp[Cx,Bool.and_assoc]
theorem vm:∀{s m:t7},Cx s m=true->s.length<=m.length
 |[],_,_=>bH _
 |_::_,[],h=>by cases h
 |c::s,x::m,h=>by simp only[Cx,az]at h;have:=vm h.2;simp;omega
theorem QC{f:t7->Bool}{m:t7}{i j:Nat}(h:i<=j)(z:tl f (m.drop j)=true):tl f (m.drop i)=true:=by
 rw[xB]at z ⊢;obtain⟨k,C,y⟩:=z;rw[aI]at C;rw[fq]at y
 by_cases E:j<=m.length
 ·refine⟨j-i+k,by rw[aI];omega, ?_⟩
  rw[fq,show i+(j-i+k)=j+k by omega];exact y
 ·refine⟨m.length-i,by rw[aI];omega, ?_⟩
  rw[fq];rw[bo (by omega)]at y ⊢;exact y
structure Inv(P L:List UInt8)(K r p l:Nat)(B:Bool):Prop where
 kp:K<=p
 pP:p<=P.length
 rl:r<=l
 lL:l<=L.length
 b0:K=0->B=gl (P.drop p) (L.drop l)
 b1:0<K->B=(gl (P.drop p) (L.drop l)||tl (gl (P.drop K)) (L.drop (r+1)))
 pl:0<K->p-K=l-r
 fr:0<K->free ((P.drop K).take (p-K))=true
theorem nG(l:t7)(i:Nat)(h:i<l.length):l.drop i=l.getD i 0::l.drop (i+1):=by rw[aM h,aa,ab h];rfl
variable {P L : List UInt8} {K r p l : Nat} {B : Bool}
theorem Inv.split(h:Inv P L K r p l B):P.drop K=(P.drop K).take (p-K)++P.drop p:=by have:=ke (p-K) (P.drop K);rw[fq,show K+(p-K)=p by have:=h.kp;omega]at this;exact this.symm
theorem Inv.seglen(h:Inv P L K r p l B):((P.drop K).take (p-K)).length=p-K:=by have:=h.pP;rw[aw,aI];omega
theorem Inv.seg(h:Inv P L K r p l B)(y:0<K)(m:t7):gl (P.drop K) m=(Cx ((P.drop K).take (p-K)) m&&gl (P.drop p) (m.drop (p-K))):=by have:=OM _ (P.drop p) m (h.fr y);rw[<-h.split,h.seglen]at this;exact this
theorem Inv.later(h:Inv P L K r p l B)(F:0<K)(I:tl (gl (P.drop K)) (L.drop (r+1))=true):(l=L.length/\r=L.length/\gl (P.drop p) []=true)\/∃j,l<j/\j<=L.length/\gl (P.drop p) (L.drop j)=true:=by
 have Q:=h.rl;have O:=h.lL;have T:=h.pl F;have U:=h.kp;obtain⟨k,C,y⟩:=(xB _ _).1 I;rw[h.seg F,az]at y;have E:=vm y.1;rw[h.seglen]at E;have z:=y.2;rw[fq,fq]at z;rw[fq,aI]at E;rw[aI]at C
 by_cases H:r=L.length
 ·refine .inl ⟨by omega,H, ?_⟩
  have J:L.drop (r+1+(k+(p-K)))=[]:=bo (by omega);rwa[J]at z
 ·exact .inr ⟨r+1+(k+(p-K)),by omega,by omega,z⟩
theorem Inv.star(h:Inv P L K r p l B)(y:p<P.length)(E:l<L.length)(C:P.getD p 0=42):Inv P L (p+1) l (p+1) l B:=by
 have e:gl (P.drop p) (L.drop l)=(gl (P.drop (p+1)) (L.drop l)||tl (gl (P.drop (p+1))) (L.drop (l+1))):=by rw[nG P p y,C,sT,nG L l E];rfl
 refine⟨aN _,y,aN _,h.lL,fun H=>by omega,fun _=> ?_,fun _=>by omega,fun _=>by rw[Nat.sub_self];rfl⟩;rw[<-e]
 by_cases F:K=0
 ·exact h.b0 F
 ·rw[h.b1 (by omega)]
  cases hg:gl (P.drop p) (L.drop l)with
  |true=>rfl
  |false=>
   rw[Bool.false_or];cases ht:tl (gl (P.drop K)) (L.drop (r+1))with
   |false=>rfl
   |true=>
    exfalso;rcases h.later (by omega) ht with⟨z,_⟩|⟨j,z,h2,h3⟩
    ·omega
    ·rw[nG P p y,C,sT]at h3 hg
     rw[QC (Nat.le_of_lt z) h3]at hg;cases hg
theorem Inv.step(h:Inv P L K r p l B)(z:p<P.length)(C:l<L.length)(E:P.getD p 0≠42)(F:P.getD p 0=63\/P.getD p 0=L.getD l 0):Inv P L K r (p+1) (l+1) B:=by
 have J:=h.kp;have I:=h.rl
 have e:gl (P.drop p) (L.drop l)=gl (P.drop (p+1)) (L.drop (l+1)):=by
  rw[nG P p z,nG L l C,sU _ _ _ _ E];have:(decide (P.getD p 0=63)||decide (P.getD p 0=L.getD l 0))=true:=by simpa using F
  rw[this,Bool.true_and]
 refine⟨by omega,z,by omega,C,fun y=>by rw[<-e];exact h.b0 y,fun y=>by rw[<-e];exact h.b1 y,fun y=>by have:=h.pl y;omega,fun y=> ?_⟩
 have H:(P.drop K).take (p+1-K)=(P.drop K).take (p-K)++ [P.getD p 0]:=by
  rw[show p+1-K=(p-K)+1 by omega,List.take_add_one]
  congr 1
  rw[br,show K+(p-K)=p by omega,ab z,aa,ab z];rfl
 rw[H];have:=h.fr y;unfold free at this ⊢;rw[List.all_append,this];simpa using E
theorem Inv.miss(h:Inv P L K r p l B)(y:l<L.length)(C:p<P.length->P.getD p 0≠42/\P.getD p 0≠63/\P.getD p 0≠L.getD l 0):gl (P.drop p) (L.drop l)=false:=by
 by_cases z:p<P.length
 ·obtain⟨F,E,H⟩:=C z
  rw[nG P p z,nG L l y,sU _ _ _ _ F];simp only[E,H,decide_false,Bool.or_false,Bool.false_and]
 ·rw[bo (by omega),nG L l y];rfl
theorem Inv.back(h:Inv P L K r p l B)(H:0<K)(F:l<L.length)(C:p<P.length->P.getD p 0≠42/\P.getD p 0≠63/\P.getD p 0≠L.getD l 0):Inv P L K (r+1) K (r+1) B:=by
 have J:=h.rl;have I:=h.kp;have Q:=h.pP;refine⟨aN _,by omega,aN _,by omega,fun O=>by omega,fun _=> ?_,fun _=>by omega,fun _=>by rw[Nat.sub_self];rfl⟩;rw[h.b1 H,h.miss F C,Bool.false_or]
 by_cases z:r+1<L.length
 ·rw[nG L (r+1) z];rfl
 ·have y:L.drop (r+1)=[]:=bo (by omega)
  have E:L.drop (r+1+1)=[]:=bo (by omega);rw[y,E];simp only[tl,Bool.or_self]
theorem Inv.fail(h:Inv P L K r p l B)(z:K=0)(C:l<L.length)(y:p<P.length->P.getD p 0≠42/\P.getD p 0≠63/\P.getD p 0≠L.getD l 0):B=false:=by rw[h.b0 z,h.miss C y]
theorem Inv.fin(h:Inv P L K r p l B)(z:l=L.length):ji (P.drop p)=B:=by
 have e:gl (P.drop p) (L.drop l)=ji (P.drop p):=by rw[z,ba,pL]
 by_cases C:K=0
 ·rw[h.b0 C,e]
 ·rw[h.b1 (by omega),e]
  cases ht:tl (gl (P.drop K)) (L.drop (r+1))with
  |false=>rw[Bool.or_false]
  |true=>
   rcases h.later (by omega) ht with⟨_,_,y⟩|⟨j,h1,h2,_⟩
   ·rw[pL]at y;rw[y];rfl
   ·omega
theorem Inv.init(P L:t7):Inv P L 0 0 0 0 (gl P L):=
 ⟨aN _,bH _,aN _,bH _,fun _=>rfl,fun h=>by omega,fun h=>by omega,fun h=>by omega⟩
end Go.Glob
namespace Go.Proofs.YtkcjdeofknkndaaGreatDoor
open Go.Sy
open UInt8 renaming reduceLT -> Q0, reduceLE -> Q1
open Int renaming reduceToNat -> Q2, reduceLE -> Q3, reduceLT -> Q4, reduceEq -> Q5, reduceNe -> Q6, reduceNeg -> Q7, reduceAdd -> Q8, reduceSub -> Q9, reduceMul -> Qa
open Nat renaming reducePow -> Qb, reduceDiv -> Qc, reduceMod -> Qd, reduceAdd -> Qe, reduceSub -> Qf, reduceMul -> Qg, reduceLT -> Qh, reduceLeDiff -> Qi, reduceEqDiff -> Qj, reduceBEq -> Qk
end Go.Proofs.YtkcjdeofknkndaaGreatDoor
namespace Go.Glob
end Go.Glob
namespace Go.Proofs.YtkcjdeofknkndaaGreatDoor
open Go.Sy
open UInt8 renaming reduceLT -> Q0, reduceLE -> Q1
open Int renaming reduceToNat -> Q2, reduceLE -> Q3, reduceLT -> Q4, reduceEq -> Q5, reduceNe -> Q6, reduceNeg -> Q7, reduceAdd -> Q8, reduceSub -> Q9, reduceMul -> Qa
open Nat renaming reducePow -> Qb, reduceDiv -> Qc, reduceMod -> Qd, reduceAdd -> Qe, reduceSub -> Qf, reduceMul -> Qg, reduceLT -> Qh, reduceLeDiff -> Qi, reduceEqDiff -> Qj, reduceBEq -> Qk
section
open Go.Glob
theorem gX:∀s:t7,fg 42 s=[]↔ji s=true
 |[]=>by simp[fg,ji]
 |x::r=>by
  have:=gX r
  by_cases h:x=42
  ·simp only[fg,h,if_true,this,ji,iG,decide_true,Bool.true_and]
  ·simp[fg,h,ji]
theorem kC(s:t7):ji s.reverse=ji s:=by simp[ji]
theorem EU(s:t7):fg 42 (lv 42 s)=[]↔ji s=true:=by
 rw[gX];unfold lv;rw[kC];constructor
 ·intro h
  rw[<-gX]at h
  have e:∀t:t7,fg 42 t=t\/fg 42 t=[]\/∃x r,fg 42 t=x::r/\x≠42:=by
   intro t;induction t with
   |nil=>exact .inl rfl
   |cons x r J=>
    by_cases H:x=42
    ·simp only[fg,H,if_true]
     rcases J with h|h|h
     ·cases r with
      |nil=>exact .inr (.inl h)
      |cons y F=>
       rw[h]
       by_cases E:y=42
       ·exfalso
        have I:∀t:t7,(fg 42 t).length<=t.length:=by
         intro t;induction t with
         |nil=>exact aN _
         |cons z t O=>simp only[fg];split<;>simp only[aA]<;>omega
        rw[E]at h;simp only[fg,if_true]at h;have:=I F;rw[h]at this;simp at this;omega
       ·exact .inr (.inr ⟨y,F,rfl,E⟩)
     ·exact .inr (.inl h)
     ·exact .inr (.inr h)
    ·exact .inl (by simp[fg,H])
  rcases e s.reverse with C|C|⟨x,r,C,h2⟩
  ·rw[C,gX,kC]at h;exact h
  ·rw[gX,kC]at C;exact C
  ·rw[C]at h;simp[fg,h2]at h
 ·intro h
  rw[<-kC,<-gX]at h;rw[h];rfl
def Out(P:t7)(B:Bool)(o:Option (Ex×CSt)):Prop:=
 (∃q,q<=P.length/\ji (P.drop q)=B/\o=some (.x 0,⟨[(0,.str P),(5,.int .i64 (q:Nat))],[],[]⟩))\/(B=false/\o=some (.r,⟨[(4,.bool false)],[],[]⟩))
theorem l86(P L:t7)(hP:P.length<=1000000000000)(hL:L.length<=1000000000000)(B:Bool)(K r p l:Nat)(s:Int)(Z:s=(K:Int)-1)(h:Inv P L K r p l B):
 Out P B (run T (.loop xI) ⟨[(0,.str P),(1,.byt L .no),(5,.int .i64 p),(6,.int .i64 l),(7,.int .i64 s),(8,.int .i64 r)],[],[]⟩):=by
 have a1:=h.kp;have a2:=h.pP;have a3:=h.rl;have a4:=h.lL;rw[ai]
 by_cases y:l<L.length
 ·have Q:af.wrap ((p:Int)+1)=((p+1:Nat):Int):=bW p (by omega)
  have U:af.wrap ((l:Int)+1)=((l+1:Nat):Int):=bW l (by omega);have W:af.wrap ((r:Int)+1)=((r+1:Nat):Int):=bW r (by omega);have O:af.wrap (s+1)=(K:Int):=by rw[Z,w64 (by omega) (by omega)];omega
  by_cases C:p<P.length
  ·by_cases E:P.getD p 0=42
   ·have F:=l86 P L hP hL B (p+1) l (p+1) l p (by omega) (h.star C y E)
    simp only[go_sem,Q0,Q1,Q2,Q3,Q4,Q5,Q6,Q7,Q8,Q9,Qa,Qb,Qc,Qd,Qe,Qf,Qg,Qh,Qi,Qj,Qk,reduceCtorEq,reduceIte,y,C,E,Q,U,W,O];exact F
   ·by_cases I:P.getD p 0=63
    ·have F:=l86 P L hP hL B K r (p+1) (l+1) s Z (h.step C y E (.inl I))
     simp only[go_sem,Q0,Q1,Q2,Q3,Q4,Q5,Q6,Q7,Q8,Q9,Qa,Qb,Qc,Qd,Qe,Qf,Qg,Qh,Qi,Qj,Qk,reduceCtorEq,reduceIte,y,C,E,I,Q,U,W,O];exact F
    ·by_cases H:P.getD p 0=L.getD l 0
     ·have F:=l86 P L hP hL B K r (p+1) (l+1) s Z (h.step C y E (.inr H))
      have a5:¬L.getD l 0=42:=H ▸ E;have a0:¬L.getD l 0=63:=H ▸ I;simp only[go_sem,Q0,Q1,Q2,Q3,Q4,Q5,Q6,Q7,Q8,Q9,Qa,Qb,Qc,Qd,Qe,Qf,Qg,Qh,Qi,Qj,Qk,reduceCtorEq,reduceIte,y,C,H,a5,a0,Q,U,W,O];exact F
     ·by_cases hk:K=0
      ·have z:¬0<=s:=by omega
       simp only[go_sem,Q0,Q1,Q2,Q3,Q4,Q5,Q6,Q7,Q8,Q9,Qa,Qb,Qc,Qd,Qe,Qf,Qg,Qh,Qi,Qj,Qk,reduceCtorEq,reduceIte,y,C,E,I,H,z,Q,U,W,O];exact .inr ⟨h.fail hk y (fun _=>⟨E,I,H⟩),rfl⟩
      ·have z:0<=s:=by omega
       have F:=l86 P L hP hL B K (r+1) K (r+1) s Z (h.back (by omega) y (fun _=>⟨E,I,H⟩));simp only[go_sem,Q0,Q1,Q2,Q3,Q4,Q5,Q6,Q7,Q8,Q9,Qa,Qb,Qc,Qd,Qe,Qf,Qg,Qh,Qi,Qj,Qk,reduceCtorEq,reduceIte,y,C,E,I,H,z,Q,U,W,O];exact F
  ·by_cases hk:K=0
   ·have z:¬0<=s:=by omega
    simp only[go_sem,Q0,Q1,Q2,Q3,Q4,Q5,Q6,Q7,Q8,Q9,Qa,Qb,Qc,Qd,Qe,Qf,Qg,Qh,Qi,Qj,Qk,reduceCtorEq,reduceIte,y,C,z,Q,U,W,O];exact .inr ⟨h.fail hk y (fun J=>absurd J C),rfl⟩
   ·have z:0<=s:=by omega
    have F:=l86 P L hP hL B K (r+1) K (r+1) s Z (h.back (by omega) y (fun J=>absurd J C));simp only[go_sem,Q0,Q1,Q2,Q3,Q4,Q5,Q6,Q7,Q8,Q9,Qa,Qb,Qc,Qd,Qe,Qf,Qg,Qh,Qi,Qj,Qk,reduceCtorEq,reduceIte,y,C,z,Q,U,W,O];exact F
 ·simp only[go_sem,Q0,Q1,Q2,Q3,Q4,Q5,Q6,Q7,Q8,Q9,Qa,Qb,Qc,Qd,Qe,Qf,Qg,Qh,Qi,Qj,Qk,reduceCtorEq,reduceIte,y]
  exact .inl ⟨p,a2,h.fin (by omega),rfl⟩
termination_by (P.length-K,L.length-r,L.length-l)
decreasing_by
 all_goals first
  |(apply Prod.Lex.left;omega)
  |(apply Prod.Lex.right;apply Prod.Lex.left;omega)
  |(apply Prod.Lex.right;apply Prod.Lex.right;omega)
end
section
open Go.Glob
theorem f86(P L:t7)(E:P.length<=1000000000000)(hL:L.length<=1000000000000):call T 86 [.str P,.byt L .no] [] 0=some ⟨.bool (gl P L),[],[]⟩:=by
 rw[an xnM];have h:=l86 P L E hL (gl P L) 0 0 0 0 (-1) rfl (Inv.init P L);simp only[aB]at h;rcases h with⟨q,z,C,h⟩|⟨hB,h⟩
 ·have hd:(P.drop q).length<9223372036854775807:=by rw[aI];omega
  have y:=EU (P.drop q);rw[C]at y;simp only[go_sem,Q0,Q1,Q2,Q3,Q4,Q5,Q6,Q7,Q8,Q9,Qa,Qb,Qc,Qd,Qe,Qf,Qg,Qh,Qi,Qj,Qk,reduceCtorEq,reduceIte,h,z,bi,xnj _ hd,xjT,y];cases gl P L<;>rfl
 ·simp only[go_sem,Q0,Q1,Q2,Q3,Q4,Q5,Q6,Q7,Q8,Q9,Qa,Qb,Qc,Qd,Qe,Qf,Qg,Qh,Qi,Qj,Qk,reduceCtorEq,reduceIte,h,hB]
end
section
open Go.Glob
def prn:t7->Bool
 |[]=>true
 |c::r=>if c<32 then false else if 126<c then false else prn r
def chk(k:Int)(t:t7)(lo hi:Int):Int:=
 if k<1 then 1 else if 4<k then 1 else if prn t then
  (if k=4 then(if lo<0 then 1 else if hi<lo then 1 else if 1000000000<hi then 1 else if 32<t.length then 4 else 0)
   else if lo=0 then(if hi=0 then(if k=1 then(if t=[]then 0 else 1)else if 32<t.length then 4 else 0)else 1)else 1)
 else 1
theorem l44(k:Int)(t:t7)(lo hi:Int)(I:t.length<=1000000000000):∀(n i:Nat),t.length-i=n->i<=t.length->
 run T (.loop xU) ⟨[(1,.ptr 101 0),(15,.int .i64 t.length),(16,.int .i64 i)],[(101,.rc [.int .i64 k,.str t,.int .i64 lo,.int .i64 hi])],[]⟩=
 if prn (t.drop i)then some (.x 0,⟨[(1,.ptr 101 0)],[(101,.rc [.int .i64 k,.str t,.int .i64 lo,.int .i64 hi])],[]⟩)
 else some (.r,⟨[(2,.int .i64 1)],[(101,.rc [.int .i64 k,.str t,.int .i64 lo,.int .i64 hi])],[]⟩):=by
 intro n;induction n with
 |zero=>
  intro i F E;have hi:i=t.length:=by omega
  subst hi;rw[ai];simp only[go_sem,Q0,Q1,Q2,Q3,Q4,Q5,Q6,Q7,Q8,Q9,Qa,Qb,Qc,Qd,Qe,Qf,Qg,Qh,Qi,Qj,Qk,reduceCtorEq,reduceIte,ba,prn]
 |succ n H=>
  intro i F E;have hi:i<t.length:=by omega
  have h:=bW i (by omega);have y:=H (i+1) (by omega) (by omega);rw[ai,cH t i hi]
  by_cases z:t.getD i 0<32
  ·simp only[go_sem,Q0,Q1,Q2,Q3,Q4,Q5,Q6,Q7,Q8,Q9,Qa,Qb,Qc,Qd,Qe,Qf,Qg,Qh,Qi,Qj,Qk,reduceCtorEq,reduceIte,hi,h,prn,z]
  ·by_cases C:126<t.getD i 0
   ·simp only[go_sem,Q0,Q1,Q2,Q3,Q4,Q5,Q6,Q7,Q8,Q9,Qa,Qb,Qc,Qd,Qe,Qf,Qg,Qh,Qi,Qj,Qk,reduceCtorEq,reduceIte,hi,h,prn,z,C]
   ·simp only[go_sem,Q0,Q1,Q2,Q3,Q4,Q5,Q6,Q7,Q8,Q9,Qa,Qb,Qc,Qd,Qe,Qf,Qg,Qh,Qi,Qj,Qk,reduceCtorEq,reduceIte,hi,h,prn,z,C,y]
theorem l47(k:Int)(t:t7)(lo hi:Int)(I:t.length<=1000000000000):∀(n i:Nat),t.length-i=n->i<=t.length->
 run T (.loop PB) ⟨[(1,.ptr 101 0),(3,.int .i64 i)],[(101,.rc [.int .i64 k,.str t,.int .i64 lo,.int .i64 hi])],[]⟩=
 if prn (t.drop i)then some (.x 0,⟨[(1,.ptr 101 0)],[(101,.rc [.int .i64 k,.str t,.int .i64 lo,.int .i64 hi])],[]⟩)
 else some (.r,⟨[(2,.int .i64 1)],[(101,.rc [.int .i64 k,.str t,.int .i64 lo,.int .i64 hi])],[]⟩):=by
 intro n;induction n with
 |zero=>
  intro i F E;have hi:i=t.length:=by omega
  subst hi;rw[ai];simp only[go_sem,Q0,Q1,Q2,Q3,Q4,Q5,Q6,Q7,Q8,Q9,Qa,Qb,Qc,Qd,Qe,Qf,Qg,Qh,Qi,Qj,Qk,reduceCtorEq,reduceIte,ba,prn]
 |succ n H=>
  intro i F E;have hi:i<t.length:=by omega
  have h:=bW i (by omega);have y:=H (i+1) (by omega) (by omega);rw[ai,cH t i hi]
  by_cases z:t.getD i 0<32
  ·simp only[go_sem,Q0,Q1,Q2,Q3,Q4,Q5,Q6,Q7,Q8,Q9,Qa,Qb,Qc,Qd,Qe,Qf,Qg,Qh,Qi,Qj,Qk,reduceCtorEq,reduceIte,hi,h,prn,z]
  ·by_cases C:126<t.getD i 0
   ·simp only[go_sem,Q0,Q1,Q2,Q3,Q4,Q5,Q6,Q7,Q8,Q9,Qa,Qb,Qc,Qd,Qe,Qf,Qg,Qh,Qi,Qj,Qk,reduceCtorEq,reduceIte,hi,h,prn,z,C]
   ·simp only[go_sem,Q0,Q1,Q2,Q3,Q4,Q5,Q6,Q7,Q8,Q9,Qa,Qb,Qc,Qd,Qe,Qf,Qg,Qh,Qi,Qj,Qk,reduceCtorEq,reduceIte,hi,h,prn,z,C,y]
end
section
open Go.Glob
theorem oQ(t:t7):((32:Int)<(t.length:Int))↔32<t.length:=by omega
theorem f44(k:Int)(t:t7)(lo hi:Int)(E:t.length<=1000000000000):call T 44 [.agg [.int .i64 k,.str t,.int .i64 lo,.int .i64 hi]] [] 0=some ⟨.int .i64 (chk k t lo hi),[],[]⟩:=by
 rw[an xoj];have h:=l44 k t lo hi E _ 0 rfl (by omega);simp only[aB,aV]at h;unfold chk
 by_cases c1:k<1
 ·simp only[go_sem,Q0,Q1,Q2,Q3,Q4,Q5,Q6,Q7,Q8,Q9,Qa,Qb,Qc,Qd,Qe,Qf,Qg,Qh,Qi,Qj,Qk,reduceCtorEq,reduceIte,h,c1]
 by_cases c2:4<k
 ·simp only[go_sem,Q0,Q1,Q2,Q3,Q4,Q5,Q6,Q7,Q8,Q9,Qa,Qb,Qc,Qd,Qe,Qf,Qg,Qh,Qi,Qj,Qk,reduceCtorEq,reduceIte,h,c1,c2]
 cases c3:prn t with
 |false=>simp only[go_sem,Q0,Q1,Q2,Q3,Q4,Q5,Q6,Q7,Q8,Q9,Qa,Qb,Qc,Qd,Qe,Qf,Qg,Qh,Qi,Qj,Qk,reduceCtorEq,reduceIte,h,c1,c2,c3]
 |true=>
  by_cases C:k=4
  ·subst C
   by_cases c5:lo<0
   ·simp only[go_sem,Q0,Q1,Q2,Q3,Q4,Q5,Q6,Q7,Q8,Q9,Qa,Qb,Qc,Qd,Qe,Qf,Qg,Qh,Qi,Qj,Qk,reduceCtorEq,reduceIte,h,c3,c5]
   by_cases y:hi<lo
   ·simp only[go_sem,Q0,Q1,Q2,Q3,Q4,Q5,Q6,Q7,Q8,Q9,Qa,Qb,Qc,Qd,Qe,Qf,Qg,Qh,Qi,Qj,Qk,reduceCtorEq,reduceIte,h,c3,c5,y]
   by_cases z:1000000000<hi
   ·simp only[go_sem,Q0,Q1,Q2,Q3,Q4,Q5,Q6,Q7,Q8,Q9,Qa,Qb,Qc,Qd,Qe,Qf,Qg,Qh,Qi,Qj,Qk,reduceCtorEq,reduceIte,h,c3,c5,y,z]
   by_cases c8:32<t.length
   ·simp only[go_sem,Q0,Q1,Q2,Q3,Q4,Q5,Q6,Q7,Q8,Q9,Qa,Qb,Qc,Qd,Qe,Qf,Qg,Qh,Qi,Qj,Qk,reduceCtorEq,reduceIte,h,c3,c5,y,z,c8,oQ]
   ·simp only[go_sem,Q0,Q1,Q2,Q3,Q4,Q5,Q6,Q7,Q8,Q9,Qa,Qb,Qc,Qd,Qe,Qf,Qg,Qh,Qi,Qj,Qk,reduceCtorEq,reduceIte,h,c3,c5,y,z,c8,oQ]
  ·by_cases c5:lo=0
   ·subst c5
    by_cases y:hi=0
    ·subst y
     by_cases z:k=1
     ·subst z
      by_cases c8:t=[]
      ·subst c8
       try simp only[aY,aB]at h
       simp only[go_sem,Q0,Q1,Q2,Q3,Q4,Q5,Q6,Q7,Q8,Q9,Qa,Qb,Qc,Qd,Qe,Qf,Qg,Qh,Qi,Qj,Qk,reduceCtorEq,reduceIte,h,c3,aY,aB]
      ·simp only[go_sem,Q0,Q1,Q2,Q3,Q4,Q5,Q6,Q7,Q8,Q9,Qa,Qb,Qc,Qd,Qe,Qf,Qg,Qh,Qi,Qj,Qk,reduceCtorEq,reduceIte,h,c3,c8]
     ·by_cases c8:32<t.length
      ·simp only[go_sem,Q0,Q1,Q2,Q3,Q4,Q5,Q6,Q7,Q8,Q9,Qa,Qb,Qc,Qd,Qe,Qf,Qg,Qh,Qi,Qj,Qk,reduceCtorEq,reduceIte,h,c1,c2,c3,C,z,c8,oQ]
      ·simp only[go_sem,Q0,Q1,Q2,Q3,Q4,Q5,Q6,Q7,Q8,Q9,Qa,Qb,Qc,Qd,Qe,Qf,Qg,Qh,Qi,Qj,Qk,reduceCtorEq,reduceIte,h,c1,c2,c3,C,z,c8,oQ]
    ·simp only[go_sem,Q0,Q1,Q2,Q3,Q4,Q5,Q6,Q7,Q8,Q9,Qa,Qb,Qc,Qd,Qe,Qf,Qg,Qh,Qi,Qj,Qk,reduceCtorEq,reduceIte,h,c1,c2,c3,C,y]
   ·simp only[go_sem,Q0,Q1,Q2,Q3,Q4,Q5,Q6,Q7,Q8,Q9,Qa,Qb,Qc,Qd,Qe,Qf,Qg,Qh,Qi,Qj,Qk,reduceCtorEq,reduceIte,h,c1,c2,c3,C,c5]
theorem f47(k:Int)(t:t7)(lo hi:Int)(E:t.length<=1000000000000):call T 47 [.agg [.int .i64 k,.str t,.int .i64 lo,.int .i64 hi]] [] 0=some ⟨.int .i64 (chk k t lo hi),[],[]⟩:=by
 rw[an xog];have h:=l47 k t lo hi E _ 0 rfl (by omega);simp only[aB,aV]at h;unfold chk
 by_cases c1:k<1
 ·simp only[go_sem,Q0,Q1,Q2,Q3,Q4,Q5,Q6,Q7,Q8,Q9,Qa,Qb,Qc,Qd,Qe,Qf,Qg,Qh,Qi,Qj,Qk,reduceCtorEq,reduceIte,h,c1]
 by_cases c2:4<k
 ·simp only[go_sem,Q0,Q1,Q2,Q3,Q4,Q5,Q6,Q7,Q8,Q9,Qa,Qb,Qc,Qd,Qe,Qf,Qg,Qh,Qi,Qj,Qk,reduceCtorEq,reduceIte,h,c1,c2]
 cases c3:prn t with
 |false=>simp only[go_sem,Q0,Q1,Q2,Q3,Q4,Q5,Q6,Q7,Q8,Q9,Qa,Qb,Qc,Qd,Qe,Qf,Qg,Qh,Qi,Qj,Qk,reduceCtorEq,reduceIte,h,c1,c2,c3]
 |true=>
  by_cases C:k=4
  ·subst C
   by_cases c5:lo<0
   ·simp only[go_sem,Q0,Q1,Q2,Q3,Q4,Q5,Q6,Q7,Q8,Q9,Qa,Qb,Qc,Qd,Qe,Qf,Qg,Qh,Qi,Qj,Qk,reduceCtorEq,reduceIte,h,c3,c5]
   by_cases y:hi<lo
   ·simp only[go_sem,Q0,Q1,Q2,Q3,Q4,Q5,Q6,Q7,Q8,Q9,Qa,Qb,Qc,Qd,Qe,Qf,Qg,Qh,Qi,Qj,Qk,reduceCtorEq,reduceIte,h,c3,c5,y]
   by_cases z:1000000000<hi
   ·simp only[go_sem,Q0,Q1,Q2,Q3,Q4,Q5,Q6,Q7,Q8,Q9,Qa,Qb,Qc,Qd,Qe,Qf,Qg,Qh,Qi,Qj,Qk,reduceCtorEq,reduceIte,h,c3,c5,y,z]
   by_cases c8:32<t.length
   ·simp only[go_sem,Q0,Q1,Q2,Q3,Q4,Q5,Q6,Q7,Q8,Q9,Qa,Qb,Qc,Qd,Qe,Qf,Qg,Qh,Qi,Qj,Qk,reduceCtorEq,reduceIte,h,c3,c5,y,z,c8,oQ]
   ·simp only[go_sem,Q0,Q1,Q2,Q3,Q4,Q5,Q6,Q7,Q8,Q9,Qa,Qb,Qc,Qd,Qe,Qf,Qg,Qh,Qi,Qj,Qk,reduceCtorEq,reduceIte,h,c3,c5,y,z,c8,oQ]
  ·by_cases c5:lo=0
   ·subst c5
    by_cases y:hi=0
    ·subst y
     by_cases z:k=1
     ·subst z
      by_cases c8:t=[]
      ·subst c8
       try simp only[aY,aB]at h
       simp only[go_sem,Q0,Q1,Q2,Q3,Q4,Q5,Q6,Q7,Q8,Q9,Qa,Qb,Qc,Qd,Qe,Qf,Qg,Qh,Qi,Qj,Qk,reduceCtorEq,reduceIte,h,c3,aY,aB]
      ·simp only[go_sem,Q0,Q1,Q2,Q3,Q4,Q5,Q6,Q7,Q8,Q9,Qa,Qb,Qc,Qd,Qe,Qf,Qg,Qh,Qi,Qj,Qk,reduceCtorEq,reduceIte,h,c3,c8]
     ·by_cases c8:32<t.length
      ·simp only[go_sem,Q0,Q1,Q2,Q3,Q4,Q5,Q6,Q7,Q8,Q9,Qa,Qb,Qc,Qd,Qe,Qf,Qg,Qh,Qi,Qj,Qk,reduceCtorEq,reduceIte,h,c1,c2,c3,C,z,c8,oQ]
      ·simp only[go_sem,Q0,Q1,Q2,Q3,Q4,Q5,Q6,Q7,Q8,Q9,Qa,Qb,Qc,Qd,Qe,Qf,Qg,Qh,Qi,Qj,Qk,reduceCtorEq,reduceIte,h,c1,c2,c3,C,z,c8,oQ]
    ·simp only[go_sem,Q0,Q1,Q2,Q3,Q4,Q5,Q6,Q7,Q8,Q9,Qa,Qb,Qc,Qd,Qe,Qf,Qg,Qh,Qi,Qj,Qk,reduceCtorEq,reduceIte,h,c1,c2,c3,C,y]
   ·simp only[go_sem,Q0,Q1,Q2,Q3,Q4,Q5,Q6,Q7,Q8,Q9,Qa,Qb,Qc,Qd,Qe,Qf,Qg,Qh,Qi,Qj,Qk,reduceCtorEq,reduceIte,h,c1,c2,c3,C,c5]
end
section
open Go.Glob
theorem xlb(s t:t7):call T 153 [.str s,.str t] [] 0=some ⟨.bool (decide (t.length<=s.length/\s.take t.length=t)),[],[]⟩:=by
 rw[an xi3]
 by_cases h:t.length<=s.length
 ·by_cases y:s.take t.length=t
  ·simp only[go_sem,Q0,Q1,Q2,Q3,Q4,Q5,Q6,Q7,Q8,Q9,Qa,Qb,Qc,Qd,Qe,Qf,Qg,Qh,Qi,Qj,Qk,reduceCtorEq,reduceIte,h,y]
  ·simp only[go_sem,Q0,Q1,Q2,Q3,Q4,Q5,Q6,Q7,Q8,Q9,Qa,Qb,Qc,Qd,Qe,Qf,Qg,Qh,Qi,Qj,Qk,reduceCtorEq,reduceIte,h,y]
 ·simp only[go_sem,Q0,Q1,Q2,Q3,Q4,Q5,Q6,Q7,Q8,Q9,Qa,Qb,Qc,Qd,Qe,Qf,Qg,Qh,Qi,Qj,Qk,reduceCtorEq,reduceIte,h]
theorem f128(s t:t7):call T 128 [.str s,.str t] [] 0=some ⟨if t.length<=s.length/\s.take t.length=t then .tup [.str (s.drop t.length),.bool true]else .tup [.str s,.bool false],[],[]⟩:=by
 rw[an xjj]
 by_cases h:t.length<=s.length/\s.take t.length=t
 ·have y:=h.1
  simp only[go_sem,Q0,Q1,Q2,Q3,Q4,Q5,Q6,Q7,Q8,Q9,Qa,Qb,Qc,Qd,Qe,Qf,Qg,Qh,Qi,Qj,Qk,reduceCtorEq,reduceIte,xlb,xaX,h,y,bi]
 ·simp only[go_sem,Q0,Q1,Q2,Q3,Q4,Q5,Q6,Q7,Q8,Q9,Qa,Qb,Qc,Qd,Qe,Qf,Qg,Qh,Qi,Qj,Qk,reduceCtorEq,reduceIte,xlb,xaX,h]
theorem f87(s t:t7):call T 87 [.str s,.str t] [] 0=some ⟨if t.length<=s.length/\s.take t.length=t then .tup [.str (s.drop t.length),.bool true]else .tup [.str s,.bool false],[],[]⟩:=by
 rw[an xnL]
 by_cases h:t.length<=s.length/\s.take t.length=t
 ·simp only[go_sem,Q0,Q1,Q2,Q3,Q4,Q5,Q6,Q7,Q8,Q9,Qa,Qb,Qc,Qd,Qe,Qf,Qg,Qh,Qi,Qj,Qk,reduceCtorEq,reduceIte,f128,xa3,h]
 ·simp only[go_sem,Q0,Q1,Q2,Q3,Q4,Q5,Q6,Q7,Q8,Q9,Qa,Qb,Qc,Qd,Qe,Qf,Qg,Qh,Qi,Qj,Qk,reduceCtorEq,reduceIte,f128,xa3,h]
def num:Nat->t7->Nat
 |n,[]=>n
 |n,c::r=>num (n*10+(c.toNat-48)) r
def o7:t7->Bool
 |[]=>true
 |c::r=>if c<48 then false else if 57<c then false else o7 r
theorem SP(c:UInt8)(z:¬c<48)(y:¬57<c):(c-48).toNat=c.toNat-48/\¬9<c-48/\c.toNat-48<=9:=by
 have h:48<=c.toNat:=by simpa[sk]using z
 have C:c.toNat<=57:=by simpa[sk]using y
 have e:(c-48).toNat=c.toNat-48:=UInt8.toNat_sub_of_le c 48 (by simpa[UInt8.le_iff_toNat_le]using h);refine⟨e, ?_,by omega⟩;rw[sk,e];simp;omega
def lim:Nat->Nat
 |0=>0
 |i+1=>lim i*10+9
theorem xeY(i:Nat)(h:i<=9):lim i<=999999999:=by
 have:i=0\/i=1\/i=2\/i=3\/i=4\/i=5\/i=6\/i=7\/i=8\/i=9:=by omega
 rcases this with rfl|rfl|rfl|rfl|rfl|rfl|rfl|rfl|rfl|rfl<;>simp[lim]
theorem xik(h s:t7)(n:Nat):run T (.loop oD) ⟨[(5,.str h),(6,.int .i64 n),(47,.byt s .no),(48,.int .i64 s.length),(49,.int .i64 s.length)],[],[]⟩=some (.x 0,⟨[(5,.str h),(6,.int .i64 n)],[],[]⟩):=by rw[ai];simp only[go_sem,Q0,Q1,Q2,Q3,Q4,Q5,Q6,Q7,Q8,Q9,Qa,Qb,Qc,Qd,Qe,Qf,Qg,Qh,Qi,Qj,Qk,reduceCtorEq,reduceIte]
theorem xmH(h s:t7)(W:s.length<=10):∀(m i n:Nat),s.length-i=m->i<=s.length->n<=lim i->o7 (s.drop i)=true->
 run T (.loop oD) ⟨[(5,.str h),(6,.int .i64 n),(47,.byt s .no),(48,.int .i64 s.length),(49,.int .i64 i)],[],[]⟩=some (.x 0,⟨[(5,.str h),(6,.int .i64 (num n (s.drop i)))],[],[]⟩):=by
 intro m;induction m with
 |zero=>
  intro i n J H hn hd;have hi:i=s.length:=by clear hn;omega
  rw[hi,ba];exact xik h s n
 |succ m Q=>
  intro i n J H hn hd;have hi:i<s.length:=by omega
  rw[cH s i hi]at hd;simp only[o7]at hd
  by_cases y:s.getD i 0<48
  ·rw[if_pos y]at hd;cases hd
  rw[if_neg y]at hd
  by_cases E:57<s.getD i 0
  ·rw[if_pos E]at hd;cases hd
  rw[if_neg E]at hd;obtain⟨d1,d2,U⟩:=SP _ y E;have Z:lim i<=999999999:=xeY i (by omega);have z:n*10+((s.getD i 0).toNat-48)<=lim (i+1):=by simp only[lim];omega
  have C:=Q (i+1) (n*10+((s.getD i 0).toNat-48)) (by omega) (by omega) z hd;have F:=bW i (by omega);have I:af.wrap ((n:Int)*10)=((n*10:Nat):Int):=wZ (by omega)
  have O:af.wrap (((n*10:Nat):Int)+(((s.getD i 0).toNat-48:Nat):Int))=((n*10+((s.getD i 0).toNat-48):Nat):Int):=wZ (by omega)
  rw[ai,cH s i hi];simp only[go_sem,Q0,Q1,Q2,Q3,Q4,Q5,Q6,Q7,Q8,Q9,Qa,Qb,Qc,Qd,Qe,Qf,Qg,Qh,Qi,Qj,Qk,reduceCtorEq,reduceIte,hi,F,I,O,d1,d2];show _=some (Ex.x 0,CSt.mk [(5,.str h),(6,.int .i64 ((num (n*10+((s.getD i 0).toNat-48)) (s.drop (i+1)):Nat):Int))] [] []);exact C
end
section
open Go.Glob
theorem xm8(s:t7)(J:s≠ [])(O:s.length<=10)(hd:o7 s=true):call T 154 [.str s] [] 0=some ⟨.tup [.int .i64 (num 0 s),.nili],[],[]⟩:=by
 rw[an xi2];have h:=xmH s s O _ 0 0 rfl (by omega) (by simp[lim]) (by simpa using hd);simp only[aB,aV]at h;cases s with
 |nil=>exact absurd rfl J
 |cons c r=>
  simp only[o7]at hd
  by_cases z:c<48
  ·rw[if_pos z]at hd;cases hd
  rw[if_neg z]at hd
  by_cases C:57<c
  ·rw[if_pos C]at hd;cases hd
  have y:48<=c.toNat:=by simpa[sk]using z
  have I:¬c=45:=by rintro rfl;simp at y
  have H:¬c=43:=by rintro rfl;simp at y
  have E:(0:Int)<(((c::r).length:Nat):Int):=by rw[aA];omega
  have U:¬(10:Int)<=(((c::r).length:Nat):Int)\/True:= .inr trivial;have F:(((c::r).length:Nat):Int)<19:=by omega
  have Q:List.getD (c::r) 0 0=c:=rfl;generalize W:c::r=s at*;simp only[go_sem,Q0,Q1,Q2,Q3,Q4,Q5,Q6,Q7,Q8,Q9,Qa,Qb,Qc,Qd,Qe,Qf,Qg,Qh,Qi,Qj,Qk,reduceCtorEq,reduceIte,h,I,H,E,F,Q]
theorem f129(s:t7)(h:s≠ [])(y:s.length<=10)(hd:o7 s=true):call T 129 [.str s] [] 0=some ⟨.tup [.int .i64 (num 0 s),.nili],[],[]⟩:=by rw[an xji];simp only[go_sem,Q0,Q1,Q2,Q3,Q4,Q5,Q6,Q7,Q8,Q9,Qa,Qb,Qc,Qd,Qe,Qf,Qg,Qh,Qi,Qj,Qk,reduceCtorEq,reduceIte,xm8 s h y hd,xjL]
def RR(s:t7):Int:=if s=[]then-1 else if 10<s.length then-1 else if 1<s.length/\s.getD 0 0=48 then-1 else if o7 s then(num 0 s:Nat)else-1
theorem l88(s:t7)(I:s.length<=10):∀(m i:Nat),s.length-i=m->i<=s.length->
 run T (.loop Pb) ⟨[(0,.str s),(24,.int .i64 s.length),(25,.int .i64 i)],[],[]⟩=if o7 (s.drop i)then some (.x 0,⟨[(0,.str s)],[],[]⟩)else some (.r,⟨[(2,.int .i64 (-1))],[],[]⟩):=by
 intro m;induction m with
 |zero=>
  intro i F E;have hi:i=s.length:=by omega
  subst hi;rw[ai];simp only[go_sem,Q0,Q1,Q2,Q3,Q4,Q5,Q6,Q7,Q8,Q9,Qa,Qb,Qc,Qd,Qe,Qf,Qg,Qh,Qi,Qj,Qk,reduceCtorEq,reduceIte,ba,o7]
 |succ m H=>
  intro i F E;have hi:i<s.length:=by omega
  have h:=bW i (by omega);have y:=H (i+1) (by omega) (by omega);rw[ai,cH s i hi]
  by_cases z:s.getD i 0<48
  ·simp only[go_sem,Q0,Q1,Q2,Q3,Q4,Q5,Q6,Q7,Q8,Q9,Qa,Qb,Qc,Qd,Qe,Qf,Qg,Qh,Qi,Qj,Qk,reduceCtorEq,reduceIte,hi,h,o7,z]
  ·by_cases C:57<s.getD i 0
   ·simp only[go_sem,Q0,Q1,Q2,Q3,Q4,Q5,Q6,Q7,Q8,Q9,Qa,Qb,Qc,Qd,Qe,Qf,Qg,Qh,Qi,Qj,Qk,reduceCtorEq,reduceIte,hi,h,o7,z,C]
   ·simp only[go_sem,Q0,Q1,Q2,Q3,Q4,Q5,Q6,Q7,Q8,Q9,Qa,Qb,Qc,Qd,Qe,Qf,Qg,Qh,Qi,Qj,Qk,reduceCtorEq,reduceIte,hi,h,o7,z,C,y]
theorem f88(s:t7)(J:s.length<=1000000000000):call T 88 [.str s] [] 0=some ⟨.int .i64 (RR s),[],[]⟩:=by
 rw[an xnK];unfold RR
 by_cases C:s=[]
 ·simp only[go_sem,Q0,Q1,Q2,Q3,Q4,Q5,Q6,Q7,Q8,Q9,Qa,Qb,Qc,Qd,Qe,Qf,Qg,Qh,Qi,Qj,Qk,reduceCtorEq,reduceIte,C]
 by_cases E:10<s.length
 ·have y:(10:Int)<((s.length:Nat):Int):=by omega
  simp only[go_sem,Q0,Q1,Q2,Q3,Q4,Q5,Q6,Q7,Q8,Q9,Qa,Qb,Qc,Qd,Qe,Qf,Qg,Qh,Qi,Qj,Qk,reduceCtorEq,reduceIte,C,E,y]
 have y:¬(10:Int)<((s.length:Nat):Int):=by omega
 have H:(0:Int)<((s.length:Nat):Int):=by cases s with|nil=>exact absurd rfl C|cons c r=>rw[aA];omega
 have h:=l88 s (by omega) _ 0 rfl (by omega);simp only[aB,aV]at h
 by_cases F:1<s.length
 ·have z:(1:Int)<((s.length:Nat):Int):=by omega
  by_cases I:s.getD 0 0=48
  ·simp only[go_sem,Q0,Q1,Q2,Q3,Q4,Q5,Q6,Q7,Q8,Q9,Qa,Qb,Qc,Qd,Qe,Qf,Qg,Qh,Qi,Qj,Qk,reduceCtorEq,reduceIte,C,E,y,F,z,I,H]
  ·cases hd:o7 s with
   |true=>simp only[go_sem,Q0,Q1,Q2,Q3,Q4,Q5,Q6,Q7,Q8,Q9,Qa,Qb,Qc,Qd,Qe,Qf,Qg,Qh,Qi,Qj,Qk,reduceCtorEq,reduceIte,C,E,y,F,z,I,H,h,hd,f129 s C (by omega) hd,xa2]
   |false=>simp only[go_sem,Q0,Q1,Q2,Q3,Q4,Q5,Q6,Q7,Q8,Q9,Qa,Qb,Qc,Qd,Qe,Qf,Qg,Qh,Qi,Qj,Qk,reduceCtorEq,reduceIte,C,E,y,F,z,I,H,h,hd]
 ·have z:¬(1:Int)<((s.length:Nat):Int):=by omega
  cases hd:o7 s with
  |true=>simp only[go_sem,Q0,Q1,Q2,Q3,Q4,Q5,Q6,Q7,Q8,Q9,Qa,Qb,Qc,Qd,Qe,Qf,Qg,Qh,Qi,Qj,Qk,reduceCtorEq,reduceIte,C,E,y,F,z,H,h,hd,f129 s C (by omega) hd,xa2]
  |false=>simp only[go_sem,Q0,Q1,Q2,Q3,Q4,Q5,Q6,Q7,Q8,Q9,Qa,Qb,Qc,Qd,Qe,Qf,Qg,Qh,Qi,Qj,Qk,reduceCtorEq,reduceIte,C,E,y,F,z,H,h,hd]
end
section
open Go.Glob
def alw(k:Int)(t:t7)(lo hi:Int)(b:t7):Bool:=
 if chk k t lo hi=0 then
  (if k=2 then decide (b=t)else if k=3 then gl t b else if k=4 then
   (if t.length<=b.length/\b.take t.length=t then(if lo<=RR (b.drop t.length)then decide (RR (b.drop t.length)<=hi)else false)else false)
   else true)
 else false
theorem f35(k:Int)(t:t7)(lo hi:Int)(b:t7)(F:t.length<=1000000000000)(C:b.length<=1000000000000):
 call T 35 [.agg [.int .i64 k,.str t,.int .i64 lo,.int .i64 hi],.byt b .no] [] 0=some ⟨.bool (alw k t lo hi b),[],[]⟩:=by
 rw[an xop];have h:=f44 k t lo hi F;unfold alw
 by_cases c0:chk k t lo hi=0
 ·by_cases c2:k=2
  ·subst c2
   by_cases y:b=t
   ·simp only[go_sem,Q0,Q1,Q2,Q3,Q4,Q5,Q6,Q7,Q8,Q9,Qa,Qb,Qc,Qd,Qe,Qf,Qg,Qh,Qi,Qj,Qk,reduceCtorEq,reduceIte,h,tB,c0,y]
   ·simp only[go_sem,Q0,Q1,Q2,Q3,Q4,Q5,Q6,Q7,Q8,Q9,Qa,Qb,Qc,Qd,Qe,Qf,Qg,Qh,Qi,Qj,Qk,reduceCtorEq,reduceIte,h,tB,c0,y]
  by_cases y:k=3
  ·subst y
   simp only[go_sem,Q0,Q1,Q2,Q3,Q4,Q5,Q6,Q7,Q8,Q9,Qa,Qb,Qc,Qd,Qe,Qf,Qg,Qh,Qi,Qj,Qk,reduceCtorEq,reduceIte,h,tB,c0,f86 t b F C,xoI]
  by_cases E:k=4
  ·subst E
   have hn:=f88 (b.drop t.length) (by rw[aI];omega)
   by_cases c5:t.length<=b.length/\b.take t.length=t
   ·by_cases z:lo<=RR (b.drop t.length)
    ·simp only[go_sem,Q0,Q1,Q2,Q3,Q4,Q5,Q6,Q7,Q8,Q9,Qa,Qb,Qc,Qd,Qe,Qf,Qg,Qh,Qi,Qj,Qk,reduceCtorEq,reduceIte,h,tB,c0,f87,xfU,c5,hn,xfT,z]
    ·simp only[go_sem,Q0,Q1,Q2,Q3,Q4,Q5,Q6,Q7,Q8,Q9,Qa,Qb,Qc,Qd,Qe,Qf,Qg,Qh,Qi,Qj,Qk,reduceCtorEq,reduceIte,h,tB,c0,f87,xfU,c5,hn,xfT,z]
   ·simp only[go_sem,Q0,Q1,Q2,Q3,Q4,Q5,Q6,Q7,Q8,Q9,Qa,Qb,Qc,Qd,Qe,Qf,Qg,Qh,Qi,Qj,Qk,reduceCtorEq,reduceIte,h,tB,c0,f87,xfU,c5,f88 b C,xfT]
  ·simp only[go_sem,Q0,Q1,Q2,Q3,Q4,Q5,Q6,Q7,Q8,Q9,Qa,Qb,Qc,Qd,Qe,Qf,Qg,Qh,Qi,Qj,Qk,reduceCtorEq,reduceIte,h,tB,c0,c2,y,E]
 ·simp only[go_sem,Q0,Q1,Q2,Q3,Q4,Q5,Q6,Q7,Q8,Q9,Qa,Qb,Qc,Qd,Qe,Qf,Qg,Qh,Qi,Qj,Qk,reduceCtorEq,reduceIte,h,tB,c0]
end
section
open Go.Glob
theorem dI(B:t7)(i n:Nat)(h:0<n):dn B i n<n:=by
 unfold dn;split
 ·exact Nat.mod_lt _ h
 ·exact h
end
section
open Go.Glob
def ia:Nat->t7
 |0=> [97,61,49]
 |1=> [99,111,117,110,116,61,53]
 |2=> [99,111,117,110,116,61,49,55]
 |3=> [104,111,115,116,61,120]
 |4=> [109,111,100,101,32,98]
 |_=> [126]
def Et:Nat->t7
 |0=> []
 |1=> [42]
 |2=> [97,61,63]
 |3=> [42,61,42]
 |4=> [63,111,42,53]
 |5=> [99,111,117,110,116,61,63,63]
 |_=> [42,97,42,42,49,42]
def Z8:Nat->t7
 |0=> [99,111,117,110,116,61]
 |1=> [97,61]
 |_=> []
theorem vc:∀v,v<6->chk 2 (ia v) 0 0=0/\(ia v).length<=20:=by decide
theorem vf:∀v,v<7->chk 3 (Et v) 0 0=0/\(Et v).length<=20:=by decide
theorem sN:∀v,v<3->prn (Z8 v)=true/\(Z8 v).length<=20:=by decide
theorem cz0:((0:Nat):Int)=0:=rfl
theorem cz1:((1:Nat):Int)=1:=rfl
theorem cz2:((2:Nat):Int)=2:=rfl
theorem cz3:((3:Nat):Int)=3:=rfl
theorem cz4:((4:Nat):Int)=4:=rfl
theorem cz5:((5:Nat):Int)=5:=rfl
theorem cz6:((6:Nat):Int)=6:=rfl
theorem cz7:((7:Nat):Int)=7:=rfl
theorem f73(B:t7)(i:Nat)(y:B.length<=1000):call T 73 [.ptr 0 0] [bg B i] 0=some ⟨.byt (ia (dn B i 6)) .no,[(0,bg B (cr B i))],[]⟩:=by
 rw[an xnW];have g:=f71 B i 6 (by omega) (by omega);have h:=dI B i 6 (by omega);rw[cz6]at g;generalize dn B i 6=v at g h;simp only[bg]at g;have:v=0\/v=1\/v=2\/v=3\/v=4\/v=5:=by omega
 rcases this with rfl|rfl|rfl|rfl|rfl|rfl<;>simp only[cz0,cz1,cz2,cz3,cz4,cz5]at g<;>simp only[go_sem,Q0,Q1,Q2,Q3,Q4,Q5,Q6,Q7,Q8,Q9,Qa,Qb,Qc,Qd,Qe,Qf,Qg,Qh,Qi,Qj,Qk,reduceCtorEq,reduceIte,List.all_replicate,cz0,cz1,cz2,cz3,cz4,cz5,cz6,cz7,bg,g,jC,ia]
theorem S0(t:t7)(h:prn t=true)(y:t.length<=20)(a b:Nat)(z:a<1000)(C:b<1000):chk 4 t a ((a:Int)+b)=0:=by unfold chk;rw[if_neg (by omega),if_neg (by omega),if_pos h,if_pos rfl,if_neg (by omega),if_neg (by omega),if_neg (by omega),if_neg (by omega)]
theorem xnv(B:t7)(i:Nat)(hB:B.length<=1000):∃(k:Int)(t:t7)(lo hi:Int)(j:Nat),chk k t lo hi=0/\t.length<=20/\
 call T 103 [.ptr 0 0] [bg B i] 0=some ⟨.agg [.int .i64 k,.str t,.int .i64 lo,.int .i64 hi],[(0,bg B j)],[]⟩:=by
 rw[an Ew];have g:=f71 B i 5 (by omega) (by omega);have hm:=dI B i 5 (by omega);rw[cz5]at g;generalize dn B i 5=v at g hm;simp only[bg]at g;have O:v=0\/v=1\/v=2\/v=3\/v=4:=by omega
 generalize cr B i=h at g;have J:=f71 B h 7 (by omega) (by omega);have U:=dI B h 7 (by omega);have E:=f71 B h 20 (by omega) (by omega);have a0:=dI B h 20 (by omega);have H:=f71 B (cr B h) 3 (by omega) (by omega);have Q:=dI B (cr B h) 3 (by omega);have F:=f71 B (cr B (cr B h)) 30 (by omega) (by omega);have a1:=dI B (cr B (cr B h)) 30 (by omega);have Z:=f73 B h hB;have W:=dI B h 6 (by omega);simp only[bg]at J E H F Z;rw[cz7]at J;rw[c20]at E;rw[cz3]at H;rw[c30]at F;generalize dn B h 6=v6 at*;generalize dn B h 7=z at*;generalize dn B h 20=y at*;generalize dn B (cr B h) 3=I at*;generalize dn B (cr B (cr B h)) 30=C at*
 have hN:v=3\/v=4->∃(k:Int)(t:t7)(lo hi:Int)(j:Nat),chk k t lo hi=0/\t.length<=20/\
  call T 103 [.ptr 0 0] [bg B i] 0=some ⟨.agg [.int .i64 k,.str t,.int .i64 lo,.int .i64 hi],[(0,bg B j)],[]⟩:=by
  intro O;refine⟨4,Z8 I,y,(y:Int)+C,cr B (cr B (cr B h)),S0 _ (sN _ Q).1 (sN _ Q).2 _ _ (by omega) (by omega),(sN _ Q).2, ?_⟩;have e:af.wrap ((y:Int)+(C:Int))=(y:Int)+C:=w64 (by omega) (by omega);rw[an Ew];have:I=0\/I=1\/I=2:=by omega
  rcases O with rfl|rfl<;>rcases this with rfl|rfl|rfl<;>simp only[cz0,cz1,cz2,cz3,cz4]at g H<;>simp only[go_sem,Q0,Q1,Q2,Q3,Q4,Q5,Q6,Q7,Q8,Q9,Qa,Qb,Qc,Qd,Qe,Qf,Qg,Qh,Qi,Qj,Qk,reduceCtorEq,reduceIte,List.all_replicate,cz0,cz1,cz2,cz3,cz4,cz5,cz6,cz7,bg,g,E,H,F,jC,e,Z8]
 rcases O with rfl|rfl|rfl|rfl|rfl
 ·refine⟨1,[],0,0,h,by decide,by decide, ?_⟩
  simp only[cz0]at g;simp only[go_sem,Q0,Q1,Q2,Q3,Q4,Q5,Q6,Q7,Q8,Q9,Qa,Qb,Qc,Qd,Qe,Qf,Qg,Qh,Qi,Qj,Qk,reduceCtorEq,reduceIte,List.all_replicate,cz0,cz1,cz2,cz3,cz4,cz5,cz6,cz7,bg,g,jC]
 ·refine⟨2,ia v6,0,0,cr B h,(vc _ W).1,(vc _ W).2, ?_⟩
  simp only[cz1]at g;simp only[go_sem,Q0,Q1,Q2,Q3,Q4,Q5,Q6,Q7,Q8,Q9,Qa,Qb,Qc,Qd,Qe,Qf,Qg,Qh,Qi,Qj,Qk,reduceCtorEq,reduceIte,List.all_replicate,cz0,cz1,cz2,cz3,cz4,cz5,cz6,cz7,bg,g,jC,Z,xlF]
 ·refine⟨3,Et z,0,0,cr B h,(vf _ U).1,(vf _ U).2, ?_⟩
  simp only[cz2]at g;have:z=0\/z=1\/z=2\/z=3\/z=4\/z=5\/z=6:=by omega
  rcases this with rfl|rfl|rfl|rfl|rfl|rfl|rfl<;>simp only[cz0,cz1,cz2,cz3,cz4,cz5,cz6]at J<;>simp only[go_sem,Q0,Q1,Q2,Q3,Q4,Q5,Q6,Q7,Q8,Q9,Qa,Qb,Qc,Qd,Qe,Qf,Qg,Qh,Qi,Qj,Qk,reduceCtorEq,reduceIte,List.all_replicate,cz0,cz1,cz2,cz3,cz4,cz5,cz6,cz7,bg,g,J,jC,Et]
 ·rw[<-an Ew];exact hN (.inl rfl)
 ·rw[<-an Ew];exact hN (.inr rfl)
end
section
open Go.Glob
def dg(d:Nat):UInt8:=ct ((48+d:Nat):Int)
def dec(n:Nat):t7:=if h:n<10 then [dg n]else dec (n/10)++ [dg (n % 10)]
termination_by n
decreasing_by omega
theorem fk{n:Nat}(h:n<10):dec n=[dg n]:=by rw[dec,dif_pos h]
theorem cd{n:Nat}(h:¬n<10):dec n=dec (n/10)++ [dg (n % 10)]:=by rw[dec,dif_neg h]
theorem SR:∀n,(dec n).length<=n+1:=by
 intro n;induction n using Nat.strongRecOn with
 |_ n y=>
  by_cases h:n<10
  ·rw[fk h];simp
  ·have:=y (n/10) (by omega)
   rw[cd h,ac,aH];omega
theorem mh:∀k n,n<10^(k+1)->(dec n).length<=k+1
 |0,n,h=>by rw[fk (by simpa using h)];simp
 |k+1,n,h=>by
  by_cases y:n<10
  ·rw[fk y];simp
  ·have:=mh k (n/10) (by rw[Nat.pow_succ]at h;omega)
   rw[cd y,ac,aH];omega
theorem f85:∀n:Nat,n<=1000000000000->call T 85 [.int .i64 n] [] 0=some ⟨.byt (dec n) (.id 60),[],[60]⟩:=by
 intro n;induction n using Nat.strongRecOn with
 |_ n O=>
  intro hn;rw[an xnN]
  by_cases h:n<10
  ·have E:(n:Int)<10:=by omega
   have y:af.wrap (48+(n:Int))=((48+n:Nat):Int):=wZ (by omega)
   have H:ct ((48+n:Nat):Int)=dg n:=rfl;simp only[go_sem,Q0,Q1,Q2,Q3,Q4,Q5,Q6,Q7,Q8,Q9,Qa,Qb,Qc,Qd,Qe,Qf,Qg,Qh,Qi,Qj,Qk,reduceCtorEq,reduceIte,E,y,H,fk h]
  ·have E:¬(n:Int)<10:=by omega
   have I:=O (n/10) (by omega) (by omega);have J:(n:Int).tdiv 10=((n/10:Nat):Int):=rfl;have F:(n:Int).tmod 10=((n % 10:Nat):Int):=rfl;have C:af.wrap ((n/10:Nat):Int)=((n/10:Nat):Int):=w64 (by omega) (by omega);have y:af.wrap (48+((n % 10:Nat):Int))=((48+n % 10:Nat):Int):=wZ (by omega)
   have H:ct ((48+n % 10:Nat):Int)=dg (n % 10):=rfl;have Q:=SR (n/10);have z:(dec (n/10)).length+1<=140737488355328:=by omega
   simp only[go_sem,Q0,Q1,Q2,Q3,Q4,Q5,Q6,Q7,Q8,Q9,Qa,Qb,Qc,Qd,Qe,Qf,Qg,Qh,Qi,Qj,Qk,reduceCtorEq,reduceIte,E,I,J,F,C,y,H,z,xlB,cd h]
end
end Go.Proofs.YtkcjdeofknkndaaGreatDoor
