/- Contracts. No condition. -/
import Derived.Test.YtdafipacemgcoaaGreatDoorTaMD
open Bool renaming and_eq_true -> aA, false_or -> eu, or_eq_true -> fL
open Int renaming natCast_zero -> aH
open Go.IntKind renaming i64 -> aj
open List renaming all_cons -> iH, cons_append -> bU, drop_drop -> fp, drop_eq_getElem_cons -> aU, drop_eq_nil_of_le -> bO, drop_length -> bh, drop_zero -> bi, getD_cons_zero -> bp, getD_eq_getElem?_getD -> aa, getElem?_drop -> bf, getElem?_eq_getElem -> af, length_append -> ah, length_cons -> av, length_drop -> aE, length_nil -> bg, length_singleton -> aL, length_take -> aD, singleton_append -> dG, take_append_drop -> fZ, take_length -> bt
open Nat renaming le_refl -> aI, zero_le -> cu
open UInt8 renaming lt_iff_toNat_lt -> rD, ofInt -> dO
set_option maxRecDepth 100000
set_option maxHeartbeats 16000000
set_option linter.unusedSimpArgs false
set_option linter.unusedVariables false
namespace Go.Proofs.YtdafipacemgcoaaGreatDoor
open Go.Sy
open UInt8 renaming reduceLT -> Q0, reduceLE -> Q1
open Int renaming reduceToNat -> Q2, reduceLE -> Q3, reduceLT -> Q4, reduceEq -> Q5, reduceNe -> Q6, reduceNeg -> Q7, reduceAdd -> Q8, reduceSub -> Q9, reduceMul -> Qa
open Nat renaming reducePow -> Qb, reduceDiv -> Qc, reduceMod -> Qd, reduceAdd -> Qe, reduceSub -> Qf, reduceMul -> Qg, reduceLT -> Qh, reduceLeDiff -> Qi, reduceEqDiff -> Qj, reduceBEq -> Qk
def fe(c:UInt8):t6->t6
 |[]=> []
 |x::r=>if x=c then fe c r else x::r
theorem xh9(c:UInt8):∀s:t6,run T (.loop xH) ⟨[(0,.str s),(1,.u8 c)],[],[]⟩=some (.x 0,⟨[(0,.str (fe c s))],[],[]⟩)
 |[]=>by rw[al];simp only[go_sem,Q0,Q1,Q2,Q3,Q4,Q5,Q6,Q7,Q8,Q9,Qa,Qb,Qc,Qd,Qe,Qf,Qg,Qh,Qi,Qj,Qk,reduceCtorEq,reduceIte,fe,aH]
 |x::r=>by
  rw[al];have h:=xh9 c r;have z:(0:Int)<((r.length+1:Nat):Int):=by omega
  have E:(1:Int)<=((r.length+1:Nat):Int):=by omega
  by_cases C:x=c
  ·simp only[go_sem,Q0,Q1,Q2,Q3,Q4,Q5,Q6,Q7,Q8,Q9,Qa,Qb,Qc,Qd,Qe,Qf,Qg,Qh,Qi,Qj,Qk,reduceCtorEq,reduceIte,fe,C,h,av,bp,z,E,List.drop_succ_cons,bi,bt]
  ·simp only[go_sem,Q0,Q1,Q2,Q3,Q4,Q5,Q6,Q7,Q8,Q9,Qa,Qb,Qc,Qd,Qe,Qf,Qg,Qh,Qi,Qj,Qk,reduceCtorEq,reduceIte,fe,C,h,av,bp,z]
theorem xj0(c:UInt8)(s:t6):call T 159 [.str s,.u8 c] [] 0=some ⟨.str (fe c s),[],[]⟩:=by rw[az xgk];simp only[go_sem,Q0,Q1,Q2,Q3,Q4,Q5,Q6,Q7,Q8,Q9,Qa,Qb,Qc,Qd,Qe,Qf,Qg,Qh,Qi,Qj,Qk,reduceCtorEq,reduceIte,xh9]
def lf(c:UInt8)(s:t6):t6:=(fe c s.reverse).reverse
theorem q7(c:UInt8):lf c []=[]:=rfl
theorem DH(c x:UInt8)(s:t6):lf c (s++ [x])=if x=c then lf c s else s++ [x]:=by
 unfold lf;rw[List.reverse_append,List.reverse_singleton,dG,fe];split
 ·rfl
 ·simp
theorem xjy(c:UInt8):∀(n:Nat)(s:t6),s.length=n->n<9223372036854775807->run T (.loop xG) ⟨[(0,.str s),(1,.u8 c)],[],[]⟩=some (.x 0,⟨[(0,.str (lf c s))],[],[]⟩):=by
 intro n;induction n with
 |zero=>
  intro s z _;cases s with
  |cons _ _=>simp at z
  |nil=>rw[al];simp only[go_sem,Q0,Q1,Q2,Q3,Q4,Q5,Q6,Q7,Q8,Q9,Qa,Qb,Qc,Qd,Qe,Qf,Qg,Qh,Qi,Qj,Qk,reduceCtorEq,reduceIte,q7,bg,aH]
 |succ n W=>
  intro s z hn;obtain⟨t,x,rfl⟩:∃t x,s=t++ [x]:=⟨s.dropLast,s.getLast (by intro e;subst e;simp at z),(List.dropLast_concat_getLast _).symm⟩;have U:t.length=n:=by simpa using z
  have h:=W t U (by omega);rw[al];generalize hu:t++ [x]=u;have Q:(0:Int)<((u.length:Nat):Int):=by subst hu;simp
  have S:u.length=t.length+1:=by subst hu;simp
  have F:aj.wrap ((u.length:Int)-1)=((t.length:Nat):Int):=wZ (by omega)
  have O:u.getD t.length 0=x:=by subst hu;simp[aa]
  have E:u.take t.length=t:=by subst hu;simp
  have I:t.length<u.length:=by subst hu;simp
  have C:t.length<=u.length:=by omega
  have H:lf c u=if x=c then lf c t else u:=by subst hu;exact DH c x t
  by_cases J:x=c
  ·simp only[go_sem,Q0,Q1,Q2,Q3,Q4,Q5,Q6,Q7,Q8,Q9,Qa,Qb,Qc,Qd,Qe,Qf,Qg,Qh,Qi,Qj,Qk,reduceCtorEq,reduceIte,J,h,Q,F,O,E,I,C,H]
  ·simp only[go_sem,Q0,Q1,Q2,Q3,Q4,Q5,Q6,Q7,Q8,Q9,Qa,Qb,Qc,Qd,Qe,Qf,Qg,Qh,Qi,Qj,Qk,reduceCtorEq,reduceIte,J,h,Q,F,O,E,I,C,H]
theorem xjZ(c:UInt8)(s:t6)(h:s.length<9223372036854775807):call T 160 [.str s,.u8 c] [] 0=some ⟨.str (lf c s),[],[]⟩:=by rw[az xgj];simp only[go_sem,Q0,Q1,Q2,Q3,Q4,Q5,Q6,Q7,Q8,Q9,Qa,Qb,Qc,Qd,Qe,Qf,Qg,Qh,Qi,Qj,Qk,reduceCtorEq,reduceIte,xjy c _ s rfl h]
theorem xka(s:t6)(z:s.length<9223372036854775807):call T 133 [.str s,.str [42]] [] 0=some ⟨.str (fe 42 (lf 42 s)),[],[]⟩:=by
 rw[az xgx]
 by_cases h:s=[]
 ·subst h
  simp only[go_sem,Q0,Q1,Q2,Q3,Q4,Q5,Q6,Q7,Q8,Q9,Qa,Qb,Qc,Qd,Qe,Qf,Qg,Qh,Qi,Qj,Qk,reduceCtorEq,reduceIte,q7,fe]
 ·simp only[go_sem,Q0,Q1,Q2,Q3,Q4,Q5,Q6,Q7,Q8,Q9,Qa,Qb,Qc,Qd,Qe,Qf,Qg,Qh,Qi,Qj,Qk,reduceCtorEq,reduceIte,h,xjZ 42 s z,xj0,c1,xgW,xgV]
end Go.Proofs.YtdafipacemgcoaaGreatDoor
namespace Go.Glob
open Go.Sy (t6)
def tl(f:t6->Bool):t6->Bool
 |[]=>f []
 |x::r=>f (x::r)||tl f r
def gl:t6->t6->Bool
 |[],l=>l.isEmpty
 |c::p,l=>if c=42 then tl (gl p) l else match l with
  |[]=>false
  |x::r=>(decide (c=63)||decide (c=x))&&gl p r
theorem wX(f:t6->Bool):∀l:t6,tl f l=true↔∃k,k<=l.length/\f (l.drop k)=true
 |[]=>by simp only[tl,bg,List.drop_nil];exact⟨fun h=>⟨0,aI _,h⟩,fun⟨_,_,h⟩=>h⟩
 |x::r=>by
  simp only[tl,fL,wX f r];constructor
  ·rintro(h|⟨k,z,h⟩)
   ·exact⟨0,cu _,h⟩
   ·exact⟨k+1,by simpa using z,h⟩
  ·rintro⟨k,z,h⟩
   cases k with
   |zero=>exact .inl h
   |succ k=>exact .inr ⟨k,by simpa using z,h⟩
theorem se(p l:t6):gl (42::p) l=tl (gl p) l:=by simp[gl]
theorem xcJ(c:UInt8)(p:t6)(h:c≠42):gl (c::p) []=false:=by simp[gl,h]
theorem si(c:UInt8)(p:t6)(x:UInt8)(l:t6)(h:c≠42):gl (c::p) (x::l)=((decide (c=63)||decide (c=x))&&gl p l):=by simp[gl,h]
def ji(p:t6):Bool:=p.all fun c=>decide (c=42)
theorem pf:∀p:t6,gl p []=ji p
 |[]=>rfl
 |c::p=>by
  by_cases h:c=42
  ·subst h
   rw[se,tl,pf p];simp[ji]
  ·rw[xcJ _ _ h];simp[ji,h]
def free(s:t6):Bool:=s.all fun c=>decide (c≠42)
def Cg:t6->t6->Bool
 |[],_=>true
 |_::_,[]=>false
 |c::s,x::m=>(decide (c=63)||decide (c=x))&&Cg s m
theorem MO:∀(s q m:t6),free s=true->gl (s++q) m=(Cg s m&&gl q (m.drop s.length))
 |[],q,m,_=>by simp[Cg]
 |c::s,q,[],h=>by simp only[free,iH,aA,decide_eq_true_eq]at h;simp[Cg,gl,h.1]
 |c::s,q,x::m,h=>by simp only[free,iH,aA,decide_eq_true_eq]at h;rw[bU,si _ _ _ _ h.1,MO s q m (by simpa[free]using h.2)];simp[Cg,Bool.and_assoc]
theorem uK:∀{s m:t6},Cg s m=true->s.length<=m.length
 |[],_,_=>cu _
 |_::_,[],h=>by cases h
 |c::s,x::m,h=>by simp only[Cg,aA]at h;have:=uK h.2;simp;omega
theorem Oj{f:t6->Bool}{m:t6}{i j:Nat}(h:i<=j)(C:tl f (m.drop j)=true):tl f (m.drop i)=true:=by
 rw[wX]at C ⊢;obtain⟨k,E,z⟩:=C;rw[aE]at E;rw[fp]at z
 by_cases F:j<=m.length
 ·refine⟨j-i+k,by rw[aE];omega, ?_⟩
  rw[fp,show i+(j-i+k)=j+k by omega];exact z
 ·refine⟨m.length-i,by rw[aE];omega, ?_⟩
  rw[fp];rw[bO (by omega)]at z ⊢;exact z
structure Inv(P L:List UInt8)(K r p l:Nat)(B:Bool):Prop where
 kp:K<=p
 pP:p<=P.length
 rl:r<=l
 lL:l<=L.length
 b0:K=0->B=gl (P.drop p) (L.drop l)
 b1:0<K->B=(gl (P.drop p) (L.drop l)||tl (gl (P.drop K)) (L.drop (r+1)))
 pl:0<K->p-K=l-r
 fr:0<K->free ((P.drop K).take (p-K))=true
theorem nt(l:t6)(i:Nat)(h:i<l.length):l.drop i=l.getD i 0::l.drop (i+1):=by rw[aU h,aa,af h];rfl
variable {P L : List UInt8} {K r p l : Nat} {B : Bool}
theorem Inv.split(h:Inv P L K r p l B):P.drop K=(P.drop K).take (p-K)++P.drop p:=by have:=fZ (p-K) (P.drop K);rw[fp,show K+(p-K)=p by have:=h.kp;omega]at this;exact this.symm
theorem Inv.seglen(h:Inv P L K r p l B):((P.drop K).take (p-K)).length=p-K:=by have:=h.pP;rw[aD,aE];omega
theorem Inv.seg(h:Inv P L K r p l B)(z:0<K)(m:t6):gl (P.drop K) m=(Cg ((P.drop K).take (p-K)) m&&gl (P.drop p) (m.drop (p-K))):=by have:=MO _ (P.drop p) m (h.fr z);rw[<-h.split,h.seglen]at this;exact this
theorem Inv.later(h:Inv P L K r p l B)(H:0<K)(J:tl (gl (P.drop K)) (L.drop (r+1))=true):(l=L.length/\r=L.length/\gl (P.drop p) []=true)\/∃j,l<j/\j<=L.length/\gl (P.drop p) (L.drop j)=true:=by
 have Q:=h.rl;have T:=h.lL;have U:=h.pl H;have S:=h.kp;obtain⟨k,E,z⟩:=(wX _ _).1 J;rw[h.seg H,aA]at z;have F:=uK z.1;rw[h.seglen]at F;have C:=z.2;rw[fp,fp]at C;rw[fp,aE]at F;rw[aE]at E
 by_cases O:r=L.length
 ·refine .inl ⟨by omega,O, ?_⟩
  have I:L.drop (r+1+(k+(p-K)))=[]:=bO (by omega);rwa[I]at C
 ·exact .inr ⟨r+1+(k+(p-K)),by omega,by omega,C⟩
theorem Inv.star(h:Inv P L K r p l B)(z:p<P.length)(H:l<L.length)(E:P.getD p 0=42):Inv P L (p+1) l (p+1) l B:=by
 have e:gl (P.drop p) (L.drop l)=(gl (P.drop (p+1)) (L.drop l)||tl (gl (P.drop (p+1))) (L.drop (l+1))):=by rw[nt P p z,E,se,nt L l H];rfl
 refine⟨aI _,z,aI _,h.lL,fun I=>by omega,fun _=> ?_,fun _=>by omega,fun _=>by rw[Nat.sub_self];rfl⟩;rw[<-e]
 by_cases F:K=0
 ·exact h.b0 F
 ·rw[h.b1 (by omega)]
  cases hg:gl (P.drop p) (L.drop l)with
  |true=>rfl
  |false=>
   rw[eu];cases ht:tl (gl (P.drop K)) (L.drop (r+1))with
   |false=>rfl
   |true=>
    exfalso;rcases h.later (by omega) ht with⟨C,_⟩|⟨j,C,h2,h3⟩
    ·omega
    ·rw[nt P p z,E,se]at h3 hg
     rw[Oj (Nat.le_of_lt C) h3]at hg;cases hg
theorem Inv.step(h:Inv P L K r p l B)(C:p<P.length)(F:l<L.length)(E:P.getD p 0≠42)(I:P.getD p 0=63\/P.getD p 0=L.getD l 0):Inv P L K r (p+1) (l+1) B:=by
 have J:=h.kp;have O:=h.rl
 have e:gl (P.drop p) (L.drop l)=gl (P.drop (p+1)) (L.drop (l+1)):=by
  rw[nt P p C,nt L l F,si _ _ _ _ E];have:(decide (P.getD p 0=63)||decide (P.getD p 0=L.getD l 0))=true:=by simpa using I
  rw[this,Bool.true_and]
 refine⟨by omega,C,by omega,F,fun z=>by rw[<-e];exact h.b0 z,fun z=>by rw[<-e];exact h.b1 z,fun z=>by have:=h.pl z;omega,fun z=> ?_⟩
 have H:(P.drop K).take (p+1-K)=(P.drop K).take (p-K)++ [P.getD p 0]:=by
  rw[show p+1-K=(p-K)+1 by omega,List.take_add_one]
  congr 1
  rw[bf,show K+(p-K)=p by omega,af C,aa,af C];rfl
 rw[H];have:=h.fr z;unfold free at this ⊢;rw[List.all_append,this];simpa using E
theorem Inv.miss(h:Inv P L K r p l B)(z:l<L.length)(H:p<P.length->P.getD p 0≠42/\P.getD p 0≠63/\P.getD p 0≠L.getD l 0):gl (P.drop p) (L.drop l)=false:=by
 by_cases C:p<P.length
 ·obtain⟨E,F,I⟩:=H C
  rw[nt P p C,nt L l z,si _ _ _ _ E];simp only[F,I,decide_false,Bool.or_false,Bool.false_and]
 ·rw[bO (by omega),nt L l z];rfl
theorem Inv.back(h:Inv P L K r p l B)(H:0<K)(z:l<L.length)(E:p<P.length->P.getD p 0≠42/\P.getD p 0≠63/\P.getD p 0≠L.getD l 0):Inv P L K (r+1) K (r+1) B:=by
 have Q:=h.rl;have O:=h.kp;have S:=h.pP;refine⟨aI _,by omega,aI _,by omega,fun J=>by omega,fun _=> ?_,fun _=>by omega,fun _=>by rw[Nat.sub_self];rfl⟩;rw[h.b1 H,h.miss z E,eu]
 by_cases F:r+1<L.length
 ·rw[nt L (r+1) F];rfl
 ·have C:L.drop (r+1)=[]:=bO (by omega)
  have I:L.drop (r+1+1)=[]:=bO (by omega);rw[C,I];simp only[tl,Bool.or_self]
theorem Inv.fail(h:Inv P L K r p l B)(z:K=0)(C:l<L.length)(E:p<P.length->P.getD p 0≠42/\P.getD p 0≠63/\P.getD p 0≠L.getD l 0):B=false:=by rw[h.b0 z,h.miss C E]
theorem Inv.fin(h:Inv P L K r p l B)(E:l=L.length):ji (P.drop p)=B:=by
 have e:gl (P.drop p) (L.drop l)=ji (P.drop p):=by rw[E,bh,pf]
 by_cases C:K=0
 ·rw[h.b0 C,e]
 ·rw[h.b1 (by omega),e]
  cases ht:tl (gl (P.drop K)) (L.drop (r+1))with
  |false=>rw[Bool.or_false]
  |true=>
   rcases h.later (by omega) ht with⟨_,_,z⟩|⟨j,h1,h2,_⟩
   ·rw[pf]at z;rw[z];rfl
   ·omega
theorem Inv.init(P L:t6):Inv P L 0 0 0 0 (gl P L):=
 ⟨aI _,cu _,aI _,cu _,fun _=>rfl,fun h=>by omega,fun h=>by omega,fun h=>by omega⟩
end Go.Glob
namespace Go.Proofs.YtdafipacemgcoaaGreatDoor
open Go.Sy
open UInt8 renaming reduceLT -> Q0, reduceLE -> Q1
open Int renaming reduceToNat -> Q2, reduceLE -> Q3, reduceLT -> Q4, reduceEq -> Q5, reduceNe -> Q6, reduceNeg -> Q7, reduceAdd -> Q8, reduceSub -> Q9, reduceMul -> Qa
open Nat renaming reducePow -> Qb, reduceDiv -> Qc, reduceMod -> Qd, reduceAdd -> Qe, reduceSub -> Qf, reduceMul -> Qg, reduceLT -> Qh, reduceLeDiff -> Qi, reduceEqDiff -> Qj, reduceBEq -> Qk
end Go.Proofs.YtdafipacemgcoaaGreatDoor
namespace Go.Glob
open Go.Sy (t6)
def rw1(P L:t6)(k i:Nat):Bool:=gl (P.take k) (L.take i)
end Go.Glob
namespace Go.Proofs.YtdafipacemgcoaaGreatDoor
open Go.Sy
open UInt8 renaming reduceLT -> Q0, reduceLE -> Q1
open Int renaming reduceToNat -> Q2, reduceLE -> Q3, reduceLT -> Q4, reduceEq -> Q5, reduceNe -> Q6, reduceNeg -> Q7, reduceAdd -> Q8, reduceSub -> Q9, reduceMul -> Qa
open Nat renaming reducePow -> Qb, reduceDiv -> Qc, reduceMod -> Qd, reduceAdd -> Qe, reduceSub -> Qf, reduceMul -> Qg, reduceLT -> Qh, reduceLeDiff -> Qi, reduceEqDiff -> Qj, reduceBEq -> Qk
section
open Go.Glob
theorem gW:∀s:t6,fe 42 s=[]↔ji s=true
 |[]=>by simp[fe,ji]
 |x::r=>by
  have:=gW r
  by_cases h:x=42
  ·simp only[fe,h,if_true,this,ji,iH,decide_true,Bool.true_and]
  ·simp[fe,h,ji]
theorem kl(s:t6):ji s.reverse=ji s:=by simp[ji]
theorem EF(s:t6):fe 42 (lf 42 s)=[]↔ji s=true:=by
 rw[gW];unfold lf;rw[kl];constructor
 ·intro h
  rw[<-gW]at h
  have e:∀t:t6,fe 42 t=t\/fe 42 t=[]\/∃x r,fe 42 t=x::r/\x≠42:=by
   intro t;induction t with
   |nil=>exact .inl rfl
   |cons x r J=>
    by_cases F:x=42
    ·simp only[fe,F,if_true]
     rcases J with h|h|h
     ·cases r with
      |nil=>exact .inr (.inl h)
      |cons y H=>
       rw[h]
       by_cases E:y=42
       ·exfalso
        have O:∀t:t6,(fe 42 t).length<=t.length:=by
         intro t;induction t with
         |nil=>exact aI _
         |cons z t I=>simp only[fe];split<;>simp only[av]<;>omega
        rw[E]at h;simp only[fe,if_true]at h;have:=O H;rw[h]at this;simp at this;omega
       ·exact .inr (.inr ⟨y,H,rfl,E⟩)
     ·exact .inr (.inl h)
     ·exact .inr (.inr h)
    ·exact .inl (by simp[fe,F])
  rcases e s.reverse with C|C|⟨x,r,C,h2⟩
  ·rw[C,gW,kl]at h;exact h
  ·rw[gW,kl]at C;exact C
  ·rw[C]at h;simp[fe,h2]at h
 ·intro h
  rw[<-kl,<-gW]at h;rw[h];rfl
def Out(P:t6)(B:Bool)(o:Option (Ex×CSt)):Prop:=
 (∃q,q<=P.length/\ji (P.drop q)=B/\o=some (.x 0,⟨[(0,.str P),(5,.int .i64 (q:Nat))],[],[]⟩))\/(B=false/\o=some (.r,⟨[(4,.bool false)],[],[]⟩))
theorem l92(P L:t6)(hP:P.length<=1000000000000)(hL:L.length<=1000000000000)(B:Bool)(K r p l:Nat)(s:Int)(Z:s=(K:Int)-1)(h:Inv P L K r p l B):
 Out P B (run T (.loop xc) ⟨[(0,.str P),(1,.byt L .no),(5,.int .i64 p),(6,.int .i64 l),(7,.int .i64 s),(8,.int .i64 r)],[],[]⟩):=by
 have a1:=h.kp;have a2:=h.pP;have a3:=h.rl;have a4:=h.lL;rw[al]
 by_cases z:l<L.length
 ·have S:aj.wrap ((p:Int)+1)=((p+1:Nat):Int):=cA p (by omega)
  have O:aj.wrap ((l:Int)+1)=((l+1:Nat):Int):=cA l (by omega);have Q:aj.wrap ((r:Int)+1)=((r+1:Nat):Int):=cA r (by omega);have U:aj.wrap (s+1)=(K:Int):=by rw[Z,w64 (by omega) (by omega)];omega
  by_cases E:p<P.length
  ·by_cases F:P.getD p 0=42
   ·have H:=l92 P L hP hL B (p+1) l (p+1) l p (by omega) (h.star E z F)
    simp only[go_sem,Q0,Q1,Q2,Q3,Q4,Q5,Q6,Q7,Q8,Q9,Qa,Qb,Qc,Qd,Qe,Qf,Qg,Qh,Qi,Qj,Qk,reduceCtorEq,reduceIte,z,E,F,S,O,Q,U];exact H
   ·by_cases J:P.getD p 0=63
    ·have H:=l92 P L hP hL B K r (p+1) (l+1) s Z (h.step E z F (.inl J))
     simp only[go_sem,Q0,Q1,Q2,Q3,Q4,Q5,Q6,Q7,Q8,Q9,Qa,Qb,Qc,Qd,Qe,Qf,Qg,Qh,Qi,Qj,Qk,reduceCtorEq,reduceIte,z,E,F,J,S,O,Q,U];exact H
    ·by_cases I:P.getD p 0=L.getD l 0
     ·have H:=l92 P L hP hL B K r (p+1) (l+1) s Z (h.step E z F (.inr I))
      have a0:¬L.getD l 0=42:=I ▸ F;have a5:¬L.getD l 0=63:=I ▸ J;simp only[go_sem,Q0,Q1,Q2,Q3,Q4,Q5,Q6,Q7,Q8,Q9,Qa,Qb,Qc,Qd,Qe,Qf,Qg,Qh,Qi,Qj,Qk,reduceCtorEq,reduceIte,z,E,I,a0,a5,S,O,Q,U];exact H
     ·by_cases hk:K=0
      ·have C:¬0<=s:=by omega
       simp only[go_sem,Q0,Q1,Q2,Q3,Q4,Q5,Q6,Q7,Q8,Q9,Qa,Qb,Qc,Qd,Qe,Qf,Qg,Qh,Qi,Qj,Qk,reduceCtorEq,reduceIte,z,E,F,J,I,C,S,O,Q,U];exact .inr ⟨h.fail hk z (fun _=>⟨F,J,I⟩),rfl⟩
      ·have C:0<=s:=by omega
       have H:=l92 P L hP hL B K (r+1) K (r+1) s Z (h.back (by omega) z (fun _=>⟨F,J,I⟩));simp only[go_sem,Q0,Q1,Q2,Q3,Q4,Q5,Q6,Q7,Q8,Q9,Qa,Qb,Qc,Qd,Qe,Qf,Qg,Qh,Qi,Qj,Qk,reduceCtorEq,reduceIte,z,E,F,J,I,C,S,O,Q,U];exact H
  ·by_cases hk:K=0
   ·have C:¬0<=s:=by omega
    simp only[go_sem,Q0,Q1,Q2,Q3,Q4,Q5,Q6,Q7,Q8,Q9,Qa,Qb,Qc,Qd,Qe,Qf,Qg,Qh,Qi,Qj,Qk,reduceCtorEq,reduceIte,z,E,C,S,O,Q,U];exact .inr ⟨h.fail hk z (fun W=>absurd W E),rfl⟩
   ·have C:0<=s:=by omega
    have H:=l92 P L hP hL B K (r+1) K (r+1) s Z (h.back (by omega) z (fun W=>absurd W E));simp only[go_sem,Q0,Q1,Q2,Q3,Q4,Q5,Q6,Q7,Q8,Q9,Qa,Qb,Qc,Qd,Qe,Qf,Qg,Qh,Qi,Qj,Qk,reduceCtorEq,reduceIte,z,E,C,S,O,Q,U];exact H
 ·simp only[go_sem,Q0,Q1,Q2,Q3,Q4,Q5,Q6,Q7,Q8,Q9,Qa,Qb,Qc,Qd,Qe,Qf,Qg,Qh,Qi,Qj,Qk,reduceCtorEq,reduceIte,z]
  exact .inl ⟨p,a2,h.fin (by omega),rfl⟩
termination_by (P.length-K,L.length-r,L.length-l)
decreasing_by
 all_goals first
  |(apply Prod.Lex.left;omega)
  |(apply Prod.Lex.right;apply Prod.Lex.left;omega)
  |(apply Prod.Lex.right;apply Prod.Lex.right;omega)
end
section
open Go.Glob
theorem f92(P L:t6)(F:P.length<=1000000000000)(H:L.length<=1000000000000):call T 92 [.str P,.byt L .no] [] 0=some ⟨.bool (gl P L),[],[]⟩:=by
 rw[az xkB];have h:=l92 P L F H (gl P L) 0 0 0 0 (-1) rfl (Inv.init P L);simp only[aH]at h;rcases h with⟨q,E,C,h⟩|⟨hB,h⟩
 ·have hd:(P.drop q).length<9223372036854775807:=by rw[aE];omega
  have z:=EF (P.drop q);rw[C]at z;simp only[go_sem,Q0,Q1,Q2,Q3,Q4,Q5,Q6,Q7,Q8,Q9,Qa,Qb,Qc,Qd,Qe,Qf,Qg,Qh,Qi,Qj,Qk,reduceCtorEq,reduceIte,h,E,bt,xka _ hd,xg1,z];cases gl P L<;>rfl
 ·simp only[go_sem,Q0,Q1,Q2,Q3,Q4,Q5,Q6,Q7,Q8,Q9,Qa,Qb,Qc,Qd,Qe,Qf,Qg,Qh,Qi,Qj,Qk,reduceCtorEq,reduceIte,h,hB]
end
section
open Go.Glob
def prn:t6->Bool
 |[]=>true
 |c::r=>if c<32 then false else if 126<c then false else prn r
def chk(k:Int)(t:t6)(lo hi:Int):Int:=
 if k<1 then 1 else if 4<k then 1 else if prn t then
  (if k=4 then(if lo<0 then 1 else if hi<lo then 1 else if 1000000000<hi then 1 else if 32<t.length then 4 else 0)
   else if lo=0 then(if hi=0 then(if k=1 then(if t=[]then 0 else 1)else if 32<t.length then 4 else 0)else 1)else 1)
 else 1
theorem l90(k:Int)(t:t6)(lo hi:Int)(J:t.length<=1000000000000):∀(n i:Nat),t.length-i=n->i<=t.length->
 run T (.loop xd) ⟨[(1,.ptr 101 0),(15,.int .i64 t.length),(16,.int .i64 i)],[(101,.rc [.int .i64 k,.str t,.int .i64 lo,.int .i64 hi])],[]⟩=
 if prn (t.drop i)then some (.x 0,⟨[(1,.ptr 101 0)],[(101,.rc [.int .i64 k,.str t,.int .i64 lo,.int .i64 hi])],[]⟩)
 else some (.r,⟨[(2,.int .i64 1)],[(101,.rc [.int .i64 k,.str t,.int .i64 lo,.int .i64 hi])],[]⟩):=by
 intro n;induction n with
 |zero=>
  intro i H F;have hi:i=t.length:=by omega
  subst hi;rw[al];simp only[go_sem,Q0,Q1,Q2,Q3,Q4,Q5,Q6,Q7,Q8,Q9,Qa,Qb,Qc,Qd,Qe,Qf,Qg,Qh,Qi,Qj,Qk,reduceCtorEq,reduceIte,bh,prn]
 |succ n I=>
  intro i H F;have hi:i<t.length:=by omega
  have C:=cA i (by omega);have z:=I (i+1) (by omega) (by omega);rw[al,dp t i hi]
  by_cases h:t.getD i 0<32
  ·simp only[go_sem,Q0,Q1,Q2,Q3,Q4,Q5,Q6,Q7,Q8,Q9,Qa,Qb,Qc,Qd,Qe,Qf,Qg,Qh,Qi,Qj,Qk,reduceCtorEq,reduceIte,hi,C,prn,h]
  ·by_cases E:126<t.getD i 0
   ·simp only[go_sem,Q0,Q1,Q2,Q3,Q4,Q5,Q6,Q7,Q8,Q9,Qa,Qb,Qc,Qd,Qe,Qf,Qg,Qh,Qi,Qj,Qk,reduceCtorEq,reduceIte,hi,C,prn,h,E]
   ·simp only[go_sem,Q0,Q1,Q2,Q3,Q4,Q5,Q6,Q7,Q8,Q9,Qa,Qb,Qc,Qd,Qe,Qf,Qg,Qh,Qi,Qj,Qk,reduceCtorEq,reduceIte,hi,C,prn,h,E,z]
end
section
open Go.Glob
theorem Ea(t:t6):((32:Int)<(t.length:Int))↔32<t.length:=by omega
theorem f90(k:Int)(t:t6)(lo hi:Int)(F:t.length<=1000000000000):call T 90 [.agg [.int .i64 k,.str t,.int .i64 lo,.int .i64 hi]] [] 0=some ⟨.int .i64 (chk k t lo hi),[],[]⟩:=by
 rw[az xkD];have h:=l90 k t lo hi F _ 0 rfl (by omega);simp only[aH,bi]at h;unfold chk
 by_cases c1:k<1
 ·simp only[go_sem,Q0,Q1,Q2,Q3,Q4,Q5,Q6,Q7,Q8,Q9,Qa,Qb,Qc,Qd,Qe,Qf,Qg,Qh,Qi,Qj,Qk,reduceCtorEq,reduceIte,h,c1]
 by_cases c2:4<k
 ·simp only[go_sem,Q0,Q1,Q2,Q3,Q4,Q5,Q6,Q7,Q8,Q9,Qa,Qb,Qc,Qd,Qe,Qf,Qg,Qh,Qi,Qj,Qk,reduceCtorEq,reduceIte,h,c1,c2]
 cases c3:prn t with
 |false=>simp only[go_sem,Q0,Q1,Q2,Q3,Q4,Q5,Q6,Q7,Q8,Q9,Qa,Qb,Qc,Qd,Qe,Qf,Qg,Qh,Qi,Qj,Qk,reduceCtorEq,reduceIte,h,c1,c2,c3]
 |true=>
  by_cases E:k=4
  ·subst E
   by_cases c5:lo<0
   ·simp only[go_sem,Q0,Q1,Q2,Q3,Q4,Q5,Q6,Q7,Q8,Q9,Qa,Qb,Qc,Qd,Qe,Qf,Qg,Qh,Qi,Qj,Qk,reduceCtorEq,reduceIte,h,c3,c5]
   by_cases z:hi<lo
   ·simp only[go_sem,Q0,Q1,Q2,Q3,Q4,Q5,Q6,Q7,Q8,Q9,Qa,Qb,Qc,Qd,Qe,Qf,Qg,Qh,Qi,Qj,Qk,reduceCtorEq,reduceIte,h,c3,c5,z]
   by_cases C:1000000000<hi
   ·simp only[go_sem,Q0,Q1,Q2,Q3,Q4,Q5,Q6,Q7,Q8,Q9,Qa,Qb,Qc,Qd,Qe,Qf,Qg,Qh,Qi,Qj,Qk,reduceCtorEq,reduceIte,h,c3,c5,z,C]
   by_cases c8:32<t.length
   ·simp only[go_sem,Q0,Q1,Q2,Q3,Q4,Q5,Q6,Q7,Q8,Q9,Qa,Qb,Qc,Qd,Qe,Qf,Qg,Qh,Qi,Qj,Qk,reduceCtorEq,reduceIte,h,c3,c5,z,C,c8,Ea]
   ·simp only[go_sem,Q0,Q1,Q2,Q3,Q4,Q5,Q6,Q7,Q8,Q9,Qa,Qb,Qc,Qd,Qe,Qf,Qg,Qh,Qi,Qj,Qk,reduceCtorEq,reduceIte,h,c3,c5,z,C,c8,Ea]
  ·by_cases c5:lo=0
   ·subst c5
    by_cases z:hi=0
    ·subst z
     by_cases C:k=1
     ·subst C
      by_cases c8:t=[]
      ·subst c8
       try simp only[bg,aH]at h
       simp only[go_sem,Q0,Q1,Q2,Q3,Q4,Q5,Q6,Q7,Q8,Q9,Qa,Qb,Qc,Qd,Qe,Qf,Qg,Qh,Qi,Qj,Qk,reduceCtorEq,reduceIte,h,c3,bg,aH]
      ·simp only[go_sem,Q0,Q1,Q2,Q3,Q4,Q5,Q6,Q7,Q8,Q9,Qa,Qb,Qc,Qd,Qe,Qf,Qg,Qh,Qi,Qj,Qk,reduceCtorEq,reduceIte,h,c3,c8]
     ·by_cases c8:32<t.length
      ·simp only[go_sem,Q0,Q1,Q2,Q3,Q4,Q5,Q6,Q7,Q8,Q9,Qa,Qb,Qc,Qd,Qe,Qf,Qg,Qh,Qi,Qj,Qk,reduceCtorEq,reduceIte,h,c1,c2,c3,E,C,c8,Ea]
      ·simp only[go_sem,Q0,Q1,Q2,Q3,Q4,Q5,Q6,Q7,Q8,Q9,Qa,Qb,Qc,Qd,Qe,Qf,Qg,Qh,Qi,Qj,Qk,reduceCtorEq,reduceIte,h,c1,c2,c3,E,C,c8,Ea]
    ·simp only[go_sem,Q0,Q1,Q2,Q3,Q4,Q5,Q6,Q7,Q8,Q9,Qa,Qb,Qc,Qd,Qe,Qf,Qg,Qh,Qi,Qj,Qk,reduceCtorEq,reduceIte,h,c1,c2,c3,E,z]
   ·simp only[go_sem,Q0,Q1,Q2,Q3,Q4,Q5,Q6,Q7,Q8,Q9,Qa,Qb,Qc,Qd,Qe,Qf,Qg,Qh,Qi,Qj,Qk,reduceCtorEq,reduceIte,h,c1,c2,c3,E,c5]
end
section
open Go.Glob
theorem xig(s t:t6):call T 166 [.str s,.str t] [] 0=some ⟨.bool (decide (t.length<=s.length/\s.take t.length=t)),[],[]⟩:=by
 rw[az xgi]
 by_cases h:t.length<=s.length
 ·by_cases z:s.take t.length=t
  ·simp only[go_sem,Q0,Q1,Q2,Q3,Q4,Q5,Q6,Q7,Q8,Q9,Qa,Qb,Qc,Qd,Qe,Qf,Qg,Qh,Qi,Qj,Qk,reduceCtorEq,reduceIte,h,z]
  ·simp only[go_sem,Q0,Q1,Q2,Q3,Q4,Q5,Q6,Q7,Q8,Q9,Qa,Qb,Qc,Qd,Qe,Qf,Qg,Qh,Qi,Qj,Qk,reduceCtorEq,reduceIte,h,z]
 ·simp only[go_sem,Q0,Q1,Q2,Q3,Q4,Q5,Q6,Q7,Q8,Q9,Qa,Qb,Qc,Qd,Qe,Qf,Qg,Qh,Qi,Qj,Qk,reduceCtorEq,reduceIte,h]
theorem xik(s t:t6):call T 134 [.str s,.str t] [] 0=some ⟨if t.length<=s.length/\s.take t.length=t then .tup [.str (s.drop t.length),.bool true]else .tup [.str s,.bool false],[],[]⟩:=by
 rw[az xgw]
 by_cases h:t.length<=s.length/\s.take t.length=t
 ·have z:=h.1
  simp only[go_sem,Q0,Q1,Q2,Q3,Q4,Q5,Q6,Q7,Q8,Q9,Qa,Qb,Qc,Qd,Qe,Qf,Qg,Qh,Qi,Qj,Qk,reduceCtorEq,reduceIte,xig,YU,h,z,bt]
 ·simp only[go_sem,Q0,Q1,Q2,Q3,Q4,Q5,Q6,Q7,Q8,Q9,Qa,Qb,Qc,Qd,Qe,Qf,Qg,Qh,Qi,Qj,Qk,reduceCtorEq,reduceIte,xig,YU,h]
theorem f93(s t:t6):call T 93 [.str s,.str t] [] 0=some ⟨if t.length<=s.length/\s.take t.length=t then .tup [.str (s.drop t.length),.bool true]else .tup [.str s,.bool false],[],[]⟩:=by
 rw[az xkA]
 by_cases h:t.length<=s.length/\s.take t.length=t
 ·simp only[go_sem,Q0,Q1,Q2,Q3,Q4,Q5,Q6,Q7,Q8,Q9,Qa,Qb,Qc,Qd,Qe,Qf,Qg,Qh,Qi,Qj,Qk,reduceCtorEq,reduceIte,xik,YY,h]
 ·simp only[go_sem,Q0,Q1,Q2,Q3,Q4,Q5,Q6,Q7,Q8,Q9,Qa,Qb,Qc,Qd,Qe,Qf,Qg,Qh,Qi,Qj,Qk,reduceCtorEq,reduceIte,xik,YY,h]
def num:Nat->t6->Nat
 |n,[]=>n
 |n,c::r=>num (n*10+(c.toNat-48)) r
def oJ:t6->Bool
 |[]=>true
 |c::r=>if c<48 then false else if 57<c then false else oJ r
theorem Qy(c:UInt8)(z:¬c<48)(E:¬57<c):(c-48).toNat=c.toNat-48/\¬9<c-48/\c.toNat-48<=9:=by
 have h:48<=c.toNat:=by simpa[rD]using z
 have C:c.toNat<=57:=by simpa[rD]using E
 have e:(c-48).toNat=c.toNat-48:=UInt8.toNat_sub_of_le c 48 (by simpa[UInt8.le_iff_toNat_le]using h);refine⟨e, ?_,by omega⟩;rw[rD,e];simp;omega
def lim:Nat->Nat
 |0=>0
 |i+1=>lim i*10+9
theorem xcA(i:Nat)(h:i<=9):lim i<=999999999:=by
 have:i=0\/i=1\/i=2\/i=3\/i=4\/i=5\/i=6\/i=7\/i=8\/i=9:=by omega
 rcases this with rfl|rfl|rfl|rfl|rfl|rfl|rfl|rfl|rfl|rfl<;>simp[lim]
theorem xfG(s0 s:t6)(n:Nat):run T (.loop oe) ⟨[(5,.str s0),(6,.int .i64 n),(47,.byt s .no),(48,.int .i64 s.length),(49,.int .i64 s.length)],[],[]⟩=some (.x 0,⟨[(5,.str s0),(6,.int .i64 n)],[],[]⟩):=by rw[al];simp only[go_sem,Q0,Q1,Q2,Q3,Q4,Q5,Q6,Q7,Q8,Q9,Qa,Qb,Qc,Qd,Qe,Qf,Qg,Qh,Qi,Qj,Qk,reduceCtorEq,reduceIte]
theorem xjx(s0 s:t6)(S:s.length<=10):∀(m i n:Nat),s.length-i=m->i<=s.length->n<=lim i->oJ (s.drop i)=true->
 run T (.loop oe) ⟨[(5,.str s0),(6,.int .i64 n),(47,.byt s .no),(48,.int .i64 s.length),(49,.int .i64 i)],[],[]⟩=some (.x 0,⟨[(5,.str s0),(6,.int .i64 (num n (s.drop i)))],[],[]⟩):=by
 intro m;induction m with
 |zero=>
  intro i n H O hn hd;have hi:i=s.length:=by clear hn;omega
  rw[hi,bh];exact xfG s0 s n
 |succ m Q=>
  intro i n H O hn hd;have hi:i<s.length:=by omega
  rw[dp s i hi]at hd;simp only[oJ]at hd
  by_cases z:s.getD i 0<48
  ·rw[if_pos z]at hd;cases hd
  rw[if_neg z]at hd
  by_cases E:57<s.getD i 0
  ·rw[if_pos E]at hd;cases hd
  rw[if_neg E]at hd;obtain⟨d1,d2,U⟩:=Qy _ z E;have W:lim i<=999999999:=xcA i (by omega);have C:n*10+((s.getD i 0).toNat-48)<=lim (i+1):=by simp only[lim];omega
  have h:=Q (i+1) (n*10+((s.getD i 0).toNat-48)) (by omega) (by omega) C hd;have I:=cA i (by omega);have J:aj.wrap ((n:Int)*10)=((n*10:Nat):Int):=wZ (by omega)
  have F:aj.wrap (((n*10:Nat):Int)+(((s.getD i 0).toNat-48:Nat):Int))=((n*10+((s.getD i 0).toNat-48):Nat):Int):=wZ (by omega)
  rw[al,dp s i hi];simp only[go_sem,Q0,Q1,Q2,Q3,Q4,Q5,Q6,Q7,Q8,Q9,Qa,Qb,Qc,Qd,Qe,Qf,Qg,Qh,Qi,Qj,Qk,reduceCtorEq,reduceIte,hi,I,J,F,d1,d2];show _=some (Ex.x 0,CSt.mk [(5,.str s0),(6,.int .i64 ((num (n*10+((s.getD i 0).toNat-48)) (s.drop (i+1)):Nat):Int))] [] []);exact h
end
section
open Go.Glob
theorem xjY(s:t6)(J:s≠ [])(H:s.length<=10)(hd:oJ s=true):call T 167 [.str s] [] 0=some ⟨.tup [.int .i64 (num 0 s),.nili],[],[]⟩:=by
 rw[az xgh];have h:=xjx s s H _ 0 0 rfl (by omega) (by simp[lim]) (by simpa using hd);simp only[aH,bi]at h;cases s with
 |nil=>exact absurd rfl J
 |cons c r=>
  simp only[oJ]at hd
  by_cases C:c<48
  ·rw[if_pos C]at hd;cases hd
  rw[if_neg C]at hd
  by_cases S:57<c
  ·rw[if_pos S]at hd;cases hd
  have z:48<=c.toNat:=by simpa[rD]using C
  have Q:¬c=45:=by rintro rfl;simp at z
  have F:¬c=43:=by rintro rfl;simp at z
  have E:(0:Int)<(((c::r).length:Nat):Int):=by rw[av];omega
  have W:¬(10:Int)<=(((c::r).length:Nat):Int)\/True:= .inr trivial;have O:(((c::r).length:Nat):Int)<19:=by omega
  have I:List.getD (c::r) 0 0=c:=rfl;generalize U:c::r=s at*;simp only[go_sem,Q0,Q1,Q2,Q3,Q4,Q5,Q6,Q7,Q8,Q9,Qa,Qb,Qc,Qd,Qe,Qf,Qg,Qh,Qi,Qj,Qk,reduceCtorEq,reduceIte,h,Q,F,E,O,I]
theorem xij(s:t6)(h:s≠ [])(z:s.length<=10)(hd:oJ s=true):call T 135 [.str s] [] 0=some ⟨.tup [.int .i64 (num 0 s),.nili],[],[]⟩:=by rw[az xgv];simp only[go_sem,Q0,Q1,Q2,Q3,Q4,Q5,Q6,Q7,Q8,Q9,Qa,Qb,Qc,Qd,Qe,Qf,Qg,Qh,Qi,Qj,Qk,reduceCtorEq,reduceIte,xjY s h z hd,xgU]
def Pq(s:t6):Int:=if s=[]then-1 else if 10<s.length then-1 else if 1<s.length/\s.getD 0 0=48 then-1 else if oJ s then(num 0 s:Nat)else-1
theorem l94(s:t6)(J:s.length<=10):∀(m i:Nat),s.length-i=m->i<=s.length->
 run T (.loop Nc) ⟨[(0,.str s),(24,.int .i64 s.length),(25,.int .i64 i)],[],[]⟩=if oJ (s.drop i)then some (.x 0,⟨[(0,.str s)],[],[]⟩)else some (.r,⟨[(2,.int .i64 (-1))],[],[]⟩):=by
 intro m;induction m with
 |zero=>
  intro i H F;have hi:i=s.length:=by omega
  subst hi;rw[al];simp only[go_sem,Q0,Q1,Q2,Q3,Q4,Q5,Q6,Q7,Q8,Q9,Qa,Qb,Qc,Qd,Qe,Qf,Qg,Qh,Qi,Qj,Qk,reduceCtorEq,reduceIte,bh,oJ]
 |succ m I=>
  intro i H F;have hi:i<s.length:=by omega
  have C:=cA i (by omega);have z:=I (i+1) (by omega) (by omega);rw[al,dp s i hi]
  by_cases h:s.getD i 0<48
  ·simp only[go_sem,Q0,Q1,Q2,Q3,Q4,Q5,Q6,Q7,Q8,Q9,Qa,Qb,Qc,Qd,Qe,Qf,Qg,Qh,Qi,Qj,Qk,reduceCtorEq,reduceIte,hi,C,oJ,h]
  ·by_cases E:57<s.getD i 0
   ·simp only[go_sem,Q0,Q1,Q2,Q3,Q4,Q5,Q6,Q7,Q8,Q9,Qa,Qb,Qc,Qd,Qe,Qf,Qg,Qh,Qi,Qj,Qk,reduceCtorEq,reduceIte,hi,C,oJ,h,E]
   ·simp only[go_sem,Q0,Q1,Q2,Q3,Q4,Q5,Q6,Q7,Q8,Q9,Qa,Qb,Qc,Qd,Qe,Qf,Qg,Qh,Qi,Qj,Qk,reduceCtorEq,reduceIte,hi,C,oJ,h,E,z]
theorem f94(s:t6)(O:s.length<=1000000000000):call T 94 [.str s] [] 0=some ⟨.int .i64 (Pq s),[],[]⟩:=by
 rw[az xkz];unfold Pq
 by_cases E:s=[]
 ·simp only[go_sem,Q0,Q1,Q2,Q3,Q4,Q5,Q6,Q7,Q8,Q9,Qa,Qb,Qc,Qd,Qe,Qf,Qg,Qh,Qi,Qj,Qk,reduceCtorEq,reduceIte,E]
 by_cases F:10<s.length
 ·have z:(10:Int)<((s.length:Nat):Int):=by omega
  simp only[go_sem,Q0,Q1,Q2,Q3,Q4,Q5,Q6,Q7,Q8,Q9,Qa,Qb,Qc,Qd,Qe,Qf,Qg,Qh,Qi,Qj,Qk,reduceCtorEq,reduceIte,E,F,z]
 have z:¬(10:Int)<((s.length:Nat):Int):=by omega
 have H:(0:Int)<((s.length:Nat):Int):=by cases s with|nil=>exact absurd rfl E|cons c r=>rw[av];omega
 have h:=l94 s (by omega) _ 0 rfl (by omega);simp only[aH,bi]at h
 by_cases I:1<s.length
 ·have C:(1:Int)<((s.length:Nat):Int):=by omega
  by_cases J:s.getD 0 0=48
  ·simp only[go_sem,Q0,Q1,Q2,Q3,Q4,Q5,Q6,Q7,Q8,Q9,Qa,Qb,Qc,Qd,Qe,Qf,Qg,Qh,Qi,Qj,Qk,reduceCtorEq,reduceIte,E,F,z,I,C,J,H]
  ·cases hd:oJ s with
   |true=>simp only[go_sem,Q0,Q1,Q2,Q3,Q4,Q5,Q6,Q7,Q8,Q9,Qa,Qb,Qc,Qd,Qe,Qf,Qg,Qh,Qi,Qj,Qk,reduceCtorEq,reduceIte,E,F,z,I,C,J,H,h,hd,xij s E (by omega) hd,YX]
   |false=>simp only[go_sem,Q0,Q1,Q2,Q3,Q4,Q5,Q6,Q7,Q8,Q9,Qa,Qb,Qc,Qd,Qe,Qf,Qg,Qh,Qi,Qj,Qk,reduceCtorEq,reduceIte,E,F,z,I,C,J,H,h,hd]
 ·have C:¬(1:Int)<((s.length:Nat):Int):=by omega
  cases hd:oJ s with
  |true=>simp only[go_sem,Q0,Q1,Q2,Q3,Q4,Q5,Q6,Q7,Q8,Q9,Qa,Qb,Qc,Qd,Qe,Qf,Qg,Qh,Qi,Qj,Qk,reduceCtorEq,reduceIte,E,F,z,I,C,H,h,hd,xij s E (by omega) hd,YX]
  |false=>simp only[go_sem,Q0,Q1,Q2,Q3,Q4,Q5,Q6,Q7,Q8,Q9,Qa,Qb,Qc,Qd,Qe,Qf,Qg,Qh,Qi,Qj,Qk,reduceCtorEq,reduceIte,E,F,z,I,C,H,h,hd]
end
section
open Go.Glob
def alw(k:Int)(t:t6)(lo hi:Int)(b:t6):Bool:=
 if chk k t lo hi=0 then
  (if k=2 then decide (b=t)else if k=3 then gl t b else if k=4 then
   (if t.length<=b.length/\b.take t.length=t then(if lo<=Pq (b.drop t.length)then decide (Pq (b.drop t.length)<=hi)else false)else false)
   else true)
 else false
theorem f53(k:Int)(t:t6)(lo hi:Int)(b:t6)(F:t.length<=1000000000000)(H:b.length<=1000000000000):
 call T 53 [.agg [.int .i64 k,.str t,.int .i64 lo,.int .i64 hi],.byt b .no] [] 0=some ⟨.bool (alw k t lo hi b),[],[]⟩:=by
 rw[az xkY];have h:=f90 k t lo hi F;unfold alw
 by_cases c0:chk k t lo hi=0
 ·by_cases c2:k=2
  ·subst c2
   by_cases z:b=t
   ·simp only[go_sem,Q0,Q1,Q2,Q3,Q4,Q5,Q6,Q7,Q8,Q9,Qa,Qb,Qc,Qd,Qe,Qf,Qg,Qh,Qi,Qj,Qk,reduceCtorEq,reduceIte,h,sO,c0,z]
   ·simp only[go_sem,Q0,Q1,Q2,Q3,Q4,Q5,Q6,Q7,Q8,Q9,Qa,Qb,Qc,Qd,Qe,Qf,Qg,Qh,Qi,Qj,Qk,reduceCtorEq,reduceIte,h,sO,c0,z]
  by_cases z:k=3
  ·subst z
   simp only[go_sem,Q0,Q1,Q2,Q3,Q4,Q5,Q6,Q7,Q8,Q9,Qa,Qb,Qc,Qd,Qe,Qf,Qg,Qh,Qi,Qj,Qk,reduceCtorEq,reduceIte,h,sO,c0,f92 t b F H,xlq]
  by_cases E:k=4
  ·subst E
   have hn:=f94 (b.drop t.length) (by rw[aE];omega)
   by_cases c5:t.length<=b.length/\b.take t.length=t
   ·by_cases C:lo<=Pq (b.drop t.length)
    ·simp only[go_sem,Q0,Q1,Q2,Q3,Q4,Q5,Q6,Q7,Q8,Q9,Qa,Qb,Qc,Qd,Qe,Qf,Qg,Qh,Qi,Qj,Qk,reduceCtorEq,reduceIte,h,sO,c0,f93,xdw,c5,hn,xdv,C]
    ·simp only[go_sem,Q0,Q1,Q2,Q3,Q4,Q5,Q6,Q7,Q8,Q9,Qa,Qb,Qc,Qd,Qe,Qf,Qg,Qh,Qi,Qj,Qk,reduceCtorEq,reduceIte,h,sO,c0,f93,xdw,c5,hn,xdv,C]
   ·simp only[go_sem,Q0,Q1,Q2,Q3,Q4,Q5,Q6,Q7,Q8,Q9,Qa,Qb,Qc,Qd,Qe,Qf,Qg,Qh,Qi,Qj,Qk,reduceCtorEq,reduceIte,h,sO,c0,f93,xdw,c5,f94 b H,xdv]
  ·simp only[go_sem,Q0,Q1,Q2,Q3,Q4,Q5,Q6,Q7,Q8,Q9,Qa,Qb,Qc,Qd,Qe,Qf,Qg,Qh,Qi,Qj,Qk,reduceCtorEq,reduceIte,h,sO,c0,c2,z,E]
 ·simp only[go_sem,Q0,Q1,Q2,Q3,Q4,Q5,Q6,Q7,Q8,Q9,Qa,Qb,Qc,Qd,Qe,Qf,Qg,Qh,Qi,Qj,Qk,reduceCtorEq,reduceIte,h,sO,c0]
end
section
open Go.Glob
theorem gB(B:t6)(i n:Nat)(h:0<n):dX B i n<n:=by
 unfold dX;split
 ·exact Nat.mod_lt _ h
 ·exact h
def nx(P L:t6)(k i:Nat):Nat->Bool:=fun j=>decide (j<i)&&rw1 P L (k+1) j
end
section
open Go.Glob
def jt:Nat->t6
 |0=> [97,61,49]
 |1=> [99,111,117,110,116,61,53]
 |2=> [99,111,117,110,116,61,49,55]
 |3=> [104,111,115,116,61,120]
 |4=> [109,111,100,101,32,98]
 |_=> [126]
theorem cz0:((0:Nat):Int)=0:=rfl
theorem cz1:((1:Nat):Int)=1:=rfl
theorem cz2:((2:Nat):Int)=2:=rfl
theorem cz3:((3:Nat):Int)=3:=rfl
theorem cz4:((4:Nat):Int)=4:=rfl
theorem cz5:((5:Nat):Int)=5:=rfl
theorem cz6:((6:Nat):Int)=6:=rfl
theorem cz7:((7:Nat):Int)=7:=rfl
theorem f86(B:t6)(i:Nat)(z:B.length<=1000):call T 86 [.ptr 0 0] [bN B i] 0=some ⟨.byt (jt (dX B i 6)) .no,[(0,bN B (cX B i))],[]⟩:=by
 rw[az xkG];have g:=f37 B i 6 (by omega) (by omega);have h:=gB B i 6 (by omega);rw[cz6]at g;generalize dX B i 6=v at g h;simp only[bN]at g;have:v=0\/v=1\/v=2\/v=3\/v=4\/v=5:=by omega
 rcases this with rfl|rfl|rfl|rfl|rfl|rfl<;>simp only[cz0,cz1,cz2,cz3,cz4,cz5]at g<;>simp only[go_sem,Q0,Q1,Q2,Q3,Q4,Q5,Q6,Q7,Q8,Q9,Qa,Qb,Qc,Qd,Qe,Qf,Qg,Qh,Qi,Qj,Qk,reduceCtorEq,reduceIte,List.all_replicate,cz0,cz1,cz2,cz3,cz4,cz5,cz6,cz7,bN,g,sQ,jt]
end
section
open Go.Glob
def dg(d:Nat):UInt8:=dO ((48+d:Nat):Int)
def dec(n:Nat):t6:=if h:n<10 then [dg n]else dec (n/10)++ [dg (n % 10)]
termination_by n
decreasing_by omega
theorem fk{n:Nat}(h:n<10):dec n=[dg n]:=by rw[dec,dif_pos h]
theorem b9{n:Nat}(h:¬n<10):dec n=dec (n/10)++ [dg (n % 10)]:=by rw[dec,dif_neg h]
theorem Qz:∀n,(dec n).length<=n+1:=by
 intro n;induction n using Nat.strongRecOn with
 |_ n z=>
  by_cases h:n<10
  ·rw[fk h];simp
  ·have:=z (n/10) (by omega)
   rw[b9 h,ah,aL];omega
theorem kh:∀k n,n<10^(k+1)->(dec n).length<=k+1
 |0,n,h=>by rw[fk (by simpa using h)];simp
 |k+1,n,h=>by
  by_cases z:n<10
  ·rw[fk z];simp
  ·have:=kh k (n/10) (by rw[Nat.pow_succ]at h;omega)
   rw[b9 z,ah,aL];omega
theorem f97:∀n:Nat,n<=1000000000000->call T 97 [.int .i64 n] [] 0=some ⟨.byt (dec n) (.id 60),[],[60]⟩:=by
 intro n;induction n using Nat.strongRecOn with
 |_ n O=>
  intro hn;rw[az xkx]
  by_cases h:n<10
  ·have I:(n:Int)<10:=by omega
   have F:aj.wrap (48+(n:Int))=((48+n:Nat):Int):=wZ (by omega)
   have z:dO ((48+n:Nat):Int)=dg n:=rfl;simp only[go_sem,Q0,Q1,Q2,Q3,Q4,Q5,Q6,Q7,Q8,Q9,Qa,Qb,Qc,Qd,Qe,Qf,Qg,Qh,Qi,Qj,Qk,reduceCtorEq,reduceIte,I,F,z,fk h]
  ·have I:¬(n:Int)<10:=by omega
   have Q:=O (n/10) (by omega) (by omega);have J:(n:Int).tdiv 10=((n/10:Nat):Int):=rfl;have C:(n:Int).tmod 10=((n % 10:Nat):Int):=rfl;have E:aj.wrap ((n/10:Nat):Int)=((n/10:Nat):Int):=w64 (by omega) (by omega);have F:aj.wrap (48+((n % 10:Nat):Int))=((48+n % 10:Nat):Int):=wZ (by omega)
   have z:dO ((48+n % 10:Nat):Int)=dg (n % 10):=rfl;have S:=Qz (n/10);have H:(dec (n/10)).length+1<=140737488355328:=by omega
   simp only[go_sem,Q0,Q1,Q2,Q3,Q4,Q5,Q6,Q7,Q8,Q9,Qa,Qb,Qc,Qd,Qe,Qf,Qg,Qh,Qi,Qj,Qk,reduceCtorEq,reduceIte,I,Q,J,C,E,F,z,H,xiH,b9 h]
end
end Go.Proofs.YtdafipacemgcoaaGreatDoor
