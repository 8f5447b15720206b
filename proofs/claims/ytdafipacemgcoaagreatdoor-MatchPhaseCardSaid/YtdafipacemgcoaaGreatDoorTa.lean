/- What the functions come to. No condition. -/
import Derived.Test.YtdafipacemgcoaaGreatDoorCo
set_option maxRecDepth 100000
set_option linter.unusedSimpArgs false
set_option linter.unusedVariables false
namespace Go.Proofs.YtdafipacemgcoaaGreatDoor
open Go.Sy
open UInt8 renaming reduceLT → Q0, reduceLE → Q1
open Int renaming reduceToNat → Q2, reduceLE → Q3, reduceLT → Q4, reduceEq → Q5, reduceNe → Q6, reduceNeg → Q7, reduceAdd → Q8, reduceSub → Q9, reduceMul → Qa
open Nat renaming reducePow → Qb, reduceDiv → Qc, reduceMod → Qd, reduceAdd → Qe, reduceSub → Qf, reduceMul → Qg, reduceLT → Qh, reduceLeDiff → Qi, reduceEqDiff → Qj, reduceBEq → Qk
theorem w64 {n:Int} (h1: -9223372036854775808≤n) (h2:n≤9223372036854775807):IntKind.i64.wrap n=n:=by rw [IntKind.wrap_i64];omega
theorem wsucc (i:Nat) (h:i<9223372036854775807):IntKind.i64.wrap ((i:Int)+1)=((i+1:Nat):Int):=by rw [w64 (by omega) (by omega)];omega
theorem drop_cons {α:Type} [Inhabited α] (l:List α) (i:Nat) (h:i<l.length):l.drop i=l.getD i default::l.drop (i+1):=by rw [List.drop_eq_getElem_cons h,List.getD_eq_getElem?_getD,List.getElem?_eq_getElem h];rfl
theorem drop_cons0 (l:List UInt8) (i:Nat) (h:i<l.length):l.drop i=l.getD i 0::l.drop (i+1):=drop_cons l i h
def modI (n m:Int):Int:=if m<1 then 0 else if n.tmod m<0 then n.tmod m+m else n.tmod m
theorem f18 (a b:Int) (ha: -9223372036854775808≤a) (ha2:a≤9223372036854775807) (hb:b≤9223372036854775807):call T 18 [.int .i64 a,.int .i64 b] [] 0=some ⟨.int .i64 (modI a b),[],[]⟩:=by
 rw [call_code T_18]
 by_cases h:b<1
 ·simp only [go_sem,Qe,Qh,Qi,Qj,Qk,reduceCtorEq,reduceIte,h,modI]
 ·have h0:¬b=0:=by omega
  simp only [go_sem,Qe,Qh,Qi,Qj,Qk,reduceCtorEq,reduceIte,h,h0,modI]
  by_cases h2:a.tmod b<0
  ·have h3: -b<a.tmod b:=by
    have:=Int.lt_tmod_of_pos a (b:=b) (by omega);omega
   have h4:IntKind.i64.wrap (a.tmod b+b)=a.tmod b+b:=w64 (by omega) (by omega);simp only [h2,go_sem,reduceIte,h4]
  ·simp only [h2,go_sem,reduceIte]
def codesO (B:List UInt8) (at':Nat):SObj:= .rc [.byt B .no,.int .i64 at']
theorem f35 (a:List UInt8) (n:Nat):call T 35 [.byt a .no,.int .i64 n] [] 0=some ⟨.ptr 100 0,[(100,codesO (a.take n) 0)],[]⟩:=by
 rw [call_code T_35]
 by_cases h:n<a.length
 ·have h2:n≤a.length:=by omega
  simp only [go_sem,Q2,Q3,Qe,Qh,Qi,Qj,Qk,reduceCtorEq,reduceIte,h,h2,codesO];rfl
 ·simp only [go_sem,Q2,Q3,Qe,Qh,Qi,Qj,Qk,reduceCtorEq,reduceIte,h,codesO,List.take_of_length_le (Nat.le_of_not_lt h)]
  rfl
theorem f131 (a:List UInt8) (b:Nat):call T 131 [.ptr 0 0] [codesO a b] 0=some ⟨.bool (decide (b<a.length)),[(0,codesO a b)],[]⟩:=by rw [call_code T_131];simp only [go_sem,Qe,Qh,Qi,Qj,Qk,reduceCtorEq,reduceIte,codesO]
def nextV (a:List UInt8) (b n:Nat):Nat:=if b<a.length then(a.getD b 0).toNat % n else 0
def nextA (a:List UInt8) (b:Nat):Nat:=if b<a.length then b+1 else b
theorem f37 (a:List UInt8) (b n:Nat) (hn:0<n) (hl:a.length≤1000000000000):call T 37 [.ptr 0 0,.int .i64 n] [codesO a b] 0=some ⟨.int .i64 (nextV a b n),[(0,codesO a (nextA a b))],[]⟩:=by
 rw [call_code T_37]
 by_cases h:b<a.length
 ·have h1:¬a.length≤b:=by omega
  have e1:IntKind.i64.wrap ((b:Int)+1)=((b+1:Nat):Int):=by rw [w64 (by omega) (by omega)];omega
  have e2:IntKind.i64.wrap (((b+1:Nat):Int)-1)=(b:Int):=by rw [w64 (by omega) (by omega)];omega
  have e3:¬(n:Int)=0:=by omega
  simp only [go_sem,Qe,Qh,Qi,Qj,Qk,reduceCtorEq,reduceIte,codesO,h,h1,e1,e2,e3,nextV,nextA,←Int.ofNat_tmod]
 ·have h1:a.length≤b:=by omega
  simp only [go_sem,Qe,Qh,Qi,Qj,Qk,reduceCtorEq,reduceIte,codesO,h,h1,nextV,nextA,Int.natCast_zero]
def dropL (c:UInt8):List UInt8→List UInt8
 |[]=> []
 |x::r=>if x=c then dropL c r else x::r
theorem l159 (c:UInt8):∀s:List UInt8,run T (.loop r159_3) ⟨[(0,.str s),(1,.u8 c)],[],[]⟩=some (.x 0,⟨[(0,.str (dropL c s))],[],[]⟩)
 |[]=>by rw [run_loop];simp only [go_sem,Q2,Q3,Q4,Qh,Qj,Qk,reduceCtorEq,reduceIte,dropL,Int.natCast_zero]
 |x::r=>by
  rw [run_loop];have h:=l159 c r;have e1:(0:Int)<((r.length+1:Nat):Int):=by omega
  have e2:(1:Int)≤((r.length+1:Nat):Int):=by omega
  by_cases hc:x=c
  ·simp only [go_sem,Q2,Q3,Qh,Qj,Qk,reduceCtorEq,reduceIte,dropL,hc,h,List.length_cons,List.getD_cons_zero,e1,e2,List.drop_succ_cons,List.drop_zero,List.take_length]
  ·simp only [go_sem,Q2,Q3,Qh,Qj,Qk,reduceCtorEq,reduceIte,dropL,hc,List.length_cons,List.getD_cons_zero,e1]
theorem f159 (c:UInt8) (s:List UInt8):call T 159 [.str s,.u8 c] [] 0=some ⟨.str (dropL c s),[],[]⟩:=by rw [call_code T_159];simp only [go_sem,Qe,Qh,Qi,Qj,Qk,reduceCtorEq,reduceIte,l159]
def dropR (c:UInt8) (s:List UInt8):List UInt8:=(dropL c s.reverse).reverse
theorem dropR_nil (c:UInt8):dropR c []=[]:=rfl
theorem dropR_app (c x:UInt8) (s:List UInt8):dropR c (s++ [x])=if x=c then dropR c s else s++ [x]:=by
 unfold dropR;rw [List.reverse_append,List.reverse_singleton,List.singleton_append,dropL];split
 ·rfl
 ·simp
theorem l160 (c:UInt8):∀(n:Nat) (s:List UInt8),s.length=n→n<9223372036854775807→run T (.loop r160_3) ⟨[(0,.str s),(1,.u8 c)],[],[]⟩=some (.x 0,⟨[(0,.str (dropR c s))],[],[]⟩):=by
 intro n;induction n with
 | zero=>
  intro s hs _;cases s with
  |cons _ _=>simp at hs
  |nil=>rw [run_loop];simp only [go_sem,Q4,Q7,Q9,Qh,Qj,Qk,reduceCtorEq,reduceIte,dropR_nil,List.length_nil,Int.natCast_zero]
 |succ n ih=>
  intro s hs hn;obtain⟨t,x,rfl⟩:∃t x,s=t++ [x]:=⟨s.dropLast,s.getLast (by intro e;subst e;simp at hs),(List.dropLast_concat_getLast _).symm⟩;have ht:t.length=n:=by simpa using hs
  have h:=ih t ht (by omega);rw [run_loop];generalize hu:t++ [x]=u;have e0:(0:Int)<((u.length:Nat):Int):=by subst hu;simp
  have hul:u.length=t.length+1:=by subst hu;simp
  have e1:IntKind.i64.wrap ((u.length:Int)-1)=((t.length:Nat):Int):=by rw [w64 (by omega) (by omega)];omega
  have e2:u.getD t.length 0=x:=by subst hu;simp [List.getD_eq_getElem?_getD]
  have e3:u.take t.length=t:=by subst hu;simp
  have e6:t.length<u.length:=by subst hu;simp
  have e7:t.length≤u.length:=by omega
  have e8:dropR c u=if x=c then dropR c t else u:=by subst hu;exact dropR_app c x t
  by_cases hc:x=c
  ·simp only [go_sem,Q2,Q3,Qh,Qj,Qk,reduceCtorEq,reduceIte,hc,h,e0,e1,e2,e3,e6,e7,e8]
  ·simp only [go_sem,Qh,Qj,Qk,reduceCtorEq,reduceIte,hc,e0,e1,e2,e6,e8]
theorem f160 (c:UInt8) (s:List UInt8) (hs:s.length<9223372036854775807):call T 160 [.str s,.u8 c] [] 0=some ⟨.str (dropR c s),[],[]⟩:=by rw [call_code T_160];simp only [go_sem,Qe,Qh,Qi,Qj,Qk,reduceCtorEq,reduceIte,l160 c _ s rfl hs]
theorem f133 (s:List UInt8) (hs:s.length<9223372036854775807):call T 133 [.str s,.str [42]] [] 0=some ⟨.str (dropL 42 (dropR 42 s)),[],[]⟩:=by
 rw [call_code T_133]
 by_cases h:s=[]
 ·subst h
  simp only [go_sem,Qe,Qh,Qi,Qj,Qk,reduceCtorEq,reduceIte,dropR_nil,dropL]
 ·have c1:((1:Nat):Int)=1:=rfl
  simp only [go_sem,Q0,Q2,Q3,Q4,Qb,Qc,Qd,Qe,Qh,Qi,Qj,Qk,reduceCtorEq,reduceIte,h,f160 42 s hs,f159,c1,S_159,S_160]
end Go.Proofs.YtdafipacemgcoaaGreatDoor
namespace Go.Glob
def tl (f:List UInt8→Bool):List UInt8→Bool
 |[]=>f []
 |x::r=>f (x::r)||tl f r
def gl:List UInt8→List UInt8→Bool
 |[],l=>l.isEmpty
 |c::p,l=>if c=42 then tl (gl p) l else match l with
  |[]=>false
  |x::r=>(decide (c=63)||decide (c=x))&&gl p r
theorem tl_iff (f:List UInt8→Bool):∀l:List UInt8,tl f l=true↔∃k,k≤l.length∧f (l.drop k)=true
 |[]=>by simp only [tl,List.length_nil,List.drop_nil];exact⟨fun h=>⟨0,Nat.le_refl _,h⟩,fun⟨_,_,h⟩=>h⟩
 | x::r=>by
  simp only [tl,Bool.or_eq_true,tl_iff f r];constructor
  ·rintro(h|⟨k,hk,h⟩)
   ·exact⟨0,Nat.zero_le _,h⟩
   ·exact⟨k+1,by simpa using hk,h⟩
  ·rintro⟨k,hk,h⟩
   cases k with
   |zero=>exact .inl h
   |succ k=>exact .inr ⟨k,by simpa using hk,h⟩
theorem gl_star (p l:List UInt8):gl (42::p) l=tl (gl p) l:=by simp [gl]
theorem gl_end (c:UInt8) (p:List UInt8) (h:c≠42):gl (c::p) []=false:=by simp [gl,h]
theorem gl_cons (c:UInt8) (p:List UInt8) (x:UInt8) (l:List UInt8) (h:c≠42):gl (c::p) (x::l)=((decide (c=63)||decide (c=x))&&gl p l):=by simp [gl,h]
def stars (p:List UInt8):Bool:=p.all fun c=>decide (c=42)
theorem gl_stars:∀p:List UInt8,gl p []=stars p
 |[]=>rfl
 | c::p=>by
  by_cases h:c=42
  ·subst h
   rw [gl_star,tl,gl_stars p];simp [stars]
  ·rw [gl_end _ _ h];simp [stars,h]
def free (s:List UInt8):Bool:=s.all fun c=>decide (c≠42)
def fits:List UInt8→List UInt8→Bool
 |[],_=>true
 |_::_,[]=>false
 |c::s,x::m=>(decide (c=63)||decide (c=x))&&fits s m
theorem gl_seg:∀(s q m:List UInt8),free s=true→gl (s++q) m=(fits s m&&gl q (m.drop s.length))
 |[],q,m,_=>by simp [fits]
 |c::s,q,[],h=>by simp only [free,List.all_cons,Bool.and_eq_true,decide_eq_true_eq]at h;simp [fits,gl,h.1]
 |c::s,q,x::m,h=>by simp only [free,List.all_cons,Bool.and_eq_true,decide_eq_true_eq]at h;rw [List.cons_append,gl_cons _ _ _ _ h.1,gl_seg s q m (by simpa [free]using h.2)];simp [fits,Bool.and_assoc]
theorem fits_len:∀ {s m:List UInt8},fits s m=true→s.length≤m.length
 |[],_,_=>Nat.zero_le _
 |_::_,[],h=>by cases h
 |c::s,x::m,h=>by simp only [fits,Bool.and_eq_true]at h;have:=fits_len h.2;simp;omega
theorem tl_mono {f:List UInt8→Bool} {m:List UInt8} {i j:Nat} (h:i≤j) (ht:tl f (m.drop j)=true):tl f (m.drop i)=true:=by
 rw [tl_iff]at ht ⊢;obtain⟨k,hk,h1⟩:=ht;rw [List.length_drop]at hk;rw [List.drop_drop]at h1
 by_cases hj:j≤m.length
 ·refine⟨j-i+k,by rw [List.length_drop];omega, ?_⟩
  rw [List.drop_drop,show i+(j-i+k)=j+k by omega];exact h1
 ·refine⟨m.length-i,by rw [List.length_drop];omega, ?_⟩
  rw [List.drop_drop];rw [List.drop_eq_nil_of_le (by omega)]at h1 ⊢;exact h1
structure Inv (P L:List UInt8) (K r p l:Nat) (B:Bool):Prop where
 kp:K≤p
 pP:p≤P.length
 rl:r≤l
 lL:l≤L.length
 b0:K=0→B=gl (P.drop p) (L.drop l)
 b1:0<K→B=(gl (P.drop p) (L.drop l)||tl (gl (P.drop K)) (L.drop (r+1)))
 pl:0<K→p-K=l-r
 fr:0<K→free ((P.drop K).take (p-K))=true
theorem dropc (l:List UInt8) (i:Nat) (h:i<l.length):l.drop i=l.getD i 0::l.drop (i+1):=by rw [List.drop_eq_getElem_cons h,List.getD_eq_getElem?_getD,List.getElem?_eq_getElem h];rfl
variable {P L : List UInt8} {K r p l : Nat} {B : Bool}
theorem Inv.split (h:Inv P L K r p l B):P.drop K=(P.drop K).take (p-K)++P.drop p:=by have:=List.take_append_drop (p-K) (P.drop K);rw [List.drop_drop,show K+(p-K)=p by have:=h.kp;omega]at this;exact this.symm
theorem Inv.seglen (h:Inv P L K r p l B):((P.drop K).take (p-K)).length=p-K:=by have:=h.pP;rw [List.length_take,List.length_drop];omega
theorem Inv.seg (h:Inv P L K r p l B) (hk:0<K) (m:List UInt8):gl (P.drop K) m=(fits ((P.drop K).take (p-K)) m&&gl (P.drop p) (m.drop (p-K))):=by have:=gl_seg _ (P.drop p) m (h.fr hk);rw [←h.split,h.seglen]at this;exact this
theorem Inv.later (h:Inv P L K r p l B) (hk:0<K) (ht:tl (gl (P.drop K)) (L.drop (r+1))=true):(l=L.length∧r=L.length∧gl (P.drop p) []=true)∨∃j,l<j∧j≤L.length∧gl (P.drop p) (L.drop j)=true:=by
 have h1:=h.rl;have h2:=h.lL;have h3:=h.pl hk;have h4:=h.kp;obtain⟨k,hk1,hk2⟩:=(tl_iff _ _).1 ht;rw [h.seg hk,Bool.and_eq_true]at hk2;have h5:=fits_len hk2.1;rw [h.seglen]at h5;have h6:=hk2.2;rw [List.drop_drop,List.drop_drop]at h6;rw [List.drop_drop,List.length_drop]at h5;rw [List.length_drop]at hk1
 by_cases hr:r=L.length
 ·refine .inl ⟨by omega,hr, ?_⟩
  have e0:L.drop (r+1+(k+(p-K)))=[]:=List.drop_eq_nil_of_le (by omega);rwa [e0]at h6
 ·exact .inr ⟨r+1+(k+(p-K)),by omega,by omega,h6⟩
theorem Inv.star (h:Inv P L K r p l B) (hp:p<P.length) (hl:l<L.length) (hc:P.getD p 0=42):Inv P L (p+1) l (p+1) l B:=by
 have e:gl (P.drop p) (L.drop l)=(gl (P.drop (p+1)) (L.drop l)||tl (gl (P.drop (p+1))) (L.drop (l+1))):=by rw [dropc P p hp,hc,gl_star,dropc L l hl];rfl
 refine⟨Nat.le_refl _,hp,Nat.le_refl _,h.lL,fun h0=>by omega,fun _=> ?_,fun _=>by omega,fun _=>by rw [Nat.sub_self];rfl⟩;rw [←e]
 by_cases hk:K=0
 ·exact h.b0 hk
 ·rw [h.b1 (by omega)]
  cases hg:gl (P.drop p) (L.drop l)with
  |true=>rfl
  | false=>
   rw [Bool.false_or];cases ht:tl (gl (P.drop K)) (L.drop (r+1))with
   |false=>rfl
   | true=>
    exfalso;rcases h.later (by omega) ht with⟨h1,_⟩|⟨j,h1,h2,h3⟩
    ·omega
    ·rw [dropc P p hp,hc,gl_star]at h3 hg
     rw [tl_mono (Nat.le_of_lt h1) h3]at hg;cases hg
theorem Inv.step (h:Inv P L K r p l B) (hp:p<P.length) (hl:l<L.length) (hc:P.getD p 0≠42) (hm:P.getD p 0=63∨P.getD p 0=L.getD l 0):Inv P L K r (p+1) (l+1) B:=by
 have h1:=h.kp;have h2:=h.rl
 have e:gl (P.drop p) (L.drop l)=gl (P.drop (p+1)) (L.drop (l+1)):=by
  rw [dropc P p hp,dropc L l hl,gl_cons _ _ _ _ hc];have:(decide (P.getD p 0=63)||decide (P.getD p 0=L.getD l 0))=true:=by simpa using hm
  rw [this,Bool.true_and]
 refine⟨by omega,hp,by omega,hl,fun h0=>by rw [←e];exact h.b0 h0,fun h0=>by rw [←e];exact h.b1 h0,fun h0=>by have:=h.pl h0;omega,fun h0=> ?_⟩
 have e2:(P.drop K).take (p+1-K)=(P.drop K).take (p-K)++ [P.getD p 0]:=by
  rw [show p+1-K=(p-K)+1 by omega,List.take_add_one]
  congr 1
  rw [List.getElem?_drop,show K+(p-K)=p by omega,List.getElem?_eq_getElem hp,List.getD_eq_getElem?_getD,List.getElem?_eq_getElem hp];rfl
 rw [e2];have:=h.fr h0;unfold free at this ⊢;rw [List.all_append,this];simpa using hc
theorem Inv.miss (h:Inv P L K r p l B) (hl:l<L.length) (hm:p<P.length→P.getD p 0≠42∧P.getD p 0≠63∧P.getD p 0≠L.getD l 0):gl (P.drop p) (L.drop l)=false:=by
 by_cases hp:p<P.length
 ·obtain⟨h1,h2,h3⟩:=hm hp
  rw [dropc P p hp,dropc L l hl,gl_cons _ _ _ _ h1];simp only [h2,h3,decide_false,Bool.or_false,Bool.false_and]
 ·rw [List.drop_eq_nil_of_le (by omega),dropc L l hl];rfl
theorem Inv.back (h:Inv P L K r p l B) (hk:0<K) (hl:l<L.length) (hm:p<P.length→P.getD p 0≠42∧P.getD p 0≠63∧P.getD p 0≠L.getD l 0):Inv P L K (r+1) K (r+1) B:=by
 have h1:=h.rl;have h2:=h.kp;have h3:=h.pP;refine⟨Nat.le_refl _,by omega,Nat.le_refl _,by omega,fun h0=>by omega,fun _=> ?_,fun _=>by omega,fun _=>by rw [Nat.sub_self];rfl⟩;rw [h.b1 hk,h.miss hl hm,Bool.false_or]
 by_cases hr:r+1<L.length
 ·rw [dropc L (r+1) hr];rfl
 ·have e1:L.drop (r+1)=[]:=List.drop_eq_nil_of_le (by omega)
  have e2:L.drop (r+1+1)=[]:=List.drop_eq_nil_of_le (by omega);rw [e1,e2];simp only [tl,Bool.or_self]
theorem Inv.fail (h:Inv P L K r p l B) (hk:K=0) (hl:l<L.length) (hm:p<P.length→P.getD p 0≠42∧P.getD p 0≠63∧P.getD p 0≠L.getD l 0):B=false:=by rw [h.b0 hk,h.miss hl hm]
theorem Inv.fin (h:Inv P L K r p l B) (hl:l=L.length):stars (P.drop p)=B:=by
 have e:gl (P.drop p) (L.drop l)=stars (P.drop p):=by rw [hl,List.drop_length,gl_stars]
 by_cases hk:K=0
 ·rw [h.b0 hk,e]
 ·rw [h.b1 (by omega),e]
  cases ht:tl (gl (P.drop K)) (L.drop (r+1))with
  |false=>rw [Bool.or_false]
  |true=>
   rcases h.later (by omega) ht with⟨_,_,h3⟩|⟨j,h1,h2,_⟩
   ·rw [gl_stars]at h3;rw [h3];rfl
   ·omega
theorem Inv.init (P L:List UInt8):Inv P L 0 0 0 0 (gl P L):=
 ⟨Nat.le_refl _,Nat.zero_le _,Nat.le_refl _,Nat.zero_le _,fun _=>rfl,fun h=>by omega,fun h=>by omega,fun h=>by omega⟩
end Go.Glob
namespace Go.Proofs.YtdafipacemgcoaaGreatDoor
open Go.Sy
open UInt8 renaming reduceLT → Q0, reduceLE → Q1
open Int renaming reduceToNat → Q2, reduceLE → Q3, reduceLT → Q4, reduceEq → Q5, reduceNe → Q6, reduceNeg → Q7, reduceAdd → Q8, reduceSub → Q9, reduceMul → Qa
open Nat renaming reducePow → Qb, reduceDiv → Qc, reduceMod → Qd, reduceAdd → Qe, reduceSub → Qf, reduceMul → Qg, reduceLT → Qh, reduceLeDiff → Qi, reduceEqDiff → Qj, reduceBEq → Qk
end Go.Proofs.YtdafipacemgcoaaGreatDoor
namespace Go.Glob
def rw1 (P L:List UInt8) (k i:Nat):Bool:=gl (P.take k) (L.take i)
end Go.Glob
namespace Go.Proofs.YtdafipacemgcoaaGreatDoor
open Go.Sy
open UInt8 renaming reduceLT → Q0, reduceLE → Q1
open Int renaming reduceToNat → Q2, reduceLE → Q3, reduceLT → Q4, reduceEq → Q5, reduceNe → Q6, reduceNeg → Q7, reduceAdd → Q8, reduceSub → Q9, reduceMul → Qa
open Nat renaming reducePow → Qb, reduceDiv → Qc, reduceMod → Qd, reduceAdd → Qe, reduceSub → Qf, reduceMul → Qg, reduceLT → Qh, reduceLeDiff → Qi, reduceEqDiff → Qj, reduceBEq → Qk
section
open Go.Glob
theorem dropL_all:∀s:List UInt8,dropL 42 s=[]↔stars s=true
 |[]=>by simp [dropL,stars]
 |x::r=>by
  have:=dropL_all r
  by_cases h:x=42
  ·simp only [dropL,h,if_true,this,stars,List.all_cons,decide_true,Bool.true_and]
  ·simp [dropL,h,stars]
theorem stars_rev (s:List UInt8):stars s.reverse=stars s:=by simp [stars]
theorem trim_all (s:List UInt8):dropL 42 (dropR 42 s)=[]↔stars s=true:=by
 rw [dropL_all];unfold dropR;rw [stars_rev];constructor
 ·intro h
  rw [←dropL_all]at h
  have e :∀t:List UInt8,dropL 42 t=t∨dropL 42 t=[]∨∃x r,dropL 42 t=x::r∧x≠42:=by
   intro t;induction t with
   |nil=>exact .inl rfl
   | cons x r ih=>
    by_cases hx:x=42
    ·simp only [dropL,hx,if_true]
     rcases ih with h|h|h
     ·cases r with
      |nil=>exact .inr (.inl h)
      | cons y r'=>
       rw [h]
       by_cases hy:y=42
       ·exfalso
        have l1:∀t:List UInt8,(dropL 42 t).length≤t.length:=by
         intro t;induction t with
         |nil=>exact Nat.le_refl _
         |cons z t iht=>simp only [dropL];split<;>simp only [List.length_cons]<;>omega
        rw [hy]at h;simp only [dropL,if_true]at h;have:=l1 r';rw [h]at this;simp at this;omega
       ·exact .inr (.inr ⟨y,r',rfl,hy⟩)
     ·exact .inr (.inl h)
     ·exact .inr (.inr h)
    ·exact .inl (by simp [dropL,hx])
  rcases e s.reverse with h1|h1|⟨x,r,h1,h2⟩
  ·rw [h1,dropL_all,stars_rev]at h;exact h
  ·rw [dropL_all,stars_rev]at h1;exact h1
  ·rw [h1]at h;simp [dropL,h2]at h
 ·intro h
  rw [←stars_rev,←dropL_all]at h;rw [h];rfl
def Out (P:List UInt8) (B:Bool) (o:Option (Ex×CSt)):Prop:=
 (∃q,q≤P.length∧stars (P.drop q)=B∧o=some (.x 0,⟨[(0,.str P),(5,.int .i64 (q:Nat))],[],[]⟩))∨(B=false∧o=some (.r,⟨[(4,.bool false)],[],[]⟩))
set_option maxHeartbeats 4000000 in
theorem l92 (P L:List UInt8) (hP:P.length≤1000000000000) (hL:L.length≤1000000000000) (B:Bool) (K r p l:Nat) (s:Int) (hs:s=(K:Int)-1) (h:Inv P L K r p l B):
 Out P B (run T (.loop r92_10) ⟨[(0,.str P),(1,.byt L .no),(5,.int .i64 p),(6,.int .i64 l),(7,.int .i64 s),(8,.int .i64 r)],[],[]⟩):=by
 have a1:=h.kp;have a2:=h.pP;have a3:=h.rl;have a4:=h.lL;rw [run_loop]
 by_cases hl:l<L.length
 ·have e2:IntKind.i64.wrap ((p:Int)+1)=((p+1:Nat):Int):=wsucc p (by omega)
  have e3:IntKind.i64.wrap ((l:Int)+1)=((l+1:Nat):Int):=wsucc l (by omega);have e4:IntKind.i64.wrap ((r:Int)+1)=((r+1:Nat):Int):=wsucc r (by omega);have e5:IntKind.i64.wrap (s+1)=(K:Int):=by rw [hs,w64 (by omega) (by omega)];omega
  by_cases hp:p<P.length
  ·by_cases hc:P.getD p 0=42
   ·have ih:=l92 P L hP hL B (p+1) l (p+1) l p (by omega) (h.star hp hl hc)
    simp only [go_sem,Qh,Qj,Qk,reduceCtorEq,reduceIte,hl,hp,hc,e2];exact ih
   ·by_cases hq:P.getD p 0=63
    ·have ih:=l92 P L hP hL B K r (p+1) (l+1) s hs (h.step hp hl hc (.inl hq))
     simp only [go_sem,Qh,Qj,Qk,reduceCtorEq,reduceIte,hl,hp,hq,e2,e3,e4,e5];exact ih
    ·by_cases hx:P.getD p 0=L.getD l 0
     ·have ih:=l92 P L hP hL B K r (p+1) (l+1) s hs (h.step hp hl hc (.inr hx))
      have hc':¬L.getD l 0=42:=hx ▸ hc;have hq':¬L.getD l 0=63:=hx ▸ hq;simp only [go_sem,Qh,Qj,Qk,reduceCtorEq,reduceIte,hl,hp,hx,hc',hq',e2,e3,e4,e5];exact ih
     ·by_cases hk:K=0
      ·have hs0:¬0≤s:=by omega
       simp only [go_sem,Qh,Qj,Qk,reduceCtorEq,reduceIte,hl,hp,hc,hq,hx,hs0,e2,e3,e4,e5];exact .inr ⟨h.fail hk hl (fun _=>⟨hc,hq,hx⟩),rfl⟩
      ·have hs0:0≤s:=by omega
       have ih:=l92 P L hP hL B K (r+1) K (r+1) s hs (h.back (by omega) hl (fun _=>⟨hc,hq,hx⟩));simp only [go_sem,Qh,Qj,Qk,reduceCtorEq,reduceIte,hl,hp,hc,hq,hx,hs0,e2,e3,e4,e5];exact ih
  ·by_cases hk:K=0
   ·have hs0:¬0≤s:=by omega
    simp only [go_sem,Qh,Qj,Qk,reduceCtorEq,reduceIte,hl,hp,hs0,e2,e3,e4,e5];exact .inr ⟨h.fail hk hl (fun hp'=>absurd hp' hp),rfl⟩
   ·have hs0:0≤s:=by omega
    have ih:=l92 P L hP hL B K (r+1) K (r+1) s hs (h.back (by omega) hl (fun hp'=>absurd hp' hp));simp only [go_sem,Qh,Qj,Qk,reduceCtorEq,reduceIte,hl,hp,hs0,e2,e3,e4,e5];exact ih
 ·simp only [go_sem,Qh,Qj,Qk,reduceCtorEq,reduceIte,hl]
  exact .inl ⟨p,a2,h.fin (by omega),rfl⟩
termination_by (P.length-K,L.length-r,L.length-l)
decreasing_by
 all_goals first
  |(apply Prod.Lex.left;omega)
  |(apply Prod.Lex.right;apply Prod.Lex.left;omega)
  |(apply Prod.Lex.right;apply Prod.Lex.right;omega)
end
section
open Go.Glob
theorem f92 (P L:List UInt8) (hP:P.length≤1000000000000) (hL:L.length≤1000000000000):call T 92 [.str P,.byt L .no] [] 0=some ⟨.bool (gl P L),[],[]⟩:=by
 rw [call_code T_92];have h:=l92 P L hP hL (gl P L) 0 0 0 0 (-1) rfl (Inv.init P L);simp only [Int.natCast_zero]at h;rcases h with⟨q,hq,hs,h⟩|⟨hB,h⟩
 ·have hd:(P.drop q).length<9223372036854775807:=by rw [List.length_drop];omega
  have ht:=trim_all (P.drop q);rw [hs]at ht;simp only [go_sem,Q7,Qe,Qh,Qi,Qj,Qk,reduceCtorEq,reduceIte,h,hq,List.take_length,f133 _ hd,S_133,ht];cases gl P L<;>rfl
 ·simp only [go_sem,Q7,Qe,Qh,Qi,Qj,Qk,reduceCtorEq,reduceIte,h,hB]
end
section
open Go.Glob
def prn:List UInt8→Bool
 |[]=>true
 |c::r=>if c<32 then false else if 126<c then false else prn r
def chk (k:Int) (t:List UInt8) (lo hi:Int):Int:=
 if k<1 then 1 else if 4<k then 1 else if prn t then
  (if k=4 then(if lo<0 then 1 else if hi<lo then 1 else if 1000000000<hi then 1 else if 32<t.length then 4 else 0)
   else if lo=0 then(if hi=0 then(if k=1 then(if t=[]then 0 else 1)else if 32<t.length then 4 else 0)else 1)else 1)
 else 1
theorem l90 (k:Int) (t:List UInt8) (lo hi:Int) (hl:t.length≤1000000000000):∀(n i:Nat),t.length-i=n→i≤t.length→
 run T (.loop r90_10) ⟨[(1,.ptr 101 0),(15,.int .i64 t.length),(16,.int .i64 i)],[(101,.rc [.int .i64 k,.str t,.int .i64 lo,.int .i64 hi])],[]⟩=
 if prn (t.drop i)then some (.x 0,⟨[(1,.ptr 101 0)],[(101,.rc [.int .i64 k,.str t,.int .i64 lo,.int .i64 hi])],[]⟩)
 else some (.r,⟨[(2,.int .i64 1)],[(101,.rc [.int .i64 k,.str t,.int .i64 lo,.int .i64 hi])],[]⟩):=by
 intro n;induction n with
 |zero=>
  intro i h0 h1;have hi:i=t.length:=by omega
  subst hi;rw [run_loop];simp only [go_sem,Qh,Qj,Qk,reduceIte,List.drop_length,prn]
 | succ n ih=>
  intro i h0 h1;have hi:i<t.length:=by omega
  have e1:=wsucc i (by omega);have ih':=ih (i+1) (by omega) (by omega);rw [run_loop,drop_cons0 t i hi]
  by_cases h2:t.getD i 0<32
  ·simp only [go_sem,Qe,Qh,Qi,Qj,Qk,reduceIte,hi,prn,h2]
  ·by_cases h3:126<t.getD i 0
   ·simp only [go_sem,Qe,Qh,Qi,Qj,Qk,reduceIte,hi,prn,h2,h3]
   ·simp only [go_sem,Qe,Qh,Qi,Qj,Qk,reduceIte,hi,e1,prn,h2,h3,ih']
end
section
open Go.Glob
theorem len32 (t:List UInt8):((32:Int)<(t.length:Int))↔32<t.length:=by omega
set_option maxHeartbeats 4000000 in
theorem f90 (k:Int) (t:List UInt8) (lo hi:Int) (hl:t.length≤1000000000000):call T 90 [.agg [.int .i64 k,.str t,.int .i64 lo,.int .i64 hi]] [] 0=some ⟨.int .i64 (chk k t lo hi),[],[]⟩:=by
 rw [call_code T_90];have h:=l90 k t lo hi hl _ 0 rfl (by omega);simp only [Int.natCast_zero,List.drop_zero]at h;unfold chk
 by_cases c1:k<1
 ·simp only [go_sem,Qe,Qh,Qi,Qj,Qk,reduceCtorEq,reduceIte,c1]
 by_cases c2:4<k
 ·simp only [go_sem,Qe,Qh,Qi,Qj,Qk,reduceCtorEq,reduceIte,c1,c2]
 cases c3:prn t with
 |false=>simp only [go_sem,Qe,Qh,Qi,Qj,Qk,reduceCtorEq,reduceIte,h,c1,c2,c3]
 | true=>
  by_cases c4:k=4
  ·subst c4
   by_cases c5:lo<0
   ·simp only [go_sem,Q4,Q5,Qe,Qh,Qi,Qj,Qk,reduceCtorEq,reduceIte,h,c3,c5]
   by_cases c6:hi<lo
   ·simp only [go_sem,Q4,Q5,Qe,Qh,Qi,Qj,Qk,reduceCtorEq,reduceIte,h,c3,c5,c6]
   by_cases c7:1000000000<hi
   ·simp only [go_sem,Q4,Q5,Qe,Qh,Qi,Qj,Qk,reduceCtorEq,reduceIte,h,c3,c5,c6,c7]
   by_cases c8:32<t.length
   ·simp only [go_sem,Q4,Q5,Qe,Qh,Qi,Qj,Qk,reduceCtorEq,reduceIte,h,c3,c5,c6,c7,c8,len32]
   ·simp only [go_sem,Q4,Q5,Qe,Qh,Qi,Qj,Qk,reduceCtorEq,reduceIte,h,c3,c5,c6,c7,c8,len32]
  ·by_cases c5:lo=0
   ·subst c5
    by_cases c6:hi=0
    ·subst c6
     by_cases c7:k=1
     ·subst c7
      by_cases c8:t=[]
      ·subst c8
       try simp only [List.length_nil,Int.natCast_zero]at h
       simp only [go_sem,Q4,Q5,Qe,Qh,Qi,Qj,Qk,reduceCtorEq,reduceIte,h,c3,List.length_nil,Int.natCast_zero]
      ·simp only [go_sem,Q4,Q5,Qe,Qh,Qi,Qj,Qk,reduceCtorEq,reduceIte,h,c3,c8]
     ·by_cases c8:32<t.length
      ·simp only [go_sem,Q4,Qe,Qh,Qi,Qj,Qk,reduceCtorEq,reduceIte,h,c1,c2,c3,c4,c7,c8,len32]
      ·simp only [go_sem,Q4,Qe,Qh,Qi,Qj,Qk,reduceCtorEq,reduceIte,h,c1,c2,c3,c4,c7,c8,len32]
    ·simp only [go_sem,Q4,Qe,Qh,Qi,Qj,Qk,reduceCtorEq,reduceIte,h,c1,c2,c3,c4,c6]
   ·simp only [go_sem,Qe,Qh,Qi,Qj,Qk,reduceCtorEq,reduceIte,h,c1,c2,c3,c4,c5]
end
section
open Go.Glob
theorem f166 (s t:List UInt8):call T 166 [.str s,.str t] [] 0=some ⟨.bool (decide (t.length≤s.length∧s.take t.length=t)),[],[]⟩:=by
 rw [call_code T_166]
 by_cases h:t.length≤s.length
 ·by_cases h2:s.take t.length=t
  ·simp only [go_sem,Q2,Q3,Qe,Qh,Qi,Qj,Qk,reduceCtorEq,reduceIte,h,h2]
  ·simp only [go_sem,Q2,Q3,Qe,Qh,Qi,Qj,Qk,reduceCtorEq,reduceIte,h,h2]
 ·simp only [go_sem,Q2,Q3,Qe,Qh,Qi,Qj,Qk,reduceCtorEq,reduceIte,h]
theorem f134 (s t:List UInt8):call T 134 [.str s,.str t] [] 0=some ⟨if t.length≤s.length∧s.take t.length=t then .tup [.str (s.drop t.length),.bool true]else .tup [.str s,.bool false],[],[]⟩:=by
 rw [call_code T_134]
 by_cases h:t.length≤s.length∧s.take t.length=t
 ·have h1:=h.1
  simp only [go_sem,Qe,Qh,Qi,Qj,Qk,reduceCtorEq,reduceIte,f166,S_166,h,List.take_length]
 ·simp only [go_sem,Qe,Qh,Qi,Qj,Qk,reduceCtorEq,reduceIte,f166,S_166,h]
theorem f93 (s t:List UInt8):call T 93 [.str s,.str t] [] 0=some ⟨if t.length≤s.length∧s.take t.length=t then .tup [.str (s.drop t.length),.bool true]else .tup [.str s,.bool false],[],[]⟩:=by
 rw [call_code T_93]
 by_cases h:t.length≤s.length∧s.take t.length=t
 ·simp only [go_sem,Qe,Qh,Qi,Qj,Qk,reduceCtorEq,reduceIte,f134,S_134,h]
 ·simp only [go_sem,Qe,Qh,Qi,Qj,Qk,reduceCtorEq,reduceIte,f134,S_134,h]
def num:Nat→List UInt8→Nat
 |n,[]=>n
 |n,c::r=>num (n*10+(c.toNat-48)) r
def digs:List UInt8→Bool
 |[]=>true
 |c::r=>if c<48 then false else if 57<c then false else digs r
theorem dig_sub (c:UInt8) (h1:¬c<48) (h2:¬57<c):(c-48).toNat=c.toNat-48∧¬9<c-48∧c.toNat-48≤9:=by
 have h1':48≤c.toNat:=by simpa [UInt8.lt_iff_toNat_lt]using h1
 have h2':c.toNat≤57:=by simpa [UInt8.lt_iff_toNat_lt]using h2
 have e:(c-48).toNat=c.toNat-48:=UInt8.toNat_sub_of_le c 48 (by simpa [UInt8.le_iff_toNat_le]using h1');refine⟨e, ?_,by omega⟩;rw [UInt8.lt_iff_toNat_lt,e];simp;omega
def lim:Nat→Nat
 |0=>0
 |i+1=>lim i*10+9
theorem lim_le (i:Nat) (h:i≤9):lim i≤999999999:=by
 have:i=0∨i=1∨i=2∨i=3∨i=4∨i=5∨i=6∨i=7∨i=8∨i=9:=by omega
 rcases this with rfl|rfl|rfl|rfl|rfl|rfl|rfl|rfl|rfl|rfl<;>simp [lim]
theorem l167z (s0 s:List UInt8) (n:Nat):run T (.loop r167_15) ⟨[(5,.str s0),(6,.int .i64 n),(47,.byt s .no),(48,.int .i64 s.length),(49,.int .i64 s.length)],[],[]⟩=some (.x 0,⟨[(5,.str s0),(6,.int .i64 n)],[],[]⟩):=by rw [run_loop];simp only [go_sem,Qh,Qj,Qk,reduceIte]
set_option maxHeartbeats 4000000 in
theorem l167 (s0 s:List UInt8) (hl:s.length≤10):∀(m i n:Nat),s.length-i=m→i≤s.length→n≤lim i→digs (s.drop i)=true→
 run T (.loop r167_15) ⟨[(5,.str s0),(6,.int .i64 n),(47,.byt s .no),(48,.int .i64 s.length),(49,.int .i64 i)],[],[]⟩=some (.x 0,⟨[(5,.str s0),(6,.int .i64 (num n (s.drop i)))],[],[]⟩):=by
 intro m;induction m with
 |zero=>
  intro i n h0 h1 hn hd;have hi:i=s.length:=by clear hn;omega
  rw [hi,List.drop_length];exact l167z s0 s n
 |succ m ih=>
  intro i n h0 h1 hn hd;have hi:i<s.length:=by omega
  rw [drop_cons0 s i hi]at hd;simp only [digs]at hd
  by_cases h2:s.getD i 0<48
  ·rw [if_pos h2]at hd;cases hd
  rw [if_neg h2]at hd
  by_cases h3:57<s.getD i 0
  ·rw [if_pos h3]at hd;cases hd
  rw [if_neg h3]at hd;obtain⟨d1,d2,d3⟩:=dig_sub _ h2 h3;have hp:lim i≤999999999:=lim_le i (by omega);have hn':n*10+((s.getD i 0).toNat-48)≤lim (i+1):=by simp only [lim];omega
  have ih':=ih (i+1) (n*10+((s.getD i 0).toNat-48)) (by omega) (by omega) hn' hd;have e1:=wsucc i (by omega);have e2:IntKind.i64.wrap ((n:Int)*10)=((n*10:Nat):Int):=by rw [w64 (by omega) (by omega)];omega
  have e3:IntKind.i64.wrap (((n*10:Nat):Int)+(((s.getD i 0).toNat-48:Nat):Int))=((n*10+((s.getD i 0).toNat-48):Nat):Int):=by rw [w64 (by omega) (by omega)];omega
  rw [run_loop,drop_cons0 s i hi];simp only [go_sem,Qh,Qj,Qk,reduceIte,hi,e1,e2,e3,d1,d2];show _=some (Ex.x 0,CSt.mk [(5,.str s0),(6,.int .i64 ((num (n*10+((s.getD i 0).toNat-48)) (s.drop (i+1)):Nat):Int))] [] []);exact ih'
end
section
open Go.Glob
set_option maxHeartbeats 4000000 in
theorem f167 (s:List UInt8) (h0:s≠ []) (hl:s.length≤10) (hd:digs s=true):call T 167 [.str s] [] 0=some ⟨.tup [.int .i64 (num 0 s),.nili],[],[]⟩:=by
 rw [call_code T_167];have h:=l167 s s hl _ 0 0 rfl (by omega) (by simp [lim]) (by simpa using hd);simp only [Int.natCast_zero,List.drop_zero]at h;cases s with
 |nil=>exact absurd rfl h0
 |cons c r=>
  simp only [digs]at hd
  by_cases h2:c<48
  ·rw [if_pos h2]at hd;cases hd
  rw [if_neg h2]at hd
  by_cases h3:57<c
  ·rw [if_pos h3]at hd;cases hd
  have h2':48≤c.toNat:=by simpa [UInt8.lt_iff_toNat_lt]using h2
  have h4:¬c=45:=by rintro rfl;simp at h2'
  have h5:¬c=43:=by rintro rfl;simp at h2'
  have h6:(0:Int)<(((c::r).length:Nat):Int):=by rw [List.length_cons];omega
  have h7:¬(10:Int)≤(((c::r).length:Nat):Int)∨True:= .inr trivial;have h8:(((c::r).length:Nat):Int)<19:=by omega
  have h9:List.getD (c::r) 0 0=c:=rfl;generalize hs:c::r=s at*;simp only [go_sem,Q2,Q3,Qh,Qi,Qj,Qk,reduceCtorEq,reduceIte,h,h4,h5,h6,h8,h9]
theorem f135 (s:List UInt8) (h0:s≠ []) (hl:s.length≤10) (hd:digs s=true):call T 135 [.str s] [] 0=some ⟨.tup [.int .i64 (num 0 s),.nili],[],[]⟩:=by rw [call_code T_135];simp only [go_sem,Qe,Qh,Qi,Qj,Qk,reduceCtorEq,reduceIte,f167 s h0 hl hd,S_167]
def numV (s:List UInt8):Int:=if s=[]then-1 else if 10<s.length then-1 else if 1<s.length∧s.getD 0 0=48 then-1 else if digs s then(num 0 s:Nat)else-1
theorem l94 (s:List UInt8) (hl:s.length≤10):∀(m i:Nat),s.length-i=m→i≤s.length→
 run T (.loop r94_9) ⟨[(0,.str s),(24,.int .i64 s.length),(25,.int .i64 i)],[],[]⟩=if digs (s.drop i)then some (.x 0,⟨[(0,.str s)],[],[]⟩)else some (.r,⟨[(2,.int .i64 (-1))],[],[]⟩):=by
 intro m;induction m with
 |zero=>
  intro i h0 h1;have hi:i=s.length:=by omega
  subst hi;rw [run_loop];simp only [go_sem,Q7,Qh,Qj,Qk,reduceCtorEq,reduceIte,List.drop_length,digs]
 | succ m ih=>
  intro i h0 h1;have hi:i<s.length:=by omega
  have e1:=wsucc i (by omega);have ih':=ih (i+1) (by omega) (by omega);rw [run_loop,drop_cons0 s i hi]
  by_cases h2:s.getD i 0<48
  ·simp only [go_sem,Q7,Qh,Qj,Qk,reduceCtorEq,reduceIte,hi,digs,h2]
  ·by_cases h3:57<s.getD i 0
   ·simp only [go_sem,Q7,Qh,Qj,Qk,reduceCtorEq,reduceIte,hi,digs,h2,h3]
   ·simp only [go_sem,Q7,Qh,Qj,Qk,reduceCtorEq,reduceIte,hi,e1,digs,h2,h3,ih']
set_option maxHeartbeats 4000000 in
theorem f94 (s:List UInt8) (hs:s.length≤1000000000000):call T 94 [.str s] [] 0=some ⟨.int .i64 (numV s),[],[]⟩:=by
 rw [call_code T_94];unfold numV
 by_cases h1:s=[]
 ·simp only [go_sem,Q7,Qh,Qi,Qj,Qk,reduceCtorEq,reduceIte,h1]
 by_cases h2:10<s.length
 ·have h2':(10:Int)<((s.length:Nat):Int):=by omega
  simp only [go_sem,Q7,Qh,Qi,Qj,Qk,reduceCtorEq,reduceIte,h1,h2,h2']
 have h2':¬(10:Int)<((s.length:Nat):Int):=by omega
 have hp:(0:Int)<((s.length:Nat):Int):=by cases s with|nil=>exact absurd rfl h1|cons c r=>rw [List.length_cons];omega
 have h:=l94 s (by omega) _ 0 rfl (by omega);simp only [Int.natCast_zero,List.drop_zero]at h
 by_cases h3:1<s.length
 ·have h3':(1:Int)<((s.length:Nat):Int):=by omega
  by_cases h4:s.getD 0 0=48
  ·simp only [go_sem,Q2,Q3,Q7,Qh,Qi,Qj,Qk,reduceCtorEq,reduceIte,h1,h2,h2',h3,h3',h4,hp]
  ·cases hd:digs s with
   |true=>simp only [go_sem,Q2,Q3,Q7,Qe,Qh,Qi,Qj,Qk,reduceCtorEq,reduceIte,h1,h2,h2',h3,h3',h4,hp,h,hd,f135 s h1 (by omega) hd,S_135]
   |false=>simp only [go_sem,Q2,Q3,Q7,Qh,Qi,Qj,Qk,reduceCtorEq,reduceIte,h1,h2,h2',h3,h3',h4,hp,h,hd]
 ·have h3':¬(1:Int)<((s.length:Nat):Int):=by omega
  cases hd:digs s with
  |true=>simp only [go_sem,Q2,Q3,Q7,Qe,Qh,Qi,Qj,Qk,reduceCtorEq,reduceIte,h1,h2,h2',h3,h3',hp,h,hd,f135 s h1 (by omega) hd,S_135]
  |false=>simp only [go_sem,Q2,Q3,Q7,Qh,Qi,Qj,Qk,reduceCtorEq,reduceIte,h1,h2,h2',h3,h3',hp,h,hd]
end
section
open Go.Glob
def alw (k:Int) (t:List UInt8) (lo hi:Int) (b:List UInt8):Bool:=
 if chk k t lo hi=0 then
  (if k=2 then decide (b=t)else if k=3 then gl t b else if k=4 then
    (if t.length≤b.length∧b.take t.length=t then(if lo≤numV (b.drop t.length)then decide (numV (b.drop t.length)≤hi)else false)else false)
   else true)
 else false
set_option maxHeartbeats 4000000 in
theorem f53 (k:Int) (t:List UInt8) (lo hi:Int) (b:List UInt8) (ht:t.length≤1000000000000) (hb:b.length≤1000000000000):
 call T 53 [.agg [.int .i64 k,.str t,.int .i64 lo,.int .i64 hi],.byt b .no] [] 0=some ⟨.bool (alw k t lo hi b),[],[]⟩:=by
 rw [call_code T_53];have h:=f90 k t lo hi ht;unfold alw
 by_cases c0:chk k t lo hi=0
 ·by_cases c2:k=2
  ·subst c2
   by_cases c3:b=t
   ·simp only [go_sem,Q5,Qe,Qh,Qi,Qj,Qk,reduceCtorEq,reduceIte,h,S_90,c0,c3]
   ·simp only [go_sem,Q5,Qe,Qh,Qi,Qj,Qk,reduceCtorEq,reduceIte,h,S_90,c0,c3]
  by_cases c3:k=3
  ·subst c3
   simp only [go_sem,Q5,Qe,Qh,Qi,Qj,Qk,reduceCtorEq,reduceIte,h,S_90,c0,f92 t b ht hb,S_92]
  by_cases c4:k=4
  ·subst c4
   have hn:=f94 (b.drop t.length) (by rw [List.length_drop];omega)
   by_cases c5:t.length≤b.length∧b.take t.length=t
   ·by_cases c6:lo≤numV (b.drop t.length)
    ·simp only [go_sem,Q5,Qe,Qh,Qi,Qj,Qk,reduceCtorEq,reduceIte,h,S_90,c0,f93,S_93,c5,hn,S_94,c6]
    ·simp only [go_sem,Q5,Qe,Qh,Qi,Qj,Qk,reduceCtorEq,reduceIte,h,S_90,c0,f93,S_93,c5,hn,S_94,c6]
   ·simp only [go_sem,Q5,Qe,Qh,Qi,Qj,Qk,reduceCtorEq,reduceIte,h,S_90,c0,f93,S_93,c5,f94 b hb,S_94]
  ·simp only [go_sem,Qe,Qh,Qi,Qj,Qk,reduceCtorEq,reduceIte,h,S_90,c0,c2,c3,c4]
 ·simp only [go_sem,Qe,Qh,Qi,Qj,Qk,reduceCtorEq,reduceIte,h,S_90,c0]
end
section
open Go.Glob
theorem nextV_lt (B:List UInt8) (i n:Nat) (h:0<n):nextV B i n<n:=by
 unfold nextV;split
 ·exact Nat.mod_lt _ h
 ·exact h
def nx (P L:List UInt8) (k i:Nat):Nat→Bool:=fun j=>decide (j<i)&&rw1 P L (k+1) j
end
section
open Go.Glob
def lineT:Nat→List UInt8
 |0=> [97,61,49]
 |1=> [99,111,117,110,116,61,53]
 |2=> [99,111,117,110,116,61,49,55]
 |3=> [104,111,115,116,61,120]
 |4=> [109,111,100,101,32,98]
 |_=> [126]
theorem cz0:((0:Nat):Int)=0:=rfl
theorem cz1:((1:Nat):Int)=1:=rfl
theorem cz2:((2:Nat):Int)=2:=rfl
theorem cz3:((3:Nat):Int)=3:=rfl
theorem cz4:((4:Nat):Int)=4:=rfl
theorem cz5:((5:Nat):Int)=5:=rfl
theorem cz6:((6:Nat):Int)=6:=rfl
set_option maxHeartbeats 4000000 in
theorem f86 (B:List UInt8) (i:Nat) (hB:B.length≤1000):call T 86 [.ptr 0 0] [codesO B i] 0=some ⟨.byt (lineT (nextV B i 6)) .no,[(0,codesO B (nextA B i))],[]⟩:=by
 rw [call_code T_86];have g:=f37 B i 6 (by omega) (by omega);have hm:=nextV_lt B i 6 (by omega);rw [cz6]at g;generalize nextV B i 6=v at g hm;simp only [codesO]at g;have:v=0∨v=1∨v=2∨v=3∨v=4∨v=5:=by omega
 rcases this with rfl|rfl|rfl|rfl|rfl|rfl<;>simp only [cz0,cz1,cz2,cz3,cz4,cz5]at g<;>simp only [go_sem,Q2,Q3,Q4,Qe,Qg,Qh,Qi,Qj,Qk,reduceCtorEq,reduceIte,List.all_replicate,cz6,codesO,g,S_37,lineT]
end
section
open Go.Glob
def dg (d:Nat):UInt8:=UInt8.ofInt ((48+d:Nat):Int)
def dec (n:Nat):List UInt8:=if h:n<10 then [dg n]else dec (n/10)++ [dg (n % 10)]
termination_by n
decreasing_by omega
theorem dec_lt {n:Nat} (h:n<10):dec n=[dg n]:=by rw [dec,dif_pos h]
theorem dec_ge {n:Nat} (h:¬n<10):dec n=dec (n/10)++ [dg (n % 10)]:=by rw [dec,dif_neg h]
theorem dec_len:∀n,(dec n).length≤n+1:=by
 intro n;induction n using Nat.strongRecOn with
 | _ n ih=>
  by_cases h:n<10
  ·rw [dec_lt h];simp
  ·have:=ih (n/10) (by omega)
   rw [dec_ge h,List.length_append,List.length_singleton];omega
theorem dec_lenk:∀k n,n<10^(k+1)→(dec n).length≤k+1
 |0,n,h=>by rw [dec_lt (by simpa using h)];simp
 | k+1,n,h=>by
  by_cases h1:n<10
  ·rw [dec_lt h1];simp
  ·have:=dec_lenk k (n/10) (by rw [Nat.pow_succ]at h;omega)
   rw [dec_ge h1,List.length_append,List.length_singleton];omega
set_option maxHeartbeats 4000000 in
theorem f97:∀n:Nat,n≤1000000000000→call T 97 [.int .i64 n] [] 0=some ⟨.byt (dec n) (.id 60),[],[60]⟩:=by
 intro n;induction n using Nat.strongRecOn with
 | _ n ih=>
  intro hn;rw [call_code T_97]
  by_cases h:n<10
  ·have h':(n:Int)<10:=by omega
   have e1:IntKind.i64.wrap (48+(n:Int))=((48+n:Nat):Int):=by rw [w64 (by omega) (by omega)];omega
   have e2:UInt8.ofInt ((48+n:Nat):Int)=dg n:=rfl;simp only [go_sem,Qh,Qi,Qj,Qk,reduceCtorEq,reduceIte,h',e1,e2,dec_lt h]
  ·have h':¬(n:Int)<10:=by omega
   have i1:=ih (n/10) (by omega) (by omega);have e0:(n:Int).tdiv 10=((n/10:Nat):Int):=rfl;have e0':(n:Int).tmod 10=((n % 10:Nat):Int):=rfl;have e00:IntKind.i64.wrap ((n/10:Nat):Int)=((n/10:Nat):Int):=w64 (by omega) (by omega);have e1:IntKind.i64.wrap (48+((n % 10:Nat):Int))=((48+n % 10:Nat):Int):=by rw [w64 (by omega) (by omega)];omega
   have e2:UInt8.ofInt ((48+n % 10:Nat):Int)=dg (n % 10):=rfl;have hl:=dec_len (n/10);have hl2:(dec (n/10)).length+1≤140737488355328:=by omega
   simp only [go_sem,Q5,Qe,Qg,Qh,Qi,Qj,Qk,reduceCtorEq,reduceIte,h',i1,e0,e0',e00,e1,e2,hl2,S_97,dec_ge h]
end
def rr (x:Int) (n:Nat):Int:=ibits .or .u32 (x.fdiv (2^n)) (IntKind.u32.wrap (x*2^(32-n)))
theorem ibits_or_comm (k:IntKind) (x y:Int):ibits .or k x y=ibits .or k y x:=by simp only [ibits,BitVec.or_comm]
theorem f129 (x:Int) (n:Nat) (h:n≤32):call T 129 [.int .u32 x,.int .u64 n] [] 0=some ⟨.int .u32 (rr x n),[],[]⟩:=by
 rw [call_code T_129];have e:IntKind.u64.wrap (32-(n:Int))=((32-n:Nat):Int):=by rw [IntKind.wrap_u64];omega
 have e2:min n 32=n:=by omega
 have e3:min (32-n) 32=32-n:=by omega
 have e4:(0:Int)≤((32-n:Nat):Int):=by omega
 simp only [go_sem,Qe,Qh,Qi,Qj,Qk,reduceCtorEq,reduceIte,e,e2,e3,e4,rr]
theorem f142 (x k:Int) (n:Nat) (h:n≤32) (hk:ibits .and .u64 (IntKind.u64.wrap k) 31=((32-n:Nat):Int)):call T 142 [.int .u32 x,.int .i64 k] [] 0=some ⟨.int .u32 (rr x n),[],[]⟩:=by
 rw [call_code T_142];have e:IntKind.u64.wrap (32-((32-n:Nat):Int))=((n:Nat):Int):=by rw [IntKind.wrap_u64];omega
 have e2:min n 32=n:=by omega
 have e3:min (32-n) 32=32-n:=by omega
 simp only [go_sem,Qe,Qh,Qi,Qj,Qk,reduceCtorEq,reduceIte,hk,e,e2,e3,rr,ibits_or_comm]
theorem m24:min 24 32=24:=rfl
theorem m16:min 16 32=16:=rfl
theorem m8:min 8 32=8:=rfl
theorem m3:min 3 32=3:=rfl
theorem m10:min 10 32=10:=rfl
def wd (B:List UInt8) (t:Nat):Int:=
 ibits .or .u32 (ibits .or .u32 (ibits .or .u32 (IntKind.u32.wrap (((B.getD (4*t) 0).toNat:Int)*2^24)) (IntKind.u32.wrap (((B.getD (4*t+1) 0).toNat:Int)*2^16)))
  (IntKind.u32.wrap (((B.getD (4*t+2) 0).toNat:Int)*2^8))) ((B.getD (4*t+3) 0).toNat:Int)
theorem f141 (B:List UInt8) (t:Nat) (h:4*t+3<B.length) (hl:B.length≤1000000000000):call T 141 [.byt B .no,.int .i64 t] [] 0=some ⟨.int .u32 (wd B t),[],[]⟩:=by
 rw [call_code T_141];have e0:IntKind.i64.wrap (4*(t:Int))=((4*t:Nat):Int):=by rw [w64 (by omega) (by omega)];omega
 have e1:IntKind.i64.wrap (((4*t:Nat):Int)+1)=((4*t+1:Nat):Int):=by rw [w64 (by omega) (by omega)];omega
 have e2:IntKind.i64.wrap (((4*t:Nat):Int)+2)=((4*t+2:Nat):Int):=by rw [w64 (by omega) (by omega)];omega
 have e3:IntKind.i64.wrap (((4*t:Nat):Int)+3)=((4*t+3:Nat):Int):=by rw [w64 (by omega) (by omega)];omega
 have h0:4*t<B.length:=by omega
 have h1:4*t+1<B.length:=by omega
 have h2:4*t+2<B.length:=by omega
 simp only [go_sem,Q2,Q3,Qe,Qh,Qi,Qj,Qk,reduceCtorEq,reduceIte,e0,e1,e2,e3,h,h0,h1,h2,wd,m24,m16,m8]
theorem f128 (B:List UInt8) (t:Nat) (h:4*t+3<B.length) (hl:B.length≤1000000000000):call T 128 [.byt B .no,.int .i64 t] [] 0=some ⟨.int .u32 (wd B t),[],[]⟩:=by
 rw [call_code T_128];have e0:IntKind.i64.wrap (4*(t:Int))=((4*t:Nat):Int):=by rw [w64 (by omega) (by omega)];omega
 have e1:IntKind.i64.wrap (((4*t:Nat):Int)+1)=((4*t+1:Nat):Int):=by rw [w64 (by omega) (by omega)];omega
 have e2:IntKind.i64.wrap (((4*t:Nat):Int)+2)=((4*t+2:Nat):Int):=by rw [w64 (by omega) (by omega)];omega
 have e3:IntKind.i64.wrap (((4*t:Nat):Int)+3)=((4*t+3:Nat):Int):=by rw [w64 (by omega) (by omega)];omega
 have h0:4*t<B.length:=by omega
 have h1:4*t+1<B.length:=by omega
 have h2:4*t+2<B.length:=by omega
 simp only [go_sem,Q2,Q3,Qe,Qh,Qi,Qj,Qk,reduceCtorEq,reduceIte,e0,e1,e2,e3,h,h0,h1,h2,wd,m24,m16,m8]
def nw (B:List UInt8) (L:List Int) (t:Nat):Int:=
 if t<16 then wd B t else
  let x:=L.getD (t-15) 0
  let y:=L.getD (t-2) 0
  IntKind.u32.wrap (IntKind.u32.wrap (IntKind.u32.wrap (ibits .xor .u32 (ibits .xor .u32 (rr y 17) (rr y 19)) (y.fdiv (2^10))+L.getD (t-7) 0)+
   ibits .xor .u32 (ibits .xor .u32 (rr x 7) (rr x 18)) (x.fdiv (2^3)))+L.getD (t-16) 0)
def Wl (B:List UInt8):Nat→List Int
 |0=>List.replicate 64 0
 |t+1=>(Wl B t).set t (nw B (Wl B t) t)
theorem Wl_len (B:List UInt8) (t:Nat):(Wl B t).length=64:=by
 induction t with
 |zero=>simp [Wl]
 |succ n ih=>simp [Wl,ih]
def ws (L:List Int):List (List SV):=L.map fun x=> [.int .u32 x]
theorem ws_len (L:List Int):(ws L).length=L.length:=by simp [ws]
theorem ws_get (L:List Int) (i:Nat) (h:i<L.length):(ws L).getD i []=[.int .u32 (L.getD i 0)]:=by simp [ws,List.getD_eq_getElem?_getD,List.getElem?_map,List.getElem?_eq_getElem h]
theorem ws_set (L:List Int) (i:Nat) (x:Int):(ws L).set i [.int .u32 x]=ws (L.set i x):=by unfold ws;rw [List.map_set]
theorem ws_rep (n:Nat):List.replicate n [SV.int .u32 0]=ws (List.replicate n 0):=by unfold ws;rw [List.map_replicate]
set_option maxHeartbeats 4000000 in
theorem l116a (B:List UInt8) (O:SObj) (hB:B.length=64):∀(n t:Nat),64-t=n→t≤64→
 run T (.loop r116_11) ⟨[(0,.ptr 0 0),(1,.byt B .no),(4,.ptr 104 0),(17,.int .i64 t)],[(0,O),(104,.arr 1 (ws (Wl B t)))],[]⟩=
 some (.x 0,⟨[(0,.ptr 0 0),(4,.ptr 104 0)],[(0,O),(104,.arr 1 (ws (Wl B 64)))],[]⟩):=by
 have c64:((64:Nat):Int)=64:=rfl;intro n;induction n with
 |zero=>
  intro t h0 h1;have hi:t=64:=by omega
  subst hi;rw [run_loop];simp only [c64,go_sem,Q4,Q7,Qh,Qj,Qk,reduceCtorEq,reduceIte]
 | succ n ih=>
  intro t h0 h1;have ih':=ih (t+1) (by omega) (by omega);have e1:=wsucc t (by omega);have hlt:((t:Nat):Int)<64:=by omega
  have hl:=Wl_len B t;have hw:=ws_len (Wl B t);have hn:t<64:=by omega
  have hs:Wl B (t+1)=(Wl B t).set t (nw B (Wl B t) t):=rfl;rw [run_loop]
  by_cases h16:t<16
  ·have g:=f141 B t (by omega) (by omega)
   have h16':((t:Nat):Int)<16:=by omega
   have hx:nw B (Wl B t) t=wd B t:=by unfold nw;rw [if_pos h16]
   rw [hs,hx]at ih';simp only [go_sem,Q7,Qh,Qj,Qk,reduceCtorEq,reduceIte,hlt,h16',e1,g,hl,hw,S_141,hn,ws_set,ih']
  ·have h16':¬((t:Nat):Int)<16:=by omega
   have a15:IntKind.i64.wrap ((t:Int)-15)=((t-15:Nat):Int):=by rw [w64 (by omega) (by omega)];omega
   have a2:IntKind.i64.wrap ((t:Int)-2)=((t-2:Nat):Int):=by rw [w64 (by omega) (by omega)];omega
   have a7:IntKind.i64.wrap ((t:Int)-7)=((t-7:Nat):Int):=by rw [w64 (by omega) (by omega)];omega
   have a16:IntKind.i64.wrap ((t:Int)-16)=((t-16:Nat):Int):=by rw [w64 (by omega) (by omega)];omega
   have b15:t-15<64:=by omega
   have b2:t-2<64:=by omega
   have b7:t-7<64:=by omega
   have b16:t-16<64:=by omega
   have d15:=ws_get (Wl B t) (t-15) (by omega);have d2:=ws_get (Wl B t) (t-2) (by omega);have d7:=ws_get (Wl B t) (t-7) (by omega);have d16:=ws_get (Wl B t) (t-16) (by omega);have r7:=fun x=>f142 x (-7) 7 (by omega) (by decide)
   have r18:=fun x=>f142 x (-18) 18 (by omega) (by decide)
   have r17:=fun x=>f142 x (-17) 17 (by omega) (by decide)
   have r19:=fun x=>f142 x (-19) 19 (by omega) (by decide)
   rw [hs]at ih';unfold nw at ih';rw [if_neg h16]at ih';simp only [go_sem,Q2,Q3,Q7,Qb,Qc,Qd,Qh,Qj,Qk,reduceCtorEq,reduceIte,hlt,h16',e1,hl,hw,S_142,hn,a15,a2,a7,a16,b15,b2,b7,b16,d15,d2,d7,d16,r7,r18,r17,r19,ws_set,m3,m10,ih']
def Kl:List Int:=gtab2.map fun| .int _ x=>x|_=>0
theorem Kl_len:Kl.length=64:=rfl
theorem gtab2_len:gtab2.length=64:=rfl
theorem Kl_tab:gtab2=Kl.map (SV.int .u32):=rfl
theorem gt_len {t:Nat} (h:t<64):(1≤(List.drop (t*1) gtab2).length)=True:=by refine eq_true ?_;rw [List.length_drop,gtab2_len];omega
theorem gt_get {t:Nat} (h:t<64):(List.map SV.data (List.drop (t*1) gtab2)).getD 0 SV.undef= .int .u32 (Kl.getD t 0):=by
 rw [Kl_tab,List.getD_eq_getElem?_getD,List.getElem?_map,List.getElem?_drop,List.getElem?_map,Nat.mul_one,Nat.add_zero,List.getD_eq_getElem?_getD,
  List.getElem?_eq_getElem (show t<Kl.length from h)]
 rfl
def rnd (k w:Int) (s:List Int):List Int:=
 let a:=s.getD 0 0
 let e:=s.getD 4 0
 let t1:=IntKind.u32.wrap (IntKind.u32.wrap (IntKind.u32.wrap (IntKind.u32.wrap (s.getD 7 0+ibits .xor .u32 (ibits .xor .u32 (rr e 6) (rr e 11)) (rr e 25))+
  ibits .xor .u32 (ibits .and .u32 e (s.getD 5 0)) (ibits .and .u32 (ibits .xor .u32 (if IntKind.u32.signed=true then-1 else IntKind.u32.max) e) (s.getD 6 0)))+k)+w)
 let t2:=IntKind.u32.wrap (ibits .xor .u32 (ibits .xor .u32 (rr a 2) (rr a 13)) (rr a 22)+
  ibits .xor .u32 (ibits .xor .u32 (ibits .and .u32 a (s.getD 1 0)) (ibits .and .u32 a (s.getD 2 0))) (ibits .and .u32 (s.getD 1 0) (s.getD 2 0)))
 [IntKind.u32.wrap (t1+t2),a,s.getD 1 0,s.getD 2 0,IntKind.u32.wrap (s.getD 3 0+t1),e,s.getD 5 0,s.getD 6 0]
theorem ws8 (a b c d e f g h:Int):ws [a,b,c,d,e,f,g,h]=[[.int .u32 a],[.int .u32 b],[.int .u32 c],[.int .u32 d],[.int .u32 e],[.int .u32 f],[.int .u32 g],[.int .u32 h]]:=rfl
def rounds (W:List Int) (h:List Int):Nat→List Int
 |0=>h
 |t+1=>rnd (Kl.getD t 0) (W.getD t 0) (rounds W h t)
theorem rounds_len (W h:List Int) (hh:h.length=8) (t:Nat):(rounds W h t).length=8:=by
 cases t<;>simp [rounds,rnd,hh]
theorem n6 (x:Int):call T 142 [.int .u32 x,.int .i64 (-6)] [] 0=some ⟨.int .u32 (rr x 6),[],[]⟩:=f142 x (-6) 6 (by omega) (by decide)
theorem n11 (x:Int):call T 142 [.int .u32 x,.int .i64 (-11)] [] 0=some ⟨.int .u32 (rr x 11),[],[]⟩:=f142 x (-11) 11 (by omega) (by decide)
theorem n25 (x:Int):call T 142 [.int .u32 x,.int .i64 (-25)] [] 0=some ⟨.int .u32 (rr x 25),[],[]⟩:=f142 x (-25) 25 (by omega) (by decide)
theorem n2 (x:Int):call T 142 [.int .u32 x,.int .i64 (-2)] [] 0=some ⟨.int .u32 (rr x 2),[],[]⟩:=f142 x (-2) 2 (by omega) (by decide)
theorem n13 (x:Int):call T 142 [.int .u32 x,.int .i64 (-13)] [] 0=some ⟨.int .u32 (rr x 13),[],[]⟩:=f142 x (-13) 13 (by omega) (by decide)
theorem n22 (x:Int):call T 142 [.int .u32 x,.int .i64 (-22)] [] 0=some ⟨.int .u32 (rr x 22),[],[]⟩:=f142 x (-22) 22 (by omega) (by decide)
set_option maxHeartbeats 4000000 in
theorem l116b (W h:List Int) (O:SObj) (hW:W.length=64) (hh:h.length=8):∀(n t:Nat),64-t=n→t≤64→
 run T (.loop r116_21) ⟨[(0,.ptr 0 0),(4,.ptr 104 0),(10,.ptr 110 0),(70,.int .i64 t)],[(0,O),(104,.arr 1 (ws W)),(110,.arr 1 (ws (rounds W h t)))],[]⟩=
 some (.x 2,⟨[(0,.ptr 0 0),(10,.ptr 110 0)],[(0,O),(104,.arr 1 (ws W)),(110,.arr 1 (ws (rounds W h 64)))],[]⟩):=by
 have c64:((64:Nat):Int)=64:=rfl;have c8:((8:Nat):Int)=8:=rfl;intro n;induction n with
 |zero=>
  intro t h0 h1;have hi:t=64:=by omega
  subst hi;rw [run_loop];simp only [c64,go_sem,Q4,Q7,Qh,Qj,Qk,reduceCtorEq,reduceIte]
 |succ n ih=>
  intro t h0 h1;have ih':=ih (t+1) (by omega) (by omega);have e1:=wsucc t (by omega);have hlt:((t:Nat):Int)<64:=by omega
  have hn:t<64:=by omega
  have hl:=rounds_len W h hh t;have hw:=ws_len (rounds W h t);have hw2:=ws_len W;have hs:rounds W h (t+1)=rnd (Kl.getD t 0) (W.getD t 0) (rounds W h t):=rfl;rw [hs]at ih';simp only [rnd,ws8]at ih';generalize rounds W h t=s at*;have d0:=ws_get s 0 (by omega);have d1:=ws_get s 1 (by omega);have d2:=ws_get s 2 (by omega);have d3:=ws_get s 3 (by omega);have d4:=ws_get s 4 (by omega);have d5:=ws_get s 5 (by omega);have d6:=ws_get s 6 (by omega);have d7:=ws_get s 7 (by omega);have dW:=ws_get W t (by omega);have dK:=ws_get Kl t (by rw [Kl_len];exact hn);rw [run_loop];simp only [go_sem,Q2,Q3,Q4,Q7,Qb,Qc,Qd,Qe,Qg,Qh,Qi,Qj,Qk,reduceCtorEq,reduceIte,hlt,e1,hl,hw,hw2,hW,S_142,hn,d0,d1,d2,d3,d4,d5,d6,d7,dW,n6,n11,n25,n2,n13,n22,c8,c64,gtab2_len,gt_len hn,gt_get hn,ih']
def addl:List Int→List Int→List Int
 |x::l,y::r=>IntKind.u32.wrap (x+y)::addl l r
 |_,_=> []
set_option maxHeartbeats 4000000 in
theorem l116c (h s:List Int) (P:SObj) (hh:h.length=8) (hs:s.length=8):
 run T (.loop r116_27) ⟨[(0,.ptr 0 0),(10,.ptr 110 0),(152,.int .i64 0)],[(0,.arr 1 (ws h)),(104,P),(110,.arr 1 (ws s))],[]⟩=
 some (.x 4,⟨[],[(0,.arr 1 (ws (addl h s))),(104,P),(110,.arr 1 (ws s))],[]⟩):=by
 match h,hh with
 | [a0,a1,a2,a3,a4,a5,a6,a7],_=>match s,hs with
  | [b0,b1,b2,b3,b4,b5,b6,b7],_=>
   have c8:((8:Nat):Int)=8:=rfl;have k1:IntKind.i64.wrap 1=1:=rfl;have k2:IntKind.i64.wrap 2=2:=rfl;have k3:IntKind.i64.wrap 3=3:=rfl;have k4:IntKind.i64.wrap 4=4:=rfl;have k5:IntKind.i64.wrap 5=5:=rfl;have k6:IntKind.i64.wrap 6=6:=rfl;have k7:IntKind.i64.wrap 7=7:=rfl;have k8:IntKind.i64.wrap 8=8:=rfl;simp only [ws8,addl]
   iterate 9
    rw [run_loop];simp only [go_sem,Q2,Q3,Q4,Q8,Qb,Qc,Qd,Qe,Qh,Qj,Qk,reduceCtorEq,reduceIte,List.length_cons,List.length_nil,c8,k1,k2,k3,k4,k5,k6,k7,k8]
def comp (h:List Int) (B:List UInt8):List Int:=addl h (rounds (Wl B 64) h 64)
theorem addl_len (h s:List Int) (hs:h.length≤s.length):(addl h s).length=h.length:=by
 induction h generalizing s with
 |nil=>simp [addl]
 |cons x l ih=>
  cases s with
  |nil=>simp at hs
  |cons y r=>simp only [addl,List.length_cons];rw [ih r (by simpa using hs)]
theorem comp_len (h:List Int) (B:List UInt8) (hh:h.length=8):(comp h B).length=8:=by unfold comp;rw [addl_len _ _ (by rw [rounds_len _ _ hh,hh];exact Nat.le_refl 8),hh]
set_option maxHeartbeats 4000000 in
theorem f116 (h:List Int) (B:List UInt8) (hh:h.length=8) (hB:B.length=64):call T 116 [.ptr 0 0,.byt B .no] [.arr 1 (ws h)] 0=some ⟨.tup [],[(0,.arr 1 (ws (comp h B)))],[]⟩:=by
 have g1:=l116a B (.arr 1 (ws h)) hB _ 0 rfl (by omega);have g2:=l116b (Wl B 64) h (.arr 1 (ws h)) (Wl_len B 64) hh _ 0 rfl (by omega);have g3:=l116c h (rounds (Wl B 64) h 64) (.arr 1 (ws (Wl B 64))) hh (rounds_len _ _ hh 64);have hw:Wl B 0=List.replicate 64 0:=rfl;have hr:rounds (Wl B 64) h 0=h:=rfl;rw [hw,←ws_rep]at g1;rw [hr]at g2;simp only [Int.natCast_zero]at g1 g2;rw [call_code T_116]
 match h,hh with
 |[a0,a1,a2,a3,a4,a5,a6,a7],_=>simp only [ws8]at g1 g2 g3;simp only [go_sem,Qe,Qg,Qh,Qi,Qj,Qk,reduceCtorEq,reduceIte,ws8,g1,g2,g3,comp,List.flatten_cons,List.flatten_nil,List.map_cons,List.map_nil,List.cons_append,List.nil_append,SV.data,List.take_succ_cons,List.take_zero,List.length_cons,List.length_nil]
def zn (n:Nat):Nat:=(120-n % 64) % 64
set_option maxHeartbeats 4000000 in
theorem l113a (B:List UInt8):∀(n:Nat) (acc:List UInt8),zn acc.length=n→acc.length+n≤100000000000000→
 run T (.loop r113_4) ⟨[(0,.byt B .no),(3,.byt acc (.id 103))],[],[103]⟩=
 some (.x 0,⟨[(0,.byt B .no),(3,.byt (acc++List.replicate n 0) (.id 103))],[],[103]⟩):=by
 intro n;induction n with
 |zero=>
  intro acc h0 h1;have hm:acc.length % 64=56:=by unfold zn at h0;omega
  have hi:(acc.length:Int).tmod 64=56:=by rw [Int.tmod_eq_emod_of_nonneg (by omega)];omega
  rw [run_loop];simp only [go_sem,Q5,Qh,Qj,Qk,reduceCtorEq,reduceIte,hi,List.replicate_zero,List.append_nil]
 |succ n ih=>
  intro acc h0 h1;have hm:acc.length % 64≠56:=by unfold zn at h0;omega
  have hi:¬(acc.length:Int).tmod 64=56:=by rw [Int.tmod_eq_emod_of_nonneg (by omega)];omega
  have ih':=ih (acc++ [0]) (by unfold zn at*;rw [List.length_append,List.length_singleton];omega) (by rw [List.length_append,List.length_singleton];omega);have hc:acc.length+1≤140737488355328:=by omega
  rw [List.append_assoc,List.singleton_append,←List.replicate_succ]at ih';rw [run_loop];simp only [go_sem,Q5,Qe,Qh,Qi,Qj,Qk,reduceCtorEq,reduceIte,hi,hc,ih']
def byt8 (v:Int) (s:Nat):UInt8:=UInt8.ofInt (v.fdiv (2^s))
def be:Nat→Int→List UInt8
 |0,_=> []
 |k+1,v=>byt8 v (8*k)::be k v
theorem be_len (n:Nat) (v:Int):(be n v).length=n:=by induction n with
 |zero=>rfl
 |succ n ih=>simp [be,ih]
set_option maxHeartbeats 4000000 in
theorem l113b (v:Int):∀(k:Nat) (acc:List UInt8),k≤8→acc.length+k≤100000000000000→
 run T (.loop r113_10) ⟨[(3,.byt acc (.id 103)),(4,.int .u64 v),(5,.int .i64 (8*(k:Int)-8))],[],[103]⟩=
 some (.x 2,⟨[(3,.byt (acc++be k v) (.id 103))],[],[103]⟩):=by
 intro k;induction k with
 |zero=>
  intro acc hk h;rw [run_loop];have hg:¬(0:Int)≤8*((0:Nat):Int)-8:=by omega
  simp only [go_sem,Qh,Qj,Qk,reduceIte,hg,be,List.append_nil]
 |succ k ih=>
  intro acc hk h;have ih':=ih (acc++ [byt8 v (8*k)]) (by omega) (by rw [List.length_append,List.length_singleton];omega);have c1:acc.length+1≤140737488355328:=by omega
  have hg:(0:Int)≤8*((k+1:Nat):Int)-8:=by omega
  have he:IntKind.u64.wrap (8*((k+1:Nat):Int)-8)=((8*k:Nat):Int):=by rw [IntKind.wrap_u64];omega
  have hs:IntKind.i64.wrap (8*((k+1:Nat):Int)-8-8)=8*(k:Int)-8:=by rw [w64 (by omega) (by omega)];omega
  have hm:min (8*k) 64=8*k:=by omega
  rw [List.append_assoc,List.singleton_append]at ih';rw [run_loop];unfold byt8 at ih';simp only [go_sem,Qe,Qh,Qi,Qj,Qk,reduceIte,c1,hg,he,hs,hm,be,byt8,ih']
def padV (B:List UInt8):List UInt8:=B++128::(List.replicate (zn (B.length+1)) 0++be 8 (IntKind.u64.wrap (IntKind.u64.wrap B.length*8)))
theorem padV_len (B:List UInt8):(padV B).length=B.length+1+zn (B.length+1)+8:=by simp only [padV,List.length_append,List.length_cons,List.length_replicate,be_len];omega
theorem padV_mod (B:List UInt8):(padV B).length % 64=0:=by rw [padV_len];unfold zn;omega
set_option maxHeartbeats 4000000 in
theorem f113 (B:List UInt8) (h:B.length≤10000000000000):call T 113 [.byt B .no] [] 0=some ⟨.byt (padV B) .no,[],[]⟩:=by
 have hz:zn (B.length+1)<64:=by unfold zn;omega
 have g1:=l113a B _ (B++ [128]) rfl (by simp;omega);have g2:=l113b (IntKind.u64.wrap (IntKind.u64.wrap B.length*8)) 8 (B++128::List.replicate (zn (B.length+1)) 0) (by omega) (by simp;omega);have e8:8*((8:Nat):Int)-8=56:=rfl;rw [e8]at g2;rw [call_code T_113];have e:IntKind.i64.wrap ((B.length:Int)+72)=((B.length+72:Nat):Int):=by rw [w64 (by omega) (by omega)];omega
 have c2:((B.length+72:Nat):Int)≤140737488355328:=by omega
 have c3:B.length≤140737488355328:=by omega
 have c4:B.length+1≤140737488355328:=by omega
 simp only [go_sem,Q2,Q3,Qe,Qh,Qi,Qj,Qk,reduceCtorEq,reduceIte,e,g1,g2,c2,c3,c4,padV]
set_option maxHeartbeats 4000000 in
theorem l127a (B:List UInt8):∀(n:Nat) (acc:List UInt8),zn acc.length=n→acc.length+n≤100000000000000→
 run T (.loop r127_4) ⟨[(0,.byt B .no),(3,.byt acc (.id 103))],[],[103]⟩=
 some (.x 0,⟨[(0,.byt B .no),(3,.byt (acc++List.replicate n 0) (.id 103))],[],[103]⟩):=by
 intro n;induction n with
 |zero=>
  intro acc h0 h1;have hm:acc.length % 64=56:=by unfold zn at h0;omega
  have hi:(acc.length:Int).tmod 64=56:=by rw [Int.tmod_eq_emod_of_nonneg (by omega)];omega
  rw [run_loop];simp only [go_sem,Q5,Qh,Qj,Qk,reduceCtorEq,reduceIte,hi,List.replicate_zero,List.append_nil]
 |succ n ih=>
  intro acc h0 h1;have hm:acc.length % 64≠56:=by unfold zn at h0;omega
  have hi:¬(acc.length:Int).tmod 64=56:=by rw [Int.tmod_eq_emod_of_nonneg (by omega)];omega
  have ih':=ih (acc++ [0]) (by unfold zn at*;rw [List.length_append,List.length_singleton];omega) (by rw [List.length_append,List.length_singleton];omega);have hc:acc.length+1≤140737488355328:=by omega
  rw [List.append_assoc,List.singleton_append,←List.replicate_succ]at ih';rw [run_loop];simp only [go_sem,Q5,Qe,Qh,Qi,Qj,Qk,reduceCtorEq,reduceIte,hi,hc,ih']
set_option maxHeartbeats 4000000 in
theorem l127b (v:Int):∀(k:Nat) (acc:List UInt8),k≤8→acc.length+k≤100000000000000→
 run T (.loop r127_10) ⟨[(3,.byt acc (.id 103)),(4,.int .u64 v),(5,.int .i64 ((k:Int)-1))],[],[103]⟩=
 some (.x 2,⟨[(3,.byt (acc++be k v) (.id 103))],[],[103]⟩):=by
 intro k;induction k with
 |zero=>
  intro acc hk h;rw [run_loop];have hg:¬(0:Int)≤((0:Nat):Int)-1:=by omega
  simp only [go_sem,Qh,Qj,Qk,reduceIte,hg,be,List.append_nil]
 |succ k ih=>
  intro acc hk h;have ih':=ih (acc++ [byt8 v (8*k)]) (by omega) (by rw [List.length_append,List.length_singleton];omega);have c1:acc.length+1≤140737488355328:=by omega
  have hg:(0:Int)≤((k+1:Nat):Int)-1:=by omega
  have he:IntKind.u64.wrap (((k+1:Nat):Int)-1)=((k:Nat):Int):=by rw [IntKind.wrap_u64];omega
  have he2:IntKind.u64.wrap (8*(k:Int))=((8*k:Nat):Int):=by rw [IntKind.wrap_u64];omega
  have hs:IntKind.i64.wrap (((k+1:Nat):Int)-1-1)=(k:Int)-1:=by rw [w64 (by omega) (by omega)];omega
  have hm:min (8*k) 64=8*k:=by omega
  rw [List.append_assoc,List.singleton_append]at ih';rw [run_loop];unfold byt8 at ih';simp only [go_sem,Qe,Qh,Qi,Qj,Qk,reduceIte,c1,hg,he,he2,hs,hm,be,byt8,ih']
set_option maxHeartbeats 4000000 in
theorem f127 (B:List UInt8) (h:B.length≤10000000000000):call T 127 [.byt B .no] [] 0=some ⟨.byt (padV B) .no,[],[]⟩:=by
 have hz:zn (B.length+1)<64:=by unfold zn;omega
 have g1:=l127a B _ (B++ [128]) rfl (by simp;omega);have g2:=l127b (IntKind.u64.wrap (IntKind.u64.wrap B.length*8)) 8 (B++128::List.replicate (zn (B.length+1)) 0) (by omega) (by simp;omega);have e8:((8:Nat):Int)-1=7:=rfl;rw [e8]at g2;rw [call_code T_127];have c3:B.length≤140737488355328:=by omega
 have c4:B.length+1≤140737488355328:=by omega
 simp only [go_sem,Qe,Qh,Qi,Qj,Qk,reduceCtorEq,reduceIte,g1,g2,c3,c4,padV]
def w4 (x:Int):List UInt8:=[byt8 x 24,byt8 x 16,byt8 x 8,UInt8.ofInt x]
def sp (h:List Int):List UInt8:=h.flatMap w4
theorem sp_len (h:List Int):(sp h).length=4*h.length:=by
 induction h with
 |nil=>rfl
 |cons x l ih=>simp only [sp,List.flatMap_cons,List.length_append,w4,List.length_cons,List.length_nil]at*;omega
theorem d0 (h:List Int) (i:Nat) (hi:i<h.length):h.drop i=h.getD i 0::h.drop (i+1):=drop_cons h i hi
set_option maxHeartbeats 4000000 in
theorem l115 (h:List Int) (hh:h.length≤1000000000000):∀(n i:Nat) (acc:List UInt8),h.length-i=n→i≤h.length→acc.length=4*i→
 run T (.loop r115_7) ⟨[(3,.byt acc (.id 103)),(10,.lst 1 (ws h) .no),(11,.int .i64 h.length),(12,.int .i64 i)],[],[103]⟩=
 some (.x 0,⟨[(3,.byt (acc++sp (h.drop i)) (.id 103))],[],[103]⟩):=by
 intro n;induction n with
 |zero=>
  intro i acc h0 h1 ha;have hi:i=h.length:=by omega
  subst hi;rw [run_loop];simp only [go_sem,Qh,Qj,Qk,reduceIte,List.drop_length,sp,List.flatMap_nil,List.append_nil]
 |succ n ih=>
  intro i acc h0 h1 ha;have hi:i<h.length:=by omega
  have e1:=wsucc i (by omega);have ih':=ih (i+1) (acc++w4 (h.getD i 0)) (by omega) (by omega) (by simp [w4];omega);have hg:=ws_get h i hi;have hl:=ws_len h;have c1:acc.length+4≤140737488355328:=by omega
  rw [run_loop];rw [List.append_assoc]at ih';simp only [w4,byt8]at ih';simp only [go_sem,Q2,Q3,Qe,Qh,Qi,Qj,Qk,reduceCtorEq,reduceIte,hi,hg,hl,e1,c1,m24,m16,m8,ih',d0 h i hi,sp,List.flatMap_cons,w4,byt8]
theorem f115 (h:List Int) (hh:h.length≤1000000000000):call T 115 [.lst 1 (ws h) .no] [] 0=some ⟨.byt (sp h) .no,[],[]⟩:=by
 have g:=l115 h hh _ 0 [] rfl (by omega) rfl;have hl:=ws_len h;rw [call_code T_115];have e:IntKind.i64.wrap (4*(h.length:Int))=((4*h.length:Nat):Int):=by rw [w64 (by omega) (by omega)];omega
 have c2:((4*h.length:Nat):Int)≤140737488355328:=by omega
 simp only [Int.natCast_zero,List.drop_zero,List.nil_append]at g;simp only [go_sem,Q2,Q3,Qe,Qh,Qi,Qj,Qk,reduceCtorEq,reduceIte,e,hl,c2,g]
set_option maxHeartbeats 4000000 in
theorem l130 (h:List Int) (hh:h.length≤1000000000000):∀(n i:Nat) (acc:List UInt8),h.length-i=n→i≤h.length→acc.length=4*i→
 run T (.loop r130_6) ⟨[(0,.lst 1 (ws h) .no),(3,.byt acc (.id 103)),(4,.int .i64 i)],[],[103]⟩=
 some (.x 0,⟨[(3,.byt (acc++sp (h.drop i)) (.id 103))],[],[103]⟩):=by
 intro n;induction n with
 |zero=>
  intro i acc h0 h1 ha;have hi:i=h.length:=by omega
  have hl:=ws_len h;subst hi;rw [run_loop];simp only [go_sem,Qh,Qj,Qk,reduceCtorEq,reduceIte,hl,List.drop_length,sp,List.flatMap_nil,List.append_nil]
 |succ n ih=>
  intro i acc h0 h1 ha;have hi:i<h.length:=by omega
  have e1:=wsucc i (by omega);have ih':=ih (i+1) (acc++w4 (h.getD i 0)) (by omega) (by omega) (by simp [w4];omega);have hg:=ws_get h i hi;have hl:=ws_len h;have c1:acc.length+4≤140737488355328:=by omega
  rw [run_loop];rw [List.append_assoc]at ih';simp only [w4,byt8]at ih';simp only [go_sem,Q2,Q3,Qb,Qc,Qd,Qe,Qh,Qi,Qj,Qk,reduceCtorEq,reduceIte,hi,hg,hl,e1,c1,m24,m16,m8,ih',d0 h i hi,sp,List.flatMap_cons,w4,byt8]
theorem f130 (h:List Int) (hh:h.length≤1000000000000):call T 130 [.lst 1 (ws h) .no] [] 0=some ⟨.byt (sp h) .no,[],[]⟩:=by have g:=l130 h hh _ 0 [] rfl (by omega) rfl;have hl:=ws_len h;rw [call_code T_130];simp only [Int.natCast_zero,List.drop_zero,List.nil_append]at g;simp only [go_sem,Qh,Qi,Qj,Qk,reduceCtorEq,reduceIte,g]
def blocks (h:List Int) (X:List UInt8):Nat→List Int
 |0=>h
 |n+1=>blocks (comp h (X.take 64)) (X.drop 64) n
theorem blocks_len (n:Nat):∀(h:List Int) (X:List UInt8),h.length=8→(blocks h X n).length=8:=by
 induction n with
 |zero=>intro h X hh;exact hh
 |succ n ih=>intro h X hh;exact ih _ _ (comp_len h _ hh)
def H0:List Int:=[1779033703,3144134277,1013904242,2773480762,1359893119,2600822924,528734635,1541459225]
def sha (B:List UInt8):List UInt8:=sp (blocks H0 (padV B) ((padV B).length/64))
theorem sha_len (B:List UInt8):(sha B).length=32:=by unfold sha;rw [sp_len,blocks_len _ _ _ rfl]
set_option maxHeartbeats 4000000 in
theorem l69:∀(n:Nat) (h:List Int) (X:List UInt8),h.length=8→X.length=64*n→X.length≤1000000000000→
 run T (.loop r69_16) ⟨[(7,.ptr 107 0),(8,.byt X .no)],[(107,.arr 1 (ws h))],[]⟩=
 some (.x 3,⟨[(7,.ptr 107 0)],[(107,.arr 1 (ws (blocks h X n)))],[]⟩):=by
 intro n;induction n with
 |zero=>
  intro h X hh hX hl;rw [run_loop];have h0:¬(0:Int)<X.length:=by omega
  simp only [go_sem,Qh,Qj,Qk,reduceIte,h0,blocks]
 |succ n ih=>
  intro h X hh hX hl;have ih':=ih (comp h (X.take 64)) (X.drop 64) (comp_len h _ hh) (by rw [List.length_drop];omega) (by rw [List.length_drop];omega);have g:=f116 h (X.take 64) hh (by rw [List.length_take];omega);have h1:(0:Int)<X.length:=by omega
  have h2:(64:Int)≤X.length:=by omega
  have h3:64≤X.length:=by omega
  rw [run_loop];simp only [go_sem,Q2,Q3,Qe,Qg,Qh,Qi,Qj,Qk,reduceIte,h1,h2,g,S_116,List.take_length,ih',blocks]
set_option maxHeartbeats 4000000 in
theorem f69 (B:List UInt8) (hB:B.length≤100000000000):call T 69 [.int .i64 1,.byt B .no] [] 0=some ⟨.byt (sha B) .no,[],[]⟩:=by
 have g0:=f113 B (by omega);have hl:=padV_len B;have hz:zn (B.length+1)<64:=by unfold zn;omega
 have hm:=padV_mod B;have g1:=l69 ((padV B).length/64) H0 (padV B) rfl (by omega) (by omega);have hb:=blocks_len ((padV B).length/64) H0 (padV B) rfl;have g2:=f115 (blocks H0 (padV B) ((padV B).length/64)) (by omega);have c8:((8:Nat):Int)=8:=rfl;have hw:=ws_len (blocks H0 (padV B) ((padV B).length/64));have hH:ws H0=[[.int .u32 1779033703],[.int .u32 3144134277],[.int .u32 1013904242],[.int .u32 2773480762],[.int .u32 1359893119],[.int .u32 2600822924],[.int .u32 528734635],[.int .u32 1541459225]]:=rfl;rw [hH]at g1;rw [call_code T_69];unfold sha;generalize blocks H0 (padV B) ((padV B).length/64)=b at*;have ht:List.take 8 (ws b)=ws b:=List.take_of_length_le (by rw [hw,hb];exact Nat.le_refl 8);simp only [go_sem,Q2,Q3,Q5,Qe,Qf,Qg,Qh,Qi,Qj,Qk,reduceCtorEq,reduceIte,g0,g1,g2,S_113,S_115,hw,hb,c8,ht]
theorem f126:call T 126 [] [] 0=some ⟨.agg gtab2,[],[]⟩:=by rw [call_code T_126];simp only [go_sem,Qe,Qg,Qi,Qj,Qk,reduceCtorEq,reduceIte];rfl
def bk (X:List UInt8) (a:Nat):List UInt8:=List.drop a (List.take (a+64) X)
theorem bk_len (X:List UInt8) (a:Nat) (h:a+64≤X.length):(bk X a).length=64:=by unfold bk;rw [List.length_drop,List.length_take];omega
theorem bk_eq (X:List UInt8) (a:Nat):bk X a=(X.drop a).take 64:=by unfold bk;rw [List.drop_take];congr 1;omega
theorem rq7 (x:Int):call T 129 [.int .u32 x,.int .u64 7] [] 0=some ⟨.int .u32 (rr x 7),[],[]⟩:=f129 x 7 (by omega)
theorem rq18 (x:Int):call T 129 [.int .u32 x,.int .u64 18] [] 0=some ⟨.int .u32 (rr x 18),[],[]⟩:=f129 x 18 (by omega)
theorem rq17 (x:Int):call T 129 [.int .u32 x,.int .u64 17] [] 0=some ⟨.int .u32 (rr x 17),[],[]⟩:=f129 x 17 (by omega)
theorem rq19 (x:Int):call T 129 [.int .u32 x,.int .u64 19] [] 0=some ⟨.int .u32 (rr x 19),[],[]⟩:=f129 x 19 (by omega)
theorem rq6 (x:Int):call T 129 [.int .u32 x,.int .u64 6] [] 0=some ⟨.int .u32 (rr x 6),[],[]⟩:=f129 x 6 (by omega)
theorem rq11 (x:Int):call T 129 [.int .u32 x,.int .u64 11] [] 0=some ⟨.int .u32 (rr x 11),[],[]⟩:=f129 x 11 (by omega)
theorem rq25 (x:Int):call T 129 [.int .u32 x,.int .u64 25] [] 0=some ⟨.int .u32 (rr x 25),[],[]⟩:=f129 x 25 (by omega)
theorem rq2 (x:Int):call T 129 [.int .u32 x,.int .u64 2] [] 0=some ⟨.int .u32 (rr x 2),[],[]⟩:=f129 x 2 (by omega)
theorem rq13 (x:Int):call T 129 [.int .u32 x,.int .u64 13] [] 0=some ⟨.int .u32 (rr x 13),[],[]⟩:=f129 x 13 (by omega)
theorem rq22 (x:Int):call T 129 [.int .u32 x,.int .u64 22] [] 0=some ⟨.int .u32 (rr x 22),[],[]⟩:=f129 x 22 (by omega)
set_option maxHeartbeats 4000000 in
theorem l80a (X:List UInt8) (a:Nat) (h:List Int) (ha:a+64≤X.length) (hX:X.length≤1000000000000):∀(n t:Nat),64-t=n→t≤64→
 run T (.loop r80_15) ⟨[(3,.ptr 103 0),(4,.psl 119 1 0 8 (some 8)),(5,.byt X .no),(6,.int .i64 a),(7,.ptr 107 0),(8,.int .i64 t)],[(103,.arr 1 (ws Kl)),(107,.arr 1 (ws (Wl (bk X a) t))),(119,.arr 1 (ws h))],[]⟩=
 some (.x 2,⟨[(3,.ptr 103 0),(4,.psl 119 1 0 8 (some 8)),(5,.byt X .no),(6,.int .i64 a),(7,.ptr 107 0)],[(103,.arr 1 (ws Kl)),(107,.arr 1 (ws (Wl (bk X a) 64))),(119,.arr 1 (ws h))],[]⟩):=by
 have c64:((64:Nat):Int)=64:=rfl;intro n;induction n with
 |zero=>
  intro t h0 h1;have hi:t=64:=by omega
  subst hi;rw [run_loop];simp only [c64,go_sem,Q4,Qh,Qj,Qk,reduceIte]
 | succ n ih=>
  intro t h0 h1;have ih':=ih (t+1) (by omega) (by omega);have e1:=wsucc t (by omega);have hlt:((t:Nat):Int)<64:=by omega
  have hl:=Wl_len (bk X a) t;have hw:=ws_len (Wl (bk X a) t);have hn:t<64:=by omega
  have hs:Wl (bk X a) (t+1)=(Wl (bk X a) t).set t (nw (bk X a) (Wl (bk X a) t) t):=rfl;have a1:IntKind.i64.wrap ((a:Int)+64)=((a+64:Nat):Int):=by rw [w64 (by omega) (by omega)];omega
  have a3:a≤a+64:=by omega
  rw [run_loop]
  by_cases h16:t<16
  ·have g:=f128 (bk X a) t (by rw [bk_len X a ha];omega) (by rw [bk_len X a ha];omega)
   have h16':((t:Nat):Int)<16:=by omega
   have hx:nw (bk X a) (Wl (bk X a) t) t=wd (bk X a) t:=by unfold nw;rw [if_pos h16]
   rw [hs,hx]at ih';generalize hb:Wl (bk X a) t=L at*;generalize hc:wd (bk X a) t=z at*;unfold bk at g;simp only [go_sem,Qh,Qj,Qk,reduceIte,hlt,h16',e1,a1,ha,a3,g,hl,hw,S_128,hn,ws_set,ih']
  ·have h16':¬((t:Nat):Int)<16:=by omega
   have a15:IntKind.i64.wrap ((t:Int)-15)=((t-15:Nat):Int):=by rw [w64 (by omega) (by omega)];omega
   have a2:IntKind.i64.wrap ((t:Int)-2)=((t-2:Nat):Int):=by rw [w64 (by omega) (by omega)];omega
   have a7:IntKind.i64.wrap ((t:Int)-7)=((t-7:Nat):Int):=by rw [w64 (by omega) (by omega)];omega
   have a16:IntKind.i64.wrap ((t:Int)-16)=((t-16:Nat):Int):=by rw [w64 (by omega) (by omega)];omega
   have b15:t-15<64:=by omega
   have b2:t-2<64:=by omega
   have b7:t-7<64:=by omega
   have b16:t-16<64:=by omega
   rw [hs]at ih';unfold nw at ih';rw [if_neg h16]at ih';generalize hb:Wl (bk X a) t=L at*;have d15:=ws_get L (t-15) (by omega);have d2:=ws_get L (t-2) (by omega);have d7:=ws_get L (t-7) (by omega);have d16:=ws_get L (t-16) (by omega);simp only [go_sem,Q2,Q3,Qb,Qc,Qd,Qh,Qj,Qk,reduceCtorEq,reduceIte,hlt,h16',e1,hl,hw,S_129,hn,a15,a2,a7,a16,b15,b2,b7,b16,d15,d2,d7,d16,rq7,rq18,rq17,rq19,ws_set,m3,m10,ih']
set_option maxHeartbeats 4000000 in
theorem l80b (X:List UInt8) (a:Nat) (W h:List Int) (O:SObj) (hW:W.length=64) (hh:h.length=8):∀(n t:Nat) (q:Tok),64-t=n→t≤64→
 run T (.loop r80_24) ⟨[(3,.ptr 103 0),(4,.psl 119 1 0 8 (some 8)),(5,.byt X .no),(6,.int .i64 a),(7,.ptr 107 0),(11,.lst 1 (ws (rounds W h t)) q),(12,.int .i64 t)],[(103,.arr 1 (ws Kl)),(107,.arr 1 (ws W)),(119,O)],[194]⟩=
 some (.x 4,⟨[(3,.ptr 103 0),(4,.psl 119 1 0 8 (some 8)),(5,.byt X .no),(6,.int .i64 a),(11,.lst 1 (ws (rounds W h 64)) (if t=64 then q else .clip))],[(103,.arr 1 (ws Kl)),(107,.arr 1 (ws W)),(119,O)],[194]⟩):=by
 have c64:((64:Nat):Int)=64:=rfl;have c8:((8:Nat):Int)=8:=rfl;intro n;induction n with
 |zero=>
  intro t q h0 h1;have hi:t=64:=by omega
  subst hi;rw [run_loop];simp only [c64,go_sem,Q4,Qh,Qj,Qk,reduceIte]
 |succ n ih=>
  intro t q h0 h1;have ih':=ih (t+1) .clip (by omega) (by omega);have e1:=wsucc t (by omega);have hlt:((t:Nat):Int)<64:=by omega
  have hn:t<64:=by omega
  have hn2:t≠64:=by omega
  have hl:=rounds_len W h hh t;have hw:=ws_len (rounds W h t);have hw2:=ws_len W;have hw3:=ws_len Kl;have hk:=Kl_len;have hs:rounds W h (t+1)=rnd (Kl.getD t 0) (W.getD t 0) (rounds W h t):=rfl;rw [hs]at ih';simp only [rnd,ws8]at ih';rw [ite_self]at ih';generalize rounds W h t=s at*;have d0:=ws_get s 0 (by omega);have d1:=ws_get s 1 (by omega);have d2:=ws_get s 2 (by omega);have d3:=ws_get s 3 (by omega);have d4:=ws_get s 4 (by omega);have d5:=ws_get s 5 (by omega);have d6:=ws_get s 6 (by omega);have d7:=ws_get s 7 (by omega);have dW:=ws_get W t (by omega);have dK:=ws_get Kl t (by rw [Kl_len];exact hn);rw [run_loop];simp only [go_sem,Q2,Q3,Q4,Q7,Qb,Qc,Qd,Qh,Qj,Qk,reduceCtorEq,reduceIte,hlt,e1,hl,hw,hw2,hw3,hk,hW,S_129,hn,hn2,d0,d1,d2,d3,d4,d5,d6,d7,dW,dK,rq6,rq11,rq25,rq2,rq13,rq22,c8,c64,ih']
set_option maxHeartbeats 4000000 in
theorem l80c (X:List UInt8) (a:Nat) (h s:List Int) (P Q:SObj) (hh:h.length=8) (hs:s.length=8):
 run T (.loop r80_29) ⟨[(3,.ptr 103 0),(4,.psl 119 1 0 8 (some 8)),(5,.byt X .no),(6,.int .i64 a),(11,.lst 1 (ws s) .clip),(17,.int .i64 0)],[(103,P),(107,Q),(119,.arr 1 (ws h))],[194]⟩=
 some (.x 6,⟨[(3,.ptr 103 0),(4,.psl 119 1 0 8 (some 8)),(5,.byt X .no),(6,.int .i64 a)],[(103,P),(107,Q),(119,.arr 1 (ws (addl h s)))],[194]⟩):=by
 match h,hh with
 | [a0,a1,a2,a3,a4,a5,a6,a7],_=>match s,hs with
  | [b0,b1,b2,b3,b4,b5,b6,b7],_=>
   have c8:((8:Nat):Int)=8:=rfl;have k1:IntKind.i64.wrap 1=1:=rfl;have k2:IntKind.i64.wrap 2=2:=rfl;have k3:IntKind.i64.wrap 3=3:=rfl;have k4:IntKind.i64.wrap 4=4:=rfl;have k5:IntKind.i64.wrap 5=5:=rfl;have k6:IntKind.i64.wrap 6=6:=rfl;have k7:IntKind.i64.wrap 7=7:=rfl;have k8:IntKind.i64.wrap 8=8:=rfl;simp only [ws8,addl]
   iterate 9
    rw [run_loop];simp only [go_sem,Q2,Q3,Q4,Q8,Qb,Qc,Qd,Qe,Qh,Qj,Qk,reduceIte,List.length_cons,List.length_nil,c8,k1,k2,k3,k4,k5,k6,k7,k8]
set_option maxHeartbeats 4000000 in
theorem l80 (X:List UInt8) (hX:X.length≤1000000000000):∀(n a:Nat) (h:List Int),h.length=8→X.length=a+64*n→
 run T (.loop r80_31) ⟨[(3,.ptr 103 0),(4,.psl 119 1 0 8 (some 8)),(5,.byt X .no),(6,.int .i64 a)],[(103,.arr 1 (ws Kl)),(119,.arr 1 (ws h))],[]⟩=
 some (.x 0,⟨[(4,.psl 119 1 0 8 (some 8))],[(103,.arr 1 (ws Kl)),(119,.arr 1 (ws (blocks h (X.drop a) n)))],[]⟩):=by
 intro n;induction n with
 |zero=>
  intro a h hh hl;rw [run_loop];have h0:¬(a:Int)<X.length:=by omega
  simp only [go_sem,Qh,Qj,Qk,reduceIte,h0,blocks]
 | succ n ih=>
  intro a h hh hl;have ih':=ih (a+64) (comp h (bk X a)) (comp_len h _ hh) (by omega);have h0:(a:Int)<X.length:=by omega
  have a1:IntKind.i64.wrap ((a:Int)+64)=((a+64:Nat):Int):=by rw [w64 (by omega) (by omega)];omega
  have g1:=l80a X a h (by omega) hX _ 0 rfl (by omega);have g2:=l80b X a (Wl (bk X a) 64) h (.arr 1 (ws h)) (Wl_len _ 64) hh _ 0 (.id 194) rfl (by omega);have g3:=l80c X a h (rounds (Wl (bk X a) 64) h 64) (.arr 1 (ws Kl)) (.arr 1 (ws (Wl (bk X a) 64))) hh (rounds_len _ _ hh 64);have hw:Wl (bk X a) 0=List.replicate 64 0:=rfl;have hr:rounds (Wl (bk X a) 64) h 0=h:=rfl;have hz:¬(0:Nat)=64:=by omega
  have hwl:=ws_len h;rw [hw,←ws_rep]at g1;rw [hr,if_neg hz]at g2;simp only [Int.natCast_zero]at g1 g2
  have hbl:blocks h (X.drop a) (n+1)=blocks (comp h (bk X a)) (X.drop (a+64)) n:=by rw [blocks,bk_eq,List.drop_drop]
  rw [hbl,run_loop];unfold comp at ih' ⊢;have ht:List.take 8 (ws h)=ws h:=List.take_of_length_le (by rw [hwl,hh];exact Nat.le_refl 8);simp only [go_sem,Qe,Qg,Qh,Qi,Qj,Qk,reduceCtorEq,reduceIte,h0,a1,g1,g2,g3,hwl,hh,ht,ih']
  trace_state
attribute [-go_sem] chunk
set_option maxHeartbeats 4000000 in
theorem f80 (B:List UInt8) (hB:B.length≤100000000000):call T 80 [.byt B .no] [] 0=some ⟨.byt (sha B) .no,[],[]⟩:=by
 have g1:=f126;have g0:=f127 B (by omega);have ck:chunk 1 64 (List.map SV.data gtab2)=ws Kl:=rfl;have i3:gtab2.all SV.isData=true:=rfl;have i4:=gtab2_len;have pg:SV.purgeL 103 104 gtab2=gtab2:=rfl;have i1:SV.idsL gtab2=[]:=rfl;have i2:SV.toksL gtab2=[]:=rfl;have hl:=padV_len B;have hz:zn (B.length+1)<64:=by unfold zn;omega
 have hm:=padV_mod B;have g3:=l80 (padV B) (by omega) ((padV B).length/64) 0 H0 rfl (by omega);have hb:=blocks_len ((padV B).length/64) H0 (padV B) rfl;have g2:=f130 (blocks H0 (padV B) ((padV B).length/64)) (by omega);have c8:((8:Nat):Int)=8:=rfl;have hw:=ws_len (blocks H0 (padV B) ((padV B).length/64));have hH:ws H0=[[.int .u32 1779033703],[.int .u32 3144134277],[.int .u32 1013904242],[.int .u32 2773480762],[.int .u32 1359893119],[.int .u32 2600822924],[.int .u32 528734635],[.int .u32 1541459225]]:=rfl;rw [hH]at g3;simp only [Int.natCast_zero,List.drop_zero]at g3;unfold sha;generalize blocks H0 (padV B) ((padV B).length/64)=b at*;have ht:List.take 8 (ws b)=ws b:=List.take_of_length_le (by rw [hw,hb];exact Nat.le_refl 8);rw [call_code T_80];simp only [go_sem,Qe,Qg,Qh,Qi,Qj,Qk,reduceCtorEq,reduceIte,g1,g0,S_127,S_126,i1,i2,List.isEmpty,ck,i3,i4,pg,g2,g3,S_130,hw,hb,ht]
attribute [go_sem] chunk
set_option maxHeartbeats 4000000 in
theorem l117 (v:Int):∀(k:Nat) (acc:List UInt8),k≤8→acc.length+k≤100000000000000→
 run T (.loop r117_8) ⟨[(2,.int .i64 v),(7,.byt acc (.id 107)),(8,.int .i64 ((k:Int)-1))],[],[107]⟩=
 some (.x 0,⟨[(7,.byt (acc++be k (IntKind.u64.wrap v)) (.id 107))],[],[107]⟩):=by
 intro k;induction k with
 |zero=>
  intro acc hk h;rw [run_loop];have hg:¬(0:Int)≤((0:Nat):Int)-1:=by omega
  simp only [go_sem,Qh,Qj,Qk,reduceIte,hg,be,List.append_nil]
 |succ k ih=>
  intro acc hk h;have ih':=ih (acc++ [byt8 (IntKind.u64.wrap v) (8*k)]) (by omega) (by rw [List.length_append,List.length_singleton];omega);have c1:acc.length+1≤140737488355328:=by omega
  have hg:(0:Int)≤((k+1:Nat):Int)-1:=by omega
  have he:IntKind.u64.wrap (((k+1:Nat):Int)-1)=((k:Nat):Int):=by rw [IntKind.wrap_u64];omega
  have he2:IntKind.i64.wrap (8*(((k+1:Nat):Int)-1))=((8*k:Nat):Int):=by rw [w64 (by omega) (by omega)];omega
  have he3:IntKind.u64.wrap (((8*k:Nat):Int))=((8*k:Nat):Int):=by rw [IntKind.wrap_u64];omega
  have he4:IntKind.u64.wrap (8*(k:Int))=((8*k:Nat):Int):=by rw [IntKind.wrap_u64];omega
  have hs:IntKind.i64.wrap (((k+1:Nat):Int)-1-1)=(k:Int)-1:=by rw [w64 (by omega) (by omega)];omega
  have hm:min (8*k) 64=8*k:=by omega
  rw [List.append_assoc,List.singleton_append]at ih';rw [run_loop];unfold byt8 at ih';simp only [go_sem,Qe,Qh,Qi,Qj,Qk,reduceIte,c1,hg,he2,he3,hs,hm,be,byt8,ih']
theorem f117 (B:List UInt8) (k:Nat) (v:Int) (h1:1≤k) (h8:k≤8) (hB:B.length≤10000000000000):
 call T 117 [.byt B .no,.int .i64 k,.int .i64 v] [] 0=some ⟨.byt (B++be k (IntKind.u64.wrap v)) (.id 60),[],[60]⟩:=by
 have g:=l117 v k B h8 (by omega);have c1:¬(k:Int)<1:=by omega
 have c2:¬(8:Int)<k:=by omega
 have c3:IntKind.i64.wrap ((k:Int)-1)=(k:Int)-1:=w64 (by omega) (by omega);have c4:B.length≤140737488355328:=by omega
 rw [call_code T_117];simp only [go_sem,Qe,Qh,Qi,Qj,Qk,reduceCtorEq,reduceIte,c1,c2,c3,c4,g]
set_option maxHeartbeats 4000000 in
theorem l82 (v:Int):∀(k:Nat) (acc:List UInt8),k≤8→acc.length+k≤100000000000000→
 run T (.loop r82_8) ⟨[(2,.int .i64 v),(7,.byt acc (.id 107)),(8,.int .i64 ((k:Int)-1))],[],[107]⟩=
 some (.x 0,⟨[(7,.byt (acc++be k (IntKind.u64.wrap v)) (.id 107))],[],[107]⟩):=by
 intro k;induction k with
 |zero=>
  intro acc hk h;rw [run_loop];have hg:¬(0:Int)≤((0:Nat):Int)-1:=by omega
  simp only [go_sem,Qh,Qj,Qk,reduceIte,hg,be,List.append_nil]
 |succ k ih=>
  intro acc hk h;have ih':=ih (acc++ [byt8 (IntKind.u64.wrap v) (8*k)]) (by omega) (by rw [List.length_append,List.length_singleton];omega);have c1:acc.length+1≤140737488355328:=by omega
  have hg:(0:Int)≤((k+1:Nat):Int)-1:=by omega
  have he:IntKind.u64.wrap (((k+1:Nat):Int)-1)=((k:Nat):Int):=by rw [IntKind.wrap_u64];omega
  have he4:IntKind.u64.wrap (8*(k:Int))=((8*k:Nat):Int):=by rw [IntKind.wrap_u64];omega
  have hs:IntKind.i64.wrap (((k+1:Nat):Int)-1-1)=(k:Int)-1:=by rw [w64 (by omega) (by omega)];omega
  have hm:min (8*k) 64=8*k:=by omega
  rw [List.append_assoc,List.singleton_append]at ih';rw [run_loop];unfold byt8 at ih';simp only [go_sem,Qe,Qh,Qi,Qj,Qk,reduceIte,c1,hg,he,he4,hs,hm,be,byt8,ih']
theorem f82 (B:List UInt8) (k:Nat) (v:Int) (h1:1≤k) (h8:k≤8) (hB:B.length≤10000000000000):
 call T 82 [.byt B .no,.int .i64 k,.int .i64 v] [] 0=some ⟨.byt (B++be k (IntKind.u64.wrap v)) (.id 60),[],[60]⟩:=by
 have g:=l82 v k B h8 (by omega);have c1:¬(k:Int)<1:=by omega
 have c2:¬(8:Int)<k:=by omega
 have c3:IntKind.i64.wrap ((k:Int)-1)=(k:Int)-1:=w64 (by omega) (by omega);have c4:B.length≤140737488355328:=by omega
 rw [call_code T_82];simp only [go_sem,Qe,Qh,Qi,Qj,Qk,reduceCtorEq,reduceIte,c1,c2,c3,c4,g]
def blob (B X:List UInt8):List UInt8:=B++be 2 (IntKind.u64.wrap (X.take 65535).length)++X.take 65535
theorem f83 (B X:List UInt8) (hB:B.length≤1000000000000) (hX:X.length≤1000000000000):call T 83 [.byt B .no,.byt X .no] [] 0=some ⟨.byt (blob B X) (.id 60),[],[60]⟩:=by
 have c2:((2:Nat):Int)=2:=rfl;have g:=f82 B 2 (X.take 65535).length (by omega) (by omega) (by omega);rw [c2]at g;rw [call_code T_83];have hl:(X.take 65535).length≤65535:=by rw [List.length_take];omega
 have c4:(B++be 2 (IntKind.u64.wrap (X.take 65535).length)).length+(X.take 65535).length≤140737488355328:=by rw [List.length_append,be_len];omega
 by_cases h:(65535:Int)<X.length
 ·have h3:(65535:Int)≤X.length:=by omega
  have h4:65535≤X.length:=by omega
  simp only [List.length_append]at c4;simp only [go_sem,Q2,Q3,Qe,Qg,Qh,Qi,Qj,Qk,reduceCtorEq,reduceIte,h,h3,g,S_82,blob,c4,List.append_assoc]
 ·have ht:X.take 65535=X:=List.take_of_length_le (by omega)
  rw [ht]at g c4;simp only [List.length_append]at c4;simp only [go_sem,Q2,Q3,Qe,Qg,Qh,Qi,Qj,Qk,reduceCtorEq,reduceIte,h,g,S_82,blob,ht,c4,List.append_assoc]
theorem f118 (B X:List UInt8) (hB:B.length≤1000000000000) (hX:X.length≤1000000000000):call T 118 [.byt B .no,.byt X .no] [] 0=some ⟨.byt (blob B X) (.id 60),[],[60]⟩:=by
 have c2:((2:Nat):Int)=2:=rfl;have g:=f117 B 2 (X.take 65535).length (by omega) (by omega) (by omega);rw [c2]at g;rw [call_code T_118];have hl:(X.take 65535).length≤65535:=by rw [List.length_take];omega
 have c4:(B++be 2 (IntKind.u64.wrap (X.take 65535).length)).length+(X.take 65535).length≤140737488355328:=by rw [List.length_append,be_len];omega
 simp only [List.length_append]at c4
 by_cases h:(65535:Int)<X.length
 ·have h3:min (X.length:Int) 65535=65535:=by omega
  have h4:(65535:Int)≤X.length:=by omega
  have h5:65535≤X.length:=by omega
  simp only [go_sem,Q2,Q3,Qe,Qg,Qh,Qi,Qj,Qk,reduceCtorEq,reduceIte,h,h4,g,S_117,blob,c4,List.append_assoc]
 ·have h3:min (X.length:Int) 65535=X.length:=by omega
  have ht:X.take 65535=X:=List.take_of_length_le (by omega);have ht2:X.take X.length=X:=List.take_length;rw [ht]at g c4;simp only [go_sem,Q2,Q3,Qe,Qg,Qh,Qi,Qj,Qk,reduceCtorEq,reduceIte,h,ht2,g,S_117,blob,ht,c4,List.append_assoc]
def frame (t:Int) (X:List UInt8):List UInt8:=UInt8.ofInt t::(w4 (X.length:Int)++X)
set_option maxHeartbeats 4000000 in
theorem f137 (t:Int) (X:List UInt8) (hX:X.length≤1000000000):call T 137 [.int .i64 t,.lst 1 [[.byt X .no]] .no] [] 0=some ⟨.byt (frame t X) .no,[],[]⟩:=by
 have k1:IntKind.i64.wrap 1=1:=rfl;have e1:IntKind.u32.wrap (X.length:Int)=X.length:=by rw [IntKind.wrap_u32];omega
 have c4:1+4+X.length≤140737488355328:=by omega
 have c5:5+X.length≤140737488355328:=by omega
 have c1:((1:Nat):Int)=1:=rfl;rw [call_code T_137];simp only [go_sem,Qe,Qh,Qi,Qj,Qk,reduceCtorEq,reduceIte,List.length_cons,List.length_nil,c1];rw [run_loop];simp only [go_sem,Q2,Q3,Q4,Q8,Qe,Qh,Qi,Qj,Qk,reduceCtorEq,reduceIte,List.length_cons,List.length_nil,c1,k1,e1,m24,m16,m8,c4];rw [run_loop];simp only [go_sem,Q4,Qh,Qj,Qk,reduceIte,frame,w4,byt8]
 trace_state
end Go.Proofs.YtdafipacemgcoaaGreatDoor
