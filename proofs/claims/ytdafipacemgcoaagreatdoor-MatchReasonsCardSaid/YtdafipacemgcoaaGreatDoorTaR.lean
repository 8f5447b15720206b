/- What the functions come to. No condition. -/
import Derived.Test.YtdafipacemgcoaaGreatDoorCoR
open Bool renaming and_eq_true → an, eq_iff_iff → dl, false_and → E8, false_or → dh, or_eq_true → b9, true_or → fZ
open Int renaming cast_ofNat_Int → cw, natCast_zero → aC
open Go.IntKind renaming i64 → af, u32 → aw, u64 → bi, wrap_u64 → dt
open List renaming all_cons → iZ, append_assoc → aU, append_nil → bj, cons → md, cons_append → bG, drop → fO, drop_drop → eM, drop_eq_getElem_cons → aX, drop_eq_nil_of_le → bE, drop_length → aR, drop_zero → aY, ext_getElem → ti, flatMap_cons → jP, getD_cons_succ → bw, getD_cons_zero → bm, getD_eq_getElem?_getD → aa, getElem?_drop → bx, getElem?_eq_getElem → ab, getElem?_map → aJ, getElem?_range → cy, length → rH, length_append → ah, length_cons → ax, length_drop → aF, length_eq_zero_iff → bJ, length_map → aQ, length_nil → bc, length_replicate → cd, length_singleton → aH, length_take → ay, map_congr_left → cY, map_cons → aL, map_nil → bT, mem_range → dL, nil_append → bp, range → cg, replicate → am, singleton_append → eJ, take → cT, take_append_drop → yz, take_length → br, take_of_length_le → co
open Nat renaming add_zero → eP, le_refl → aZ, min_eq_left → dr, mul_one → dm, zero_le → cL
open UInt8 renaming lt_iff_toNat_lt → eA, ofInt → bQ, toNat_inj → sX
set_option maxRecDepth 100000
set_option maxHeartbeats 16000000
set_option linter.unusedSimpArgs false
set_option linter.unusedVariables false
namespace Go.Proofs.YtdafipacemgcoaaGreatDoor
open Go.Sy
open UInt8 renaming reduceLT → Q0, reduceLE → Q1
open Int renaming reduceToNat → Q2, reduceLE → Q3, reduceLT → Q4, reduceEq → Q5, reduceNe → Q6, reduceNeg → Q7, reduceAdd → Q8, reduceSub → Q9, reduceMul → Qa
open Nat renaming reducePow → Qb, reduceDiv → Qc, reduceMod → Qd, reduceAdd → Qe, reduceSub → Qf, reduceMul → Qg, reduceLT → Qh, reduceLeDiff → Qi, reduceEqDiff → Qj, reduceBEq → Qk
theorem c0:((0:Nat):Int)=0:=rfl
theorem c1:((1:Nat):Int)=1:=rfl
theorem c10:((10:Nat):Int)=10:=rfl
theorem c12:((12:Nat):Int)=12:=rfl
theorem c2:((2:Nat):Int)=2:=rfl
theorem c20:((20:Nat):Int)=20:=rfl
theorem xpg:((200:Nat):Int)=200:=rfl
theorem xrc:((240:Nat):Int)=240:=rfl
theorem xrb:((256:Nat):Int)=256:=rfl
theorem c30:((30:Nat):Int)=30:=rfl
theorem c5:((5:Nat):Int)=5:=rfl
theorem c64:((64:Nat):Int)=64:=rfl
theorem c8:((8:Nat):Int)=8:=rfl
theorem c80:((80:Nat):Int)=80:=rfl
theorem c9:((9:Nat):Int)=9:=rfl
theorem w64 {n:Int} (h1: -9223372036854775808≤n) (h2:n≤9223372036854775807):af.wrap n=n:=by rw [IntKind.wrap_i64];omega
theorem wZ {a b:Int} (h:-9223372036854775808≤a∧a≤9223372036854775807∧a=b):af.wrap a=b:=by rw [w64 h.1 h.2.1];exact h.2.2
theorem bW (i:Nat) (h:i<9223372036854775807):af.wrap ((i:Int)+1)=((i+1:Nat):Int):=wZ (by omega)
theorem nU {α:Type} [Inhabited α] (l:List α) (i:Nat) (h:i<l.length):l.drop i=l.getD i default::l.drop (i+1):=by rw [aX h,aa,ab h];rfl
theorem cR (l:List UInt8) (i:Nat) (h:i<l.length):l.drop i=l.getD i 0::l.drop (i+1):=nU l i h
theorem l25 (a b:List UInt8) (hl:a.length≤140737488355328) (hab:a.length=b.length):∀(n i:Nat),a.length-i=n→i≤a.length→
 run T (.loop Rm) ⟨[(0,.byt a .no),(1,.byt b .no),(5,.int .i64 i)],[],[]⟩=if a.drop i=b.drop i then some (.x 0,⟨[],[],[]⟩)else some (.r,⟨[(4,.bool false)],[],[]⟩):=by
 intro n;induction n with
 |zero=>
  intro i h0 h1;have hi:i=a.length:=by omega
  subst hi;rw [ak];have e:fO a.length b=[]:=by rw [hab,aR]
  simp only [go_sem,Qh,Qj,Qk,reduceCtorEq,reduceIte,aR,e]
 |succ n ih=>
  intro i h0 h1;have hi:i<a.length:=by omega
  have hi2:i<b.length:=by omega
  rw [ak,cR a i hi,cR b i hi2];have e3:af.wrap ((i:Int)+1)=((i+1:Nat):Int):=wZ (by omega)
  simp only [go_sem,Qh,Qj,Qk,reduceCtorEq,reduceIte,hi,hi2,e3,ih (i+1) (by omega) (by omega),md.injEq]
  by_cases hc:a.getD i 0=b.getD i 0<;>simp only [hc,go_sem,reduceIte]
theorem f25 (a b:List UInt8) (hl:a.length≤140737488355328):call T 25 [.byt a .no,.byt b .no] [] 0=some ⟨.bool (decide (a=b)),[],[]⟩:=by
 rw [aq xr8]
 by_cases hab:a.length=b.length
 ·have h:=l25 a b hl hab _ 0 rfl (by omega)
  simp only [aC,aY]at h;simp only [go_sem,Qe,Qh,Qi,Qj,Qk,reduceCtorEq,reduceIte,hab,h]
  by_cases hc:a=b<;>simp only [hc,go_sem,reduceIte]
 ·have hc:a≠b:=fun e=>hab (by rw [e])
  simp only [go_sem,Qe,Qh,Qi,Qj,Qk,reduceCtorEq,reduceIte,hab,hc]
def tR (n m:Int):Int:=if m<1 then 0 else if n.tmod m<0 then n.tmod m+m else n.tmod m
theorem f18 (a b:Int) (ha: -9223372036854775808≤a) (ha2:a≤9223372036854775807) (hb:b≤9223372036854775807):call T 18 [.int .i64 a,.int .i64 b] [] 0=some ⟨.int .i64 (tR a b),[],[]⟩:=by
 rw [aq xsd]
 by_cases h:b<1
 ·simp only [go_sem,Qe,Qh,Qi,Qj,Qk,reduceCtorEq,reduceIte,h,tR]
 ·have h0:¬b=0:=by omega
  simp only [go_sem,Qe,Qh,Qi,Qj,Qk,reduceCtorEq,reduceIte,h,h0,tR]
  by_cases h2:a.tmod b<0
  ·have h3: -b<a.tmod b:=by
    have:=Int.lt_tmod_of_pos a (b:=b) (by omega);omega
   have h4:af.wrap (a.tmod b+b)=a.tmod b+b:=w64 (by omega) (by omega);simp only [h2,go_sem,reduceIte,h4]
  ·simp only [h2,go_sem,reduceIte]
def aG (B:List UInt8) (at':Nat):aB:= .rc [.byt B .no,.int .i64 at']
theorem f35 (a:List UInt8) (n:Nat):call T 35 [.byt a .no,.int .i64 n] [] 0=some ⟨.ptr 100 0,[(100,aG (a.take n) 0)],[]⟩:=by
 rw [aq xr2]
 by_cases h:n<a.length
 ·have h2:n≤a.length:=by omega
  simp only [go_sem,Q2,Q3,Qe,Qh,Qi,Qj,Qk,reduceCtorEq,reduceIte,h,h2,aG];rfl
 ·simp only [go_sem,Q2,Q3,Qe,Qh,Qi,Qj,Qk,reduceCtorEq,reduceIte,h,aG,co (Nat.le_of_not_lt h)]
  rfl
theorem xo5 (a:List UInt8) (b:Nat):call T 131 [.ptr 0 0] [aG a b] 0=some ⟨.bool (decide (b<a.length)),[(0,aG a b)],[]⟩:=by rw [aq xnc];simp only [go_sem,Qe,Qh,Qi,Qj,Qk,reduceCtorEq,reduceIte,aG]
def dp (a:List UInt8) (b n:Nat):Nat:=if b<a.length then(a.getD b 0).toNat % n else 0
def ce (a:List UInt8) (b:Nat):Nat:=if b<a.length then b+1 else b
theorem f37 (a:List UInt8) (b n:Nat) (hn:0<n) (hl:a.length≤1000000000000):call T 37 [.ptr 0 0,.int .i64 n] [aG a b] 0=some ⟨.int .i64 (dp a b n),[(0,aG a (ce a b))],[]⟩:=by
 rw [aq xr1]
 by_cases h:b<a.length
 ·have h1:¬a.length≤b:=by omega
  have e1:af.wrap ((b:Int)+1)=((b+1:Nat):Int):=wZ (by omega)
  have e2:af.wrap (((b+1:Nat):Int)-1)=(b:Int):=wZ (by omega)
  have e3:¬(n:Int)=0:=by omega
  simp only [go_sem,Qe,Qh,Qi,Qj,Qk,reduceCtorEq,reduceIte,aG,h,h1,e1,e2,e3,dp,ce,←Int.ofNat_tmod]
 ·have h1:a.length≤b:=by omega
  simp only [go_sem,Qe,Qh,Qi,Qj,Qk,reduceCtorEq,reduceIte,aG,h,h1,dp,ce,aC]
def fo (c:UInt8):List UInt8→List UInt8
 |[]=> []
 |x::r=>if x=c then fo c r else x::r
theorem xoW (c:UInt8):∀s:List UInt8,run T (.loop y8) ⟨[(0,.str s),(1,.u8 c)],[],[]⟩=some (.x 0,⟨[(0,.str (fo c s))],[],[]⟩)
 |[]=>by rw [ak];simp only [go_sem,Q2,Q3,Q4,Qh,Qj,Qk,reduceCtorEq,reduceIte,fo,aC]
 |x::r=>by
  rw [ak];have h:=xoW c r;have e1:(0:Int)<((r.length+1:Nat):Int):=by omega
  have e2:(1:Int)≤((r.length+1:Nat):Int):=by omega
  by_cases hc:x=c
  ·simp only [go_sem,Q2,Q3,Qh,Qj,Qk,reduceCtorEq,reduceIte,fo,hc,h,ax,bm,e1,e2,List.drop_succ_cons,aY,br]
  ·simp only [go_sem,Q2,Q3,Qh,Qj,Qk,reduceCtorEq,reduceIte,fo,hc,ax,bm,e1]
theorem xqG (c:UInt8) (s:List UInt8):call T 159 [.str s,.u8 c] [] 0=some ⟨.str (fo c s),[],[]⟩:=by rw [aq xmY];simp only [go_sem,Qe,Qh,Qi,Qj,Qk,reduceCtorEq,reduceIte,xoW]
def l7 (c:UInt8) (s:List UInt8):List UInt8:=(fo c s.reverse).reverse
theorem sH (c:UInt8):l7 c []=[]:=rfl
theorem EJ (c x:UInt8) (s:List UInt8):l7 c (s++ [x])=if x=c then l7 c s else s++ [x]:=by
 unfold l7;rw [List.reverse_append,List.reverse_singleton,eJ,fo];split
 ·rfl
 ·simp
theorem xqm (c:UInt8):∀(n:Nat) (s:List UInt8),s.length=n→n<9223372036854775807→run T (.loop y7) ⟨[(0,.str s),(1,.u8 c)],[],[]⟩=some (.x 0,⟨[(0,.str (l7 c s))],[],[]⟩):=by
 intro n;induction n with
 |zero=>
  intro s hs _;cases s with
  |cons _ _=>simp at hs
  |nil=>rw [ak];simp only [go_sem,Q4,Q7,Q9,Qh,Qj,Qk,reduceCtorEq,reduceIte,sH,bc,aC]
 |succ n ih=>
  intro s hs hn;obtain⟨t,x,rfl⟩:∃t x,s=t++ [x]:=⟨s.dropLast,s.getLast (by intro e;subst e;simp at hs),(List.dropLast_concat_getLast _).symm⟩;have ht:t.length=n:=by simpa using hs
  have h:=ih t ht (by omega);rw [ak];generalize hu:t++ [x]=u;have e0:(0:Int)<((u.length:Nat):Int):=by subst hu;simp
  have hul:u.length=t.length+1:=by subst hu;simp
  have e1:af.wrap ((u.length:Int)-1)=((t.length:Nat):Int):=wZ (by omega)
  have e2:u.getD t.length 0=x:=by subst hu;simp [aa]
  have e3:u.take t.length=t:=by subst hu;simp
  have e6:t.length<u.length:=by subst hu;simp
  have e7:t.length≤u.length:=by omega
  have e8:l7 c u=if x=c then l7 c t else u:=by subst hu;exact EJ c x t
  by_cases hc:x=c
  ·simp only [go_sem,Q2,Q3,Qh,Qj,Qk,reduceCtorEq,reduceIte,hc,h,e0,e1,e2,e3,e6,e7,e8]
  ·simp only [go_sem,Qh,Qj,Qk,reduceCtorEq,reduceIte,hc,e0,e1,e2,e6,e8]
theorem xqF (c:UInt8) (s:List UInt8) (hs:s.length<9223372036854775807):call T 160 [.str s,.u8 c] [] 0=some ⟨.str (l7 c s),[],[]⟩:=by rw [aq xmX];simp only [go_sem,Qe,Qh,Qi,Qj,Qk,reduceCtorEq,reduceIte,xqm c _ s rfl hs]
theorem xqN (s:List UInt8) (hs:s.length<9223372036854775807):call T 133 [.str s,.str [42]] [] 0=some ⟨.str (fo 42 (l7 42 s)),[],[]⟩:=by
 rw [aq xna]
 by_cases h:s=[]
 ·subst h
  simp only [go_sem,Qe,Qh,Qi,Qj,Qk,reduceCtorEq,reduceIte,sH,fo]
 ·simp only [go_sem,Q0,Q2,Q3,Q4,Qb,Qc,Qd,Qe,Qh,Qi,Qj,Qk,reduceCtorEq,reduceIte,h,xqF 42 s hs,xqG,c1,xnA,xnz]
end Go.Proofs.YtdafipacemgcoaaGreatDoor
namespace Go.Glob
def tl (f:List UInt8→Bool):List UInt8→Bool
 |[]=>f []
 |x::r=>f (x::r)||tl f r
def gl:List UInt8→List UInt8→Bool
 |[],l=>l.isEmpty
 |c::p,l=>if c=42 then tl (gl p) l else match l with
  |[]=>false
  |x::r=>(decide (c=63)||decide (c=x))&&gl p r
theorem mr (f:List UInt8→Bool):∀l:List UInt8,tl f l=true↔∃k,k≤l.length∧f (l.drop k)=true
 |[]=>by simp only [tl,bc,List.drop_nil];exact⟨fun h=>⟨0,aZ _,h⟩,fun⟨_,_,h⟩=>h⟩
 |x::r=>by
  simp only [tl,b9,mr f r];constructor
  ·rintro(h|⟨k,hk,h⟩)
   ·exact⟨0,cL _,h⟩
   ·exact⟨k+1,by simpa using hk,h⟩
  ·rintro⟨k,hk,h⟩
   cases k with
   |zero=>exact .inl h
   |succ k=>exact .inr ⟨k,by simpa using hk,h⟩
theorem jL (p l:List UInt8):gl (42::p) l=tl (gl p) l:=by simp [gl]
theorem zl (l:List UInt8):gl [] l=l.isEmpty:=rfl
theorem o0 (c:UInt8) (p:List UInt8) (h:c≠42):gl (c::p) []=false:=by simp [gl,h]
theorem jM (c:UInt8) (p:List UInt8) (x:UInt8) (l:List UInt8) (h:c≠42):gl (c::p) (x::l)=((decide (c=63)||decide (c=x))&&gl p l):=by simp [gl,h]
def jv (p:List UInt8):Bool:=p.all fun c=>decide (c=42)
theorem qO:∀p:List UInt8,gl p []=jv p
 |[]=>rfl
 |c::p=>by
  by_cases h:c=42
  ·subst h
   rw [jL,tl,qO p];simp [jv]
  ·rw [o0 _ _ h];simp [jv,h]
def free (s:List UInt8):Bool:=s.all fun c=>decide (c≠42)
def Db:List UInt8→List UInt8→Bool
 |[],_=>true
 |_::_,[]=>false
 |c::s,x::m=>(decide (c=63)||decide (c=x))&&Db s m
theorem QC:∀(s q m:List UInt8),free s=true→gl (s++q) m=(Db s m&&gl q (m.drop s.length))
 |[],q,m,_=>by simp [Db]
 |c::s,q,[],h=>by simp only [free,iZ,an,decide_eq_true_eq]at h;simp [Db,gl,h.1]
 |c::s,q,x::m,h=>by simp only [free,iZ,an,decide_eq_true_eq]at h;rw [bG,jM _ _ _ _ h.1,QC s q m (by simpa [free]using h.2)];simp [Db,Bool.and_assoc]
theorem wn:∀ {s m:List UInt8},Db s m=true→s.length≤m.length
 |[],_,_=>cL _
 |_::_,[],h=>by cases h
 |c::s,x::m,h=>by simp only [Db,an]at h;have:=wn h.2;simp;omega
theorem R8 {f:List UInt8→Bool} {m:List UInt8} {i j:Nat} (h:i≤j) (ht:tl f (m.drop j)=true):tl f (m.drop i)=true:=by
 rw [mr]at ht ⊢;obtain⟨k,hk,h1⟩:=ht;rw [aF]at hk;rw [eM]at h1
 by_cases hj:j≤m.length
 ·refine⟨j-i+k,by rw [aF];omega, ?_⟩
  rw [eM,show i+(j-i+k)=j+k by omega];exact h1
 ·refine⟨m.length-i,by rw [aF];omega, ?_⟩
  rw [eM];rw [bE (by omega)]at h1 ⊢;exact h1
structure Inv (P L:List UInt8) (K r p l:Nat) (B:Bool):Prop where
 kp:K≤p
 pP:p≤P.length
 rl:r≤l
 lL:l≤L.length
 b0:K=0→B=gl (P.drop p) (L.drop l)
 b1:0<K→B=(gl (P.drop p) (L.drop l)||tl (gl (P.drop K)) (L.drop (r+1)))
 pl:0<K→p-K=l-r
 fr:0<K→free ((P.drop K).take (p-K))=true
theorem oS (l:List UInt8) (i:Nat) (h:i<l.length):l.drop i=l.getD i 0::l.drop (i+1):=by rw [aX h,aa,ab h];rfl
variable {P L : List UInt8} {K r p l : Nat} {B : Bool}
theorem Inv.split (h:Inv P L K r p l B):P.drop K=(P.drop K).take (p-K)++P.drop p:=by have:=yz (p-K) (P.drop K);rw [eM,show K+(p-K)=p by have:=h.kp;omega]at this;exact this.symm
theorem Inv.seglen (h:Inv P L K r p l B):((P.drop K).take (p-K)).length=p-K:=by have:=h.pP;rw [ay,aF];omega
theorem Inv.seg (h:Inv P L K r p l B) (hk:0<K) (m:List UInt8):gl (P.drop K) m=(Db ((P.drop K).take (p-K)) m&&gl (P.drop p) (m.drop (p-K))):=by have:=QC _ (P.drop p) m (h.fr hk);rw [←h.split,h.seglen]at this;exact this
theorem Inv.later (h:Inv P L K r p l B) (hk:0<K) (ht:tl (gl (P.drop K)) (L.drop (r+1))=true):(l=L.length∧r=L.length∧gl (P.drop p) []=true)∨∃j,l<j∧j≤L.length∧gl (P.drop p) (L.drop j)=true:=by
 have h1:=h.rl;have h2:=h.lL;have h3:=h.pl hk;have h4:=h.kp;obtain⟨k,hk1,hk2⟩:=(mr _ _).1 ht;rw [h.seg hk,an]at hk2;have h5:=wn hk2.1;rw [h.seglen]at h5;have h6:=hk2.2;rw [eM,eM]at h6;rw [eM,aF]at h5;rw [aF]at hk1
 by_cases hr:r=L.length
 ·refine .inl ⟨by omega,hr, ?_⟩
  have e0:L.drop (r+1+(k+(p-K)))=[]:=bE (by omega);rwa [e0]at h6
 ·exact .inr ⟨r+1+(k+(p-K)),by omega,by omega,h6⟩
theorem Inv.star (h:Inv P L K r p l B) (hp:p<P.length) (hl:l<L.length) (hc:P.getD p 0=42):Inv P L (p+1) l (p+1) l B:=by
 have e:gl (P.drop p) (L.drop l)=(gl (P.drop (p+1)) (L.drop l)||tl (gl (P.drop (p+1))) (L.drop (l+1))):=by rw [oS P p hp,hc,jL,oS L l hl];rfl
 refine⟨aZ _,hp,aZ _,h.lL,fun h0=>by omega,fun _=> ?_,fun _=>by omega,fun _=>by rw [Nat.sub_self];rfl⟩;rw [←e]
 by_cases hk:K=0
 ·exact h.b0 hk
 ·rw [h.b1 (by omega)]
  cases hg:gl (P.drop p) (L.drop l)with
  |true=>rfl
  |false=>
   rw [dh];cases ht:tl (gl (P.drop K)) (L.drop (r+1))with
   |false=>rfl
   |true=>
    exfalso;rcases h.later (by omega) ht with⟨h1,_⟩|⟨j,h1,h2,h3⟩
    ·omega
    ·rw [oS P p hp,hc,jL]at h3 hg
     rw [R8 (Nat.le_of_lt h1) h3]at hg;cases hg
theorem Inv.step (h:Inv P L K r p l B) (hp:p<P.length) (hl:l<L.length) (hc:P.getD p 0≠42) (hm:P.getD p 0=63∨P.getD p 0=L.getD l 0):Inv P L K r (p+1) (l+1) B:=by
 have h1:=h.kp;have h2:=h.rl
 have e:gl (P.drop p) (L.drop l)=gl (P.drop (p+1)) (L.drop (l+1)):=by
  rw [oS P p hp,oS L l hl,jM _ _ _ _ hc];have:(decide (P.getD p 0=63)||decide (P.getD p 0=L.getD l 0))=true:=by simpa using hm
  rw [this,Bool.true_and]
 refine⟨by omega,hp,by omega,hl,fun h0=>by rw [←e];exact h.b0 h0,fun h0=>by rw [←e];exact h.b1 h0,fun h0=>by have:=h.pl h0;omega,fun h0=> ?_⟩
 have e2:(P.drop K).take (p+1-K)=(P.drop K).take (p-K)++ [P.getD p 0]:=by
  rw [show p+1-K=(p-K)+1 by omega,List.take_add_one]
  congr 1
  rw [bx,show K+(p-K)=p by omega,ab hp,aa,ab hp];rfl
 rw [e2];have:=h.fr h0;unfold free at this ⊢;rw [List.all_append,this];simpa using hc
theorem Inv.miss (h:Inv P L K r p l B) (hl:l<L.length) (hm:p<P.length→P.getD p 0≠42∧P.getD p 0≠63∧P.getD p 0≠L.getD l 0):gl (P.drop p) (L.drop l)=false:=by
 by_cases hp:p<P.length
 ·obtain⟨h1,h2,h3⟩:=hm hp
  rw [oS P p hp,oS L l hl,jM _ _ _ _ h1];simp only [h2,h3,decide_false,Bool.or_false,E8]
 ·rw [bE (by omega),oS L l hl];rfl
theorem Inv.back (h:Inv P L K r p l B) (hk:0<K) (hl:l<L.length) (hm:p<P.length→P.getD p 0≠42∧P.getD p 0≠63∧P.getD p 0≠L.getD l 0):Inv P L K (r+1) K (r+1) B:=by
 have h1:=h.rl;have h2:=h.kp;have h3:=h.pP;refine⟨aZ _,by omega,aZ _,by omega,fun h0=>by omega,fun _=> ?_,fun _=>by omega,fun _=>by rw [Nat.sub_self];rfl⟩;rw [h.b1 hk,h.miss hl hm,dh]
 by_cases hr:r+1<L.length
 ·rw [oS L (r+1) hr];rfl
 ·have e1:L.drop (r+1)=[]:=bE (by omega)
  have e2:L.drop (r+1+1)=[]:=bE (by omega);rw [e1,e2];simp only [tl,Bool.or_self]
theorem Inv.fail (h:Inv P L K r p l B) (hk:K=0) (hl:l<L.length) (hm:p<P.length→P.getD p 0≠42∧P.getD p 0≠63∧P.getD p 0≠L.getD l 0):B=false:=by rw [h.b0 hk,h.miss hl hm]
theorem Inv.fin (h:Inv P L K r p l B) (hl:l=L.length):jv (P.drop p)=B:=by
 have e:gl (P.drop p) (L.drop l)=jv (P.drop p):=by rw [hl,aR,qO]
 by_cases hk:K=0
 ·rw [h.b0 hk,e]
 ·rw [h.b1 (by omega),e]
  cases ht:tl (gl (P.drop K)) (L.drop (r+1))with
  |false=>rw [Bool.or_false]
  |true=>
   rcases h.later (by omega) ht with⟨_,_,h3⟩|⟨j,h1,h2,_⟩
   ·rw [qO]at h3;rw [h3];rfl
   ·omega
theorem Inv.init (P L:List UInt8):Inv P L 0 0 0 0 (gl P L):=
 ⟨aZ _,cL _,aZ _,cL _,fun _=>rfl,fun h=>by omega,fun h=>by omega,fun h=>by omega⟩
end Go.Glob
namespace Go.Proofs.YtdafipacemgcoaaGreatDoor
open Go.Sy
open UInt8 renaming reduceLT → Q0, reduceLE → Q1
open Int renaming reduceToNat → Q2, reduceLE → Q3, reduceLT → Q4, reduceEq → Q5, reduceNe → Q6, reduceNeg → Q7, reduceAdd → Q8, reduceSub → Q9, reduceMul → Qa
open Nat renaming reducePow → Qb, reduceDiv → Qc, reduceMod → Qd, reduceAdd → Qe, reduceSub → Qf, reduceMul → Qg, reduceLT → Qh, reduceLeDiff → Qi, reduceEqDiff → Qj, reduceBEq → Qk
end Go.Proofs.YtdafipacemgcoaaGreatDoor
namespace Go.Glob
theorem o3:∀(p q l:List UInt8),gl (p++q) l=true↔∃k,k≤l.length∧gl p (l.take k)=true∧gl q (l.drop k)=true
 |[],q,l=>by
  constructor
  ·intro h;exact⟨0,by omega,rfl,by simpa using h⟩
  ·rintro⟨k,hk,h1,h2⟩
   have:(l.take k)=[]:=by simpa [zl]using h1
   have h0:k=0∨l=[]:=by
    have:=congrArg rH this;rw [ay]at this;rcases l with _|⟨x,l⟩
    ·exact .inr rfl
    ·left;simp at this;omega
   rcases h0 with rfl|rfl
   ·simpa using h2
   ·simpa using h2
 |c::p,q,l=>by
  by_cases hc:c=42
  ·subst hc
   rw [bG,jL,mr];constructor
   ·rintro⟨j,hj,h⟩
    obtain⟨k,hk,h1,h2⟩:=(o3 p q _).1 h;rw [aF]at hk;refine⟨j+k,by omega, ?_,by rw [eM]at h2;exact h2⟩;rw [jL,mr];refine⟨j,by rw [ay];omega, ?_⟩;rw [List.drop_take];simpa using h1
   ·rintro⟨m,hm,h1,h2⟩
    rw [jL,mr]at h1;obtain⟨j,hj,h1⟩:=h1;rw [ay]at hj;refine⟨j,by omega,(o3 p q _).2 ⟨m-j,by rw [aF];omega,by rw [List.drop_take]at h1;exact h1, ?_⟩⟩;rw [eM];rw [show j+(m-j)=m from by omega];exact h2
  ·rcases l with _|⟨x,l⟩
   ·rw [bG,o0 _ _ hc]
    constructor
    ·intro h;cases h
    ·rintro⟨k,hk,h1,h2⟩
     rw [List.take_nil,o0 _ _ hc]at h1;cases h1
   ·rw [bG,jM _ _ _ _ hc,an,o3 p q l]
    constructor
    ·rintro⟨h0,k,hk,h1,h2⟩
     refine⟨k+1,by simpa using hk, ?_,by simpa using h2⟩;rw [List.take_succ_cons,jM _ _ _ _ hc,an];exact⟨h0,h1⟩
    ·rintro⟨k,hk,h1,h2⟩
     rcases k with _|k
     ·rw [List.take_zero,o0 _ _ hc]at h1;cases h1
     ·rw [List.take_succ_cons,jM _ _ _ _ hc,an]at h1
      exact⟨h1.1,k,by simpa using hk,h1.2,by simpa using h2⟩
theorem xiE (l:List UInt8):gl [42] l=true:=by rw [jL,mr];exact⟨l.length,aZ _,by rw [aR];rfl⟩
def rw1 (P L:List UInt8) (k i:Nat):Bool:=gl (P.take k) (L.take i)
theorem gi (P:List UInt8) (k:Nat) (h:k<P.length):P.take (k+1)=P.take k++ [P.getD k 0]:=by rw [List.take_add_one,ab h,aa,ab h];rfl
theorem xgy (P L:List UInt8) (i:Nat) (hi:i≤L.length):rw1 P L 0 i=decide (i=0):=by
 unfold rw1;rw [List.take_zero,zl];rcases i with _|i
 ·simp
 ·rcases L with _|⟨x,L⟩
  ·simp at hi
  ·simp
theorem FS (P L:List UInt8) (k i:Nat) (hk:k<P.length) (hi:i≤L.length) (hc:P.getD k 0=42):rw1 P L (k+1) i=(rw1 P L k i||(decide (0<i)&&rw1 P L (k+1) (i-1))):=by
 have key:∀i,i≤L.length→(rw1 P L (k+1) i=true↔∃j,j≤i∧rw1 P L k j=true):=by
  intro i hi;unfold rw1;rw [gi P k hk,hc,o3];constructor
  ·rintro⟨j,hj,h1,_⟩
   rw [ay]at hj;rw [List.take_take]at h1;exact⟨min j i,by omega,h1⟩
  ·rintro⟨j,hj,h1⟩
   refine⟨j,by rw [ay];omega, ?_,xiE _⟩;rw [List.take_take,dr hj];exact h1
 rw [dl,key i hi,b9,an,decide_eq_true_eq];constructor
 ·rintro⟨j,hj,h⟩
  by_cases hji:j=i
  ·subst hji;exact .inl h
  ·exact .inr ⟨by omega,(key (i-1) (by omega)).2 ⟨j,by omega,h⟩⟩
 ·rintro(h|⟨h0,h⟩)
  ·exact⟨i,aZ _,h⟩
  ·obtain⟨j,hj,h⟩:=(key (i-1) (by omega)).1 h
   exact⟨j,by omega,h⟩
theorem D2 (P L:List UInt8) (k:Nat) (hk:k<P.length) (hc:P.getD k 0≠42):rw1 P L (k+1) 0=false:=by unfold rw1;rw [gi P k hk,List.take_zero,←Bool.not_eq_true,o3];rintro⟨j,hj,_,h2⟩;rw [List.drop_nil,o0 _ _ hc]at h2;cases h2
theorem FT (P L:List UInt8) (k i:Nat) (hk:k<P.length) (hi:i<L.length) (hc:P.getD k 0≠42):rw1 P L (k+1) (i+1)=(rw1 P L k i&&(decide (P.getD k 0=63)||decide (P.getD k 0=L.getD i 0))):=by
 unfold rw1;rw [gi P k hk,dl,o3];have hl:(L.take (i+1)).length=i+1:=by rw [ay];omega
 have h1:∀m:List UInt8,gl [P.getD k 0] m=true↔∃x,m=[x]∧(decide (P.getD k 0=63)||decide (P.getD k 0=x))=true:=by
  intro m;rcases m with _|⟨x,m⟩
  ·rw [o0 _ _ hc];simp
  ·rw [jM _ _ _ _ hc,zl,an]
   rcases m with _|⟨y,m⟩
   ·simp
   ·simp
 have hd:(L.take (i+1)).drop i=[L.getD i 0]:=by rw [gi L i hi,List.drop_append_of_le_length (by rw [ay];omega),bE (by rw [ay];omega)];rfl
 rw [an];constructor
 ·rintro⟨j,hj,h2,h3⟩
  obtain⟨x,hx,h4⟩:=(h1 _).1 h3;have e:=congrArg rH hx;rw [aF,hl,aH]at e;have hji:j=i:=by omega
  subst hji;rw [hd]at hx;simp only [md.injEq,and_true]at hx;rw [List.take_take,dr (by omega)]at h2;rw [hx];exact⟨h2,h4⟩
 ·rintro⟨h2,h3⟩
  refine⟨i,by omega, ?_, ?_⟩
  ·rw [List.take_take,dr (by omega)];exact h2
  ·rw [hd,h1];exact⟨_,rfl,h3⟩
theorem Ss (P L:List UInt8):rw1 P L P.length L.length=gl P L:=by unfold rw1;rw [br,br]
end Go.Glob
namespace Go.Proofs.YtdafipacemgcoaaGreatDoor
open Go.Sy
open UInt8 renaming reduceLT → Q0, reduceLE → Q1
open Int renaming reduceToNat → Q2, reduceLE → Q3, reduceLT → Q4, reduceEq → Q5, reduceNe → Q6, reduceNeg → Q7, reduceAdd → Q8, reduceSub → Q9, reduceMul → Qa
open Nat renaming reducePow → Qb, reduceDiv → Qc, reduceMod → Qd, reduceAdd → Qe, reduceSub → Qf, reduceMul → Qg, reduceLT → Qh, reduceLeDiff → Qi, reduceEqDiff → Qj, reduceBEq → Qk
section
open Go.Glob
theorem il:∀s:List UInt8,fo 42 s=[]↔jv s=true
 |[]=>by simp [fo,jv]
 |x::r=>by
  have:=il r
  by_cases h:x=42
  ·simp only [fo,h,if_true,this,jv,iZ,decide_true,Bool.true_and]
  ·simp [fo,h,jv]
theorem kR (s:List UInt8):jv s.reverse=jv s:=by simp [jv]
theorem Ft (s:List UInt8):fo 42 (l7 42 s)=[]↔jv s=true:=by
 rw [il];unfold l7;rw [kR];constructor
 ·intro h
  rw [←il]at h
  have e:∀t:List UInt8,fo 42 t=t∨fo 42 t=[]∨∃x r,fo 42 t=x::r∧x≠42:=by
   intro t;induction t with
   |nil=>exact .inl rfl
   |cons x r ih=>
    by_cases hx:x=42
    ·simp only [fo,hx,if_true]
     rcases ih with h|h|h
     ·cases r with
      |nil=>exact .inr (.inl h)
      |cons y r'=>
       rw [h]
       by_cases hy:y=42
       ·exfalso
        have l1:∀t:List UInt8,(fo 42 t).length≤t.length:=by
         intro t;induction t with
         |nil=>exact aZ _
         |cons z t iht=>simp only [fo];split<;>simp only [ax]<;>omega
        rw [hy]at h;simp only [fo,if_true]at h;have:=l1 r';rw [h]at this;simp at this;omega
       ·exact .inr (.inr ⟨y,r',rfl,hy⟩)
     ·exact .inr (.inl h)
     ·exact .inr (.inr h)
    ·exact .inl (by simp [fo,hx])
  rcases e s.reverse with h1|h1|⟨x,r,h1,h2⟩
  ·rw [h1,il,kR]at h;exact h
  ·rw [il,kR]at h1;exact h1
  ·rw [h1]at h;simp [fo,h2]at h
 ·intro h
  rw [←kR,←il]at h;rw [h];rfl
def Out (P:List UInt8) (B:Bool) (o:Option (Ex×CSt)):Prop:=
 (∃q,q≤P.length∧jv (P.drop q)=B∧o=some (.x 0,⟨[(0,.str P),(5,.int .i64 (q:Nat))],[],[]⟩))∨(B=false∧o=some (.r,⟨[(4,.bool false)],[],[]⟩))
theorem l92 (P L:List UInt8) (hP:P.length≤1000000000000) (hL:L.length≤1000000000000) (B:Bool) (K r p l:Nat) (s:Int) (hs:s=(K:Int)-1) (h:Inv P L K r p l B):
 Out P B (run T (.loop yJ) ⟨[(0,.str P),(1,.byt L .no),(5,.int .i64 p),(6,.int .i64 l),(7,.int .i64 s),(8,.int .i64 r)],[],[]⟩):=by
 have a1:=h.kp;have a2:=h.pP;have a3:=h.rl;have a4:=h.lL;rw [ak]
 by_cases hl:l<L.length
 ·have e2:af.wrap ((p:Int)+1)=((p+1:Nat):Int):=bW p (by omega)
  have e3:af.wrap ((l:Int)+1)=((l+1:Nat):Int):=bW l (by omega);have e4:af.wrap ((r:Int)+1)=((r+1:Nat):Int):=bW r (by omega);have e5:af.wrap (s+1)=(K:Int):=by rw [hs,w64 (by omega) (by omega)];omega
  by_cases hp:p<P.length
  ·by_cases hc:P.getD p 0=42
   ·have ih:=l92 P L hP hL B (p+1) l (p+1) l p (by omega) (h.star hp hl hc)
    simp only [go_sem,Qh,Qj,Qk,reduceCtorEq,reduceIte,hl,hp,hc,e2];exact ih
   ·by_cases hq:P.getD p 0=63
    ·have ih:=l92 P L hP hL B K r (p+1) (l+1) s hs (h.step hp hl hc (.inl hq))
     simp only [go_sem,Qh,Qj,Qk,reduceCtorEq,reduceIte,hl,hp,hq,e2,e3,e4,e5];exact ih
    ·by_cases hx:P.getD p 0=L.getD l 0
     ·have ih:=l92 P L hP hL B K r (p+1) (l+1) s hs (h.step hp hl hc (.inr hx))
      have hc':¬L.getD l 0=42:=hx ▸ hc;have hq':¬L.getD l 0=63:=hx ▸ hq;simp only [go_sem,Qh,Qj,Qk,reduceCtorEq,reduceIte,hl,hp,hx,hc',hq',e2,e3,e4,e5];exact ih
     ·by_cases hk:K=0
      ·have hs0:¬0≤s:=by omega
       simp only [go_sem,Qh,Qj,Qk,reduceCtorEq,reduceIte,hl,hp,hc,hq,hx,hs0,e2,e3,e4,e5];exact .inr ⟨h.fail hk hl (fun _=>⟨hc,hq,hx⟩),rfl⟩
      ·have hs0:0≤s:=by omega
       have ih:=l92 P L hP hL B K (r+1) K (r+1) s hs (h.back (by omega) hl (fun _=>⟨hc,hq,hx⟩));simp only [go_sem,Qh,Qj,Qk,reduceCtorEq,reduceIte,hl,hp,hc,hq,hx,hs0,e2,e3,e4,e5];exact ih
  ·by_cases hk:K=0
   ·have hs0:¬0≤s:=by omega
    simp only [go_sem,Qh,Qj,Qk,reduceCtorEq,reduceIte,hl,hp,hs0,e2,e3,e4,e5];exact .inr ⟨h.fail hk hl (fun hp'=>absurd hp' hp),rfl⟩
   ·have hs0:0≤s:=by omega
    have ih:=l92 P L hP hL B K (r+1) K (r+1) s hs (h.back (by omega) hl (fun hp'=>absurd hp' hp));simp only [go_sem,Qh,Qj,Qk,reduceCtorEq,reduceIte,hl,hp,hs0,e2,e3,e4,e5];exact ih
 ·simp only [go_sem,Qh,Qj,Qk,reduceCtorEq,reduceIte,hl]
  exact .inl ⟨p,a2,h.fin (by omega),rfl⟩
termination_by (P.length-K,L.length-r,L.length-l)
decreasing_by
 all_goals first
  |(apply Prod.Lex.left;omega)
  |(apply Prod.Lex.right;apply Prod.Lex.left;omega)
  |(apply Prod.Lex.right;apply Prod.Lex.right;omega)
end
section
open Go.Glob
theorem f92 (P L:List UInt8) (hP:P.length≤1000000000000) (hL:L.length≤1000000000000):call T 92 [.str P,.byt L .no] [] 0=some ⟨.bool (gl P L),[],[]⟩:=by
 rw [aq xrk];have h:=l92 P L hP hL (gl P L) 0 0 0 0 (-1) rfl (Inv.init P L);simp only [aC]at h;rcases h with⟨q,hq,hs,h⟩|⟨hB,h⟩
 ·have hd:(P.drop q).length<9223372036854775807:=by rw [aF];omega
  have ht:=Ft (P.drop q);rw [hs]at ht;simp only [go_sem,Q7,Qe,Qh,Qi,Qj,Qk,reduceCtorEq,reduceIte,h,hq,br,xqN _ hd,xnF,ht];cases gl P L<;>rfl
 ·simp only [go_sem,Q7,Qe,Qh,Qi,Qj,Qk,reduceCtorEq,reduceIte,h,hB]
end
section
open Go.Glob
def prn:List UInt8→Bool
 |[]=>true
 |c::r=>if c<32 then false else if 126<c then false else prn r
def chk (k:Int) (t:List UInt8) (lo hi:Int):Int:=
 if k<1 then 1 else if 4<k then 1 else if prn t then
  (if k=4 then(if lo<0 then 1 else if hi<lo then 1 else if 1000000000<hi then 1 else if 32<t.length then 4 else 0)
   else if lo=0 then(if hi=0 then(if k=1 then(if t=[]then 0 else 1)else if 32<t.length then 4 else 0)else 1)else 1)
 else 1
theorem l90 (k:Int) (t:List UInt8) (lo hi:Int) (hl:t.length≤1000000000000):∀(n i:Nat),t.length-i=n→i≤t.length→
 run T (.loop yK) ⟨[(1,.ptr 101 0),(15,.int .i64 t.length),(16,.int .i64 i)],[(101,.rc [.int .i64 k,.str t,.int .i64 lo,.int .i64 hi])],[]⟩=
 if prn (t.drop i)then some (.x 0,⟨[(1,.ptr 101 0)],[(101,.rc [.int .i64 k,.str t,.int .i64 lo,.int .i64 hi])],[]⟩)
 else some (.r,⟨[(2,.int .i64 1)],[(101,.rc [.int .i64 k,.str t,.int .i64 lo,.int .i64 hi])],[]⟩):=by
 intro n;induction n with
 |zero=>
  intro i h0 h1;have hi:i=t.length:=by omega
  subst hi;rw [ak];simp only [go_sem,Qh,Qj,Qk,reduceIte,aR,prn]
 |succ n ih=>
  intro i h0 h1;have hi:i<t.length:=by omega
  have e1:=bW i (by omega);have ih':=ih (i+1) (by omega) (by omega);rw [ak,cR t i hi]
  by_cases h2:t.getD i 0<32
  ·simp only [go_sem,Qe,Qh,Qi,Qj,Qk,reduceIte,hi,prn,h2]
  ·by_cases h3:126<t.getD i 0
   ·simp only [go_sem,Qe,Qh,Qi,Qj,Qk,reduceIte,hi,prn,h2,h3]
   ·simp only [go_sem,Qe,Qh,Qi,Qj,Qk,reduceIte,hi,e1,prn,h2,h3,ih']
theorem l96 (k:Int) (t:List UInt8) (lo hi:Int) (hl:t.length≤1000000000000):∀(n i:Nat),t.length-i=n→i≤t.length→
 run T (.loop Ra) ⟨[(1,.ptr 101 0),(3,.int .i64 i)],[(101,.rc [.int .i64 k,.str t,.int .i64 lo,.int .i64 hi])],[]⟩=
 if prn (t.drop i)then some (.x 0,⟨[(1,.ptr 101 0)],[(101,.rc [.int .i64 k,.str t,.int .i64 lo,.int .i64 hi])],[]⟩)
 else some (.r,⟨[(2,.int .i64 1)],[(101,.rc [.int .i64 k,.str t,.int .i64 lo,.int .i64 hi])],[]⟩):=by
 intro n;induction n with
 |zero=>
  intro i h0 h1;have hi:i=t.length:=by omega
  subst hi;rw [ak];simp only [go_sem,Qe,Qh,Qi,Qj,Qk,reduceIte,aR,prn]
 |succ n ih=>
  intro i h0 h1;have hi:i<t.length:=by omega
  have e1:=bW i (by omega);have ih':=ih (i+1) (by omega) (by omega);rw [ak,cR t i hi]
  by_cases h2:t.getD i 0<32
  ·simp only [go_sem,Qe,Qh,Qi,Qj,Qk,reduceIte,hi,prn,h2]
  ·by_cases h3:126<t.getD i 0
   ·simp only [go_sem,Qe,Qh,Qi,Qj,Qk,reduceIte,hi,prn,h2,h3]
   ·simp only [go_sem,Qe,Qh,Qi,Qj,Qk,reduceIte,hi,e1,prn,h2,h3,ih']
end
section
open Go.Glob
theorem pT (t:List UInt8):((32:Int)<(t.length:Int))↔32<t.length:=by omega
theorem f90 (k:Int) (t:List UInt8) (lo hi:Int) (hl:t.length≤1000000000000):call T 90 [.agg [.int .i64 k,.str t,.int .i64 lo,.int .i64 hi]] [] 0=some ⟨.int .i64 (chk k t lo hi),[],[]⟩:=by
 rw [aq xrm];have h:=l90 k t lo hi hl _ 0 rfl (by omega);simp only [aC,aY]at h;unfold chk
 by_cases c1:k<1
 ·simp only [go_sem,Qe,Qh,Qi,Qj,Qk,reduceCtorEq,reduceIte,c1]
 by_cases c2:4<k
 ·simp only [go_sem,Qe,Qh,Qi,Qj,Qk,reduceCtorEq,reduceIte,c1,c2]
 cases c3:prn t with
 |false=>simp only [go_sem,Qe,Qh,Qi,Qj,Qk,reduceCtorEq,reduceIte,h,c1,c2,c3]
 |true=>
  by_cases c4:k=4
  ·subst c4
   by_cases c5:lo<0
   ·simp only [go_sem,Q4,Q5,Qe,Qh,Qi,Qj,Qk,reduceCtorEq,reduceIte,h,c3,c5]
   by_cases c6:hi<lo
   ·simp only [go_sem,Q4,Q5,Qe,Qh,Qi,Qj,Qk,reduceCtorEq,reduceIte,h,c3,c5,c6]
   by_cases c7:1000000000<hi
   ·simp only [go_sem,Q4,Q5,Qe,Qh,Qi,Qj,Qk,reduceCtorEq,reduceIte,h,c3,c5,c6,c7]
   by_cases c8:32<t.length
   ·simp only [go_sem,Q4,Q5,Qe,Qh,Qi,Qj,Qk,reduceCtorEq,reduceIte,h,c3,c5,c6,c7,c8,pT]
   ·simp only [go_sem,Q4,Q5,Qe,Qh,Qi,Qj,Qk,reduceCtorEq,reduceIte,h,c3,c5,c6,c7,c8,pT]
  ·by_cases c5:lo=0
   ·subst c5
    by_cases c6:hi=0
    ·subst c6
     by_cases c7:k=1
     ·subst c7
      by_cases c8:t=[]
      ·subst c8
       try simp only [bc,aC]at h
       simp only [go_sem,Q4,Q5,Qe,Qh,Qi,Qj,Qk,reduceCtorEq,reduceIte,h,c3,bc,aC]
      ·simp only [go_sem,Q4,Q5,Qe,Qh,Qi,Qj,Qk,reduceCtorEq,reduceIte,h,c3,c8]
     ·by_cases c8:32<t.length
      ·simp only [go_sem,Q4,Qe,Qh,Qi,Qj,Qk,reduceCtorEq,reduceIte,h,c1,c2,c3,c4,c7,c8,pT]
      ·simp only [go_sem,Q4,Qe,Qh,Qi,Qj,Qk,reduceCtorEq,reduceIte,h,c1,c2,c3,c4,c7,c8,pT]
    ·simp only [go_sem,Q4,Qe,Qh,Qi,Qj,Qk,reduceCtorEq,reduceIte,h,c1,c2,c3,c4,c6]
   ·simp only [go_sem,Qe,Qh,Qi,Qj,Qk,reduceCtorEq,reduceIte,h,c1,c2,c3,c4,c5]
theorem f96 (k:Int) (t:List UInt8) (lo hi:Int) (hl:t.length≤1000000000000):call T 96 [.agg [.int .i64 k,.str t,.int .i64 lo,.int .i64 hi]] [] 0=some ⟨.int .i64 (chk k t lo hi),[],[]⟩:=by
 rw [aq xrg];have h:=l96 k t lo hi hl _ 0 rfl (by omega);simp only [aC,aY]at h;unfold chk
 by_cases c1:k<1
 ·simp only [go_sem,Qe,Qh,Qi,Qj,Qk,reduceCtorEq,reduceIte,c1]
 by_cases c2:4<k
 ·simp only [go_sem,Qe,Qh,Qi,Qj,Qk,reduceCtorEq,reduceIte,c1,c2]
 cases c3:prn t with
 |false=>simp only [go_sem,Qe,Qh,Qi,Qj,Qk,reduceCtorEq,reduceIte,h,c1,c2,c3]
 |true=>
  by_cases c4:k=4
  ·subst c4
   by_cases c5:lo<0
   ·simp only [go_sem,Q4,Q5,Qe,Qh,Qi,Qj,Qk,reduceCtorEq,reduceIte,h,c3,c5]
   by_cases c6:hi<lo
   ·simp only [go_sem,Q4,Q5,Qe,Qh,Qi,Qj,Qk,reduceCtorEq,reduceIte,h,c3,c5,c6]
   by_cases c7:1000000000<hi
   ·simp only [go_sem,Q4,Q5,Qe,Qh,Qi,Qj,Qk,reduceCtorEq,reduceIte,h,c3,c5,c6,c7]
   by_cases c8:32<t.length
   ·simp only [go_sem,Q4,Q5,Qe,Qh,Qi,Qj,Qk,reduceCtorEq,reduceIte,h,c3,c5,c6,c7,c8,pT]
   ·simp only [go_sem,Q4,Q5,Qe,Qh,Qi,Qj,Qk,reduceCtorEq,reduceIte,h,c3,c5,c6,c7,c8,pT]
  ·by_cases c5:lo=0
   ·subst c5
    by_cases c6:hi=0
    ·subst c6
     by_cases c7:k=1
     ·subst c7
      by_cases c8:t=[]
      ·subst c8
       try simp only [bc,aC]at h
       simp only [go_sem,Q4,Q5,Qe,Qh,Qi,Qj,Qk,reduceCtorEq,reduceIte,h,c3,bc,aC]
      ·simp only [go_sem,Q4,Q5,Qe,Qh,Qi,Qj,Qk,reduceCtorEq,reduceIte,h,c3,c8]
     ·by_cases c8:32<t.length
      ·simp only [go_sem,Q4,Qe,Qh,Qi,Qj,Qk,reduceCtorEq,reduceIte,h,c1,c2,c3,c4,c7,c8,pT]
      ·simp only [go_sem,Q4,Qe,Qh,Qi,Qj,Qk,reduceCtorEq,reduceIte,h,c1,c2,c3,c4,c7,c8,pT]
    ·simp only [go_sem,Q4,Qe,Qh,Qi,Qj,Qk,reduceCtorEq,reduceIte,h,c1,c2,c3,c4,c6]
   ·simp only [go_sem,Qe,Qh,Qi,Qj,Qk,reduceCtorEq,reduceIte,h,c1,c2,c3,c4,c5]
end
section
open Go.Glob
theorem xo0 (s t:List UInt8):call T 166 [.str s,.str t] [] 0=some ⟨.bool (decide (t.length≤s.length∧s.take t.length=t)),[],[]⟩:=by
 rw [aq xmW]
 by_cases h:t.length≤s.length
 ·by_cases h2:s.take t.length=t
  ·simp only [go_sem,Q2,Q3,Qe,Qh,Qi,Qj,Qk,reduceCtorEq,reduceIte,h,h2]
  ·simp only [go_sem,Q2,Q3,Qe,Qh,Qi,Qj,Qk,reduceCtorEq,reduceIte,h,h2]
 ·simp only [go_sem,Q2,Q3,Qe,Qh,Qi,Qj,Qk,reduceCtorEq,reduceIte,h]
theorem xo4 (s t:List UInt8):call T 134 [.str s,.str t] [] 0=some ⟨if t.length≤s.length∧s.take t.length=t then .tup [.str (s.drop t.length),.bool true]else .tup [.str s,.bool false],[],[]⟩:=by
 rw [aq xm9]
 by_cases h:t.length≤s.length∧s.take t.length=t
 ·have h1:=h.1
  simp only [go_sem,Qe,Qh,Qi,Qj,Qk,reduceCtorEq,reduceIte,xo0,xe0,h,br]
 ·simp only [go_sem,Qe,Qh,Qi,Qj,Qk,reduceCtorEq,reduceIte,xo0,xe0,h]
theorem f93 (s t:List UInt8):call T 93 [.str s,.str t] [] 0=some ⟨if t.length≤s.length∧s.take t.length=t then .tup [.str (s.drop t.length),.bool true]else .tup [.str s,.bool false],[],[]⟩:=by
 rw [aq xrj]
 by_cases h:t.length≤s.length∧s.take t.length=t
 ·simp only [go_sem,Qe,Qh,Qi,Qj,Qk,reduceCtorEq,reduceIte,xo4,xe3,h]
 ·simp only [go_sem,Qe,Qh,Qi,Qj,Qk,reduceCtorEq,reduceIte,xo4,xe3,h]
def num:Nat→List UInt8→Nat
 |n,[]=>n
 |n,c::r=>num (n*10+(c.toNat-48)) r
def hZ:List UInt8→Bool
 |[]=>true
 |c::r=>if c<48 then false else if 57<c then false else hZ r
theorem tY (c:UInt8) (h1:¬c<48) (h2:¬57<c):(c-48).toNat=c.toNat-48∧¬9<c-48∧c.toNat-48≤9:=by
 have h1':48≤c.toNat:=by simpa [eA]using h1
 have h2':c.toNat≤57:=by simpa [eA]using h2
 have e:(c-48).toNat=c.toNat-48:=UInt8.toNat_sub_of_le c 48 (by simpa [UInt8.le_iff_toNat_le]using h1');refine⟨e, ?_,by omega⟩;rw [eA,e];simp;omega
def lim:Nat→Nat
 |0=>0
 |i+1=>lim i*10+9
theorem xix (i:Nat) (h:i≤9):lim i≤999999999:=by
 have:i=0∨i=1∨i=2∨i=3∨i=4∨i=5∨i=6∨i=7∨i=8∨i=9:=by omega
 rcases this with rfl|rfl|rfl|rfl|rfl|rfl|rfl|rfl|rfl|rfl<;>simp [lim]
theorem xl8 (s0 s:List UInt8) (n:Nat):run T (.loop pE) ⟨[(5,.str s0),(6,.int .i64 n),(47,.byt s .no),(48,.int .i64 s.length),(49,.int .i64 s.length)],[],[]⟩=some (.x 0,⟨[(5,.str s0),(6,.int .i64 n)],[],[]⟩):=by rw [ak];simp only [go_sem,Qh,Qj,Qk,reduceIte]
theorem xql (s0 s:List UInt8) (hl:s.length≤10):∀(m i n:Nat),s.length-i=m→i≤s.length→n≤lim i→hZ (s.drop i)=true→
 run T (.loop pE) ⟨[(5,.str s0),(6,.int .i64 n),(47,.byt s .no),(48,.int .i64 s.length),(49,.int .i64 i)],[],[]⟩=some (.x 0,⟨[(5,.str s0),(6,.int .i64 (num n (s.drop i)))],[],[]⟩):=by
 intro m;induction m with
 |zero=>
  intro i n h0 h1 hn hd;have hi:i=s.length:=by clear hn;omega
  rw [hi,aR];exact xl8 s0 s n
 |succ m ih=>
  intro i n h0 h1 hn hd;have hi:i<s.length:=by omega
  rw [cR s i hi]at hd;simp only [hZ]at hd
  by_cases h2:s.getD i 0<48
  ·rw [if_pos h2]at hd;cases hd
  rw [if_neg h2]at hd
  by_cases h3:57<s.getD i 0
  ·rw [if_pos h3]at hd;cases hd
  rw [if_neg h3]at hd;obtain⟨d1,d2,d3⟩:=tY _ h2 h3;have hp:lim i≤999999999:=xix i (by omega);have hn':n*10+((s.getD i 0).toNat-48)≤lim (i+1):=by simp only [lim];omega
  have ih':=ih (i+1) (n*10+((s.getD i 0).toNat-48)) (by omega) (by omega) hn' hd;have e1:=bW i (by omega);have e2:af.wrap ((n:Int)*10)=((n*10:Nat):Int):=wZ (by omega)
  have e3:af.wrap (((n*10:Nat):Int)+(((s.getD i 0).toNat-48:Nat):Int))=((n*10+((s.getD i 0).toNat-48):Nat):Int):=wZ (by omega)
  rw [ak,cR s i hi];simp only [go_sem,Qh,Qj,Qk,reduceIte,hi,e1,e2,e3,d1,d2];show _=some (Ex.x 0,CSt.mk [(5,.str s0),(6,.int .i64 ((num (n*10+((s.getD i 0).toNat-48)) (s.drop (i+1)):Nat):Int))] [] []);exact ih'
end
section
open Go.Glob
theorem xqE (s:List UInt8) (h0:s≠ []) (hl:s.length≤10) (hd:hZ s=true):call T 167 [.str s] [] 0=some ⟨.tup [.int .i64 (num 0 s),.nili],[],[]⟩:=by
 rw [aq xmV];have h:=xql s s hl _ 0 0 rfl (by omega) (by simp [lim]) (by simpa using hd);simp only [aC,aY]at h;cases s with
 |nil=>exact absurd rfl h0
 |cons c r=>
  simp only [hZ]at hd
  by_cases h2:c<48
  ·rw [if_pos h2]at hd;cases hd
  rw [if_neg h2]at hd
  by_cases h3:57<c
  ·rw [if_pos h3]at hd;cases hd
  have h2':48≤c.toNat:=by simpa [eA]using h2
  have h4:¬c=45:=by rintro rfl;simp at h2'
  have h5:¬c=43:=by rintro rfl;simp at h2'
  have h6:(0:Int)<(((c::r).length:Nat):Int):=by rw [ax];omega
  have h7:¬(10:Int)≤(((c::r).length:Nat):Int)∨True:= .inr trivial;have h8:(((c::r).length:Nat):Int)<19:=by omega
  have h9:List.getD (c::r) 0 0=c:=rfl;generalize hs:c::r=s at*;simp only [go_sem,Q2,Q3,Qh,Qi,Qj,Qk,reduceCtorEq,reduceIte,h,h4,h5,h6,h8,h9]
theorem xo3 (s:List UInt8) (h0:s≠ []) (hl:s.length≤10) (hd:hZ s=true):call T 135 [.str s] [] 0=some ⟨.tup [.int .i64 (num 0 s),.nili],[],[]⟩:=by rw [aq xm8];simp only [go_sem,Qe,Qh,Qi,Qj,Qk,reduceCtorEq,reduceIte,xqE s h0 hl hd,xny]
def rm (s:List UInt8):Int:=if s=[]then-1 else if 10<s.length then-1 else if 1<s.length∧s.getD 0 0=48 then-1 else if hZ s then(num 0 s:Nat)else-1
theorem l94 (s:List UInt8) (hl:s.length≤10):∀(m i:Nat),s.length-i=m→i≤s.length→
 run T (.loop Rc) ⟨[(0,.str s),(24,.int .i64 s.length),(25,.int .i64 i)],[],[]⟩=if hZ (s.drop i)then some (.x 0,⟨[(0,.str s)],[],[]⟩)else some (.r,⟨[(2,.int .i64 (-1))],[],[]⟩):=by
 intro m;induction m with
 |zero=>
  intro i h0 h1;have hi:i=s.length:=by omega
  subst hi;rw [ak];simp only [go_sem,Q7,Qh,Qj,Qk,reduceCtorEq,reduceIte,aR,hZ]
 |succ m ih=>
  intro i h0 h1;have hi:i<s.length:=by omega
  have e1:=bW i (by omega);have ih':=ih (i+1) (by omega) (by omega);rw [ak,cR s i hi]
  by_cases h2:s.getD i 0<48
  ·simp only [go_sem,Q7,Qh,Qj,Qk,reduceCtorEq,reduceIte,hi,hZ,h2]
  ·by_cases h3:57<s.getD i 0
   ·simp only [go_sem,Q7,Qh,Qj,Qk,reduceCtorEq,reduceIte,hi,hZ,h2,h3]
   ·simp only [go_sem,Q7,Qh,Qj,Qk,reduceCtorEq,reduceIte,hi,e1,hZ,h2,h3,ih']
theorem f94 (s:List UInt8) (hs:s.length≤1000000000000):call T 94 [.str s] [] 0=some ⟨.int .i64 (rm s),[],[]⟩:=by
 rw [aq xri];unfold rm
 by_cases h1:s=[]
 ·simp only [go_sem,Q7,Qh,Qi,Qj,Qk,reduceCtorEq,reduceIte,h1]
 by_cases h2:10<s.length
 ·have h2':(10:Int)<((s.length:Nat):Int):=by omega
  simp only [go_sem,Q7,Qh,Qi,Qj,Qk,reduceCtorEq,reduceIte,h1,h2,h2']
 have h2':¬(10:Int)<((s.length:Nat):Int):=by omega
 have hp:(0:Int)<((s.length:Nat):Int):=by cases s with|nil=>exact absurd rfl h1|cons c r=>rw [ax];omega
 have h:=l94 s (by omega) _ 0 rfl (by omega);simp only [aC,aY]at h
 by_cases h3:1<s.length
 ·have h3':(1:Int)<((s.length:Nat):Int):=by omega
  by_cases h4:s.getD 0 0=48
  ·simp only [go_sem,Q2,Q3,Q7,Qh,Qi,Qj,Qk,reduceCtorEq,reduceIte,h1,h2,h2',h3,h3',h4,hp]
  ·cases hd:hZ s with
   |true=>simp only [go_sem,Q2,Q3,Q7,Qe,Qh,Qi,Qj,Qk,reduceCtorEq,reduceIte,h1,h2,h2',h3,h3',h4,hp,h,hd,xo3 s h1 (by omega) hd,xe2]
   |false=>simp only [go_sem,Q2,Q3,Q7,Qh,Qi,Qj,Qk,reduceCtorEq,reduceIte,h1,h2,h2',h3,h3',h4,hp,h,hd]
 ·have h3':¬(1:Int)<((s.length:Nat):Int):=by omega
  cases hd:hZ s with
  |true=>simp only [go_sem,Q2,Q3,Q7,Qe,Qh,Qi,Qj,Qk,reduceCtorEq,reduceIte,h1,h2,h2',h3,h3',hp,h,hd,xo3 s h1 (by omega) hd,xe2]
  |false=>simp only [go_sem,Q2,Q3,Q7,Qh,Qi,Qj,Qk,reduceCtorEq,reduceIte,h1,h2,h2',h3,h3',hp,h,hd]
end
section
open Go.Glob
def alw (k:Int) (t:List UInt8) (lo hi:Int) (b:List UInt8):Bool:=
 if chk k t lo hi=0 then
  (if k=2 then decide (b=t)else if k=3 then gl t b else if k=4 then
   (if t.length≤b.length∧b.take t.length=t then(if lo≤rm (b.drop t.length)then decide (rm (b.drop t.length)≤hi)else false)else false)
   else true)
 else false
theorem f53 (k:Int) (t:List UInt8) (lo hi:Int) (b:List UInt8) (ht:t.length≤1000000000000) (hb:b.length≤1000000000000):
 call T 53 [.agg [.int .i64 k,.str t,.int .i64 lo,.int .i64 hi],.byt b .no] [] 0=some ⟨.bool (alw k t lo hi b),[],[]⟩:=by
 rw [aq xrM];have h:=f90 k t lo hi ht;unfold alw
 by_cases c0:chk k t lo hi=0
 ·by_cases c2:k=2
  ·subst c2
   by_cases c3:b=t
   ·simp only [go_sem,Q5,Qe,Qh,Qi,Qj,Qk,reduceCtorEq,reduceIte,h,ux,c0,c3]
   ·simp only [go_sem,Q5,Qe,Qh,Qi,Qj,Qk,reduceCtorEq,reduceIte,h,ux,c0,c3]
  by_cases c3:k=3
  ·subst c3
   simp only [go_sem,Q5,Qe,Qh,Qi,Qj,Qk,reduceCtorEq,reduceIte,h,ux,c0,f92 t b ht hb,xsk]
  by_cases c4:k=4
  ·subst c4
   have hn:=f94 (b.drop t.length) (by rw [aF];omega)
   by_cases c5:t.length≤b.length∧b.take t.length=t
   ·by_cases c6:lo≤rm (b.drop t.length)
    ·simp only [go_sem,Q5,Qe,Qh,Qi,Qj,Qk,reduceCtorEq,reduceIte,h,ux,c0,f93,xjG,c5,hn,xjF,c6]
    ·simp only [go_sem,Q5,Qe,Qh,Qi,Qj,Qk,reduceCtorEq,reduceIte,h,ux,c0,f93,xjG,c5,hn,xjF,c6]
   ·simp only [go_sem,Q5,Qe,Qh,Qi,Qj,Qk,reduceCtorEq,reduceIte,h,ux,c0,f93,xjG,c5,f94 b hb,xjF]
  ·simp only [go_sem,Qe,Qh,Qi,Qj,Qk,reduceCtorEq,reduceIte,h,ux,c0,c2,c3,c4]
 ·simp only [go_sem,Qe,Qh,Qi,Qj,Qk,reduceCtorEq,reduceIte,h,ux,c0]
end
section
open Go.Glob
theorem dH (B:List UInt8) (i n:Nat) (h:0<n):dp B i n<n:=by
 unfold dp;split
 ·exact Nat.mod_lt _ h
 ·exact h
def bl (f:Nat→Bool) (n:Nat):List (List SV):=(cg n).map fun i=> [.bool (f i)]
theorem rD (f:Nat→Bool) (n:Nat):(bl f n).length=n:=by simp [bl]
theorem uV (f:Nat→Bool) (n i:Nat) (h:i<n):(bl f n).getD i []=[.bool (f i)]:=by simp [bl,aa,aJ,cy h]
theorem kM {f g:Nat→Bool} {n:Nat} (h:∀i,i<n→f i=g i):bl f n=bl g n:=by unfold bl;exact cY fun i hi=>by rw [h i (dL.1 hi)]
theorem QK (n:Nat):am n [SV.bool false]=bl (fun _=>false) n:=by unfold bl;rw [List.map_const'];simp
theorem QJ (f:Nat→Bool) (n i:Nat) (b:Bool):(bl f n).set i [.bool b]=bl (fun j=>if j=i then b else f j) n:=by
 apply ti
 ·simp [bl]
 ·intro k h1 h2
  simp only [bl,List.getElem_set,List.getElem_map,List.getElem_range]
  by_cases h:i=k
  ·rw [if_pos h,if_pos h.symm]
  ·rw [if_neg h,if_neg (fun e=>h e.symm)]
def nx (P L:List UInt8) (k i:Nat):Nat→Bool:=fun j=>decide (j<i)&&rw1 P L (k+1) j
theorem xez {P L:List UInt8} {k i j:Nat} (h:j<i):nx P L k i j=rw1 P L (k+1) j:=by unfold nx;rw [decide_eq_true h,Bool.true_and]
theorem xp0 (P L:List UInt8) (k n:Nat):bl (nx P L k 0) n=bl (fun _=>false) n:=kM fun j _=>by simp [nx]
theorem oZ {P L:List UInt8} {k i n:Nat} {b:Bool} (hb:rw1 P L (k+1) i=b):(bl (nx P L k i) n).set i [.bool b]=bl (nx P L k (i+1)) n:=by
 rw [QJ];refine kM fun j _=> ?_
 unfold nx
 by_cases h:j=i
 ·subst h;rw [if_pos rfl,hb];simp
 ·rw [if_neg h]
  by_cases h2:j<i
  ·rw [decide_eq_true h2,decide_eq_true (by omega:j<i+1)]
  ·rw [decide_eq_false h2,decide_eq_false (by omega:¬j<i+1)]
theorem Tg {P L:List UInt8} {k i n:Nat} (hb:rw1 P L (k+1) i=false):bl (nx P L k i) n=bl (nx P L k (i+1)) n:=by
 refine kM fun j _=> ?_
 unfold nx
 by_cases h:j=i
 ·subst h;rw [hb];simp
 ·by_cases h2:j<i
  ·rw [decide_eq_true h2,decide_eq_true (by omega:j<i+1)]
  ·rw [decide_eq_false h2,decide_eq_false (by omega:¬j<i+1)]
theorem xmn (P L:List UInt8) (k:Nat) (hk:k<P.length) (hL:L.length≤1000000000000):∀(n i:Nat),L.length+1-i=n→i≤L.length+1→
 run T (.loop tK) ⟨[(0,.str P),(1,.byt L .no),(5,.lst 1 (bl (rw1 P L k) (L.length+1)) .clip),(6,.int .i64 k),(7,.psl 124 1 0 (L.length+1) (some (L.length+1))),(8,.int .i64 i)],[(124,.arr 1 (bl (nx P L k i) (L.length+1)))],[]⟩=
 some (.x 2,⟨[(0,.str P),(1,.byt L .no),(6,.int .i64 k),(7,.psl 124 1 0 (L.length+1) (some (L.length+1)))],[(124,.arr 1 (bl (rw1 P L (k+1)) (L.length+1)))],[]⟩):=by
 intro n;induction n with
 |zero=>
  intro i h0 h1;have hi:i=L.length+1:=by omega
  subst hi;have e:bl (nx P L k (L.length+1)) (L.length+1)=bl (rw1 P L (k+1)) (L.length+1):=kM fun j hj=>xez hj
  have c:¬(L.length+1)≤L.length:=by omega
  rw [ak];simp only [go_sem,Qh,Qj,Qk,reduceCtorEq,reduceIte,c,e]
 |succ n ih=>
  intro i h0 h1;have hi:i≤L.length:=by omega
  have hi2:i<L.length+1:=by omega
  have hi3:(i:Int)<((L.length+1:Nat):Int):=by omega
  have e1:=bW i (by omega);have ih':=ih (i+1) (by omega) (by omega);have hg:=uV (rw1 P L k) (L.length+1) i hi2;have hlen:=rD (rw1 P L k) (L.length+1);have hlen2:=rD (nx P L k i) (L.length+1);rw [ak]
  by_cases h42:P.getD k 0=42
  ·have hs:=FS P L k i hk hi h42
   cases hr:rw1 P L k i with
   |true=>rw [hr,fZ]at hs;rw [hr]at hg;have hset:=oZ (n:=L.length+1) hs;simp only [go_sem,Qh,Qj,Qk,reduceCtorEq,reduceIte,hi,hi2,hi3,hk,h42,hg,hlen,hlen2,hset,e1,ih']
   |false=>
    rw [hr,dh]at hs;rw [hr]at hg
    by_cases hp:0<i
    ·have hp':(0:Int)<(i:Int):=by omega
     rw [decide_eq_true hp,Bool.true_and]at hs;have hset:=oZ (n:=L.length+1) hs;have e2:af.wrap ((i:Int)-1)=((i-1:Nat):Int):=wZ (by omega)
     have hg2:=uV (nx P L k i) (L.length+1) (i-1) (by omega);rw [xez (by omega)]at hg2;have hi4:i-1<L.length+1:=by omega
     simp only [go_sem,Qh,Qj,Qk,reduceCtorEq,reduceIte,hi,hi2,hi3,hi4,hk,h42,hg,hg2,hp',hlen,hlen2,hset,e1,e2,ih']
    ·have hp':¬(0:Int)<(i:Int):=by omega
     rw [decide_eq_false hp,E8]at hs;have hset:=oZ (n:=L.length+1) hs;simp only [go_sem,Qh,Qj,Qk,reduceCtorEq,reduceIte,hi,hi2,hi3,hk,h42,hg,hp',hlen,hlen2,hset,e1,ih']
  ·by_cases hp:0<i
   ·have hp':(0:Int)<(i:Int):=by omega
    have e2:af.wrap ((i:Int)-1)=((i-1:Nat):Int):=wZ (by omega)
    have hs:=FT P L k (i-1) hk (by omega) h42;rw [show i-1+1=i from by omega]at hs;have hg2:=uV (rw1 P L k) (L.length+1) (i-1) (by omega);have hi4:i-1<L.length+1:=by omega
    have hi5:i-1<L.length:=by omega
    cases hr:rw1 P L k (i-1)with
    |false=>rw [hr]at hs hg2;rw [E8]at hs;have hset:=oZ (n:=L.length+1) hs;simp only [go_sem,Qb,Qc,Qd,Qh,Qj,Qk,reduceCtorEq,reduceIte,hi,hi2,hi3,hi4,hk,h42,hg2,hp',hlen,hlen2,hset,e1,e2,ih']
    |true=>
     rw [hr]at hs hg2;rw [Bool.true_and]at hs
     by_cases h63:P.getD k 0=63
     ·rw [decide_eq_true h63,fZ]at hs
      have hset:=oZ (n:=L.length+1) hs;have c63:¬(63:UInt8)=42:=by decide
      simp only [go_sem,Qb,Qc,Qd,Qh,Qj,Qk,reduceCtorEq,reduceIte,hi,hi2,hi3,hi4,hk,h63,c63,hg2,hp',hlen,hlen2,hset,e1,e2,ih']
     ·rw [decide_eq_false h63,dh]at hs
      have hset:=oZ (n:=L.length+1) hs;simp only [go_sem,Qb,Qc,Qd,Qh,Qj,Qk,reduceCtorEq,reduceIte,hi,hi2,hi3,hi4,hi5,hk,h42,h63,hg2,hp',hlen,hlen2,hset,e1,e2,ih']
   ·have hp':¬(0:Int)<(i:Int):=by omega
    have hi0:i=0:=by omega
    have hs:rw1 P L (k+1) i=false:=by rw [hi0];exact D2 P L k hk h42
    rw [←Tg hs]at ih';simp only [go_sem,Qh,Qj,Qk,reduceCtorEq,reduceIte,hi,hk,h42,hp',e1,ih']
theorem xmm (P L:List UInt8) (hP:P.length≤1000000000000) (hL:L.length≤1000000000000):∀(n k:Nat),P.length-k=n→k≤P.length→
 run T (.loop tJ) ⟨[(0,.str P),(1,.byt L .no),(5,.lst 1 (bl (rw1 P L k) (L.length+1)) .clip),(6,.int .i64 k)],[],[]⟩=
 some (.x 0,⟨[(1,.byt L .no),(5,.lst 1 (bl (rw1 P L P.length) (L.length+1)) .clip)],[],[]⟩):=by
 intro n;induction n with
 |zero=>
  intro k h0 h1;have hk:k=P.length:=by omega
  subst hk;rw [ak];simp only [go_sem,Qh,Qj,Qk,reduceCtorEq,reduceIte]
 |succ n ih=>
  intro k h0 h1;have hk:k<P.length:=by omega
  have e1:=bW k (by omega);have e2:=bW L.length (by omega);have ih':=ih (k+1) (by omega) (by omega);have h:=xmn P L k hk hL _ 0 rfl (by omega);rw [xp0,←QK]at h;have hb:((L.length+1:Nat):Int)≤9223372036854775807:=by omega
  have hb2:((L.length+1:Nat):Int)≤140737488355328:=by omega
  have hlen:=rD (rw1 P L (k+1)) (L.length+1);have ht:(bl (rw1 P L (k+1)) (L.length+1)).take (L.length+1)=bl (rw1 P L (k+1)) (L.length+1):=co (by rw [hlen];omega);rw [ak];simp only [aC]at h;simp only [go_sem,Qe,Qh,Qj,Qk,reduceCtorEq,reduceIte,hk,e1,e2,hb,hb2,c1,Int.one_mul,h,hlen,ht,ih']
theorem xq2 (P L:List UInt8) (hP:P.length≤1000000000000) (hL:L.length≤1000000000000):call T 100 [.str P,.byt L .no] [] 0=some ⟨.bool (gl P L),[],[]⟩:=by
 rw [aq xnx];have e2:=bW L.length (by omega);have h:=xmm P L hP hL _ 0 rfl (by omega);have hb:((L.length+1:Nat):Int)≤9223372036854775807:=by omega
 have hb2:((L.length+1:Nat):Int)≤140737488355328:=by omega
 have hb3:(0:Int)<((L.length+1:Nat):Int):=by omega
 have h0:0<L.length+1:=by omega
 have hset:(bl (fun _=>false) (L.length+1)).set 0 [.bool true]=bl (rw1 P L 0) (L.length+1):=by rw [QJ];exact kM fun i hi=>by rw [xgy P L i (by omega)];by_cases hi0:i=0<;>simp [hi0]
 have hset2:(am (L.length+1) [SV.bool false]).set 0 [.bool true]=bl (rw1 P L 0) (L.length+1):=by rw [QK];exact hset
 have hlen:=rD (rw1 P L 0) (L.length+1);have ht:(bl (rw1 P L 0) (L.length+1)).take (L.length+1)=bl (rw1 P L 0) (L.length+1):=co (by rw [hlen];omega);have hlen2:=rD (rw1 P L P.length) (L.length+1);have hg:=uV (rw1 P L P.length) (L.length+1) L.length (by omega);rw [Ss]at hg;have hl2:L.length<L.length+1:=by omega
 simp only [aC]at h;simp only [go_sem,Q2,Q3,Qe,Qh,Qi,Qj,Qk,reduceCtorEq,reduceIte,e2,hb,hb2,hb3,h0,c1,Int.one_mul,h,hlen,hlen2,ht,hset2,hg,hl2]
end
section
open Go.Glob
def gx:Nat→List UInt8
 |0=> [97,61,49]
 |1=> [99,111,117,110,116,61,53]
 |2=> [99,111,117,110,116,61,49,55]
 |3=> [104,111,115,116,61,120]
 |4=> [109,111,100,101,32,98]
 |_=> [126]
def E2:Nat→List UInt8
 |0=> []
 |1=> [42]
 |2=> [97,61,63]
 |3=> [42,61,42]
 |4=> [63,111,42,53]
 |5=> [99,111,117,110,116,61,63,63]
 |_=> [42,97,42,42,49,42]
def xeA:Nat→List UInt8
 |0=> [99,111,117,110,116,61]
 |1=> [97,61]
 |_=> []
theorem vZ:∀v,v<6→chk 2 (gx v) 0 0=0∧(gx v).length≤20:=by decide
theorem wg:∀v,v<7→chk 3 (E2 v) 0 0=0∧(E2 v).length≤20:=by decide
theorem tQ:∀v,v<3→prn (xeA v)=true∧(xeA v).length≤20:=by decide
theorem cz0:((0:Nat):Int)=0:=rfl
theorem cz1:((1:Nat):Int)=1:=rfl
theorem cz2:((2:Nat):Int)=2:=rfl
theorem cz3:((3:Nat):Int)=3:=rfl
theorem cz4:((4:Nat):Int)=4:=rfl
theorem cz5:((5:Nat):Int)=5:=rfl
theorem cz6:((6:Nat):Int)=6:=rfl
theorem cz7:((7:Nat):Int)=7:=rfl
theorem f86 (B:List UInt8) (i:Nat) (hB:B.length≤1000):call T 86 [.ptr 0 0] [aG B i] 0=some ⟨.byt (gx (dp B i 6)) .no,[(0,aG B (ce B i))],[]⟩:=by
 rw [aq xrp];have g:=f37 B i 6 (by omega) (by omega);have hm:=dH B i 6 (by omega);rw [cz6]at g;generalize dp B i 6=v at g hm;simp only [aG]at g;have:v=0∨v=1∨v=2∨v=3∨v=4∨v=5:=by omega
 rcases this with rfl|rfl|rfl|rfl|rfl|rfl<;>simp only [cz0,cz1,cz2,cz3,cz4,cz5]at g<;>simp only [go_sem,Q2,Q3,Q4,Qe,Qg,Qh,Qi,Qj,Qk,reduceCtorEq,reduceIte,List.all_replicate,cz6,aG,g,ee,gx]
theorem Un (t:List UInt8) (ht:prn t=true) (hl:t.length≤20) (a b:Nat) (ha:a<1000) (hb:b<1000):chk 4 t a ((a:Int)+b)=0:=by unfold chk;rw [if_neg (by omega),if_neg (by omega),if_pos ht,if_pos rfl,if_neg (by omega),if_neg (by omega),if_neg (by omega),if_neg (by omega)]
theorem xqY (B:List UInt8) (i:Nat) (hB:B.length≤1000):∃(k:Int) (t:List UInt8) (lo hi:Int) (j:Nat),chk k t lo hi=0∧t.length≤20∧
 call T 107 [.ptr 0 0] [aG B i] 0=some ⟨.agg [.int .i64 k,.str t,.int .i64 lo,.int .i64 hi],[(0,aG B j)],[]⟩:=by
 rw [aq E4];have g:=f37 B i 5 (by omega) (by omega);have hm:=dH B i 5 (by omega);rw [cz5]at g;generalize dp B i 5=v at g hm;simp only [aG]at g;have hv:v=0∨v=1∨v=2∨v=3∨v=4:=by omega
 generalize ce B i=i1 at g;have g7:=f37 B i1 7 (by omega) (by omega);have h7:=dH B i1 7 (by omega);have g20:=f37 B i1 20 (by omega) (by omega);have h20:=dH B i1 20 (by omega);have g3:=f37 B (ce B i1) 3 (by omega) (by omega);have h3:=dH B (ce B i1) 3 (by omega);have g30:=f37 B (ce B (ce B i1)) 30 (by omega) (by omega);have h30:=dH B (ce B (ce B i1)) 30 (by omega);have hl:=f86 B i1 hB;have h6:=dH B i1 6 (by omega);simp only [aG]at g7 g20 g3 g30 hl;rw [cz7]at g7;rw [c20]at g20;rw [cz3]at g3;rw [c30]at g30;generalize dp B i1 6=v6 at*;generalize dp B i1 7=v7 at*;generalize dp B i1 20=v20 at*;generalize dp B (ce B i1) 3=v3 at*;generalize dp B (ce B (ce B i1)) 30=v30 at*
 have hN:v=3∨v=4→∃(k:Int) (t:List UInt8) (lo hi:Int) (j:Nat),chk k t lo hi=0∧t.length≤20∧
  call T 107 [.ptr 0 0] [aG B i] 0=some ⟨.agg [.int .i64 k,.str t,.int .i64 lo,.int .i64 hi],[(0,aG B j)],[]⟩:=by
  intro hv;refine⟨4,xeA v3,v20,(v20:Int)+v30,ce B (ce B (ce B i1)),Un _ (tQ _ h3).1 (tQ _ h3).2 _ _ (by omega) (by omega),(tQ _ h3).2, ?_⟩;have e:af.wrap ((v20:Int)+(v30:Int))=(v20:Int)+v30:=w64 (by omega) (by omega);rw [aq E4];have:v3=0∨v3=1∨v3=2:=by omega
  rcases hv with rfl|rfl<;>rcases this with rfl|rfl|rfl<;>simp only [cz0,cz1,cz2,cz3,cz4]at g g3<;>simp only [go_sem,Q2,Q3,Q4,Q5,Qb,Qc,Qd,Qe,Qg,Qh,Qi,Qj,Qk,reduceCtorEq,reduceIte,List.all_replicate,cz3,aG,g,g20,g3,g30,ee,e,xeA]
 rcases hv with rfl|rfl|rfl|rfl|rfl
 ·refine⟨1,[],0,0,i1,by decide,by decide, ?_⟩
  simp only [cz0]at g;simp only [go_sem,Q5,Qe,Qg,Qh,Qi,Qj,Qk,reduceCtorEq,reduceIte,List.all_replicate,aG,g,ee]
 ·refine⟨2,gx v6,0,0,ce B i1,(vZ _ h6).1,(vZ _ h6).2, ?_⟩
  simp only [cz1]at g;simp only [go_sem,Q5,Qe,Qg,Qh,Qi,Qj,Qk,reduceCtorEq,reduceIte,List.all_replicate,aG,g,ee,hl,oF]
 ·refine⟨3,E2 v7,0,0,ce B i1,(wg _ h7).1,(wg _ h7).2, ?_⟩
  simp only [cz2]at g;have:v7=0∨v7=1∨v7=2∨v7=3∨v7=4∨v7=5∨v7=6:=by omega
  rcases this with rfl|rfl|rfl|rfl|rfl|rfl|rfl<;>simp only [cz0,cz1,cz2,cz3,cz4,cz5,cz6]at g7<;>simp only [go_sem,Q2,Q3,Q4,Q5,Qe,Qg,Qh,Qi,Qj,Qk,reduceCtorEq,reduceIte,List.all_replicate,cz7,aG,g,g7,ee,E2]
 ·rw [←aq E4];exact hN (.inl rfl)
 ·rw [←aq E4];exact hN (.inr rfl)
end
section
open Go.Glob
def dg (d:Nat):UInt8:=bQ ((48+d:Nat):Int)
theorem xeQ:∀d,d<10→(dg d).toNat=48+d∧¬dg d<48∧¬57<dg d∧(d≠0→dg d≠48):=by decide
def dec (n:Nat):List UInt8:=if h:n<10 then [dg n]else dec (n/10)++ [dg (n % 10)]
termination_by n
decreasing_by omega
theorem ek {n:Nat} (h:n<10):dec n=[dg n]:=by rw [dec,dif_pos h]
theorem bY {n:Nat} (h:¬n<10):dec n=dec (n/10)++ [dg (n % 10)]:=by rw [dec,dif_neg h]
theorem Uf:∀n,(dec n).length≤n+1:=by
 intro n;induction n using Nat.strongRecOn with
 |_ n ih=>
  by_cases h:n<10
  ·rw [ek h];simp
  ·have:=ih (n/10) (by omega)
   rw [bY h,ah,aH];omega
theorem xi8 (n:Nat):dec n≠ []:=by
 by_cases h:n<10
 ·rw [ek h];simp
 ·rw [bY h];simp
theorem jp:∀k n,n<10^(k+1)→(dec n).length≤k+1
 |0,n,h=>by rw [ek (by simpa using h)];simp
 |k+1,n,h=>by
  by_cases h1:n<10
  ·rw [ek h1];simp
  ·have:=jp k (n/10) (by rw [Nat.pow_succ]at h;omega)
   rw [bY h1,ah,aH];omega
theorem C1:∀(s t:List UInt8) (a:Nat),num a (s++t)=num (num a s) t
 |[],_,_=>rfl
 |c::s,t,a=>C1 s t _
theorem Gg (s:List UInt8) (c:UInt8) (a:Nat):num a (s++ [c])=num a s*10+(c.toNat-48):=by rw [C1];rfl
theorem lf (c:UInt8) (s:List UInt8):hZ (c::s)=(decide (¬c<48∧¬57<c)&&hZ s):=by
 simp only [hZ]
 by_cases h1:c<48
 ·rw [if_pos h1,decide_eq_false (by simp [h1])];rfl
 ·by_cases h2:57<c
  ·rw [if_neg h1,if_pos h2,decide_eq_false (by simp [h2])];rfl
  ·rw [if_neg h1,if_neg h2,decide_eq_true ⟨h1,h2⟩];rfl
theorem wy:∀s t:List UInt8,hZ (s++t)=(hZ s&&hZ t)
 |[],_=>rfl
 |c::s,t=>by rw [bG,lf,lf,wy s t,Bool.and_assoc]
theorem GO {c:UInt8} (h:hZ [c]=true):¬c<48∧¬57<c:=by rw [lf,an,decide_eq_true_eq]at h;exact h.1
theorem we {s t:List UInt8} (h:s≠ []):(s++t).getD 0 0=s.getD 0 0:=by
 cases s with
 |nil=>exact absurd rfl h
 |cons c s=>rfl
theorem GQ:∀n,1≤n→(dec n).getD 0 0≠48:=by
 intro n;induction n using Nat.strongRecOn with
 |_ n ih=>
  intro h1
  by_cases h:n<10
  ·rw [ek h];exact(xeQ n h).2.2.2 (by omega)
  ·rw [bY h,we (xi8 _)];exact ih (n/10) (by omega) (by omega)
theorem xeR (c:UInt8) (h1:¬c<48) (h2:¬57<c):dg (c.toNat-48)=c∧c.toNat-48<10:=by
 have h1':48≤c.toNat:=by simpa [eA]using h1
 have h2':c.toNat≤57:=by simpa [eA]using h2
 have h3:c.toNat-48<10:=by omega
 refine⟨?_,h3⟩;apply sX.1;rw [(xeQ _ h3).1];omega
theorem GP (N:Nat) (r:List UInt8) (c:UInt8) (h1:¬c<48) (h2:¬57<c) (e1:dec N=r) (e2:1≤N):dec (N*10+(c.toNat-48))=r++ [c]∧1≤N*10+(c.toNat-48):=by
 obtain⟨q1,q2⟩:=xeR c h1 h2;generalize c.toNat-48=d at*;have h3:¬N*10+d<10:=by omega
 refine⟨?_,by omega⟩;rw [bY h3,show(N*10+d)/10=N from by omega,show(N*10+d) % 10=d from by omega,e1,q1]
theorem Ud (c:UInt8) (h1:¬c<48) (h2:¬57<c) (hc:c≠48):dec (c.toNat-48)=[c]∧1≤c.toNat-48:=by
 obtain⟨q1,q2⟩:=xeR c h1 h2;have h1':48≤c.toNat:=by simpa [eA]using h1
 have:c.toNat≠48:=fun e=>hc (sX.1 e)
 have h3:1≤c.toNat-48:=by omega
 exact⟨by rw [ek q2,q1],h3⟩
theorem Th (c:UInt8):num 0 [c]=c.toNat-48:=by show 0*10+(c.toNat-48)=_;generalize c.toNat-48=d;omega
theorem Ue:∀(n:Nat) (s:List UInt8),s.length=n→hZ s=true→s≠ []→s.getD 0 0≠48→dec (num 0 s)=s∧1≤num 0 s:=by
 intro n;induction n with
 |zero=>intro s h _ h0;exact absurd (bJ.1 h) h0
 |succ n ih=>
  intro s hl hd h0 hh;obtain⟨r,c,rfl⟩:∃r c,s=r++ [c]:=⟨s.dropLast,s.getLast h0,(List.dropLast_concat_getLast h0).symm⟩;rw [wy,an]at hd;obtain⟨h1,h2⟩:=GO hd.2;rcases Classical.em (r=[])with hr|hr
  ·subst hr
   have hc:c≠48:=hh;rw [bp,Th];exact Ud c h1 h2 hc
  ·rw [we hr]at hh
   obtain⟨e1,e2⟩:=ih r (by simpa using hl) hd.1 hr hh;rw [Gg];generalize num 0 r=N at*;exact GP N r c h1 h2 e1 e2
theorem Tj {s:List UInt8} (h0:s≠ []) (h1:s.length≤10) (h2:hZ s=true):rm s=if dec (num 0 s)=s then((num 0 s:Nat):Int)else-1:=by
 unfold rm;rw [if_neg h0,if_neg (show ¬10<s.length by omega)]
 by_cases h3:1<s.length∧s.getD 0 0=48
 ·rw [if_pos h3,if_neg]
  intro e
  by_cases hz:1≤num 0 s
  ·have:=GQ _ hz
   rw [e]at this;exact this h3.2
  ·rw [show num 0 s=0 from by omega,ek (by omega)]at e
   have:=h3.1;rw [←e]at this;simp at this
 ·rw [if_neg h3,if_pos h2,if_pos]
  by_cases hh:s.getD 0 0=48
  ·have hl:s.length=1:=by
    have:s.length≠0:=fun e=>h0 (bJ.1 e)
    have h4:¬1<s.length:=fun q=>h3 ⟨q,hh⟩
    omega
   match s,hl with
   |[c],_=>have hc:c=48:=hh;subst hc;rw [show num 0 [48]=0 from rfl,ek (by omega)];rfl
  ·exact(Ue _ s rfl h2 h0 hh).1
theorem Ti {s:List UInt8} (h2:hZ s=false):rm s= -1:=by
 unfold rm;rw [h2]
 repeat' split
 all_goals first|rfl|(rename_i h;cases h)
theorem Ed {s:List UInt8} (h:10<s.length):rm s= -1:=by
 unfold rm;split
 ·rfl
 ·first|rfl|rw [if_pos h]
theorem f97:∀n:Nat,n≤1000000000000→call T 97 [.int .i64 n] [] 0=some ⟨.byt (dec n) (.id 60),[],[60]⟩:=by
 intro n;induction n using Nat.strongRecOn with
 |_ n ih=>
  intro hn;rw [aq xrf]
  by_cases h:n<10
  ·have h':(n:Int)<10:=by omega
   have e1:af.wrap (48+(n:Int))=((48+n:Nat):Int):=wZ (by omega)
   have e2:bQ ((48+n:Nat):Int)=dg n:=rfl;simp only [go_sem,Qh,Qi,Qj,Qk,reduceCtorEq,reduceIte,h',e1,e2,ek h]
  ·have h':¬(n:Int)<10:=by omega
   have i1:=ih (n/10) (by omega) (by omega);have e0:(n:Int).tdiv 10=((n/10:Nat):Int):=rfl;have e0':(n:Int).tmod 10=((n % 10:Nat):Int):=rfl;have e00:af.wrap ((n/10:Nat):Int)=((n/10:Nat):Int):=w64 (by omega) (by omega);have e1:af.wrap (48+((n % 10:Nat):Int))=((48+n % 10:Nat):Int):=wZ (by omega)
   have e2:bQ ((48+n % 10:Nat):Int)=dg (n % 10):=rfl;have hl:=Uf (n/10);have hl2:(dec (n/10)).length+1≤140737488355328:=by omega
   simp only [go_sem,Q5,Qe,Qg,Qh,Qi,Qj,Qk,reduceCtorEq,reduceIte,h',i1,e0,e0',e00,e1,e2,hl2,UI,bY h]
theorem l58 (b:List UInt8) (k:Int) (t:List UInt8) (lo hi:Int) (nn:Int):∀(m i v j:Nat),b.length-i=m→i≤b.length→b.length≤1000000000000→v<10^j→j+m≤10→
 run T (.loop yT) ⟨[(1,.byt b .no),(2,.ptr 102 0),(5,.int .i64 nn),(6,.int .i64 v),(7,.int .i64 i)],[(102,.rc [.int .i64 k,.str t,.int .i64 lo,.int .i64 hi])],[]⟩=
 if hZ (b.drop i)then some (.x 1,⟨[(1,.byt b .no),(2,.ptr 102 0),(5,.int .i64 nn),(6,.int .i64 (num v (b.drop i):Nat))],[(102,.rc [.int .i64 k,.str t,.int .i64 lo,.int .i64 hi])],[]⟩)
 else some (.r,⟨[(4,.bool false)],[(102,.rc [.int .i64 k,.str t,.int .i64 lo,.int .i64 hi])],[]⟩):=by
 intro m;induction m with
 |zero=>
  intro i v j h0 h1 hb hv hj;have hi:i=b.length:=by omega
  subst hi;have hn:num v (b.drop b.length)=v:=by rw [aR];rfl
  have hd:hZ (b.drop b.length)=true:=by rw [aR];rfl
  rw [ak,hd,hn];simp only [go_sem,Qh,Qj,Qk,reduceIte]
 |succ m ih=>
  intro i v j h0 h1 hb hv hj;have hi:i<b.length:=by omega
  have e1:=bW i (by omega);have hn:num v (b.drop i)=num (v*10+((b.getD i 0).toNat-48)) (b.drop (i+1)):=by rw [cR b i hi];rfl
  have hd:hZ (b.drop i)=(if b.getD i 0<48 then false else if 57<b.getD i 0 then false else hZ (b.drop (i+1))):=by rw [cR b i hi];rfl
  rw [ak,hd,hn]
  by_cases h2:b.getD i 0<48
  ·simp only [go_sem,Qh,Qj,Qk,reduceIte,hi,h2]
  ·by_cases h3:57<b.getD i 0
   ·simp only [go_sem,Qh,Qj,Qk,reduceIte,hi,h2,h3]
   ·obtain⟨q1,q2,q3⟩:=tY _ h2 h3
    have hp:10^j≤10^9:=Nat.pow_le_pow_right (by omega) (by omega);have hv9:v<1000000000:=by have:(10:Nat)^9=1000000000:=rfl;omega
    have hv':v*10+((b.getD i 0).toNat-48)<10^(j+1):=by rw [Nat.pow_succ];omega
    have ih':=ih (i+1) (v*10+((b.getD i 0).toNat-48)) (j+1) (by omega) (by omega) hb hv' (by omega);have e2:af.wrap (10*(v:Int))=((10*v:Nat):Int):=wZ (by omega)
    have e3:af.wrap (((10*v:Nat):Int)+((b.getD i 0-48).toNat:Nat))=((v*10+((b.getD i 0).toNat-48):Nat):Int):=by rw [q1,w64 (by omega) (by omega)];omega
    generalize v*10+((b.getD i 0).toNat-48)=v' at*;simp only [go_sem,Qh,Qj,Qk,reduceIte,hi,e1,h2,h3,e2,e3,ih']
theorem xmP {k lo hi:Int} {t b:List UInt8} (hk:k=4) (hc:chk k t lo hi=0):0≤lo:=by
 subst hk;unfold chk at hc
 by_cases h:prn t=true
 ·rw [if_neg (by omega),if_neg (by omega),if_pos h,if_pos rfl]at hc
  by_cases h1:lo<0
  ·rw [if_pos h1]at hc;cases hc
  ·omega
 ·rw [if_neg (by omega),if_neg (by omega),if_neg h]at hc;cases hc
theorem f58 (k:Int) (t:List UInt8) (lo hi:Int) (b:List UInt8) (ht:t.length≤1000000000000) (hb:b.length≤1000000000000):
 call T 58 [.agg [.int .i64 k,.str t,.int .i64 lo,.int .i64 hi],.byt b .no] [] 0=some ⟨.bool (alw k t lo hi b),[],[]⟩:=by
 rw [aq xrH];have h:=f96 k t lo hi ht;unfold alw
 by_cases c0:chk k t lo hi=0
 ·by_cases c1:k=1
  ·subst c1
   simp only [go_sem,Q5,Qe,Qh,Qi,Qj,Qk,reduceCtorEq,reduceIte,h,nz,c0]
  by_cases c2:k=2
  ·subst c2
   have g:=f25 t b
   by_cases c3:b=t
   ·subst c3
    have g:=f25 b b (by omega);simp only [go_sem,Q5,Qe,Qh,Qi,Qj,Qk,reduceCtorEq,reduceIte,h,nz,c0,g,lO]
   ·have c3':¬t=b:=fun e=>c3 e.symm
    have g:=f25 t b (by omega);simp only [go_sem,Q5,Qe,Qh,Qi,Qj,Qk,reduceCtorEq,reduceIte,h,nz,c0,g,lO,c3,c3']
  by_cases c3:k=3
  ·subst c3
   simp only [go_sem,Q5,Qe,Qh,Qi,Qj,Qk,reduceCtorEq,reduceIte,h,nz,c0,xq2 t b ht hb,xnP]
  have c4:k=4:=by
   unfold chk at c0
   by_cases q1:k<1
   ·rw [if_pos q1]at c0;cases c0
   by_cases q2:4<k
   ·rw [if_neg q1,if_pos q2]at c0;cases c0
   omega
  have hlo:=xmP (b:=b) c4 c0;subst c4;have e1:af.wrap ((t.length:Int)+10)=((t.length+10:Nat):Int):=wZ (by omega)
  have hneg:¬lo≤ -1:=by omega
  by_cases d1:b.length≤t.length
  ·have hv:(t.length≤b.length∧b.take t.length=t)→rm (b.drop t.length)= -1:=by
    rintro⟨q,_⟩;rw [bE d1];rfl
   by_cases q:t.length≤b.length∧b.take t.length=t
   ·rw [if_pos q,hv q]
    simp only [go_sem,Q5,Q7,Qb,Qc,Qd,Qe,Qh,Qi,Qj,Qk,reduceCtorEq,reduceIte,h,nz,c0,d1,hneg]
   ·simp only [go_sem,Q5,Qb,Qc,Qd,Qe,Qh,Qi,Qj,Qk,reduceCtorEq,reduceIte,h,nz,c0,d1,q]
  by_cases d2:t.length+10<b.length
  ·have hv:rm (b.drop t.length)= -1:=Ed (by rw [aF];omega)
   rw [hv]
   by_cases q:t.length≤b.length∧b.take t.length=t
   ·simp only [go_sem,Q5,Q7,Qb,Qc,Qd,Qe,Qh,Qi,Qj,Qk,reduceCtorEq,reduceIte,h,nz,c0,d1,d2,e1,hneg,q]
   ·simp only [go_sem,Q5,Q7,Qb,Qc,Qd,Qe,Qh,Qi,Qj,Qk,reduceCtorEq,reduceIte,h,nz,c0,d1,d2,e1,hneg,q]
  have d3:t.length≤b.length:=by omega
  have g:=f25 t (b.take t.length) (by omega)
  by_cases q:b.take t.length=t
  ·rw [q]at g
   have hl:=l58 b 4 t lo hi t.length _ t.length 0 0 rfl d3 hb (by simp) (by omega);simp only [aC]at hl
   have hne:b.drop t.length≠ []:=by intro e;have:=congrArg rH e;rw [aF]at this;simp at this;omega
   have hl10:(b.drop t.length).length≤10:=by rw [aF];omega
   cases hd:hZ (b.drop t.length)with
   |false=>rw [Ti hd];rw [hd]at hl;simp only [go_sem,Q2,Q3,Q5,Q7,Qb,Qc,Qd,Qe,Qh,Qi,Qj,Qk,reduceCtorEq,reduceIte,h,nz,c0,d1,d2,d3,e1,hneg,q,g,lO,hl]
   |true=>
    rw [Tj hne hl10 hd];rw [hd]at hl;generalize hr:b.drop t.length=r at*
    have hnb:num 0 r≤1000000000000:=by
     have key:∀(s:List UInt8) (a j:Nat),hZ s=true→a<10^j→num a s<10^(j+s.length):=by
      intro s;induction s with
      |nil=>intro a j _ h;exact h
      |cons c s ih=>intro a j hd ha;rw [lf,an,decide_eq_true_eq]at hd;obtain⟨_,_,q3⟩:=tY c hd.1.1 hd.1.2;have:=ih (a*10+(c.toNat-48)) (j+1) hd.2 (by rw [Nat.pow_succ];omega);rw [ax,show j+(s.length+1)=j+1+s.length from by omega];exact this
     have h1:=key r 0 0 hd (by simp);have h2:10^(0+r.length)≤10^10:=Nat.pow_le_pow_right (by omega) (by omega);have:(10:Nat)^10=10000000000:=rfl;omega
    have g2:=f97 (num 0 r) hnb;have g3:=f25 (dec (num 0 r)) r (by have:=jp 12 (num 0 r) (by have:(10:Nat)^13=10000000000000:=rfl;omega);omega);generalize num 0 r=v at*
    by_cases q5:dec v=r
    ·rw [q5]at g2 g3
     by_cases q6:lo≤(v:Int)
     ·simp only [go_sem,Q2,Q3,Q5,Q7,Qb,Qc,Qd,Qe,Qg,Qh,Qi,Qj,Qk,reduceCtorEq,reduceIte,h,nz,c0,d1,d2,d3,e1,q,g,lO,hl,br,hr,g2,UI,g3,q5,q6]
     ·simp only [go_sem,Q2,Q3,Q5,Q7,Qb,Qc,Qd,Qe,Qg,Qh,Qi,Qj,Qk,reduceCtorEq,reduceIte,h,nz,c0,d1,d2,d3,e1,q,g,lO,hl,br,hr,g2,UI,g3,q5,q6]
    ·simp only [go_sem,Q2,Q3,Q5,Q7,Qb,Qc,Qd,Qe,Qg,Qh,Qi,Qj,Qk,reduceCtorEq,reduceIte,h,nz,c0,d1,d2,d3,e1,hneg,q,g,lO,hl,br,hr,g2,UI,g3,q5]
  ·have q':¬t=b.take t.length:=fun e=>q e.symm
   simp only [go_sem,Q2,Q3,Q5,Qb,Qc,Qd,Qe,Qh,Qi,Qj,Qk,reduceCtorEq,reduceIte,h,nz,c0,d1,d2,d3,e1,q,q',g,lO]
 ·simp only [go_sem,Qe,Qh,Qi,Qj,Qk,reduceCtorEq,reduceIte,h,nz,c0]
end
def rr (x:Int) (n:Nat):Int:=bq .or .u32 (x.fdiv (2^n)) (aw.wrap (x*2^(32-n)))
theorem lE (k:IntKind) (x y:Int):bq .or k x y=bq .or k y x:=by simp only [bq,BitVec.or_comm]
theorem wo (x:Int) (n:Nat) (h:n≤32):call T 129 [.int .u32 x,.int .u64 n] [] 0=some ⟨.int .u32 (rr x n),[],[]⟩:=by
 rw [aq xne];have e:bi.wrap (32-(n:Int))=((32-n:Nat):Int):=by rw [dt];omega
 have e2:min n 32=n:=by omega
 have e3:min (32-n) 32=32-n:=by omega
 have e4:(0:Int)≤((32-n:Nat):Int):=by omega
 simp only [go_sem,Qe,Qh,Qi,Qj,Qk,reduceCtorEq,reduceIte,e,e2,e3,e4,rr]
theorem rA (x k:Int) (n:Nat) (h:n≤32) (hk:bq .and .u64 (bi.wrap k) 31=((32-n:Nat):Int)):call T 142 [.int .u32 x,.int .i64 k] [] 0=some ⟨.int .u32 (rr x n),[],[]⟩:=by
 rw [aq xm4];have e:bi.wrap (32-((32-n:Nat):Int))=(n:Int):=by rw [dt];omega
 have e2:min n 32=n:=by omega
 have e3:min (32-n) 32=32-n:=by omega
 simp only [go_sem,Qe,Qh,Qi,Qj,Qk,reduceCtorEq,reduceIte,hk,e,e2,e3,rr,lE]
theorem m24:min 24 32=24:=rfl
theorem m16:min 16 32=16:=rfl
theorem m8:min 8 32=8:=rfl
theorem m3:min 3 32=3:=rfl
theorem m10:min 10 32=10:=rfl
def wd (B:List UInt8) (t:Nat):Int:=
 bq .or .u32 (bq .or .u32 (bq .or .u32 (aw.wrap (((B.getD (4*t) 0).toNat:Int)*2^24)) (aw.wrap (((B.getD (4*t+1) 0).toNat:Int)*2^16)))
  (aw.wrap (((B.getD (4*t+2) 0).toNat:Int)*2^8))) ((B.getD (4*t+3) 0).toNat:Int)
theorem xo2 (B:List UInt8) (t:Nat) (h:4*t+3<B.length) (hl:B.length≤1000000000000):call T 141 [.byt B .no,.int .i64 t] [] 0=some ⟨.int .u32 (wd B t),[],[]⟩:=by
 rw [aq xm5];have e0:af.wrap (4*(t:Int))=((4*t:Nat):Int):=wZ (by omega)
 have e1:af.wrap (((4*t:Nat):Int)+1)=((4*t+1:Nat):Int):=wZ (by omega)
 have e2:af.wrap (((4*t:Nat):Int)+2)=((4*t+2:Nat):Int):=wZ (by omega)
 have e3:af.wrap (((4*t:Nat):Int)+3)=((4*t+3:Nat):Int):=wZ (by omega)
 have h0:4*t<B.length:=by omega
 have h1:4*t+1<B.length:=by omega
 have h2:4*t+2<B.length:=by omega
 simp only [go_sem,Q2,Q3,Qe,Qh,Qi,Qj,Qk,reduceCtorEq,reduceIte,e0,e1,e2,e3,h,h0,h1,h2,wd,m24,m16,m8]
theorem xo7 (B:List UInt8) (t:Nat) (h:4*t+3<B.length) (hl:B.length≤1000000000000):call T 128 [.byt B .no,.int .i64 t] [] 0=some ⟨.int .u32 (wd B t),[],[]⟩:=by
 rw [aq xnf];have e0:af.wrap (4*(t:Int))=((4*t:Nat):Int):=wZ (by omega)
 have e1:af.wrap (((4*t:Nat):Int)+1)=((4*t+1:Nat):Int):=wZ (by omega)
 have e2:af.wrap (((4*t:Nat):Int)+2)=((4*t+2:Nat):Int):=wZ (by omega)
 have e3:af.wrap (((4*t:Nat):Int)+3)=((4*t+3:Nat):Int):=wZ (by omega)
 have h0:4*t<B.length:=by omega
 have h1:4*t+1<B.length:=by omega
 have h2:4*t+2<B.length:=by omega
 simp only [go_sem,Q2,Q3,Qe,Qh,Qi,Qj,Qk,reduceCtorEq,reduceIte,e0,e1,e2,e3,h,h0,h1,h2,wd,m24,m16,m8]
def nw (B:List UInt8) (L:List Int) (t:Nat):Int:=
 if t<16 then wd B t else
  let x:=L.getD (t-15) 0
  let y:=L.getD (t-2) 0
  aw.wrap (aw.wrap (aw.wrap (bq .xor .u32 (bq .xor .u32 (rr y 17) (rr y 19)) (y.fdiv (2^10))+L.getD (t-7) 0)+
   bq .xor .u32 (bq .xor .u32 (rr x 7) (rr x 18)) (x.fdiv (2^3)))+L.getD (t-16) 0)
def Wl (B:List UInt8):Nat→List Int
 |0=>am 64 0
 |t+1=>(Wl B t).set t (nw B (Wl B t) t)
theorem uZ (B:List UInt8) (t:Nat):(Wl B t).length=64:=by
 induction t with
 |zero=>simp [Wl]
 |succ n ih=>simp [Wl,ih]
def ws (L:List Int):List (List SV):=L.map fun x=> [.int .u32 x]
theorem dz (L:List Int):(ws L).length=L.length:=by simp [ws]
theorem ca (L:List Int) (i:Nat) (h:i<L.length):(ws L).getD i []=[.int .u32 (L.getD i 0)]:=by simp [ws,aa,aJ,ab h]
theorem lm (L:List Int) (i:Nat) (x:Int):(ws L).set i [.int .u32 x]=ws (L.set i x):=by unfold ws;rw [List.map_set]
theorem uy (n:Nat):am n [SV.int .u32 0]=ws (am n 0):=by unfold ws;rw [List.map_replicate]
theorem xmf (B:List UInt8) (O:aB) (hB:B.length=64):∀(n t:Nat),64-t=n→t≤64→
 run T (.loop tH) ⟨[(0,.ptr 0 0),(1,.byt B .no),(4,.ptr 104 0),(17,.int .i64 t)],[(0,O),(104,.arr 1 (ws (Wl B t)))],[]⟩=
 some (.x 0,⟨[(0,.ptr 0 0),(4,.ptr 104 0)],[(0,O),(104,.arr 1 (ws (Wl B 64)))],[]⟩):=by
 intro n;induction n with
 |zero=>
  intro t h0 h1;have hi:t=64:=by omega
  subst hi;rw [ak];simp only [c64,go_sem,Q4,Q7,Qh,Qj,Qk,reduceCtorEq,reduceIte]
 |succ n ih=>
  intro t h0 h1;have ih':=ih (t+1) (by omega) (by omega);have e1:=bW t (by omega);have hlt:(t:Int)<64:=by omega
  have hl:=uZ B t;have hw:=dz (Wl B t);have hn:t<64:=by omega
  have hs:Wl B (t+1)=(Wl B t).set t (nw B (Wl B t) t):=rfl;rw [ak]
  by_cases h16:t<16
  ·have g:=xo2 B t (by omega) (by omega)
   have h16':(t:Int)<16:=by omega
   have hx:nw B (Wl B t) t=wd B t:=by unfold nw;rw [if_pos h16]
   rw [hs,hx]at ih';simp only [go_sem,Q7,Qh,Qj,Qk,reduceCtorEq,reduceIte,hlt,h16',e1,g,hl,hw,xe1,hn,lm,ih']
  ·have h16':¬(t:Int)<16:=by omega
   have a15:af.wrap ((t:Int)-15)=((t-15:Nat):Int):=wZ (by omega)
   have a2:af.wrap ((t:Int)-2)=((t-2:Nat):Int):=wZ (by omega)
   have a7:af.wrap ((t:Int)-7)=((t-7:Nat):Int):=wZ (by omega)
   have a16:af.wrap ((t:Int)-16)=((t-16:Nat):Int):=wZ (by omega)
   have b15:t-15<64:=by omega
   have b2:t-2<64:=by omega
   have b7:t-7<64:=by omega
   have b16:t-16<64:=by omega
   have d15:=ca (Wl B t) (t-15) (by omega);have d2:=ca (Wl B t) (t-2) (by omega);have d7:=ca (Wl B t) (t-7) (by omega);have d16:=ca (Wl B t) (t-16) (by omega);have r7:=fun x=>rA x (-7) 7 (by omega) (by decide)
   have r18:=fun x=>rA x (-18) 18 (by omega) (by decide)
   have r17:=fun x=>rA x (-17) 17 (by omega) (by decide)
   have r19:=fun x=>rA x (-19) 19 (by omega) (by decide)
   rw [hs]at ih';unfold nw at ih';rw [if_neg h16]at ih';simp only [go_sem,Q2,Q3,Q7,Qb,Qc,Qd,Qh,Qj,Qk,reduceCtorEq,reduceIte,hlt,h16',e1,hl,hw,rN,hn,a15,a2,a7,a16,b15,b2,b7,b16,d15,d2,d7,d16,r7,r18,r17,r19,lm,m3,m10,ih']
def Kl:List Int:=jb.map fun| .int _ x=>x|_=>0
theorem Au:Kl.length=64:=rfl
theorem nO:jb.length=64:=rfl
theorem xjr:jb=Kl.map (SV.int .u32):=rfl
theorem xiC {t:Nat} (h:t<64):(1≤(fO (t*1) jb).length)=True:=by refine eq_true ?_;rw [aF,nO];omega
theorem xiD {t:Nat} (h:t<64):(List.map SV.data (fO (t*1) jb)).getD 0 SV.undef= .int .u32 (Kl.getD t 0):=by
 rw [xjr,aa,aJ,bx,aJ,dm,eP,aa,
  ab (show t<Kl.length from h)]
 rfl
def rnd (k w:Int) (s:List Int):List Int:=
 let a:=s.getD 0 0
 let e:=s.getD 4 0
 let t1:=aw.wrap (aw.wrap (aw.wrap (aw.wrap (s.getD 7 0+bq .xor .u32 (bq .xor .u32 (rr e 6) (rr e 11)) (rr e 25))+
  bq .xor .u32 (bq .and .u32 e (s.getD 5 0)) (bq .and .u32 (bq .xor .u32 (if aw.signed=true then-1 else aw.max) e) (s.getD 6 0)))+k)+w)
 let t2:=aw.wrap (bq .xor .u32 (bq .xor .u32 (rr a 2) (rr a 13)) (rr a 22)+
  bq .xor .u32 (bq .xor .u32 (bq .and .u32 a (s.getD 1 0)) (bq .and .u32 a (s.getD 2 0))) (bq .and .u32 (s.getD 1 0) (s.getD 2 0)))
 [aw.wrap (t1+t2),a,s.getD 1 0,s.getD 2 0,aw.wrap (s.getD 3 0+t1),e,s.getD 5 0,s.getD 6 0]
theorem ws8 (a b c d e f g h:Int):ws [a,b,c,d,e,f,g,h]=[[.int .u32 a],[.int .u32 b],[.int .u32 c],[.int .u32 d],[.int .u32 e],[.int .u32 f],[.int .u32 g],[.int .u32 h]]:=rfl
def rounds (W:List Int) (h:List Int):Nat→List Int
 |0=>h
 |t+1=>rnd (Kl.getD t 0) (W.getD t 0) (rounds W h t)
theorem iv (W h:List Int) (hh:h.length=8) (t:Nat):(rounds W h t).length=8:=by
 cases t<;>simp [rounds,rnd,hh]
theorem n6 (x:Int):call T 142 [.int .u32 x,.int .i64 (-6)] [] 0=some ⟨.int .u32 (rr x 6),[],[]⟩:=rA x (-6) 6 (by omega) (by decide)
theorem n11 (x:Int):call T 142 [.int .u32 x,.int .i64 (-11)] [] 0=some ⟨.int .u32 (rr x 11),[],[]⟩:=rA x (-11) 11 (by omega) (by decide)
theorem n25 (x:Int):call T 142 [.int .u32 x,.int .i64 (-25)] [] 0=some ⟨.int .u32 (rr x 25),[],[]⟩:=rA x (-25) 25 (by omega) (by decide)
theorem n2 (x:Int):call T 142 [.int .u32 x,.int .i64 (-2)] [] 0=some ⟨.int .u32 (rr x 2),[],[]⟩:=rA x (-2) 2 (by omega) (by decide)
theorem n13 (x:Int):call T 142 [.int .u32 x,.int .i64 (-13)] [] 0=some ⟨.int .u32 (rr x 13),[],[]⟩:=rA x (-13) 13 (by omega) (by decide)
theorem n22 (x:Int):call T 142 [.int .u32 x,.int .i64 (-22)] [] 0=some ⟨.int .u32 (rr x 22),[],[]⟩:=rA x (-22) 22 (by omega) (by decide)
theorem xme (W h:List Int) (O:aB) (hW:W.length=64) (hh:h.length=8):∀(n t:Nat),64-t=n→t≤64→
 run T (.loop tG) ⟨[(0,.ptr 0 0),(4,.ptr 104 0),(10,.ptr 110 0),(70,.int .i64 t)],[(0,O),(104,.arr 1 (ws W)),(110,.arr 1 (ws (rounds W h t)))],[]⟩=
 some (.x 2,⟨[(0,.ptr 0 0),(10,.ptr 110 0)],[(0,O),(104,.arr 1 (ws W)),(110,.arr 1 (ws (rounds W h 64)))],[]⟩):=by
 intro n;induction n with
 |zero=>
  intro t h0 h1;have hi:t=64:=by omega
  subst hi;rw [ak];simp only [c64,go_sem,Q4,Q7,Qh,Qj,Qk,reduceCtorEq,reduceIte]
 |succ n ih=>
  intro t h0 h1;have ih':=ih (t+1) (by omega) (by omega);have e1:=bW t (by omega);have hlt:(t:Int)<64:=by omega
  have hn:t<64:=by omega
  have hl:=iv W h hh t;have hw:=dz (rounds W h t);have hw2:=dz W;have hs:rounds W h (t+1)=rnd (Kl.getD t 0) (W.getD t 0) (rounds W h t):=rfl;rw [hs]at ih';simp only [rnd,ws8]at ih';generalize rounds W h t=s at*;have d0:=ca s 0 (by omega);have d1:=ca s 1 (by omega);have d2:=ca s 2 (by omega);have d3:=ca s 3 (by omega);have d4:=ca s 4 (by omega);have d5:=ca s 5 (by omega);have d6:=ca s 6 (by omega);have d7:=ca s 7 (by omega);have dW:=ca W t (by omega);have dK:=ca Kl t (by rw [Au];exact hn);rw [ak];simp only [go_sem,Q2,Q3,Q4,Q7,Qb,Qc,Qd,Qe,Qg,Qh,Qi,Qj,Qk,reduceCtorEq,reduceIte,hlt,e1,hl,hw,hw2,hW,rN,hn,d0,d1,d2,d3,d4,d5,d6,d7,dW,n6,n11,n25,n2,n13,n22,c8,c64,nO,xiC hn,xiD hn,ih']
def uu:List Int→List Int→List Int
 |x::l,y::r=>aw.wrap (x+y)::uu l r
 |_,_=> []
theorem xmd (h s:List Int) (P:aB) (hh:h.length=8) (hs:s.length=8):
 run T (.loop tF) ⟨[(0,.ptr 0 0),(10,.ptr 110 0),(152,.int .i64 0)],[(0,.arr 1 (ws h)),(104,P),(110,.arr 1 (ws s))],[]⟩=
 some (.x 4,⟨[],[(0,.arr 1 (ws (uu h s))),(104,P),(110,.arr 1 (ws s))],[]⟩):=by
 match h,hh with
 |[a0,a1,a2,a3,a4,a5,a6,a7],_=>match s,hs with
  |[b0,b1,b2,b3,b4,b5,b6,b7],_=>
   have k1:af.wrap 1=1:=rfl;have k2:af.wrap 2=2:=rfl;have k3:af.wrap 3=3:=rfl;have k4:af.wrap 4=4:=rfl;have k5:af.wrap 5=5:=rfl;have k6:af.wrap 6=6:=rfl;have k7:af.wrap 7=7:=rfl;have k8:af.wrap 8=8:=rfl;simp only [ws8,uu]
   iterate 9
    rw [ak];simp only [go_sem,Q2,Q3,Q4,Q8,Qb,Qc,Qd,Qe,Qh,Qj,Qk,reduceCtorEq,reduceIte,ax,bc,c8,k1,k2,k3,k4,k5,k6,k7,k8]
def comp (h:List Int) (B:List UInt8):List Int:=uu h (rounds (Wl B 64) h 64)
theorem wK (h s:List Int) (hs:h.length≤s.length):(uu h s).length=h.length:=by
 induction h generalizing s with
 |nil=>simp [uu]
 |cons x l ih=>
  cases s with
  |nil=>simp at hs
  |cons y r=>simp only [uu,ax];rw [ih r (by simpa using hs)]
theorem q7 (h:List Int) (B:List UInt8) (hh:h.length=8):(comp h B).length=8:=by unfold comp;rw [wK _ _ (by rw [iv _ _ hh,hh];exact aZ 8),hh]
theorem xqT (h:List Int) (B:List UInt8) (hh:h.length=8) (hB:B.length=64):call T 116 [.ptr 0 0,.byt B .no] [.arr 1 (ws h)] 0=some ⟨.tup [],[(0,.arr 1 (ws (comp h B)))],[]⟩:=by
 have g1:=xmf B (.arr 1 (ws h)) hB _ 0 rfl (by omega);have g2:=xme (Wl B 64) h (.arr 1 (ws h)) (uZ B 64) hh _ 0 rfl (by omega);have g3:=xmd h (rounds (Wl B 64) h 64) (.arr 1 (ws (Wl B 64))) hh (iv _ _ hh 64);have hw:Wl B 0=am 64 0:=rfl;have hr:rounds (Wl B 64) h 0=h:=rfl;rw [hw,←uy]at g1;rw [hr]at g2;simp only [aC]at g1 g2;rw [aq xno]
 match h,hh with
 |[a0,a1,a2,a3,a4,a5,a6,a7],_=>simp only [ws8]at g1 g2 g3;simp only [go_sem,Qe,Qg,Qh,Qi,Qj,Qk,reduceCtorEq,reduceIte,ws8,g1,g2,g3,comp,List.flatten_cons,List.flatten_nil,aL,bT,bG,bp,SV.data,List.take_succ_cons,List.take_zero,ax,bc]
def zn (n:Nat):Nat:=(120-n % 64) % 64
theorem xmj (B:List UInt8):∀(n:Nat) (acc:List UInt8),zn acc.length=n→acc.length+n≤100000000000000→
 run T (.loop zg) ⟨[(0,.byt B .no),(3,.byt acc (.id 103))],[],[103]⟩=
 some (.x 0,⟨[(0,.byt B .no),(3,.byt (acc++am n 0) (.id 103))],[],[103]⟩):=by
 intro n;induction n with
 |zero=>
  intro acc h0 h1;have hm:acc.length % 64=56:=by unfold zn at h0;omega
  have hi:(acc.length:Int).tmod 64=56:=by rw [Int.tmod_eq_emod_of_nonneg (by omega)];omega
  rw [ak];simp only [go_sem,Q5,Qh,Qj,Qk,reduceCtorEq,reduceIte,hi,List.replicate_zero,bj]
 |succ n ih=>
  intro acc h0 h1;have hm:acc.length % 64≠56:=by unfold zn at h0;omega
  have hi:¬(acc.length:Int).tmod 64=56:=by rw [Int.tmod_eq_emod_of_nonneg (by omega)];omega
  have ih':=ih (acc++ [0]) (by unfold zn at*;rw [ah,aH];omega) (by rw [ah,aH];omega);have hc:acc.length+1≤140737488355328:=by omega
  rw [aU,eJ,←List.replicate_succ]at ih';rw [ak];simp only [go_sem,Q5,Qe,Qh,Qi,Qj,Qk,reduceCtorEq,reduceIte,hi,hc,ih']
def jf (v:Int) (s:Nat):UInt8:=bQ (v.fdiv (2^s))
def be:Nat→Int→List UInt8
 |0,_=> []
 |k+1,v=>jf v (8*k)::be k v
theorem im (n:Nat) (v:Int):(be n v).length=n:=by induction n with
 |zero=>rfl
 |succ n ih=>simp [be,ih]
theorem xmi (v:Int):∀(k:Nat) (acc:List UInt8),k≤8→acc.length+k≤100000000000000→
 run T (.loop tI) ⟨[(3,.byt acc (.id 103)),(4,.int .u64 v),(5,.int .i64 (8*(k:Int)-8))],[],[103]⟩=
 some (.x 2,⟨[(3,.byt (acc++be k v) (.id 103))],[],[103]⟩):=by
 intro k;induction k with
 |zero=>
  intro acc hk h;rw [ak];have hg:¬(0:Int)≤8*((0:Nat):Int)-8:=by omega
  simp only [go_sem,Qh,Qj,Qk,reduceIte,hg,be,bj]
 |succ k ih=>
  intro acc hk h;have ih':=ih (acc++ [jf v (8*k)]) (by omega) (by rw [ah,aH];omega);have c1:acc.length+1≤140737488355328:=by omega
  have hg:(0:Int)≤8*((k+1:Nat):Int)-8:=by omega
  have he:bi.wrap (8*((k+1:Nat):Int)-8)=((8*k:Nat):Int):=by rw [dt];omega
  have hs:af.wrap (8*((k+1:Nat):Int)-8-8)=8*(k:Int)-8:=wZ (by omega)
  have hm:min (8*k) 64=8*k:=by omega
  rw [aU,eJ]at ih';rw [ak];unfold jf at ih';simp only [go_sem,Qe,Qh,Qi,Qj,Qk,reduceIte,c1,hg,he,hs,hm,be,jf,ih']
def ez (B:List UInt8):List UInt8:=B++128::(am (zn (B.length+1)) 0++be 8 (bi.wrap (bi.wrap B.length*8)))
theorem kC (B:List UInt8):(ez B).length=B.length+1+zn (B.length+1)+8:=by simp only [ez,ah,ax,cd,im];omega
theorem mP (B:List UInt8):(ez B).length % 64=0:=by rw [kC];unfold zn;omega
theorem xpd (B:List UInt8) (h:B.length≤10000000000000):call T 113 [.byt B .no] [] 0=some ⟨.byt (ez B) .no,[],[]⟩:=by
 have hz:zn (B.length+1)<64:=by unfold zn;omega
 have g1:=xmj B _ (B++ [128]) rfl (by simp;omega);have g2:=xmi (bi.wrap (bi.wrap B.length*8)) 8 (B++128::am (zn (B.length+1)) 0) (by omega) (by simp;omega);have e8:8*((8:Nat):Int)-8=56:=rfl;rw [e8]at g2;rw [aq xnr];have e:af.wrap ((B.length:Int)+72)=((B.length+72:Nat):Int):=wZ (by omega)
 have c2:((B.length+72:Nat):Int)≤140737488355328:=by omega
 have c3:B.length≤140737488355328:=by omega
 have c4:B.length+1≤140737488355328:=by omega
 simp only [go_sem,Q2,Q3,Qe,Qh,Qi,Qj,Qk,reduceCtorEq,reduceIte,e,g1,g2,c2,c3,c4,ez]
theorem xmc (B:List UInt8):∀(n:Nat) (acc:List UInt8),zn acc.length=n→acc.length+n≤100000000000000→
 run T (.loop za) ⟨[(0,.byt B .no),(3,.byt acc (.id 103))],[],[103]⟩=
 some (.x 0,⟨[(0,.byt B .no),(3,.byt (acc++am n 0) (.id 103))],[],[103]⟩):=by
 intro n;induction n with
 |zero=>
  intro acc h0 h1;have hm:acc.length % 64=56:=by unfold zn at h0;omega
  have hi:(acc.length:Int).tmod 64=56:=by rw [Int.tmod_eq_emod_of_nonneg (by omega)];omega
  rw [ak];simp only [go_sem,Q5,Qh,Qj,Qk,reduceCtorEq,reduceIte,hi,List.replicate_zero,bj]
 |succ n ih=>
  intro acc h0 h1;have hm:acc.length % 64≠56:=by unfold zn at h0;omega
  have hi:¬(acc.length:Int).tmod 64=56:=by rw [Int.tmod_eq_emod_of_nonneg (by omega)];omega
  have ih':=ih (acc++ [0]) (by unfold zn at*;rw [ah,aH];omega) (by rw [ah,aH];omega);have hc:acc.length+1≤140737488355328:=by omega
  rw [aU,eJ,←List.replicate_succ]at ih';rw [ak];simp only [go_sem,Q5,Qe,Qh,Qi,Qj,Qk,reduceCtorEq,reduceIte,hi,hc,ih']
theorem xmb (v:Int):∀(k:Nat) (acc:List UInt8),k≤8→acc.length+k≤100000000000000→
 run T (.loop tE) ⟨[(3,.byt acc (.id 103)),(4,.int .u64 v),(5,.int .i64 ((k:Int)-1))],[],[103]⟩=
 some (.x 2,⟨[(3,.byt (acc++be k v) (.id 103))],[],[103]⟩):=by
 intro k;induction k with
 |zero=>
  intro acc hk h;rw [ak];have hg:¬(0:Int)≤((0:Nat):Int)-1:=by omega
  simp only [go_sem,Qh,Qj,Qk,reduceIte,hg,be,bj]
 |succ k ih=>
  intro acc hk h;have ih':=ih (acc++ [jf v (8*k)]) (by omega) (by rw [ah,aH];omega);have c1:acc.length+1≤140737488355328:=by omega
  have hg:(0:Int)≤((k+1:Nat):Int)-1:=by omega
  have he:bi.wrap (((k+1:Nat):Int)-1)=(k:Int):=by rw [dt];omega
  have he2:bi.wrap (8*(k:Int))=((8*k:Nat):Int):=by rw [dt];omega
  have hs:af.wrap (((k+1:Nat):Int)-1-1)=(k:Int)-1:=wZ (by omega)
  have hm:min (8*k) 64=8*k:=by omega
  rw [aU,eJ]at ih';rw [ak];unfold jf at ih';simp only [go_sem,Qe,Qh,Qi,Qj,Qk,reduceIte,c1,hg,he,he2,hs,hm,be,jf,ih']
theorem xo8 (B:List UInt8) (h:B.length≤10000000000000):call T 127 [.byt B .no] [] 0=some ⟨.byt (ez B) .no,[],[]⟩:=by
 have hz:zn (B.length+1)<64:=by unfold zn;omega
 have g1:=xmc B _ (B++ [128]) rfl (by simp;omega);have g2:=xmb (bi.wrap (bi.wrap B.length*8)) 8 (B++128::am (zn (B.length+1)) 0) (by omega) (by simp;omega);have e8:((8:Nat):Int)-1=7:=rfl;rw [e8]at g2;rw [aq xng];have c3:B.length≤140737488355328:=by omega
 have c4:B.length+1≤140737488355328:=by omega
 simp only [go_sem,Qe,Qh,Qi,Qj,Qk,reduceCtorEq,reduceIte,g1,g2,c3,c4,ez]
def w4 (x:Int):List UInt8:=[jf x 24,jf x 16,jf x 8,bQ x]
def sp (h:List Int):List UInt8:=h.flatMap w4
theorem Ht (h:List Int):(sp h).length=4*h.length:=by
 induction h with
 |nil=>rfl
 |cons x l ih=>simp only [sp,jP,ah,w4,ax,bc]at*;omega
theorem d0 (h:List Int) (i:Nat) (hi:i<h.length):h.drop i=h.getD i 0::h.drop (i+1):=nU h i hi
theorem xqq (h:List Int) (hh:h.length≤1000000000000):∀(n i:Nat) (acc:List UInt8),h.length-i=n→i≤h.length→acc.length=4*i→
 run T (.loop ze) ⟨[(3,.byt acc (.id 103)),(10,.lst 1 (ws h) .no),(11,.int .i64 h.length),(12,.int .i64 i)],[],[103]⟩=
 some (.x 0,⟨[(3,.byt (acc++sp (h.drop i)) (.id 103))],[],[103]⟩):=by
 intro n;induction n with
 |zero=>
  intro i acc h0 h1 ha;have hi:i=h.length:=by omega
  subst hi;rw [ak];simp only [go_sem,Qh,Qj,Qk,reduceIte,aR,sp,List.flatMap_nil,bj]
 |succ n ih=>
  intro i acc h0 h1 ha;have hi:i<h.length:=by omega
  have e1:=bW i (by omega);have ih':=ih (i+1) (acc++w4 (h.getD i 0)) (by omega) (by omega) (by simp [w4];omega);have hg:=ca h i hi;have hl:=dz h;have c1:acc.length+4≤140737488355328:=by omega
  rw [ak];rw [aU]at ih';simp only [w4,jf]at ih';simp only [go_sem,Q2,Q3,Qe,Qh,Qi,Qj,Qk,reduceCtorEq,reduceIte,hi,hg,hl,e1,c1,m24,m16,m8,ih',d0 h i hi,sp,jP,w4,jf]
theorem xpc (h:List Int) (hh:h.length≤1000000000000):call T 115 [.lst 1 (ws h) .no] [] 0=some ⟨.byt (sp h) .no,[],[]⟩:=by
 have g:=xqq h hh _ 0 [] rfl (by omega) rfl;have hl:=dz h;rw [aq xnp];have e:af.wrap (4*(h.length:Int))=((4*h.length:Nat):Int):=wZ (by omega)
 have c2:((4*h.length:Nat):Int)≤140737488355328:=by omega
 simp only [aC,aY,bp]at g;simp only [go_sem,Q2,Q3,Qe,Qh,Qi,Qj,Qk,reduceCtorEq,reduceIte,e,hl,c2,g]
theorem xqo (h:List Int) (hh:h.length≤1000000000000):∀(n i:Nat) (acc:List UInt8),h.length-i=n→i≤h.length→acc.length=4*i→
 run T (.loop y9) ⟨[(0,.lst 1 (ws h) .no),(3,.byt acc (.id 103)),(4,.int .i64 i)],[],[103]⟩=
 some (.x 0,⟨[(3,.byt (acc++sp (h.drop i)) (.id 103))],[],[103]⟩):=by
 intro n;induction n with
 |zero=>
  intro i acc h0 h1 ha;have hi:i=h.length:=by omega
  have hl:=dz h;subst hi;rw [ak];simp only [go_sem,Qh,Qj,Qk,reduceCtorEq,reduceIte,hl,aR,sp,List.flatMap_nil,bj]
 |succ n ih=>
  intro i acc h0 h1 ha;have hi:i<h.length:=by omega
  have e1:=bW i (by omega);have ih':=ih (i+1) (acc++w4 (h.getD i 0)) (by omega) (by omega) (by simp [w4];omega);have hg:=ca h i hi;have hl:=dz h;have c1:acc.length+4≤140737488355328:=by omega
  rw [ak];rw [aU]at ih';simp only [w4,jf]at ih';simp only [go_sem,Q2,Q3,Qb,Qc,Qd,Qe,Qh,Qi,Qj,Qk,reduceCtorEq,reduceIte,hi,hg,hl,e1,c1,m24,m16,m8,ih',d0 h i hi,sp,jP,w4,jf]
theorem xo6 (h:List Int) (hh:h.length≤1000000000000):call T 130 [.lst 1 (ws h) .no] [] 0=some ⟨.byt (sp h) .no,[],[]⟩:=by have g:=xqo h hh _ 0 [] rfl (by omega) rfl;have hl:=dz h;rw [aq xnd];simp only [aC,aY,bp]at g;simp only [go_sem,Qh,Qi,Qj,Qk,reduceCtorEq,reduceIte,g]
def fm (h:List Int) (X:List UInt8):Nat→List Int
 |0=>h
 |n+1=>fm (comp h (X.take 64)) (X.drop 64) n
theorem mb (n:Nat):∀(h:List Int) (X:List UInt8),h.length=8→(fm h X n).length=8:=by
 induction n with
 |zero=>intro h X hh;exact hh
 |succ n ih=>intro h X hh;exact ih _ _ (q7 h _ hh)
def H0:List Int:=[1779033703,3144134277,1013904242,2773480762,1359893119,2600822924,528734635,1541459225]
def sha (B:List UInt8):List UInt8:=sp (fm H0 (ez B) ((ez B).length/64))
theorem gK (B:List UInt8):(sha B).length=32:=by unfold sha;rw [Ht,mb _ _ _ rfl]
theorem l69:∀(n:Nat) (h:List Int) (X:List UInt8),h.length=8→X.length=64*n→X.length≤1000000000000→
 run T (.loop yR) ⟨[(7,.ptr 107 0),(8,.byt X .no)],[(107,.arr 1 (ws h))],[]⟩=
 some (.x 3,⟨[(7,.ptr 107 0)],[(107,.arr 1 (ws (fm h X n)))],[]⟩):=by
 intro n;induction n with
 |zero=>
  intro h X hh hX hl;rw [ak];have h0:¬(0:Int)<X.length:=by omega
  simp only [go_sem,Qh,Qj,Qk,reduceIte,h0,fm]
 |succ n ih=>
  intro h X hh hX hl;have ih':=ih (comp h (X.take 64)) (X.drop 64) (q7 h _ hh) (by rw [aF];omega) (by rw [aF];omega);have g:=xqT h (X.take 64) hh (by rw [ay];omega);have h1:(0:Int)<X.length:=by omega
  have h2:(64:Int)≤X.length:=by omega
  have h3:64≤X.length:=by omega
  rw [ak];simp only [go_sem,Q2,Q3,Qe,Qg,Qh,Qi,Qj,Qk,reduceIte,h1,h2,g,xnM,br,ih',fm]
theorem f69 (B:List UInt8) (hB:B.length≤100000000000):call T 69 [.int .i64 1,.byt B .no] [] 0=some ⟨.byt (sha B) .no,[],[]⟩:=by
 have g0:=xpd B (by omega);have hl:=kC B;have hz:zn (B.length+1)<64:=by unfold zn;omega
 have hm:=mP B;have g1:=l69 ((ez B).length/64) H0 (ez B) rfl (by omega) (by omega);have hb:=mb ((ez B).length/64) H0 (ez B) rfl;have g2:=xpc (fm H0 (ez B) ((ez B).length/64)) (by omega);have hw:=dz (fm H0 (ez B) ((ez B).length/64));have hH:ws H0=[[.int .u32 1779033703],[.int .u32 3144134277],[.int .u32 1013904242],[.int .u32 2773480762],[.int .u32 1359893119],[.int .u32 2600822924],[.int .u32 528734635],[.int .u32 1541459225]]:=rfl;rw [hH]at g1;rw [aq xpj];unfold sha;generalize fm H0 (ez B) ((ez B).length/64)=b at*;have ht:cT 8 (ws b)=ws b:=co (by rw [hw,hb];exact aZ 8);simp only [go_sem,Q2,Q3,Q5,Qe,Qf,Qg,Qh,Qi,Qj,Qk,reduceCtorEq,reduceIte,g0,g1,g2,xe9,xe8,hw,hb,c8,ht]
theorem xqP:call T 126 [] [] 0=some ⟨.agg jb,[],[]⟩:=by rw [aq xnh];simp only [go_sem,Qe,Qg,Qi,Qj,Qk,reduceCtorEq,reduceIte];rfl
def bk (X:List UInt8) (a:Nat):List UInt8:=fO a (cT (a+64) X)
theorem uX (X:List UInt8) (a:Nat) (h:a+64≤X.length):(bk X a).length=64:=by unfold bk;rw [aF,ay];omega
theorem xeT (X:List UInt8) (a:Nat):bk X a=(X.drop a).take 64:=by unfold bk;rw [List.drop_take];congr 1;omega
theorem rq7 (x:Int):call T 129 [.int .u32 x,.int .u64 7] [] 0=some ⟨.int .u32 (rr x 7),[],[]⟩:=wo x 7 (by omega)
theorem xpO (x:Int):call T 129 [.int .u32 x,.int .u64 18] [] 0=some ⟨.int .u32 (rr x 18),[],[]⟩:=wo x 18 (by omega)
theorem xpP (x:Int):call T 129 [.int .u32 x,.int .u64 17] [] 0=some ⟨.int .u32 (rr x 17),[],[]⟩:=wo x 17 (by omega)
theorem xpN (x:Int):call T 129 [.int .u32 x,.int .u64 19] [] 0=some ⟨.int .u32 (rr x 19),[],[]⟩:=wo x 19 (by omega)
theorem rq6 (x:Int):call T 129 [.int .u32 x,.int .u64 6] [] 0=some ⟨.int .u32 (rr x 6),[],[]⟩:=wo x 6 (by omega)
theorem xpR (x:Int):call T 129 [.int .u32 x,.int .u64 11] [] 0=some ⟨.int .u32 (rr x 11),[],[]⟩:=wo x 11 (by omega)
theorem xpL (x:Int):call T 129 [.int .u32 x,.int .u64 25] [] 0=some ⟨.int .u32 (rr x 25),[],[]⟩:=wo x 25 (by omega)
theorem rq2 (x:Int):call T 129 [.int .u32 x,.int .u64 2] [] 0=some ⟨.int .u32 (rr x 2),[],[]⟩:=wo x 2 (by omega)
theorem xpQ (x:Int):call T 129 [.int .u32 x,.int .u64 13] [] 0=some ⟨.int .u32 (rr x 13),[],[]⟩:=wo x 13 (by omega)
theorem xpM (x:Int):call T 129 [.int .u32 x,.int .u64 22] [] 0=some ⟨.int .u32 (rr x 22),[],[]⟩:=wo x 22 (by omega)
theorem xp8 (X:List UInt8) (a:Nat) (h:List Int) (ha:a+64≤X.length) (hX:X.length≤1000000000000):∀(n t:Nat),64-t=n→t≤64→
 run T (.loop yO) ⟨[(3,.ptr 103 0),(4,.psl 119 1 0 8 (some 8)),(5,.byt X .no),(6,.int .i64 a),(7,.ptr 107 0),(8,.int .i64 t)],[(103,.arr 1 (ws Kl)),(107,.arr 1 (ws (Wl (bk X a) t))),(119,.arr 1 (ws h))],[]⟩=
 some (.x 2,⟨[(3,.ptr 103 0),(4,.psl 119 1 0 8 (some 8)),(5,.byt X .no),(6,.int .i64 a),(7,.ptr 107 0)],[(103,.arr 1 (ws Kl)),(107,.arr 1 (ws (Wl (bk X a) 64))),(119,.arr 1 (ws h))],[]⟩):=by
 intro n;induction n with
 |zero=>
  intro t h0 h1;have hi:t=64:=by omega
  subst hi;rw [ak];simp only [c64,go_sem,Q4,Qh,Qj,Qk,reduceIte]
 |succ n ih=>
  intro t h0 h1;have ih':=ih (t+1) (by omega) (by omega);have e1:=bW t (by omega);have hlt:(t:Int)<64:=by omega
  have hl:=uZ (bk X a) t;have hw:=dz (Wl (bk X a) t);have hn:t<64:=by omega
  have hs:Wl (bk X a) (t+1)=(Wl (bk X a) t).set t (nw (bk X a) (Wl (bk X a) t) t):=rfl;have a1:af.wrap ((a:Int)+64)=((a+64:Nat):Int):=wZ (by omega)
  have a3:a≤a+64:=by omega
  rw [ak]
  by_cases h16:t<16
  ·have g:=xo7 (bk X a) t (by rw [uX X a ha];omega) (by rw [uX X a ha];omega)
   have h16':(t:Int)<16:=by omega
   have hx:nw (bk X a) (Wl (bk X a) t) t=wd (bk X a) t:=by unfold nw;rw [if_pos h16]
   rw [hs,hx]at ih';generalize hb:Wl (bk X a) t=L at*;generalize hc:wd (bk X a) t=z at*;unfold bk at g;simp only [go_sem,Qh,Qj,Qk,reduceIte,hlt,h16',e1,a1,ha,a3,g,hl,hw,xe6,hn,lm,ih']
  ·have h16':¬(t:Int)<16:=by omega
   have a15:af.wrap ((t:Int)-15)=((t-15:Nat):Int):=wZ (by omega)
   have a2:af.wrap ((t:Int)-2)=((t-2:Nat):Int):=wZ (by omega)
   have a7:af.wrap ((t:Int)-7)=((t-7:Nat):Int):=wZ (by omega)
   have a16:af.wrap ((t:Int)-16)=((t-16:Nat):Int):=wZ (by omega)
   have b15:t-15<64:=by omega
   have b2:t-2<64:=by omega
   have b7:t-7<64:=by omega
   have b16:t-16<64:=by omega
   rw [hs]at ih';unfold nw at ih';rw [if_neg h16]at ih';generalize hb:Wl (bk X a) t=L at*;have d15:=ca L (t-15) (by omega);have d2:=ca L (t-2) (by omega);have d7:=ca L (t-7) (by omega);have d16:=ca L (t-16) (by omega);simp only [go_sem,Q2,Q3,Qb,Qc,Qd,Qh,Qj,Qk,reduceCtorEq,reduceIte,hlt,h16',e1,hl,hw,xe5,hn,a15,a2,a7,a16,b15,b2,b7,b16,d15,d2,d7,d16,rq7,xpO,xpP,xpN,lm,m3,m10,ih']
theorem xp7 (X:List UInt8) (a:Nat) (W h:List Int) (O:aB) (hW:W.length=64) (hh:h.length=8):∀(n t:Nat) (q:Tok),64-t=n→t≤64→
 run T (.loop yN) ⟨[(3,.ptr 103 0),(4,.psl 119 1 0 8 (some 8)),(5,.byt X .no),(6,.int .i64 a),(7,.ptr 107 0),(11,.lst 1 (ws (rounds W h t)) q),(12,.int .i64 t)],[(103,.arr 1 (ws Kl)),(107,.arr 1 (ws W)),(119,O)],[194]⟩=
 some (.x 4,⟨[(3,.ptr 103 0),(4,.psl 119 1 0 8 (some 8)),(5,.byt X .no),(6,.int .i64 a),(11,.lst 1 (ws (rounds W h 64)) (if t=64 then q else .clip))],[(103,.arr 1 (ws Kl)),(107,.arr 1 (ws W)),(119,O)],[194]⟩):=by
 intro n;induction n with
 |zero=>
  intro t q h0 h1;have hi:t=64:=by omega
  subst hi;rw [ak];simp only [c64,go_sem,Q4,Qh,Qj,Qk,reduceIte]
 |succ n ih=>
  intro t q h0 h1;have ih':=ih (t+1) .clip (by omega) (by omega);have e1:=bW t (by omega);have hlt:(t:Int)<64:=by omega
  have hn:t<64:=by omega
  have hn2:t≠64:=by omega
  have hl:=iv W h hh t;have hw:=dz (rounds W h t);have hw2:=dz W;have hw3:=dz Kl;have hk:=Au;have hs:rounds W h (t+1)=rnd (Kl.getD t 0) (W.getD t 0) (rounds W h t):=rfl;rw [hs]at ih';simp only [rnd,ws8]at ih';rw [ite_self]at ih';generalize rounds W h t=s at*;have d0:=ca s 0 (by omega);have d1:=ca s 1 (by omega);have d2:=ca s 2 (by omega);have d3:=ca s 3 (by omega);have d4:=ca s 4 (by omega);have d5:=ca s 5 (by omega);have d6:=ca s 6 (by omega);have d7:=ca s 7 (by omega);have dW:=ca W t (by omega);have dK:=ca Kl t (by rw [Au];exact hn);rw [ak];simp only [go_sem,Q2,Q3,Q4,Q7,Qb,Qc,Qd,Qh,Qj,Qk,reduceCtorEq,reduceIte,hlt,e1,hl,hw,hw2,hw3,hk,hW,xe5,hn,hn2,d0,d1,d2,d3,d4,d5,d6,d7,dW,dK,rq6,xpR,xpL,rq2,xpQ,xpM,c8,c64,ih']
theorem xp6 (X:List UInt8) (a:Nat) (h s:List Int) (P Q:aB) (hh:h.length=8) (hs:s.length=8):
 run T (.loop yM) ⟨[(3,.ptr 103 0),(4,.psl 119 1 0 8 (some 8)),(5,.byt X .no),(6,.int .i64 a),(11,.lst 1 (ws s) .clip),(17,.int .i64 0)],[(103,P),(107,Q),(119,.arr 1 (ws h))],[194]⟩=
 some (.x 6,⟨[(3,.ptr 103 0),(4,.psl 119 1 0 8 (some 8)),(5,.byt X .no),(6,.int .i64 a)],[(103,P),(107,Q),(119,.arr 1 (ws (uu h s)))],[194]⟩):=by
 match h,hh with
 |[a0,a1,a2,a3,a4,a5,a6,a7],_=>match s,hs with
  |[b0,b1,b2,b3,b4,b5,b6,b7],_=>
   have k1:af.wrap 1=1:=rfl;have k2:af.wrap 2=2:=rfl;have k3:af.wrap 3=3:=rfl;have k4:af.wrap 4=4:=rfl;have k5:af.wrap 5=5:=rfl;have k6:af.wrap 6=6:=rfl;have k7:af.wrap 7=7:=rfl;have k8:af.wrap 8=8:=rfl;simp only [ws8,uu]
   iterate 9
    rw [ak];simp only [go_sem,Q2,Q3,Q4,Q8,Qb,Qc,Qd,Qe,Qh,Qj,Qk,reduceIte,ax,bc,c8,k1,k2,k3,k4,k5,k6,k7,k8]
theorem l80 (X:List UInt8) (hX:X.length≤1000000000000):∀(n a:Nat) (h:List Int),h.length=8→X.length=a+64*n→
 run T (.loop yL) ⟨[(3,.ptr 103 0),(4,.psl 119 1 0 8 (some 8)),(5,.byt X .no),(6,.int .i64 a)],[(103,.arr 1 (ws Kl)),(119,.arr 1 (ws h))],[]⟩=
 some (.x 0,⟨[(4,.psl 119 1 0 8 (some 8))],[(103,.arr 1 (ws Kl)),(119,.arr 1 (ws (fm h (X.drop a) n)))],[]⟩):=by
 intro n;induction n with
 |zero=>
  intro a h hh hl;rw [ak];have h0:¬(a:Int)<X.length:=by omega
  simp only [go_sem,Qh,Qj,Qk,reduceIte,h0,fm]
 |succ n ih=>
  intro a h hh hl;have ih':=ih (a+64) (comp h (bk X a)) (q7 h _ hh) (by omega);have h0:(a:Int)<X.length:=by omega
  have a1:af.wrap ((a:Int)+64)=((a+64:Nat):Int):=wZ (by omega)
  have g1:=xp8 X a h (by omega) hX _ 0 rfl (by omega);have g2:=xp7 X a (Wl (bk X a) 64) h (.arr 1 (ws h)) (uZ _ 64) hh _ 0 (.id 194) rfl (by omega);have g3:=xp6 X a h (rounds (Wl (bk X a) 64) h 64) (.arr 1 (ws Kl)) (.arr 1 (ws (Wl (bk X a) 64))) hh (iv _ _ hh 64);have hw:Wl (bk X a) 0=am 64 0:=rfl;have hr:rounds (Wl (bk X a) 64) h 0=h:=rfl;have hz:¬(0:Nat)=64:=by omega
  have hwl:=dz h;rw [hw,←uy]at g1;rw [hr,if_neg hz]at g2;simp only [aC]at g1 g2
  have hbl:fm h (X.drop a) (n+1)=fm (comp h (bk X a)) (X.drop (a+64)) n:=by rw [fm,xeT,eM]
  rw [hbl,ak];unfold comp at ih' ⊢;have ht:cT 8 (ws h)=ws h:=co (by rw [hwl,hh];exact aZ 8);simp only [go_sem,Qe,Qg,Qh,Qi,Qj,Qk,reduceCtorEq,reduceIte,h0,a1,g1,g2,g3,hwl,hh,ht,ih']
  trace_state
attribute [-go_sem] jC
theorem f80 (B:List UInt8) (hB:B.length≤100000000000):call T 80 [.byt B .no] [] 0=some ⟨.byt (sha B) .no,[],[]⟩:=by
 have g1:=xqP;have g0:=xo8 B (by omega);have ck:jC 1 64 (List.map SV.data jb)=ws Kl:=rfl;have i3:jb.all SV.isData=true:=rfl;have i4:=nO;have pg:SV.purgeL 103 104 jb=jb:=rfl;have i1:SV.idsL jb=[]:=rfl;have i2:SV.toksL jb=[]:=rfl;have hl:=kC B;have hz:zn (B.length+1)<64:=by unfold zn;omega
 have hm:=mP B;have g3:=l80 (ez B) (by omega) ((ez B).length/64) 0 H0 rfl (by omega);have hb:=mb ((ez B).length/64) H0 (ez B) rfl;have g2:=xo6 (fm H0 (ez B) ((ez B).length/64)) (by omega);have hw:=dz (fm H0 (ez B) ((ez B).length/64));have hH:ws H0=[[.int .u32 1779033703],[.int .u32 3144134277],[.int .u32 1013904242],[.int .u32 2773480762],[.int .u32 1359893119],[.int .u32 2600822924],[.int .u32 528734635],[.int .u32 1541459225]]:=rfl;rw [hH]at g3;simp only [aC,aY]at g3;unfold sha;generalize fm H0 (ez B) ((ez B).length/64)=b at*;have ht:cT 8 (ws b)=ws b:=co (by rw [hw,hb];exact aZ 8);rw [aq xrv];simp only [go_sem,Qe,Qg,Qh,Qi,Qj,Qk,reduceCtorEq,reduceIte,g1,g0,xe7,xnH,i1,i2,List.isEmpty,ck,i3,i4,pg,g2,g3,xe4,hw,hb,ht]
attribute [go_sem] jC
theorem xqp (v:Int):∀(k:Nat) (acc:List UInt8),k≤8→acc.length+k≤100000000000000→
 run T (.loop zd) ⟨[(2,.int .i64 v),(7,.byt acc (.id 107)),(8,.int .i64 ((k:Int)-1))],[],[107]⟩=
 some (.x 0,⟨[(7,.byt (acc++be k (bi.wrap v)) (.id 107))],[],[107]⟩):=by
 intro k;induction k with
 |zero=>
  intro acc hk h;rw [ak];have hg:¬(0:Int)≤((0:Nat):Int)-1:=by omega
  simp only [go_sem,Qh,Qj,Qk,reduceIte,hg,be,bj]
 |succ k ih=>
  intro acc hk h;have ih':=ih (acc++ [jf (bi.wrap v) (8*k)]) (by omega) (by rw [ah,aH];omega);have c1:acc.length+1≤140737488355328:=by omega
  have hg:(0:Int)≤((k+1:Nat):Int)-1:=by omega
  have he:bi.wrap (((k+1:Nat):Int)-1)=(k:Int):=by rw [dt];omega
  have he2:af.wrap (8*(((k+1:Nat):Int)-1))=((8*k:Nat):Int):=wZ (by omega)
  have he3:bi.wrap (((8*k:Nat):Int))=((8*k:Nat):Int):=by rw [dt];omega
  have he4:bi.wrap (8*(k:Int))=((8*k:Nat):Int):=by rw [dt];omega
  have hs:af.wrap (((k+1:Nat):Int)-1-1)=(k:Int)-1:=wZ (by omega)
  have hm:min (8*k) 64=8*k:=by omega
  rw [aU,eJ]at ih';rw [ak];unfold jf at ih';simp only [go_sem,Qe,Qh,Qi,Qj,Qk,reduceIte,c1,hg,he2,he3,hs,hm,be,jf,ih']
theorem xpb (B:List UInt8) (k:Nat) (v:Int) (h1:1≤k) (h8:k≤8) (hB:B.length≤10000000000000):
 call T 117 [.byt B .no,.int .i64 k,.int .i64 v] [] 0=some ⟨.byt (B++be k (bi.wrap v)) (.id 60),[],[60]⟩:=by
 have g:=xqp v k B h8 (by omega);have c1:¬(k:Int)<1:=by omega
 have c2:¬(8:Int)<k:=by omega
 have c3:af.wrap ((k:Int)-1)=(k:Int)-1:=w64 (by omega) (by omega);have c4:B.length≤140737488355328:=by omega
 rw [aq xnn];simp only [go_sem,Qe,Qh,Qi,Qj,Qk,reduceCtorEq,reduceIte,c1,c2,c3,c4,g]
theorem l82 (v:Int):∀(k:Nat) (acc:List UInt8),k≤8→acc.length+k≤100000000000000→
 run T (.loop Re) ⟨[(2,.int .i64 v),(7,.byt acc (.id 107)),(8,.int .i64 ((k:Int)-1))],[],[107]⟩=
 some (.x 0,⟨[(7,.byt (acc++be k (bi.wrap v)) (.id 107))],[],[107]⟩):=by
 intro k;induction k with
 |zero=>
  intro acc hk h;rw [ak];have hg:¬(0:Int)≤((0:Nat):Int)-1:=by omega
  simp only [go_sem,Qh,Qj,Qk,reduceIte,hg,be,bj]
 |succ k ih=>
  intro acc hk h;have ih':=ih (acc++ [jf (bi.wrap v) (8*k)]) (by omega) (by rw [ah,aH];omega);have c1:acc.length+1≤140737488355328:=by omega
  have hg:(0:Int)≤((k+1:Nat):Int)-1:=by omega
  have he:bi.wrap (((k+1:Nat):Int)-1)=(k:Int):=by rw [dt];omega
  have he4:bi.wrap (8*(k:Int))=((8*k:Nat):Int):=by rw [dt];omega
  have hs:af.wrap (((k+1:Nat):Int)-1-1)=(k:Int)-1:=wZ (by omega)
  have hm:min (8*k) 64=8*k:=by omega
  rw [aU,eJ]at ih';rw [ak];unfold jf at ih';simp only [go_sem,Qe,Qh,Qi,Qj,Qk,reduceIte,c1,hg,he,he4,hs,hm,be,jf,ih']
theorem f82 (B:List UInt8) (k:Nat) (v:Int) (h1:1≤k) (h8:k≤8) (hB:B.length≤10000000000000):
 call T 82 [.byt B .no,.int .i64 k,.int .i64 v] [] 0=some ⟨.byt (B++be k (bi.wrap v)) (.id 60),[],[60]⟩:=by
 have g:=l82 v k B h8 (by omega);have c1:¬(k:Int)<1:=by omega
 have c2:¬(8:Int)<k:=by omega
 have c3:af.wrap ((k:Int)-1)=(k:Int)-1:=w64 (by omega) (by omega);have c4:B.length≤140737488355328:=by omega
 rw [aq xrt];simp only [go_sem,Qe,Qh,Qi,Qj,Qk,reduceCtorEq,reduceIte,c1,c2,c3,c4,g]
def mc (B X:List UInt8):List UInt8:=B++be 2 (bi.wrap (X.take 65535).length)++X.take 65535
theorem f83 (B X:List UInt8) (hB:B.length≤1000000000000) (hX:X.length≤1000000000000):call T 83 [.byt B .no,.byt X .no] [] 0=some ⟨.byt (mc B X) (.id 60),[],[60]⟩:=by
 have g:=f82 B 2 (X.take 65535).length (by omega) (by omega) (by omega);rw [c2]at g;rw [aq xrs];have hl:(X.take 65535).length≤65535:=by rw [ay];omega
 have c4:(B++be 2 (bi.wrap (X.take 65535).length)).length+(X.take 65535).length≤140737488355328:=by rw [ah,im];omega
 by_cases h:(65535:Int)<X.length
 ·have h3:(65535:Int)≤X.length:=by omega
  have h4:65535≤X.length:=by omega
  simp only [ah]at c4;simp only [go_sem,Q2,Q3,Qe,Qg,Qh,Qi,Qj,Qk,reduceCtorEq,reduceIte,h,h3,g,xjH,mc,c4,aU]
 ·have ht:X.take 65535=X:=co (by omega)
  rw [ht]at g c4;simp only [ah]at c4;simp only [go_sem,Q2,Q3,Qe,Qg,Qh,Qi,Qj,Qk,reduceCtorEq,reduceIte,h,g,xjH,mc,ht,c4,aU]
theorem xjy (B X:List UInt8) (hB:B.length≤1000000000000) (hX:X.length≤1000000000000):call T 118 [.byt B .no,.byt X .no] [] 0=some ⟨.byt (mc B X) (.id 60),[],[60]⟩:=by
 have g:=xpb B 2 (X.take 65535).length (by omega) (by omega) (by omega);rw [c2]at g;rw [aq xnm];have hl:(X.take 65535).length≤65535:=by rw [ay];omega
 have c4:(B++be 2 (bi.wrap (X.take 65535).length)).length+(X.take 65535).length≤140737488355328:=by rw [ah,im];omega
 simp only [ah]at c4
 by_cases h:(65535:Int)<X.length
 ·have h3:min (X.length:Int) 65535=65535:=by omega
  have h4:(65535:Int)≤X.length:=by omega
  have h5:65535≤X.length:=by omega
  simp only [go_sem,Q2,Q3,Qe,Qg,Qh,Qi,Qj,Qk,reduceCtorEq,reduceIte,h,h4,g,ll,mc,c4,aU]
 ·have h3:min (X.length:Int) 65535=X.length:=by omega
  have ht:X.take 65535=X:=co (by omega);have ht2:X.take X.length=X:=br;rw [ht]at g c4;simp only [go_sem,Q2,Q3,Qe,Qg,Qh,Qi,Qj,Qk,reduceCtorEq,reduceIte,h,ht2,g,ll,mc,ht,c4,aU]
def frame (t:Int) (X:List UInt8):List UInt8:=bQ t::(w4 (X.length:Int)++X)
theorem xqL (t:Int) (X:List UInt8) (hX:X.length≤1000000000):call T 137 [.int .i64 t,.lst 1 [[.byt X .no]] .no] [] 0=some ⟨.byt (frame t X) .no,[],[]⟩:=by
 have k1:af.wrap 1=1:=rfl;have e1:aw.wrap (X.length:Int)=X.length:=by rw [IntKind.wrap_u32];omega
 have c4:1+4+X.length≤140737488355328:=by omega
 have c5:5+X.length≤140737488355328:=by omega
 rw [aq xm6];simp only [go_sem,Qe,Qh,Qi,Qj,Qk,reduceCtorEq,reduceIte,ax,bc,c1];rw [ak];simp only [go_sem,Q2,Q3,Q4,Q8,Qe,Qh,Qi,Qj,Qk,reduceCtorEq,reduceIte,ax,bc,c1,k1,e1,m24,m16,m8,c4];rw [ak];simp only [go_sem,Q4,Qh,Qj,Qk,reduceIte,frame,w4,jf]
 trace_state
theorem Ey (t:Int) (X:List UInt8):(frame t X).length=X.length+5:=by simp [frame,w4]
def Rp (t:Int) (X:List UInt8):List UInt8:=sha (frame t X)
theorem xq0 (t:Int) (X:List UInt8) (hX:X.length≤1000000000):call T 102 [.int .i64 t,.lst 1 [[.byt X .no]] .no] [] 0=some ⟨.byt (Rp t X) .no,[],[]⟩:=by have g1:=xqL t X hX;have g2:=f69 (frame t X) (by rw [Ey];omega);rw [aq xnw];simp only [go_sem,Qe,Qh,Qi,Qj,Qk,reduceCtorEq,reduceIte,g1,g2,xnD,Fg,Rp]
theorem xjx (x:Int) (n m:Nat) (h:n+m=32):call T 169 [.int .u32 x,.int .u64 n] [] 0=some ⟨.int .u32 (rr x m),[],[]⟩:=by
 rw [aq xmU];have e:bi.wrap (32-(n:Int))=(m:Int):=by rw [dt];omega
 have e2:min n 32=n:=by omega
 have e3:min m 32=m:=by omega
 have e4:32-m=n:=by omega
 simp only [go_sem,Qe,Qh,Qi,Qj,Qk,reduceCtorEq,reduceIte,e,e2,e3,rr,e4,lE]
def nw1 (B:List UInt8) (L:List Int) (t:Nat):Int:=
 if t<16 then wd B t else
  rr (bq .xor .u32 (bq .xor .u32 (bq .xor .u32 (L.getD (t-3) 0) (L.getD (t-8) 0)) (L.getD (t-14) 0)) (L.getD (t-16) 0)) 31
def Wl1 (B:List UInt8):Nat→List Int
 |0=>am 80 0
 |t+1=>(Wl1 B t).set t (nw1 B (Wl1 B t) t)
theorem qp (B:List UInt8) (t:Nat):(Wl1 B t).length=80:=by
 induction t with
 |zero=>simp [Wl1]
 |succ n ih=>simp [Wl1,ih]
theorem p1 (x:Int):call T 142 [.int .u32 x,.int .i64 1] [] 0=some ⟨.int .u32 (rr x 31),[],[]⟩:=rA x 1 31 (by omega) (by decide)
theorem p5 (x:Int):call T 142 [.int .u32 x,.int .i64 5] [] 0=some ⟨.int .u32 (rr x 27),[],[]⟩:=rA x 5 27 (by omega) (by decide)
theorem p30 (x:Int):call T 142 [.int .u32 x,.int .i64 30] [] 0=some ⟨.int .u32 (rr x 2),[],[]⟩:=rA x 30 2 (by omega) (by decide)
theorem z1 (x:Int):call T 169 [.int .u32 x,.int .u64 1] [] 0=some ⟨.int .u32 (rr x 31),[],[]⟩:=xjx x 1 31 rfl
theorem z5 (x:Int):call T 169 [.int .u32 x,.int .u64 5] [] 0=some ⟨.int .u32 (rr x 27),[],[]⟩:=xjx x 5 27 rfl
theorem z30 (x:Int):call T 169 [.int .u32 x,.int .u64 30] [] 0=some ⟨.int .u32 (rr x 2),[],[]⟩:=xjx x 30 2 rfl
theorem xmh (B:List UInt8) (O:aB) (hB:B.length=64):∀(n t:Nat),80-t=n→t≤80→
 run T (.loop zf) ⟨[(0,.ptr 0 0),(1,.byt B .no),(4,.ptr 104 0),(14,.int .i64 t)],[(0,O),(104,.arr 1 (ws (Wl1 B t)))],[]⟩=
 some (.x 0,⟨[(0,.ptr 0 0),(4,.ptr 104 0)],[(0,O),(104,.arr 1 (ws (Wl1 B 80)))],[]⟩):=by
 intro n;induction n with
 |zero=>
  intro t h0 h1;have hi:t=80:=by omega
  subst hi;rw [ak];simp only [c80,go_sem,Q4,Qh,Qj,Qk,reduceCtorEq,reduceIte]
 |succ n ih=>
  intro t h0 h1;have ih':=ih (t+1) (by omega) (by omega);have e1:=bW t (by omega);have hlt:(t:Int)<80:=by omega
  have hl:=qp B t;have hw:=dz (Wl1 B t);have hn:t<80:=by omega
  have hs:Wl1 B (t+1)=(Wl1 B t).set t (nw1 B (Wl1 B t) t):=rfl;rw [ak]
  by_cases h16:t<16
  ·have g:=xo2 B t (by omega) (by omega)
   have h16':(t:Int)<16:=by omega
   have hx:nw1 B (Wl1 B t) t=wd B t:=by unfold nw1;rw [if_pos h16]
   rw [hs,hx]at ih';simp only [go_sem,Qh,Qj,Qk,reduceCtorEq,reduceIte,hlt,h16',e1,g,hl,hw,xe1,hn,lm,ih']
  ·have h16':¬(t:Int)<16:=by omega
   have a3:af.wrap ((t:Int)-3)=((t-3:Nat):Int):=wZ (by omega)
   have a8:af.wrap ((t:Int)-8)=((t-8:Nat):Int):=wZ (by omega)
   have a14:af.wrap ((t:Int)-14)=((t-14:Nat):Int):=wZ (by omega)
   have a16:af.wrap ((t:Int)-16)=((t-16:Nat):Int):=wZ (by omega)
   have b3:t-3<80:=by omega
   have jf:t-8<80:=by omega
   have b14:t-14<80:=by omega
   have b16:t-16<80:=by omega
   have d3:=ca (Wl1 B t) (t-3) (by omega);have d8:=ca (Wl1 B t) (t-8) (by omega);have d14:=ca (Wl1 B t) (t-14) (by omega);have d16:=ca (Wl1 B t) (t-16) (by omega);rw [hs]at ih';unfold nw1 at ih';rw [if_neg h16]at ih';simp only [go_sem,Qb,Qc,Qd,Qh,Qj,Qk,reduceCtorEq,reduceIte,hlt,h16',e1,hl,hw,rN,hn,a3,a8,a14,a16,b3,jf,b14,b16,d3,d8,d14,d16,p1,lm,ih']
def ff (t:Nat) (b c d:Int):Int:=
 if t<20 then bq .xor .u32 (bq .and .u32 b c) (bq .and .u32 (bq .xor .u32 (if aw.signed=true then-1 else aw.max) b) d)
 else if t<40 then bq .xor .u32 (bq .xor .u32 b c) d
 else if t<60 then bq .xor .u32 (bq .xor .u32 (bq .and .u32 b c) (bq .and .u32 b d)) (bq .and .u32 c d)
 else bq .xor .u32 (bq .xor .u32 b c) d
def kk (t:Nat):Int:=if t<20 then 1518500249 else if t<40 then 1859775393 else if t<60 then 2400959708 else 3395469782
def Hz (t:Nat) (w:Int) (s:List Int):List Int:=
 [aw.wrap (aw.wrap (aw.wrap (aw.wrap (rr (s.getD 0 0) 27+ff t (s.getD 1 0) (s.getD 2 0) (s.getD 3 0))+s.getD 4 0)+kk t)+w),s.getD 0 0,rr (s.getD 1 0) 2,s.getD 2 0,s.getD 3 0]
def cj (W:List Int) (h:List Int):Nat→List Int
 |0=>h
 |t+1=>Hz t (W.getD t 0) (cj W h t)
theorem kl (W h:List Int) (hh:h.length=5) (t:Nat):(cj W h t).length=5:=by
 cases t<;>simp [cj,Hz,hh]
theorem xgx (W:List Int) (O:aB) (hW:W.length=80) (t:Nat) (hn:t<80) (hd:t/20=0) (a b c d e:Int):
 run T (.loop fY) ⟨[(0,.ptr 0 0),(4,.ptr 104 0),(6,.int .u32 a),(7,.int .u32 b),(8,.int .u32 c),(9,.int .u32 d),(10,.int .u32 e),(67,.int .i64 t)],[(0,O),(104,.arr 1 (ws W))],[]⟩=
 run T (.loop fY) ⟨[(0,.ptr 0 0),(4,.ptr 104 0),(6,.int .u32 (aw.wrap (aw.wrap (aw.wrap (aw.wrap (rr a 27+bq .xor .u32 (bq .and .u32 b c) (bq .and .u32 (bq .xor .u32 (if aw.signed=true then-1 else aw.max) b) d))+e)+1518500249)+W.getD t 0))),(7,.int .u32 a),(8,.int .u32 (rr b 2)),(9,.int .u32 c),(10,.int .u32 d),(67,.int .i64 ((t+1:Nat):Int))],[(0,O),(104,.arr 1 (ws W))],[]⟩:=by
 have e1:=bW t (by omega);have hlt:(t:Int)<80:=by omega
 have hw2:=dz W;have dW:=ca W t (by omega)
 have hq:(t:Int).tdiv 20=0:=by
  have h:(t:Int).tdiv 20=((t/20:Nat):Int):=by rw [Int.tdiv_eq_ediv_of_nonneg (by omega)];omega
  rw [h,hd];rfl
 have k0:af.wrap 0=0:=rfl;have k1:af.wrap 1=1:=rfl;have k2:af.wrap 2=2:=rfl;have k3:af.wrap 3=3:=rfl;rw [ak];simp only [go_sem,Q5,Q7,Qb,Qc,Qd,Qh,Qj,Qk,reduceCtorEq,reduceIte,hlt,e1,hw2,hW,rN,hn,hq,k0,dW,p5,p30]
theorem xgw (W:List Int) (O:aB) (hW:W.length=80) (t:Nat) (hn:t<80) (hd:t/20=1) (a b c d e:Int):
 run T (.loop fY) ⟨[(0,.ptr 0 0),(4,.ptr 104 0),(6,.int .u32 a),(7,.int .u32 b),(8,.int .u32 c),(9,.int .u32 d),(10,.int .u32 e),(67,.int .i64 t)],[(0,O),(104,.arr 1 (ws W))],[]⟩=
 run T (.loop fY) ⟨[(0,.ptr 0 0),(4,.ptr 104 0),(6,.int .u32 (aw.wrap (aw.wrap (aw.wrap (aw.wrap (rr a 27+bq .xor .u32 (bq .xor .u32 b c) d)+e)+1859775393)+W.getD t 0))),(7,.int .u32 a),(8,.int .u32 (rr b 2)),(9,.int .u32 c),(10,.int .u32 d),(67,.int .i64 ((t+1:Nat):Int))],[(0,O),(104,.arr 1 (ws W))],[]⟩:=by
 have e1:=bW t (by omega);have hlt:(t:Int)<80:=by omega
 have hw2:=dz W;have dW:=ca W t (by omega)
 have hq:(t:Int).tdiv 20=1:=by
  have h:(t:Int).tdiv 20=((t/20:Nat):Int):=by rw [Int.tdiv_eq_ediv_of_nonneg (by omega)];omega
  rw [h,hd];rfl
 have k0:af.wrap 0=0:=rfl;have k1:af.wrap 1=1:=rfl;have k2:af.wrap 2=2:=rfl;have k3:af.wrap 3=3:=rfl;rw [ak];simp only [go_sem,Q5,Q7,Qb,Qc,Qd,Qh,Qj,Qk,reduceCtorEq,reduceIte,hlt,e1,hw2,hW,rN,hn,hq,k1,dW,p5,p30]
theorem xgv (W:List Int) (O:aB) (hW:W.length=80) (t:Nat) (hn:t<80) (hd:t/20=2) (a b c d e:Int):
 run T (.loop fY) ⟨[(0,.ptr 0 0),(4,.ptr 104 0),(6,.int .u32 a),(7,.int .u32 b),(8,.int .u32 c),(9,.int .u32 d),(10,.int .u32 e),(67,.int .i64 t)],[(0,O),(104,.arr 1 (ws W))],[]⟩=
 run T (.loop fY) ⟨[(0,.ptr 0 0),(4,.ptr 104 0),(6,.int .u32 (aw.wrap (aw.wrap (aw.wrap (aw.wrap (rr a 27+bq .xor .u32 (bq .xor .u32 (bq .and .u32 b c) (bq .and .u32 b d)) (bq .and .u32 c d))+e)+2400959708)+W.getD t 0))),(7,.int .u32 a),(8,.int .u32 (rr b 2)),(9,.int .u32 c),(10,.int .u32 d),(67,.int .i64 ((t+1:Nat):Int))],[(0,O),(104,.arr 1 (ws W))],[]⟩:=by
 have e1:=bW t (by omega);have hlt:(t:Int)<80:=by omega
 have hw2:=dz W;have dW:=ca W t (by omega)
 have hq:(t:Int).tdiv 20=2:=by
  have h:(t:Int).tdiv 20=((t/20:Nat):Int):=by rw [Int.tdiv_eq_ediv_of_nonneg (by omega)];omega
  rw [h,hd];rfl
 have k0:af.wrap 0=0:=rfl;have k1:af.wrap 1=1:=rfl;have k2:af.wrap 2=2:=rfl;have k3:af.wrap 3=3:=rfl;rw [ak];simp only [go_sem,Q5,Q7,Qb,Qc,Qd,Qh,Qj,Qk,reduceCtorEq,reduceIte,hlt,e1,hw2,hW,rN,hn,hq,k2,dW,p5,p30]
theorem xgu (W:List Int) (O:aB) (hW:W.length=80) (t:Nat) (hn:t<80) (hd:t/20=3) (a b c d e:Int):
 run T (.loop fY) ⟨[(0,.ptr 0 0),(4,.ptr 104 0),(6,.int .u32 a),(7,.int .u32 b),(8,.int .u32 c),(9,.int .u32 d),(10,.int .u32 e),(67,.int .i64 t)],[(0,O),(104,.arr 1 (ws W))],[]⟩=
 run T (.loop fY) ⟨[(0,.ptr 0 0),(4,.ptr 104 0),(6,.int .u32 (aw.wrap (aw.wrap (aw.wrap (aw.wrap (rr a 27+bq .xor .u32 (bq .xor .u32 b c) d)+e)+3395469782)+W.getD t 0))),(7,.int .u32 a),(8,.int .u32 (rr b 2)),(9,.int .u32 c),(10,.int .u32 d),(67,.int .i64 ((t+1:Nat):Int))],[(0,O),(104,.arr 1 (ws W))],[]⟩:=by
 have e1:=bW t (by omega);have hlt:(t:Int)<80:=by omega
 have hw2:=dz W;have dW:=ca W t (by omega)
 have hq:(t:Int).tdiv 20=3:=by
  have h:(t:Int).tdiv 20=((t/20:Nat):Int):=by rw [Int.tdiv_eq_ediv_of_nonneg (by omega)];omega
  rw [h,hd];rfl
 have k0:af.wrap 0=0:=rfl;have k1:af.wrap 1=1:=rfl;have k2:af.wrap 2=2:=rfl;have k3:af.wrap 3=3:=rfl;rw [ak];simp only [go_sem,Q5,Q7,Qb,Qc,Qd,Qh,Qj,Qk,reduceCtorEq,reduceIte,hlt,e1,hw2,hW,rN,hn,hq,k3,dW,p5,p30]
theorem xmg (W h:List Int) (O:aB) (hW:W.length=80) (hh:h.length=5):∀(n t:Nat),80-t=n→t≤80→
 run T (.loop fY) ⟨[(0,.ptr 0 0),(4,.ptr 104 0),(6,.int .u32 ((cj W h t).getD 0 0)),(7,.int .u32 ((cj W h t).getD 1 0)),(8,.int .u32 ((cj W h t).getD 2 0)),(9,.int .u32 ((cj W h t).getD 3 0)),(10,.int .u32 ((cj W h t).getD 4 0)),(67,.int .i64 t)],[(0,O),(104,.arr 1 (ws W))],[]⟩=
 some (.x 2,⟨[(0,.ptr 0 0),(6,.int .u32 ((cj W h 80).getD 0 0)),(7,.int .u32 ((cj W h 80).getD 1 0)),(8,.int .u32 ((cj W h 80).getD 2 0)),(9,.int .u32 ((cj W h 80).getD 3 0)),(10,.int .u32 ((cj W h 80).getD 4 0))],[(0,O),(104,.arr 1 (ws W))],[]⟩):=by
 intro n;induction n with
 |zero=>
  intro t h0 h1;have hi:t=80:=by omega
  subst hi;rw [ak];simp only [c80,go_sem,Q4,Qh,Qj,Qk,reduceCtorEq,reduceIte]
 |succ n ih=>
  intro t h0 h1;have ih':=ih (t+1) (by omega) (by omega);have hs:cj W h (t+1)=Hz t (W.getD t 0) (cj W h t):=rfl;rw [hs]at ih';simp only [Hz,bm,bw]at ih'
  by_cases h20:t<20
  ·have hk:kk t=1518500249:=by unfold kk;rw [if_pos h20]
   unfold ff at ih';rw [if_pos h20,hk]at ih';rw [xgx W O hW t (by omega) (by omega)];rw [ih']
  ·by_cases h40:t<40
   ·have hk:kk t=1859775393:=by unfold kk;rw [if_neg h20,if_pos h40]
    unfold ff at ih';rw [if_neg h20,if_pos h40,hk]at ih';rw [xgw W O hW t (by omega) (by omega)];rw [ih']
   ·by_cases h60:t<60
    ·have hk:kk t=2400959708:=by unfold kk;rw [if_neg h20,if_neg h40,if_pos h60]
     unfold ff at ih';rw [if_neg h20,if_neg h40,if_pos h60,hk]at ih';rw [xgv W O hW t (by omega) (by omega)];rw [ih']
    ·have hk:kk t=3395469782:=by unfold kk;rw [if_neg h20,if_neg h40,if_neg h60]
     unfold ff at ih';rw [if_neg h20,if_neg h40,if_neg h60,hk]at ih';rw [xgu W O hW t (by omega) (by omega)];rw [ih']
theorem ws5 (a b c d e:Int):ws [a,b,c,d,e]=[[.int .u32 a],[.int .u32 b],[.int .u32 c],[.int .u32 d],[.int .u32 e]]:=rfl
def oT (h:List Int) (B:List UInt8):List Int:=uu h (cj (Wl1 B 80) h 80)
theorem nV (h:List Int) (B:List UInt8) (hh:h.length=5):(oT h B).length=5:=by unfold oT;rw [wK _ _ (by rw [kl _ _ hh,hh];exact aZ 5),hh]
theorem EZ (l:List Int) (h:l.length=5):∃a b c d e,l=[a,b,c,d,e]:=by
 match l,h with
 |[a,b,c,d,e],_=>exact⟨a,b,c,d,e,rfl⟩
theorem xeU (a b c d e p q r s t:Int):uu [a,b,c,d,e] [p,q,r,s,t]=[aw.wrap (a+p),aw.wrap (b+q),aw.wrap (c+r),aw.wrap (d+s),aw.wrap (e+t)]:=rfl
theorem xqU (h:List Int) (B:List UInt8) (hh:h.length=5) (hB:B.length=64):call T 114 [.ptr 0 0,.byt B .no] [.arr 1 (ws h)] 0=some ⟨.tup [],[(0,.arr 1 (ws (oT h B)))],[]⟩:=by
 have g1:=xmh B (.arr 1 (ws h)) hB _ 0 rfl (by omega);have g2:=xmg (Wl1 B 80) h (.arr 1 (ws h)) (qp B 80) hh _ 0 rfl (by omega);have hw:Wl1 B 0=am 80 0:=by rw [Wl1]
 have hr:cj (Wl1 B 80) h 0=h:=by rw [cj]
 have hl:=kl (Wl1 B 80) h hh 80;rw [hw,←uy]at g1;rw [hr]at g2;simp only [aC]at g1 g2;unfold oT;generalize cj (Wl1 B 80) h 80=s at*;generalize Wl1 B 80=W at*;clear hw hr;obtain⟨a0,a1,a2,a3,a4,rfl⟩:=EZ h hh;obtain⟨s0,s1,s2,s3,s4,rfl⟩:=EZ s hl;rw [aq xnq];simp only [ws5,bm,bw]at g1 g2;simp only [go_sem,Q2,Q3,Q4,Qb,Qc,Qd,Qe,Qh,Qi,Qj,Qk,reduceCtorEq,reduceIte,ws5,xeU,g1,g2,ax,bc,c5]
def ep (h:List Int) (X:List UInt8):Nat→List Int
 |0=>h
 |n+1=>ep (oT h (X.take 64)) (X.drop 64) n
theorem kv (n:Nat):∀(h:List Int) (X:List UInt8),h.length=5→(ep h X n).length=5:=by
 induction n with
 |zero=>intro h X hh;exact hh
 |succ n ih=>intro h X hh;exact ih _ _ (nV h _ hh)
def H1:List Int:=[1732584193,4023233417,2562383102,271733878,3285377520]
def jc (B:List UInt8):List UInt8:=sp (ep H1 (ez B) ((ez B).length/64))
theorem vF (B:List UInt8):(jc B).length=20:=by unfold jc;rw [Ht,kv _ _ _ rfl]
theorem xqa:∀(n:Nat) (h:List Int) (X:List UInt8),h.length=5→X.length=64*n→X.length≤1000000000000→
 run T (.loop Rf) ⟨[(5,.ptr 105 0),(6,.byt X .no)],[(105,.arr 1 (ws h))],[]⟩=
 some (.x 1,⟨[(5,.ptr 105 0)],[(105,.arr 1 (ws (ep h X n)))],[]⟩):=by
 intro n;induction n with
 |zero=>
  intro h X hh hX hl;rw [ak];have h0:¬(0:Int)<X.length:=by omega
  simp only [go_sem,Qh,Qj,Qk,reduceIte,h0,ep]
 |succ n ih=>
  intro h X hh hX hl;have ih':=ih (oT h (X.take 64)) (X.drop 64) (nV h _ hh) (by rw [aF];omega) (by rw [aF];omega);have g:=xqU h (X.take 64) hh (by rw [ay];omega);have h1:(0:Int)<X.length:=by omega
  have h2:(64:Int)≤X.length:=by omega
  have h3:64≤X.length:=by omega
  rw [ak];simp only [go_sem,Q2,Q3,Qe,Qg,Qh,Qi,Qj,Qk,reduceIte,h1,h2,g,xnN,br,ih',ep]
theorem xqx (B:List UInt8) (hB:B.length≤100000000000):call T 69 [.int .i64 0,.byt B .no] [] 0=some ⟨.byt (jc B) .no,[],[]⟩:=by
 have g0:=xpd B (by omega);have hl:=kC B;have hz:zn (B.length+1)<64:=by unfold zn;omega
 have hm:=mP B;have g1:=xqa ((ez B).length/64) H1 (ez B) rfl (by omega) (by omega);have hb:=kv ((ez B).length/64) H1 (ez B) rfl;have g2:=xpc (ep H1 (ez B) ((ez B).length/64)) (by omega);have c8:((5:Nat):Int)=5:=rfl;have hw:=dz (ep H1 (ez B) ((ez B).length/64));have hH:ws H1=[[.int .u32 1732584193],[.int .u32 4023233417],[.int .u32 2562383102],[.int .u32 271733878],[.int .u32 3285377520]]:=rfl;rw [hH]at g1;rw [aq xpj];unfold jc;generalize ep H1 (ez B) ((ez B).length/64)=b at*;have ht:cT 5 (ws b)=ws b:=co (by rw [hw,hb];exact aZ 5);simp only [go_sem,Q2,Q3,Q5,Qe,Qf,Qg,Qh,Qi,Qj,Qk,reduceCtorEq,reduceIte,g0,g1,g2,xe9,xe8,hw,hb,c8,ht]
theorem xma (X:List UInt8) (a:Nat) (h:List (List SV)) (ha:a+64≤X.length) (hX:X.length≤1000000000000):∀(n t:Nat),80-t=n→t≤80→
 run T (.loop tB) ⟨[(3,.lst 1 h .clip),(4,.byt X .no),(5,.int .i64 a),(6,.ptr 106 0),(7,.int .i64 t)],[(106,.arr 1 (ws (Wl1 (bk X a) t)))],[]⟩=
 some (.x 2,⟨[(3,.lst 1 h .clip),(4,.byt X .no),(5,.int .i64 a),(6,.ptr 106 0)],[(106,.arr 1 (ws (Wl1 (bk X a) 80)))],[]⟩):=by
 intro n;induction n with
 |zero=>
  intro t h0 h1;have hi:t=80:=by omega
  subst hi;rw [ak];simp only [c80,go_sem,Q4,Qh,Qj,Qk,reduceIte]
 |succ n ih=>
  intro t h0 h1;have ih':=ih (t+1) (by omega) (by omega);have e1:=bW t (by omega);have hlt:(t:Int)<80:=by omega
  have hl:=qp (bk X a) t;have hw:=dz (Wl1 (bk X a) t);have hn:t<80:=by omega
  have hs:Wl1 (bk X a) (t+1)=(Wl1 (bk X a) t).set t (nw1 (bk X a) (Wl1 (bk X a) t) t):=rfl;have a1:af.wrap ((a:Int)+64)=((a+64:Nat):Int):=wZ (by omega)
  have a3:a≤a+64:=by omega
  rw [ak]
  by_cases h16:t<16
  ·have g:=xo7 (bk X a) t (by rw [uX X a ha];omega) (by rw [uX X a ha];omega)
   have h16':(t:Int)<16:=by omega
   have hx:nw1 (bk X a) (Wl1 (bk X a) t) t=wd (bk X a) t:=by unfold nw1;rw [if_pos h16]
   rw [hs,hx]at ih';generalize hb:Wl1 (bk X a) t=L at*;generalize hc:wd (bk X a) t=z at*;unfold bk at g;simp only [go_sem,Qh,Qj,Qk,reduceIte,hlt,h16',e1,a1,ha,a3,g,hl,hw,xe6,hn,lm,ih']
  ·have h16':¬(t:Int)<16:=by omega
   have a3:af.wrap ((t:Int)-3)=((t-3:Nat):Int):=wZ (by omega)
   have a8:af.wrap ((t:Int)-8)=((t-8:Nat):Int):=wZ (by omega)
   have a14:af.wrap ((t:Int)-14)=((t-14:Nat):Int):=wZ (by omega)
   have a16:af.wrap ((t:Int)-16)=((t-16:Nat):Int):=wZ (by omega)
   have b3:t-3<80:=by omega
   have jf:t-8<80:=by omega
   have b14:t-14<80:=by omega
   have b16:t-16<80:=by omega
   rw [hs]at ih';unfold nw1 at ih';rw [if_neg h16]at ih';generalize hb:Wl1 (bk X a) t=L at*;have d3:=ca L (t-3) (by omega);have d8:=ca L (t-8) (by omega);have d14:=ca L (t-14) (by omega);have d16:=ca L (t-16) (by omega);simp only [go_sem,Qb,Qc,Qd,Qh,Qj,Qk,reduceCtorEq,reduceIte,hlt,h16',e1,hl,hw,yv,hn,a3,a8,a14,a16,b3,jf,b14,b16,d3,d8,d14,d16,z1,lm,ih']
theorem xgt (W:List Int) (X Y:SV) (h:List (List SV)) (hW:W.length=80) (t:Nat) (hn:t<80) (q0:t<20) (a b c d e:Int):
 run T (.loop fX) ⟨[(3,.lst 1 h .clip),(4,X),(5,Y),(6,.ptr 106 0),(8,.int .u32 a),(9,.int .u32 b),(10,.int .u32 c),(11,.int .u32 d),(12,.int .u32 e),(13,.int .i64 t)],[(106,.arr 1 (ws W))],[]⟩=
 run T (.loop fX) ⟨[(3,.lst 1 h .clip),(4,X),(5,Y),(6,.ptr 106 0),(8,.int .u32 (aw.wrap (aw.wrap (aw.wrap (aw.wrap (rr a 27+bq .xor .u32 (bq .and .u32 b c) (bq .and .u32 (bq .xor .u32 (if aw.signed=true then-1 else aw.max) b) d))+e)+1518500249)+W.getD t 0))),(9,.int .u32 a),(10,.int .u32 (rr b 2)),(11,.int .u32 c),(12,.int .u32 d),(13,.int .i64 ((t+1:Nat):Int))],[(106,.arr 1 (ws W))],[]⟩:=by
 have e1:=bW t (by omega);have hlt:(t:Int)<80:=by omega
 have hw2:=dz W;have dW:=ca W t (by omega);have p0:(t:Int)<20:=by omega
 rw [ak];simp only [go_sem,Q7,Qb,Qc,Qd,Qh,Qj,Qk,reduceCtorEq,reduceIte,hlt,e1,hw2,hW,yv,hn,p0,dW,z5,z30]
theorem xgs (W:List Int) (X Y:SV) (h:List (List SV)) (hW:W.length=80) (t:Nat) (hn:t<80) (q0:¬t<20) (q1:t<40) (a b c d e:Int):
 run T (.loop fX) ⟨[(3,.lst 1 h .clip),(4,X),(5,Y),(6,.ptr 106 0),(8,.int .u32 a),(9,.int .u32 b),(10,.int .u32 c),(11,.int .u32 d),(12,.int .u32 e),(13,.int .i64 t)],[(106,.arr 1 (ws W))],[]⟩=
 run T (.loop fX) ⟨[(3,.lst 1 h .clip),(4,X),(5,Y),(6,.ptr 106 0),(8,.int .u32 (aw.wrap (aw.wrap (aw.wrap (aw.wrap (rr a 27+bq .xor .u32 (bq .xor .u32 b c) d)+e)+1859775393)+W.getD t 0))),(9,.int .u32 a),(10,.int .u32 (rr b 2)),(11,.int .u32 c),(12,.int .u32 d),(13,.int .i64 ((t+1:Nat):Int))],[(106,.arr 1 (ws W))],[]⟩:=by
 have e1:=bW t (by omega);have hlt:(t:Int)<80:=by omega
 have hw2:=dz W;have dW:=ca W t (by omega);have p0:¬(t:Int)<20:=by omega
 have p1:(t:Int)<40:=by omega
 rw [ak];simp only [go_sem,Q7,Qb,Qc,Qd,Qh,Qj,Qk,reduceCtorEq,reduceIte,hlt,e1,hw2,hW,yv,hn,p0,p1,dW,z5,z30]
theorem xgr (W:List Int) (X Y:SV) (h:List (List SV)) (hW:W.length=80) (t:Nat) (hn:t<80) (q0:¬t<20) (q1:¬t<40) (q2:t<60) (a b c d e:Int):
 run T (.loop fX) ⟨[(3,.lst 1 h .clip),(4,X),(5,Y),(6,.ptr 106 0),(8,.int .u32 a),(9,.int .u32 b),(10,.int .u32 c),(11,.int .u32 d),(12,.int .u32 e),(13,.int .i64 t)],[(106,.arr 1 (ws W))],[]⟩=
 run T (.loop fX) ⟨[(3,.lst 1 h .clip),(4,X),(5,Y),(6,.ptr 106 0),(8,.int .u32 (aw.wrap (aw.wrap (aw.wrap (aw.wrap (rr a 27+bq .xor .u32 (bq .xor .u32 (bq .and .u32 b c) (bq .and .u32 b d)) (bq .and .u32 c d))+e)+2400959708)+W.getD t 0))),(9,.int .u32 a),(10,.int .u32 (rr b 2)),(11,.int .u32 c),(12,.int .u32 d),(13,.int .i64 ((t+1:Nat):Int))],[(106,.arr 1 (ws W))],[]⟩:=by
 have e1:=bW t (by omega);have hlt:(t:Int)<80:=by omega
 have hw2:=dz W;have dW:=ca W t (by omega);have p0:¬(t:Int)<20:=by omega
 have p1:¬(t:Int)<40:=by omega
 have p2:(t:Int)<60:=by omega
 rw [ak];simp only [go_sem,Q7,Qb,Qc,Qd,Qh,Qj,Qk,reduceCtorEq,reduceIte,hlt,e1,hw2,hW,yv,hn,p0,p1,p2,dW,z5,z30]
theorem xgq (W:List Int) (X Y:SV) (h:List (List SV)) (hW:W.length=80) (t:Nat) (hn:t<80) (q0:¬t<20) (q1:¬t<40) (q2:¬t<60) (a b c d e:Int):
 run T (.loop fX) ⟨[(3,.lst 1 h .clip),(4,X),(5,Y),(6,.ptr 106 0),(8,.int .u32 a),(9,.int .u32 b),(10,.int .u32 c),(11,.int .u32 d),(12,.int .u32 e),(13,.int .i64 t)],[(106,.arr 1 (ws W))],[]⟩=
 run T (.loop fX) ⟨[(3,.lst 1 h .clip),(4,X),(5,Y),(6,.ptr 106 0),(8,.int .u32 (aw.wrap (aw.wrap (aw.wrap (aw.wrap (rr a 27+bq .xor .u32 (bq .xor .u32 b c) d)+e)+3395469782)+W.getD t 0))),(9,.int .u32 a),(10,.int .u32 (rr b 2)),(11,.int .u32 c),(12,.int .u32 d),(13,.int .i64 ((t+1:Nat):Int))],[(106,.arr 1 (ws W))],[]⟩:=by
 have e1:=bW t (by omega);have hlt:(t:Int)<80:=by omega
 have hw2:=dz W;have dW:=ca W t (by omega);have p0:¬(t:Int)<20:=by omega
 have p1:¬(t:Int)<40:=by omega
 have p2:¬(t:Int)<60:=by omega
 rw [ak];simp only [go_sem,Q7,Qb,Qc,Qd,Qh,Qj,Qk,reduceCtorEq,reduceIte,hlt,e1,hw2,hW,yv,hn,p0,p1,p2,dW,z5,z30]
theorem xl9 (W k:List Int) (X Y:SV) (h:List (List SV)) (hW:W.length=80):∀(n t:Nat),80-t=n→t≤80→
 run T (.loop fX) ⟨[(3,.lst 1 h .clip),(4,X),(5,Y),(6,.ptr 106 0),(8,.int .u32 ((cj W k t).getD 0 0)),(9,.int .u32 ((cj W k t).getD 1 0)),(10,.int .u32 ((cj W k t).getD 2 0)),(11,.int .u32 ((cj W k t).getD 3 0)),(12,.int .u32 ((cj W k t).getD 4 0)),(13,.int .i64 t)],[(106,.arr 1 (ws W))],[]⟩=some (.x 4,⟨[(3,.lst 1 h .clip),(4,X),(5,Y),(8,.int .u32 ((cj W k 80).getD 0 0)),(9,.int .u32 ((cj W k 80).getD 1 0)),(10,.int .u32 ((cj W k 80).getD 2 0)),(11,.int .u32 ((cj W k 80).getD 3 0)),(12,.int .u32 ((cj W k 80).getD 4 0))],[(106,.arr 1 (ws W))],[]⟩):=by
 intro n;induction n with
 |zero=>
  intro t h0 h1;have hi:t=80:=by omega
  subst hi;rw [ak];simp only [c80,go_sem,Q4,Qh,Qj,Qk,reduceIte]
 |succ n ih=>
  intro t h0 h1;have ih':=ih (t+1) (by omega) (by omega);have hs:cj W k (t+1)=Hz t (W.getD t 0) (cj W k t):=rfl;rw [hs]at ih';simp only [Hz,bm,bw]at ih'
  by_cases h20:t<20
  ·have hk:kk t=1518500249:=by unfold kk;rw [if_pos h20]
   unfold ff at ih';rw [if_pos h20,hk]at ih';rw [xgt W X Y h hW t (by omega) h20,ih']
  ·by_cases h40:t<40
   ·have hk:kk t=1859775393:=by unfold kk;rw [if_neg h20,if_pos h40]
    unfold ff at ih';rw [if_neg h20,if_pos h40,hk]at ih';rw [xgs W X Y h hW t (by omega) h20 h40,ih']
   ·by_cases h60:t<60
    ·have hk:kk t=2400959708:=by unfold kk;rw [if_neg h20,if_neg h40,if_pos h60]
     unfold ff at ih';rw [if_neg h20,if_neg h40,if_pos h60,hk]at ih';rw [xgr W X Y h hW t (by omega) h20 h40 h60,ih']
    ·have hk:kk t=3395469782:=by unfold kk;rw [if_neg h20,if_neg h40,if_neg h60]
     unfold ff at ih';rw [if_neg h20,if_neg h40,if_neg h60,hk]at ih';rw [xgq W X Y h hW t (by omega) h20 h40 h60,ih']
theorem xqn (X:List UInt8) (hX:X.length≤1000000000000):∀(n a:Nat) (h:List Int),h.length=5→X.length=a+64*n→
 run T (.loop tz) ⟨[(3,.lst 1 (ws h) .clip),(4,.byt X .no),(5,.int .i64 a)],[],[]⟩=
 some (.x 0,⟨[(3,.lst 1 (ws (ep h (X.drop a) n)) .clip)],[],[]⟩):=by
 intro n;induction n with
 |zero=>
  intro a h hh hl;rw [ak];have h0:¬(a:Int)<X.length:=by omega
  simp only [go_sem,Qh,Qj,Qk,reduceIte,h0,ep]
 |succ n ih=>
  intro a h hh hl;have ih':=ih (a+64) (oT h (bk X a)) (nV h _ hh) (by omega);have h0:(a:Int)<X.length:=by omega
  have ae:af.wrap ((a:Int)+64)=((a+64:Nat):Int):=wZ (by omega)
  have g1:=xma X a (ws h) (by omega) hX _ 0 rfl (by omega);have g2:=xl9 (Wl1 (bk X a) 80) h (.byt X .no) (.int .i64 a) (ws h) (qp _ 80) _ 0 rfl (by omega);have hw:Wl1 (bk X a) 0=am 80 0:=by rw [Wl1]
  have hr:cj (Wl1 (bk X a) 80) h 0=h:=by rw [cj]
  have hrl:=kl (Wl1 (bk X a) 80) h hh 80;rw [hw,←uy]at g1;rw [hr]at g2;simp only [aC]at g1 g2
  have hbl:ep h (X.drop a) (n+1)=ep (oT h (bk X a)) (X.drop (a+64)) n:=by rw [ep,xeT,eM]
  rw [hbl,ak];unfold oT at ih' ⊢;generalize cj (Wl1 (bk X a) 80) h 80=s at*;generalize Wl1 (bk X a) 80=W at*;obtain⟨a0,a1,a2,a3,a4,rfl⟩:=EZ h hh;obtain⟨s0,s1,s2,s3,s4,rfl⟩:=EZ s hrl;simp only [ws5,bm,bw,xeU]at g1 g2 ih' ⊢;simp only [go_sem,Q2,Q3,Q4,Qb,Qc,Qd,Qe,Qh,Qj,Qk,reduceCtorEq,reduceIte,h0,ae,g1,g2,ax,bc,c5,ih']
theorem xqM (B:List UInt8) (hB:B.length≤100000000000):call T 136 [.byt B .no] [] 0=some ⟨.byt (jc B) .no,[],[]⟩:=by
 have g0:=xo8 B (by omega);have hl:=kC B;have hz:zn (B.length+1)<64:=by unfold zn;omega
 have hm:=mP B;have g3:=xqn (ez B) (by omega) ((ez B).length/64) 0 H1 rfl (by omega);have hb:=kv ((ez B).length/64) H1 (ez B) rfl;have g2:=xo6 (ep H1 (ez B) ((ez B).length/64)) (by omega);have hH:ws H1=[[.int .u32 1732584193],[.int .u32 4023233417],[.int .u32 2562383102],[.int .u32 271733878],[.int .u32 3285377520]]:=rfl;rw [hH]at g3;simp only [aC,aY]at g3;unfold jc;generalize ep H1 (ez B) ((ez B).length/64)=b at*;rw [aq xm7];simp only [go_sem,Qh,Qi,Qj,Qk,reduceCtorEq,reduceIte,g0,xe7,g2,g3,xe4]
theorem xjw (B:List UInt8) (hB:B.length≤100000000000):call T 99 [.int .i64 0,.byt B .no] [] 0=some ⟨.byt (jc B) .no,[],[]⟩:=by have g:=xqM B hB;rw [aq xpi];simp only [go_sem,Q5,Qe,Qh,Qi,Qj,Qk,reduceCtorEq,reduceIte,g,xnE]
theorem xjv (B:List UInt8) (hB:B.length≤100000000000):call T 99 [.int .i64 1,.byt B .no] [] 0=some ⟨.byt (sha B) .no,[],[]⟩:=by have g:=f80 B hB;rw [aq xpi];simp only [go_sem,Q5,Qe,Qh,Qi,Qj,Qk,reduceCtorEq,reduceIte,g,UJ]
attribute [go_sem] cw
structure Ev where
 reg:Int
 kind:Int
 dg:List (List UInt8)
 data:List UInt8
def bls (l:List (List UInt8)):List (List SV):=l.map fun d=> [.byt d .no]
def Ev.sv (e:Ev):List SV:=[.int .i64 e.reg,.int .i64 e.kind,.lst 1 (bls e.dg) .no,.byt e.data .no]
def bD (l:List Ev):List (List SV):=l.map Ev.sv
theorem ct (l:List Ev):(bD l).length=l.length:=aQ ..
theorem mV (l:List Ev) (i:Nat) (h:i<l.length):(bD l).getD i []=(l.getD i ⟨0,0,[],[]⟩).sv:=by simp [bD,aa,h]
def phP (e:Ev):Int:=
 if e.kind=1∧e.reg=0 then 1 else if e.kind=1∧e.reg=4 then 2 else if e.kind=2∧0≤e.reg∧e.reg<8 then 3 else if e.kind=1∧e.reg=8 then 4 else if e.kind=3∧e.reg=9 then 5 else 0
def phR (e:Ev):Int:=
 if e.kind=5 then 0 else if e.kind=1∧e.reg=0 then 1 else if e.kind=1∧e.reg=4 then 2 else if e.kind=2∧e.reg≤7 then 3 else if e.kind=1∧e.reg=8 then 4 else if e.kind=3∧e.reg=9 then 5 else-1
theorem f88 (e:Ev):call T 88 [.agg e.sv] [] 0=some ⟨.int .i64 (phP e),[],[]⟩:=by
 obtain⟨g,k,d,b⟩:=e;rw [aq xro];unfold phP Ev.sv
 by_cases h1:k=1
 ·subst h1
  by_cases h2:g=0
  ·subst h2;simp only [go_sem,Q3,Q4,Q5,Qe,Qh,Qi,Qj,Qk,reduceCtorEq,reduceIte]
  ·by_cases h3:g=4
   ·subst h3;simp only [go_sem,Q3,Q4,Q5,Qe,Qh,Qi,Qj,Qk,reduceCtorEq,reduceIte]
   ·by_cases h4:g=8
    ·subst h4;simp only [go_sem,Q3,Q4,Q5,Qe,Qh,Qi,Qj,Qk,reduceCtorEq,reduceIte]
    ·simp only [go_sem,Q5,Qe,Qh,Qi,Qj,Qk,reduceCtorEq,reduceIte,h2,h3,h4]
 ·by_cases h5:k=2
  ·subst h5
   by_cases h2:0≤g
   ·by_cases h3:g<8
    ·simp only [go_sem,Q5,Qe,Qh,Qi,Qj,Qk,reduceCtorEq,reduceIte,h2,h3]
    ·simp only [go_sem,Q5,Qe,Qh,Qi,Qj,Qk,reduceCtorEq,reduceIte,h2,h3]
   ·simp only [go_sem,Q5,Qe,Qh,Qi,Qj,Qk,reduceCtorEq,reduceIte,h2]
  ·by_cases h6:k=3
   ·subst h6
    by_cases h4:g=9
    ·subst h4;simp only [go_sem,Q3,Q4,Q5,Qe,Qh,Qi,Qj,Qk,reduceCtorEq,reduceIte]
    ·simp only [go_sem,Q5,Qe,Qh,Qi,Qj,Qk,reduceCtorEq,reduceIte,h4]
   ·simp only [go_sem,Qe,Qh,Qi,Qj,Qk,reduceCtorEq,reduceIte,h1,h5,h6]
theorem f42 (e:Ev):call T 42 [.agg e.sv] [] 0=some ⟨.int .i64 (phR e),[],[]⟩:=by
 obtain⟨g,k,d,b⟩:=e;rw [aq xrX];unfold phR Ev.sv
 by_cases h0:k=5
 ·subst h0;simp only [go_sem,Q5,Q7,Qe,Qh,Qi,Qj,Qk,reduceCtorEq,reduceIte]
 by_cases h1:k=1
 ·subst h1
  by_cases h2:g=0
  ·subst h2;simp only [go_sem,Q3,Q5,Q7,Qe,Qh,Qi,Qj,Qk,reduceCtorEq,reduceIte]
  ·by_cases h3:g=4
   ·subst h3;simp only [go_sem,Q3,Q5,Q7,Qe,Qh,Qi,Qj,Qk,reduceCtorEq,reduceIte]
   ·by_cases h4:g=8
    ·subst h4;simp only [go_sem,Q3,Q5,Q7,Qe,Qh,Qi,Qj,Qk,reduceCtorEq,reduceIte]
    ·simp only [go_sem,Q5,Q7,Qe,Qh,Qi,Qj,Qk,reduceCtorEq,reduceIte,h2,h3,h4]
 ·by_cases h5:k=2
  ·subst h5
   by_cases h3:g≤7
   ·simp only [go_sem,Q5,Q7,Qe,Qh,Qi,Qj,Qk,reduceCtorEq,reduceIte,h3]
   ·simp only [go_sem,Q5,Q7,Qe,Qh,Qi,Qj,Qk,reduceCtorEq,reduceIte,h3]
  ·by_cases h6:k=3
   ·subst h6
    by_cases h4:g=9
    ·subst h4;simp only [go_sem,Q3,Q5,Q7,Qe,Qh,Qi,Qj,Qk,reduceCtorEq,reduceIte]
    ·simp only [go_sem,Q5,Q7,Qe,Qh,Qi,Qj,Qk,reduceCtorEq,reduceIte,h4]
   ·simp only [go_sem,Q7,Qe,Qh,Qi,Qj,Qk,reduceCtorEq,reduceIte,h0,h1,h5,h6]
structure Wk where
 ph:Int
 nx:Int
 s0:Bool
 s1:Bool
 s2:Bool
 s3:Bool
 s4:Bool
 s5:Bool
def Wk.sv (w:Wk):List SV:=[.int .i64 w.ph,.int .i64 w.nx,.bool w.s0,.bool w.s1,.bool w.s2,.bool w.s3,.bool w.s4,.bool w.s5]
def w0:Wk:=⟨0,0,false,false,false,false,false,false⟩
def okW (w:Wk) (e:Ev):Bool:=
 if e.kind=5 then true else if phP e=0 then false else if phP e<w.ph then false else if 1<phP e∧w.s1=false then false
 else if phP e=3∧e.reg≠w.nx then false else if 3<phP e∧w.nx≠8 then false else true
def stW (w:Wk) (e:Ev):Wk:=
 if okW w e=false∨e.kind=5 then w else
 {ph:=phP e,nx:=if phP e=3 then af.wrap (w.nx+1)else w.nx,s0:=w.s0,s1:=w.s1||decide (phP e=1),s2:=w.s2||decide (phP e=2),s3:=w.s3||decide (phP e=3),s4:=w.s4||decide (phP e=4),s5:=w.s5||decide (phP e=5)}
theorem Qt (e:Ev):phP e=0∨phP e=1∨phP e=2∨phP e=3∨phP e=4∨phP e=5:=by
 unfold phP;repeat' split
 all_goals simp
theorem f39 (w:Wk) (e:Ev):call T 39 [.ptr 0 0,.agg e.sv] [.rc w.sv] 0=some ⟨.bool (okW w e),[(0,.rc (stW w e).sv)],[]⟩:=by
 have g:=f88 e;have hp:=Qt e;have e5:phP e=5→e.kind≠5:=by unfold phP;repeat' split<;>simp_all
 obtain⟨ph,nx,s0,s1,s2,s3,s4,s5⟩:=w;rw [aq xr0];unfold stW okW;generalize phP e=p at*;obtain⟨r,k,d,b⟩:=e;simp only [Ev.sv,Wk.sv]at*
 by_cases hk:k=5
 ·subst hk;simp only [go_sem,Qe,Qh,Qi,Qj,Qk,reduceCtorEq,reduceIte]
 ·rcases hp with rfl|rfl|rfl|rfl|rfl|rfl
  ·simp only [go_sem,Q4,Q5,Qe,Qh,Qi,Qj,Qk,reduceCtorEq,reduceIte,hk,g,nB]
  ·by_cases h1:(1:Int)<ph
   ·simp only [go_sem,Q4,Q5,Qe,Qh,Qi,Qj,Qk,reduceCtorEq,reduceIte,hk,g,nB,h1]
   ·cases s1<;>simp only [go_sem,Q2,Q3,Q4,Q5,Qb,Qc,Qd,Qe,Qg,Qh,Qi,Qj,Qk,reduceCtorEq,reduceIte,hk,g,nB,h1]
  ·by_cases h1:(2:Int)<ph
   ·simp only [go_sem,Q4,Q5,Qe,Qh,Qi,Qj,Qk,reduceCtorEq,reduceIte,hk,g,nB,h1]
   ·cases s1<;>simp only [go_sem,Q2,Q3,Q4,Q5,Qb,Qc,Qd,Qe,Qg,Qh,Qi,Qj,Qk,reduceCtorEq,reduceIte,hk,g,nB,h1]
  ·by_cases h1:(3:Int)<ph
   ·simp only [go_sem,Q4,Q5,Qe,Qh,Qi,Qj,Qk,reduceCtorEq,reduceIte,hk,g,nB,h1]
   ·cases s1
    ·simp only [go_sem,Q2,Q3,Q4,Q5,Qe,Qg,Qh,Qi,Qj,Qk,reduceCtorEq,reduceIte,hk,g,nB,h1]
    ·by_cases h2:r=nx
     ·subst h2;simp only [go_sem,Q2,Q3,Q4,Q5,Qb,Qc,Qd,Qe,Qg,Qh,Qi,Qj,Qk,reduceCtorEq,reduceIte,hk,g,nB,h1]
     ·simp only [go_sem,Q2,Q3,Q4,Q5,Qe,Qg,Qh,Qi,Qj,Qk,reduceCtorEq,reduceIte,hk,g,nB,h1,h2]
  ·by_cases h1:(4:Int)<ph
   ·simp only [go_sem,Q4,Q5,Qe,Qh,Qi,Qj,Qk,reduceCtorEq,reduceIte,hk,g,nB,h1]
   ·cases s1
    ·simp only [go_sem,Q2,Q3,Q4,Q5,Qe,Qg,Qh,Qi,Qj,Qk,reduceCtorEq,reduceIte,hk,g,nB,h1]
    ·by_cases h2:nx=8
     ·subst h2;simp only [go_sem,Q2,Q3,Q4,Q5,Q8,Qb,Qc,Qd,Qe,Qg,Qh,Qi,Qj,Qk,reduceCtorEq,reduceIte,hk,g,nB,h1]
     ·simp only [go_sem,Q2,Q3,Q4,Q5,Qe,Qg,Qh,Qi,Qj,Qk,reduceCtorEq,reduceIte,hk,g,nB,h1,h2]
  ·by_cases h1:(5:Int)<ph
   ·simp only [go_sem,Q4,Q5,Qe,Qh,Qi,Qj,Qk,reduceCtorEq,reduceIte,hk,g,nB,h1]
   ·cases s1
    ·simp only [go_sem,Q2,Q3,Q4,Q5,Qe,Qg,Qh,Qi,Qj,Qk,reduceCtorEq,reduceIte,hk,g,nB,h1]
    ·by_cases h2:nx=8
     ·subst h2;simp only [go_sem,Q2,Q3,Q4,Q5,Q8,Qb,Qc,Qd,Qe,Qg,Qh,Qi,Qj,Qk,reduceCtorEq,reduceIte,hk,g,nB,h1]
     ·simp only [go_sem,Q2,Q3,Q4,Q5,Qe,Qg,Qh,Qi,Qj,Qk,reduceCtorEq,reduceIte,hk,g,nB,h1,h2]
end Go.Proofs.YtdafipacemgcoaaGreatDoor
