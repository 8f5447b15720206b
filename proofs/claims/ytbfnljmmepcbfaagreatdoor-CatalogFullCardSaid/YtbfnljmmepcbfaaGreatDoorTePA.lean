/- What the functions come to. No condition. -/
import Derived.Test.YtbfnljmmepcbfaaGreatDoorTaPA
open Int renaming fdiv_eq_ediv_of_nonneg -> ic, natCast_zero -> aD
open Go.IntKind renaming i64 -> ah, u64 -> aU, wrap_u64 -> bM
open List renaming append_assoc -> ay, append_nil -> bG, cons_append -> bg, drop_length -> bP, drop_zero -> bh, foldl_nil -> nH, length_append -> af, length_cons -> am, length_drop -> aL, length_take -> ax, nil_append -> aI
open Nat renaming add_mul -> bv, mod_eq_of_lt -> cx, mul_comm -> cB, mul_le_mul_right -> aX, zero_add -> bS, zero_le -> bH, zero_mul -> fo
open UInt8 renaming ofInt -> cQ
set_option maxRecDepth 100000
set_option maxHeartbeats 16000000
set_option linter.unusedSimpArgs false
set_option linter.unusedVariables false
namespace Go.Proofs.YtbfnljmmepcbfaaGreatDoor
open Go.Sy
open UInt8 renaming reduceLT -> Q0, reduceLE -> Q1
open Int renaming reduceToNat -> Q2, reduceLE -> Q3, reduceLT -> Q4, reduceEq -> Q5, reduceNe -> Q6, reduceNeg -> Q7, reduceAdd -> Q8, reduceSub -> Q9, reduceMul -> Qa
open Nat renaming reducePow -> Qb, reduceDiv -> Qc, reduceMod -> Qd, reduceAdd -> Qe, reduceSub -> Qf, reduceMul -> Qg, reduceLT -> Qh, reduceLeDiff -> Qi, reduceEqDiff -> Qj, reduceBEq -> Qk
attribute [go_sem] Int.cast_ofNat_Int
def nF(v:Nat)(l:List UInt8):Nat:=l.foldl (fun v b=>v*256+b.toNat) v
def nB(l:List UInt8):Nat:=nF 0 l
theorem Of:∀(l:List UInt8)(v k:Nat),v<256^k->nF v l<256^(k+l.length)
 |[],v,k,h=>h
 |b::r,v,k,h=>by
  have hb:=b.toNat_lt
  have h2:v*256+b.toNat<256^(k+1):=by have:(v+1)*256<=256^k*256:=aX _ h;rw[Nat.pow_succ];omega
  have:=Of r (v*256+b.toNat) (k+1) h2;rw[am,show k+(r.length+1)=k+1+r.length from by omega];exact this
theorem Og(l:List UInt8):nB l<256^l.length:=by have:=Of l 0 0 (by decide);rwa[bS]at this
theorem FO(l:List UInt8)(h:l.length<=6):nB l<281474976710656:=by
 have h1:=Og l;have h2:256^l.length<=256^6:=Nat.pow_le_pow_right (by decide) h;have h3:(256:Nat)^6=281474976710656:=by decide
 omega
theorem orW(v:Nat)(hv:v<1099511627776)(b:UInt8):bZ .or .u64 (aU.wrap ((v:Int)*2^min 8 64)) (b.toNat:Int)=((v*256+b.toNat:Nat):Int):=by
 have hb:=b.toNat_lt;have p:((2:Int)^min 8 64)=256:=by decide
 have e:aU.wrap ((v:Int)*2^min 8 64)=((v*256:Nat):Int):=by rw[p,bM];omega
 rw[e];unfold bZ;simp only[BitVec.ofInt_natCast]
 have e1:(BitVec.ofNat 64 (v*256)|||BitVec.ofNat 64 b.toNat).toNat=v*256+b.toNat:=by rw[BitVec.toNat_or,BitVec.toNat_ofNat,BitVec.toNat_ofNat,cx (by omega),cx (by omega)];have:=Nat.two_pow_add_eq_or_of_lt (i:=8) (b:=b.toNat) (by omega) v;rw[show(2:Nat)^8=256 from by decide]at this;rw[cB v 256,<-this]
 show aU.wrap (((BitVec.ofNat 64 (v*256)|||BitVec.ofNat 64 b.toNat).toNat:Nat):Int)=_;rw[e1,bM];omega
structure Rs where
 a:Nat
 e:Int
def rdO(B:List UInt8)(t:Nat)(s:Rs):aC:= .rc [.byt B (.id t),.int .i64 s.a,.int .i64 s.e]
def uR(B:List UInt8)(n:Nat)(s:Rs):Int×Rs:=if s.e=0 then(if s.a+n<=B.length then(((nB ((B.drop s.a).take n):Nat):Int),⟨s.a+n,0⟩)else(0,⟨s.a,2⟩))else(0,s)
def wR(B:List UInt8)(n:Nat)(s:Rs):List UInt8×Rs:=if s.e=0 then(if s.a+n<=B.length then((B.drop s.a).take n,⟨s.a+n,0⟩)else([],⟨s.a,2⟩))else([],s)
def bR(B:List UInt8)(m:Nat)(s:Rs):List UInt8×Rs:=
 if s.e=0 then(if s.a+2<=B.length then(if nB ((B.drop s.a).take 2)<=m then(if s.a+2+nB ((B.drop s.a).take 2)<=B.length then((B.drop (s.a+2)).take (nB ((B.drop s.a).take 2)),⟨s.a+(2+nB ((B.drop s.a).take 2)),0⟩)else([],⟨s.a,2⟩))else([],⟨s.a,4⟩))else([],⟨s.a,2⟩))else([],s)
def eR(B:List UInt8)(s:Rs):Int:=if s.e=0 then(if s.a<B.length then 3 else 0)else s.e
structure fD(B:List UInt8)(s:Rs):Prop where
 a:s.a<=B.length
theorem gJ{B:List UInt8}{n:Nat}{s:Rs}(h:fD B s):fD B (uR B n s).2:=by
 unfold uR;split
 ·split
  ·rename_i h2;exact⟨h2⟩
  ·exact⟨h.a⟩
 ·exact h
theorem Sf{B:List UInt8}{n:Nat}{s:Rs}(h:fD B s):fD B (wR B n s).2:=by
 unfold wR;split
 ·split
  ·rename_i h2;exact⟨h2⟩
  ·exact⟨h.a⟩
 ·exact h
theorem xN{B:List UInt8}{n:Nat}{s:Rs}(h:fD B s):fD B (bR B n s).2:=by
 unfold bR;split
 ·split
  ·split
   ·split
    ·rename_i h2;exact⟨by show s.a+(2+_)<=_;omega⟩
    ·exact⟨h.a⟩
   ·exact⟨h.a⟩
  ·exact⟨h.a⟩
 ·exact h
theorem f74(B:List UInt8)(hB:B.length<=1000000000):call T 74 [.byt B .no] [] 0=some ⟨.ptr 100 0,[(100,rdO B 60 ⟨0,0⟩)],[60]⟩:=by
 rw[an xmy];unfold rdO;have h:0+B.length<=140737488355328:=by omega
 have h':B.length<=140737488355328:=by omega
 simp only[go_sem,Qe,Qh,Qi,Qj,Qk,reduceCtorEq,reduceIte,h',aD]
theorem Ye(B:List UInt8)(a e x:Int):call T 124 [.ptr 0 0,.int .i64 x] [.rc [.byt B (.id 50),.int .i64 a,.int .i64 e]] 1=some ⟨.tup [],[(0,.rc [.byt B (.id 60),.int .i64 a,.int .i64 x])],[60]⟩:=by rw[an xhl];simp only[go_sem,Qe,Qh,Qi,Qj,Qk,reduceCtorEq,reduceIte]
theorem f125(B:List UInt8)(e:Int)(hB:B.length<=1000000000)(a n p:Nat)(ha:a<=B.length)(hp:p<=1000000000)(hn:n<=1000000):call T 125 [.ptr 0 0,.int .i64 a,.int .i64 n] [.rc [.byt B (.id 50),.int .i64 p,.int .i64 e]] 1=
 if a+n<=B.length then some ⟨.tup [.byt ((B.drop a).take n) .no,.int .i64 0],[(0,.rc [.byt B (.id 60),.int .i64 p,.int .i64 e])],[60]⟩else some ⟨.tup [.byt [] .no,.int .i64 2],[(0,.rc [.byt B (.id 60),.int .i64 p,.int .i64 e])],[60]⟩:=by
 have e1:ah.wrap ((B.length:Int)-(a:Int))=((B.length-a:Nat):Int):=wZ (by omega)
 have e2:ah.wrap ((a:Int)+(n:Int))=((a+n:Nat):Int):=wZ (by omega)
 rw[an xhk]
 by_cases h:a+n<=B.length
 ·rw[if_pos h]
  have h1:¬B.length-a<n:=by omega
  have h2:a<=a+n:=by omega
  have h3:(B.take (a+n)).drop a=(B.drop a).take n:=by rw[List.drop_take];congr 1;omega
  simp only[go_sem,Qe,Qh,Qi,Qj,Qk,reduceCtorEq,reduceIte,e1,e2,h,h1,h2,h3]
 ·rw[if_neg h]
  have h1:B.length-a<n:=by omega
  simp only[go_sem,Qe,Qh,Qi,Qj,Qk,reduceCtorEq,reduceIte,e1,h1]
theorem l75(t:Nat)(O:aC)(n:Int)(X:List UInt8)(hX:X.length<=6)(hO:∃B s,O=rdO B t s):∀(m i v:Nat),X.length-i=m->i<=X.length->v<256^i->
 run T (.loop yc) ⟨[(0,.ptr 0 0),(1,.int .i64 n),(7,.int .u64 v),(38,.byt X .no),(39,.int .i64 X.length),(40,.int .i64 i)],[(0,O)],[t]⟩=
  some (.x 0,⟨[(0,.ptr 0 0),(1,.int .i64 n),(7,.int .u64 ((nF v (X.drop i):Nat):Int))],[(0,O)],[t]⟩):=by
 obtain⟨B,s,rfl⟩:=hO;intro m;induction m with
 |zero=>
  intro i v h0 h1 h2;have:i=X.length:=by omega
  subst this;rw[bP,ai];simp only[rdO,go_sem,Qh,Qj,Qk,reduceCtorEq,reduceIte,nF,nH]
 |succ m ih=>
  intro i v h0 h1 h2;have hi:i<X.length:=by omega
  have hiI:(i:Int)<(X.length:Int):=by omega
  have e1:=cZ i (by omega)
  have hv:v<1099511627776:=by
   have:256^i<=256^5:=Nat.pow_le_pow_right (by decide) (by omega);have h3:(256:Nat)^5=1099511627776:=by decide
   omega
  have h3:=Of [X.getD i 0] v i h2;have ih':=ih (i+1) (v*256+(X.getD i 0).toNat) (by omega) (by omega) h3;have ho:=orW v hv (X.getD i 0);have hd:nF v (X.drop i)=nF (v*256+(X.getD i 0).toNat) (X.drop (i+1)):=by rw[eg X i hi];rfl
  rw[hd];generalize hc:X.getD i 0=c at*;rw[ai];simp only[rdO]at ih' ⊢;simp only[go_sem,Q2,Q3,Qh,Qj,Qk,reduceCtorEq,reduceIte,hiI,e1,hc,ho,ih']
theorem f75(B:List UInt8)(hB:B.length<=1000000000)(n:Nat)(h1:1<=n)(h6:n<=6)(s:Rs)(hs:fD B s):call T 75 [.ptr 0 0,.int .i64 n] [rdO B 50 s] 1=some ⟨.int .i64 (uR B n s).1,[(0,rdO B 60 (uR B n s).2)],[60]⟩:=by
 have ha:=hs.a;have g1:=f125 B 0 hB s.a n s.a ha (by omega) (by omega);have g2:=Ye B s.a 0 2;have hX:((B.drop s.a).take n).length<=6:=by rw[ax];omega
 have hl:=l75 31060 (rdO B 31060 s) n ((B.drop s.a).take n) hX ⟨B,s,rfl⟩ _ 0 0 rfl (bH _) (by decide);have hsm:=FO _ hX;have n1:¬(n:Int)<1:=by omega
 have n8:¬(8:Int)<n:=by omega
 have e2:ah.wrap ((s.a:Int)+(n:Int))=((s.a+n:Nat):Int):=wZ (by omega)
 rw[an xmx];unfold uR
 by_cases h0:s.e=0
 ·rw[if_pos h0]
  obtain⟨a,e⟩:=s;simp only at h0 g1 g2 hl e2 hsm;subst h0
  by_cases h:a+n<=B.length
  ·rw[if_pos h]at g1
   rw[if_pos h];rw[aD,bh]at hl;change run T _ _=some (Ex.x 0,⟨[(0,SV.ptr 0 0),(1,SV.int .i64 n),(7,SV.int .u64 ((nB ((B.drop a).take n):Nat):Int))],_,_⟩)at hl;have m1:¬(9223372036854775807:Int)<((nB ((B.drop a).take n):Nat):Int):=by omega
   have m2:ah.wrap ((nB ((B.drop a).take n):Nat):Int)=((nB ((B.drop a).take n):Nat):Int):=w64 (by omega) (by omega);generalize nB ((B.drop a).take n)=V at*;generalize (B.drop a).take n=X at*;simp only[rdO]at hl ⊢;simp only[go_sem,Qe,Qg,Qh,Qi,Qj,Qk,reduceCtorEq,reduceIte,n1,n8,g1,o5,hl,m1,m2,e2]
  ·rw[if_neg h]at g1
   rw[if_neg h];simp only[rdO];simp only[go_sem,Q5,Qe,Qg,Qh,Qi,Qj,Qk,reduceCtorEq,reduceIte,n1,n8,g1,o5,g2,xW]
 ·rw[if_neg h0]
  obtain⟨a,e⟩:=s;simp only at h0;simp only[rdO];simp only[go_sem,Qe,Qh,Qi,Qj,Qk,reduceCtorEq,reduceIte,h0]
theorem f78(B:List UInt8)(hB:B.length<=1000000000)(n:Nat)(h6:n<=1000000)(s:Rs)(hs:fD B s):call T 78 [.ptr 0 0,.int .i64 n] [rdO B 50 s] 1=some ⟨.byt (wR B n s).1 .no,[(0,rdO B 60 (wR B n s).2)],[60]⟩:=by
 have ha:=hs.a;have g1:=f125 B 0 hB s.a n s.a ha (by omega) (by omega);have g2:=Ye B s.a 0 2;have n1:¬(n:Int)<0:=by omega
 have e2:ah.wrap ((s.a:Int)+(n:Int))=((s.a+n:Nat):Int):=wZ (by omega)
 have hX:0+((B.drop s.a).take n).length<=140737488355328:=by rw[ax];omega
 have hX':((B.drop s.a).take n).length<=140737488355328:=by rw[ax];omega
 rw[an xmu];unfold wR
 by_cases h0:s.e=0
 ·rw[if_pos h0]
  obtain⟨a,e⟩:=s;simp only at h0 g1 g2 e2 hX hX';subst h0
  by_cases h:a+n<=B.length
  ·rw[if_pos h]at g1
   rw[if_pos h];generalize (B.drop a).take n=X at*;simp only[rdO];simp only[go_sem,Qe,Qg,Qh,Qi,Qj,Qk,reduceCtorEq,reduceIte,n1,g1,o5,e2,hX']
  ·rw[if_neg h]at g1
   rw[if_neg h];simp only[rdO];simp only[go_sem,Q5,Qe,Qg,Qh,Qi,Qj,Qk,reduceCtorEq,reduceIte,n1,g1,o5,g2,xW]
 ·rw[if_neg h0]
  obtain⟨a,e⟩:=s;simp only at h0;simp only[rdO];simp only[go_sem,Qe,Qh,Qi,Qj,Qk,reduceCtorEq,reduceIte,h0]
theorem f77(B:List UInt8)(s:Rs):call T 77 [.ptr 0 0] [rdO B 50 s] 1=some ⟨.int .i64 s.e,[(0,rdO B 60 s)],[60]⟩:=by rw[an xmv];simp only[rdO];simp only[go_sem,Qe,Qh,Qi,Qj,Qk,reduceCtorEq,reduceIte]
theorem xlW(B:List UInt8)(hB:B.length<=1000000000)(s:Rs)(hs:fD B s):call T 126 [.ptr 0 0] [rdO B 50 s] 1=some ⟨.int .i64 ((B.length-s.a:Nat):Int),[(0,rdO B 60 s)],[60]⟩:=by
 have ha:=hs.a;have e1:ah.wrap ((B.length:Int)-(s.a:Int))=((B.length-s.a:Nat):Int):=wZ (by omega)
 rw[an xhj];simp only[rdO];simp only[go_sem,Qe,Qh,Qi,Qj,Qk,reduceCtorEq,reduceIte,e1]
theorem f79(B:List UInt8)(hB:B.length<=1000000000)(s:Rs)(hs:fD B s):call T 79 [.ptr 0 0] [rdO B 50 s] 1=some ⟨.int .i64 (eR B s),[(0,rdO B 60 s)],[60]⟩:=by
 have g:=xlW B hB s hs;rw[an xmt];unfold eR;obtain⟨a,e⟩:=s;simp only[rdO]at g ⊢
 by_cases h0:e=0
 ·subst h0
  by_cases h:a<B.length
  ·have h1:(0:Int)<((B.length-a:Nat):Int):=by omega
   simp only[go_sem,Qe,Qg,Qh,Qi,Qj,Qk,reduceCtorEq,reduceIte,g,YY,h,h1]
  ·have h1:¬(0:Int)<((B.length-a:Nat):Int):=by omega
   simp only[go_sem,Qe,Qg,Qh,Qi,Qj,Qk,reduceCtorEq,reduceIte,g,YY,h,h1]
 ·simp only[go_sem,Qe,Qg,Qh,Qi,Qj,Qk,reduceCtorEq,reduceIte,h0]
theorem xga(B:List UInt8)(a:Nat)(h:a+2<=B.length):∃x y,(B.drop a).take 2=[x,y]:=by
 have:((B.drop a).take 2).length=2:=by rw[ax,aL];omega
 match (B.drop a).take 2,this with
 |[x,y],_=>exact⟨x,y,rfl⟩
theorem xkD(x y:UInt8):bZ .or .i64 (ah.wrap ((x.toNat:Int)*2^min 8 64)) (y.toNat:Int)=((nB [x,y]:Nat):Int):=by
 have hx:=x.toNat_lt;have hy:=y.toNat_lt;have p:((2:Int)^min 8 64)=256:=by decide
 have e:ah.wrap ((x.toNat:Int)*2^min 8 64)=((x.toNat*256:Nat):Int):=by rw[p,w64 (by omega) (by omega)];omega
 rw[e];unfold bZ;simp only[BitVec.ofInt_natCast]
 have e1:(BitVec.ofNat 64 (x.toNat*256)|||BitVec.ofNat 64 y.toNat).toNat=x.toNat*256+y.toNat:=by rw[BitVec.toNat_or,BitVec.toNat_ofNat,BitVec.toNat_ofNat,cx (by omega),cx (by omega)];have:=Nat.two_pow_add_eq_or_of_lt (i:=8) (b:=y.toNat) (by omega) x.toNat;rw[show(2:Nat)^8=256 from by decide]at this;rw[cB x.toNat 256,<-this]
 show ah.wrap (((BitVec.ofNat 64 (x.toNat*256)|||BitVec.ofNat 64 y.toNat).toNat:Nat):Int)=_;have e2:nB [x,y]=x.toNat*256+y.toNat:=by simp[nB,nF]
 rw[e1,e2,w64 (by omega) (by omega)]
theorem f76(B:List UInt8)(hB:B.length<=1000000000)(m:Nat)(hm:m<=65535)(s:Rs)(hs:fD B s):call T 76 [.ptr 0 0,.int .i64 m] [rdO B 50 s] 1=some ⟨.byt (bR B m s).1 .no,[(0,rdO B 60 (bR B m s).2)],[60]⟩:=by
 have ha:=hs.a;have g1:=f125 B 0 hB s.a 2 s.a ha (by omega) (by omega);have g2:=Ye B s.a 0 2;have g4:=Ye B s.a 0 4;rw[show((2:Nat):Int)=2 from rfl]at g1;rw[an xmw];unfold bR
 by_cases h0:s.e=0
 ·rw[if_pos h0]
  obtain⟨a,e⟩:=s;simp only at h0 g1 g2 g4 ha;subst h0
  by_cases h:a+2<=B.length
  ·rw[if_pos h]at g1
   rw[if_pos h];obtain⟨x,y,hxy⟩:=xga B a h;simp only[hxy]at g1 ⊢;have ho:=xkD x y
   have hn:nB [x,y]<65536:=by
    have:=Og [x,y];have p:(256:Nat)^ [x,y].length=65536:=by show(256:Nat)^2=65536;decide
    omega
   have e1:ah.wrap ((a:Int)+2)=((a+2:Nat):Int):=wZ (by omega)
   have e2:ah.wrap (2+((nB [x,y]:Nat):Int))=((2+nB [x,y]:Nat):Int):=wZ (by omega)
   have e3:ah.wrap ((a:Int)+((2+nB [x,y]:Nat):Int))=((a+(2+nB [x,y]):Nat):Int):=wZ (by omega)
   have g3:=f125 B 0 hB (a+2) (nB [x,y]) a h (by omega) (by omega);generalize nB [x,y]=n at*
   by_cases hq:n<=m
   ·have hq':¬(m:Int)<(n:Int):=by omega
    have hq'':¬m<n:=by omega
    rw[if_pos hq];have hX:0+((B.drop (a+2)).take n).length<=140737488355328:=by rw[ax];omega
    have hX':((B.drop (a+2)).take n).length<=140737488355328:=by rw[ax];omega
    by_cases hr:a+2+n<=B.length
    ·rw[if_pos hr]at g3
     rw[if_pos hr];generalize (B.drop (a+2)).take n=X at*;simp only[rdO];simp only[go_sem,Q2,Q3,Q4,Qe,Qg,Qh,Qi,Qj,Qk,reduceCtorEq,reduceIte,g1,o5,ho,hq',g3,e1,e2,e3,hX']
    ·rw[if_neg hr]at g3
     rw[if_neg hr];simp only[rdO];simp only[go_sem,Q2,Q3,Q4,Q5,Qe,Qg,Qh,Qi,Qj,Qk,reduceCtorEq,reduceIte,g1,o5,ho,hq',g3,e1,g2,xW]
   ·have hq':(m:Int)<(n:Int):=by omega
    have hq'':m<n:=by omega
    rw[if_neg hq];simp only[rdO];simp only[go_sem,Q2,Q3,Q4,Qe,Qg,Qh,Qi,Qj,Qk,reduceCtorEq,reduceIte,g1,o5,ho,hq',g4,xW]
  ·rw[if_neg h]at g1
   rw[if_neg h];simp only[rdO];simp only[go_sem,Q5,Qe,Qg,Qh,Qi,Qj,Qk,reduceCtorEq,reduceIte,g1,o5,g2,xW]
 ·rw[if_neg h0]
  obtain⟨a,e⟩:=s;simp only at h0;simp only[rdO];simp only[go_sem,Qe,Qh,Qi,Qj,Qk,reduceCtorEq,reduceIte,h0]

def bu(k:Nat)(v:Int):List UInt8:=be k (aU.wrap v)
theorem Gz(v s:Nat):(gI (v:Int) s).toNat=v/2^s % 256:=by
 unfold gI
 have e:Int.fdiv (v:Int) (2^s)=((v/2^s:Nat):Int):=by
  have p:((2:Int)^s)=((2^s:Nat):Int):=by rw[Int.natCast_pow];rfl
  rw[p,ic _ (Int.natCast_nonneg _)];rfl
 rw[e];show(cQ ((v/2^s:Nat):Int)).toNat=_;generalize v/2^s=q;simp[cQ];omega
theorem X1:∀(k a v:Nat),nF a (be k (v:Int))=a*256^k+v % 256^k
 |0,a,v=>by simp[be,nF,Nat.mod_one]
 |k+1,a,v=>by
  have h1:(gI (v:Int) (8*k)).toNat=v/256^k % 256:=by rw[Gz,Nat.pow_mul]
  show nF (a*256+(gI (v:Int) (8*k)).toNat) (be k (v:Int))=_;rw[X1 k,h1,Nat.mod_pow_succ,Nat.pow_succ,bv,Nat.mul_assoc a,cB 256,cB (v/256^k % 256)];omega
theorem jj(k:Nat)(v:Int)(h0:0<=v)(h1:v<((256^k:Nat):Int))(h8:v<18446744073709551616):((nB (bu k v):Nat):Int)=v:=by
 unfold bu nB;have e:aU.wrap v=((v.toNat:Nat):Int):=by rw[bM];omega
 rw[e,X1,fo,bS,cx (by omega)];omega
theorem oV{B P X S:List UInt8}(h:B=P++(X++S)):(B.drop P.length).take X.length=X/\P.length+X.length<=B.length:=by
 subst h;constructor
 ·rw[List.drop_left',List.take_left']
  ·rfl
  ·rfl
 ·rw[af,af];omega
theorem iP{B P X S:List UInt8}(n:Nat)(h:B=P++(X++S))(hn:X.length=n):uR B n ⟨P.length,0⟩=(((nB X:Nat):Int),⟨(P++X).length,0⟩):=by subst hn;obtain⟨h1,h2⟩:=oV h;unfold uR;rw[if_pos rfl];simp only;rw[if_pos h2,h1,af]
theorem Sg{B P X S:List UInt8}(n:Nat)(h:B=P++(X++S))(hn:X.length=n):wR B n ⟨P.length,0⟩=(X,⟨(P++X).length,0⟩):=by subst hn;obtain⟨h1,h2⟩:=oV h;unfold wR;rw[if_pos rfl];simp only;rw[if_pos h2,h1,af]
theorem pp1:((256^1:Nat):Int)=256:=by decide
theorem pp4:((256^4:Nat):Int)=4294967296:=by decide
theorem pp6:((256^6:Nat):Int)=281474976710656:=by decide
structure Wd where
 man:List UInt8
 frm:Int
 deriving DecidableEq
def Wd.sv(w:Wd):List SV:=[.byt w.man .no,.int .i64 w.frm]
def nz(w:Wd):Prop:=w.man.length=32/\0<=w.frm/\w.frm<=1099511627776
instance (w:Wd):Decidable (nz w):=by unfold nz;infer_instance
def ft(w:Wd):List UInt8:=if nz w then 22::(w.man++be 6 (aU.wrap w.frm))else []
theorem f35(w:Wd):call T 35 [.agg w.sv] [] 0=some ⟨.byt (ft w) .no,[],[]⟩:=by
 obtain⟨m,f⟩:=w;unfold ft nz Wd.sv;rw[an xmO]
 by_cases h1:m.length=32
 ·have h1I:(m.length:Int)=32:=by omega
  by_cases h2:f<0
  ·have h3:¬(m.length=32/\0<=f/\f<=1099511627776):=by omega
   simp only[go_sem,Qe,Qh,Qi,Qj,Qk,reduceCtorEq,reduceIte,h1I,h2,h3]
  ·by_cases h4:1099511627776<f
   ·have h3:¬(m.length=32/\0<=f/\f<=1099511627776):=by omega
    simp only[go_sem,Qe,Qh,Qi,Qj,Qk,reduceCtorEq,reduceIte,h1I,h2,h4,h3]
   ·have h3:m.length=32/\0<=f/\f<=1099511627776:=by omega
    have g2:=f64 (22::m) 6 f (by decide) (by decide) (by rw[am,h1];decide);rw[c6]at g2;simp only[go_sem,Qb,Qc,Qd,Qe,Qg,Qh,Qi,Qj,Qk,reduceCtorEq,reduceIte,h1,h2,h4,h3,g2,Eu,bg,aI]
    trace_state
 ·have h1I:¬(m.length:Int)=32:=by omega
  have h3:¬(m.length=32/\0<=f/\f<=1099511627776):=by omega
  simp only[go_sem,Qe,Qh,Qi,Qj,Qk,reduceCtorEq,reduceIte,h1I,h3]
def wT(B:List UInt8):Int×Rs:=uR B 1 ⟨0,0⟩
def wM(B:List UInt8):List UInt8×Rs:=wR B 32 (wT B).2
def wF(B:List UInt8):Int×Rs:=uR B 6 (wM B).2
def wdP(B:List UInt8):Prop:=eR B (wF B).2=0/\(wT B).1=22/\(wF B).1<=1099511627776
instance (B:List UInt8):Decidable (wdP B):=by unfold wdP;infer_instance
def mW(B:List UInt8):Option Wd:=if wdP B then some ⟨(wM B).1,(wF B).1⟩else none
def wdO:Option Wd->SV
 |some w=> .tup [.agg w.sv,.int .i64 0]
 |none=> .tup [.agg [.byt [] .no,.int .i64 0],.int .i64 30]
theorem f49(B:List UInt8)(hB:B.length<=1000000000):call T 49 [.byt B .no] [] 0=some ⟨wdO (mW B),[],[]⟩:=by
 have o0:fD B ⟨0,0⟩:=⟨bH _⟩;have o1:fD B (wT B).2:=gJ o0;have o2:fD B (wM B).2:=Sf o1;have o3:fD B (wF B).2:=gJ o2;have g0:=f74 B hB;have g1:=f75 B hB 1 (by decide) (by decide) ⟨0,0⟩ o0;have g2:=f78 B hB 32 (by decide) (wT B).2 o1;have g3:=f75 B hB 6 (by decide) (by decide) (wM B).2 o2;have g4:=f79 B hB (wF B).2 o3;change call T 75 _ _ _=some ⟨.int .i64 (wT B).1,[(0,rdO B 60 (wT B).2)],[60]⟩at g1;change call T 78 _ _ _=some ⟨.byt (wM B).1 .no,[(0,rdO B 60 (wM B).2)],[60]⟩at g2;change call T 75 _ _ _=some ⟨.int .i64 (wF B).1,[(0,rdO B 60 (wF B).2)],[60]⟩at g3;rw[c1]at g1;rw[c32]at g2;rw[c6]at g3
 by_cases hp:wdP B
 ·rw[show mW B=some ⟨(wM B).1,(wF B).1⟩from if_pos hp]
  obtain⟨h1,h2,h4⟩:=hp;have h3:¬1099511627776<(wF B).1:=by omega
  generalize wT B=t at*;generalize wM B=m at*;generalize wF B=f at*;obtain⟨t1,t2⟩:=t;obtain⟨m1,m2⟩:=m;obtain⟨f1,f2⟩:=f;simp only[rdO,aD]at g0 g1 g2 g3 g4 h1 h2 h3 ⊢;generalize eR B f2=e at*;rw[an xjX];simp only[go_sem,Qe,Qg,Qh,Qi,Qj,Qk,reduceCtorEq,reduceIte,g0,g1,g2,g3,g4,BZ,o4,xS,BY,h1,h2,h3,wdO,Wd.sv]
 ·rw[show mW B=none from if_neg hp]
  unfold wdP at hp;generalize wT B=t at*;generalize wM B=m at*;generalize wF B=f at*;obtain⟨t1,t2⟩:=t;obtain⟨m1,m2⟩:=m;obtain⟨f1,f2⟩:=f;simp only[rdO,aD]at g0 g1 g2 g3 g4 hp ⊢;generalize eR B f2=e at*;rw[an xjX]
  by_cases h1:e=0
  ·by_cases h2:t1=22
   ·have h3:1099511627776<f1:=by omega
    simp only[go_sem,Qe,Qg,Qh,Qi,Qj,Qk,reduceCtorEq,reduceIte,g0,g1,g2,g3,g4,BZ,o4,xS,BY,h1,h2,h3,wdO]
   ·simp only[go_sem,Qe,Qg,Qh,Qi,Qj,Qk,reduceCtorEq,reduceIte,g0,g1,g2,g3,g4,BZ,o4,xS,BY,h1,h2,wdO]
  ·by_cases h2:t1=22
   ·simp only[go_sem,Qe,Qg,Qh,Qi,Qj,Qk,reduceCtorEq,reduceIte,g0,g1,g2,g3,g4,BZ,o4,xS,BY,h1,h2,wdO]
   ·simp only[go_sem,Qe,Qg,Qh,Qi,Qj,Qk,reduceCtorEq,reduceIte,g0,g1,g2,g3,g4,BZ,o4,xS,BY,h1,h2,wdO]
theorem f41(v w:Wd)(h:v.man.length<=140737488355328):call T 41 [.agg v.sv,.agg w.sv] [] 0=some ⟨.bool (decide (v=w)),[],[]⟩:=by
 obtain⟨a,b⟩:=v;obtain⟨c,d⟩:=w;have g:=f31 a c h
 by_cases h1:b=d
 ·have e:decide ((⟨a,b⟩:Wd)=⟨c,d⟩)=decide (a=c):=by subst h1;simp
  rw[e];unfold Wd.sv;rw[an xjY];simp only[go_sem,Qe,Qh,Qi,Qj,Qk,reduceCtorEq,reduceIte,g,Sb,h1]
 ·have e:decide ((⟨a,b⟩:Wd)=⟨c,d⟩)=false:=by simp[h1]
  rw[e];unfold Wd.sv;rw[an xjY];simp only[go_sem,Qe,Qh,Qi,Qj,Qk,reduceCtorEq,reduceIte,h1]
theorem pA(w:Wd)(h:nz w):(ft w).length=39:=by rw[ft,if_pos h,am,af,kJ,h.1]
theorem vY(w:Wd)(h:nz w):mW (ft w)=some w:=by
 have hb:be 6 (aU.wrap w.frm)=bu 6 w.frm:=rfl;have e:ft w=[]++([22]++(w.man++bu 6 w.frm)):=by rw[ft,if_pos h,hb];rfl
 have h1:wT (ft w)=(22,⟨1,0⟩):=by have:=iP (B:=ft w) (P:=[]) (X:=[22]) 1 e rfl;exact this
 have e2:ft w=[22]++(w.man++bu 6 w.frm):=e
 have h2:wM (ft w)=(w.man,⟨33,0⟩):=by have:=Sg (B:=ft w) (P:=[22]) (X:=w.man) 32 e2 h.1;rw[af,h.1]at this;unfold wM;rw[h1];exact this
 have e3:ft w=([22]++w.man)++(bu 6 w.frm++ []):=by rw[bG,ay];exact e2
 have hn:=jj 6 w.frm h.2.1 (by rw[pp6];have:=h.2.2;omega) (by have:=h.2.2;omega)
 have h3:wF (ft w)=(w.frm,⟨39,0⟩):=by
  have:=iP (B:=ft w) (P:=[22]++w.man) (X:=bu 6 w.frm) 6 e3 (kJ _ _);have l1:([22]++w.man).length=33:=by rw[af,h.1];rfl
  have l2:([22]++w.man++bu 6 w.frm).length=39:=by rw[af,l1,bu,kJ]
  rw[l1,l2,hn]at this;unfold wF;rw[h2];exact this
 have h4:wdP (ft w):=by unfold wdP;rw[h3,h1];refine⟨?_,rfl,h.2.2⟩;unfold eR;rw[pA w h];rfl
 unfold mW;rw[if_pos h4,h2,h3]
end Go.Proofs.YtbfnljmmepcbfaaGreatDoor
