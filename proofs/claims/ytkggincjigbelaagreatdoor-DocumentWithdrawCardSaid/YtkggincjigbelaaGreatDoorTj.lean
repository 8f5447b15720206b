/- What the functions come to. No condition. -/
import Derived.Test.YtkggincjigbelaaGreatDoorTb
import Derived.Test.YtkggincjigbelaaGreatDoorTe
open Int renaming fdiv_eq_ediv_of_nonneg -> m4, natCast_zero -> aJ
open Go.IntKind renaming i64 -> af, u64 -> aW, wrap_u64 -> bJ
open List renaming drop_length -> jf, drop_take -> xM, drop_zero -> bK, length_append -> ai, length_cons -> aj, length_take -> ax
open Nat renaming add_mul -> bt, add_zero -> ek, mod_eq_of_lt -> cr, mul_comm -> co, mul_le_mul_right -> bi, zero_add -> cn, zero_le -> dB, zero_mul -> js
open UInt8 renaming ofInt -> cW
set_option maxRecDepth 100000
set_option maxHeartbeats 16000000
set_option linter.unusedSimpArgs false
set_option linter.unusedVariables false
namespace Go.Proofs.YtkggincjigbelaaGreatDoor
open Go.Sy
open UInt8 renaming reduceLT -> Q0, reduceLE -> Q1
open Int renaming reduceToNat -> Q2, reduceLE -> Q3, reduceLT -> Q4, reduceEq -> Q5, reduceNe -> Q6, reduceNeg -> Q7, reduceAdd -> Q8, reduceSub -> Q9, reduceMul -> Qa
open Nat renaming reducePow -> Qb, reduceDiv -> Qc, reduceMod -> Qd, reduceAdd -> Qe, reduceSub -> Qf, reduceMul -> Qg, reduceLT -> Qh, reduceLeDiff -> Qi, reduceEqDiff -> Qj, reduceBEq -> Qk
def nF(v:Nat)(l:List UInt8):Nat:=l.foldl (fun v b=>v*256+b.toNat) v
def nB(l:List UInt8):Nat:=nF 0 l
theorem xz:∀(l:List UInt8)(v k:Nat),v<256^k->nF v l<256^(k+l.length)
 |[],v,k,h=>h
 |b::r,v,k,h=>by
  have hb:=b.toNat_lt
  have h2:v*256+b.toNat<256^(k+1):=by have:(v+1)*256<=256^k*256:=bi _ h;rw[Nat.pow_succ];omega
  have:=xz r (v*256+b.toNat) (k+1) h2;rw[aj,show k+(r.length+1)=k+1+r.length from by omega];exact this
theorem Ua(l:List UInt8):nB l<256^l.length:=by have:=xz l 0 0 (by decide);rwa[cn]at this
theorem p7(l:List UInt8)(h:l.length<=6):nB l<281474976710656:=by
 have h1:=Ua l;have h2:256^l.length<=256^6:=Nat.pow_le_pow_right (by decide) h;have h3:(256:Nat)^6=281474976710656:=by decide
 omega
theorem orW(v:Nat)(hv:v<1099511627776)(b:UInt8):bD .or .u64 (aW.wrap ((v:Int)*2^min 8 64)) (b.toNat:Int)=((v*256+b.toNat:Nat):Int):=by
 have hb:=b.toNat_lt;have p:((2:Int)^min 8 64)=256:=by decide
 have e:aW.wrap ((v:Int)*2^min 8 64)=((v*256:Nat):Int):=by rw[p,bJ];omega
 rw[e];unfold bD;simp only[BitVec.ofInt_natCast]
 have e1:(BitVec.ofNat 64 (v*256)|||BitVec.ofNat 64 b.toNat).toNat=v*256+b.toNat:=by rw[BitVec.toNat_or,BitVec.toNat_ofNat,BitVec.toNat_ofNat,cr (by omega),cr (by omega)];have:=Nat.two_pow_add_eq_or_of_lt (i:=8) (b:=b.toNat) (by omega) v;rw[show(2:Nat)^8=256 from by decide]at this;rw[co v 256,<-this]
 show aW.wrap (((BitVec.ofNat 64 (v*256)|||BitVec.ofNat 64 b.toNat).toNat:Nat):Int)=_;rw[e1,bJ];omega
structure Rs where
 a:Nat
 e:Int
def rdO(B:List UInt8)(t:Nat)(s:Rs):aA:= .rc [.byt B (.id t),.int .i64 s.a,.int .i64 s.e]
def uR(B:List UInt8)(n:Nat)(s:Rs):Int×Rs:=if s.e=0 then(if s.a+n<=B.length then(((nB ((B.drop s.a).take n):Nat):Int),⟨s.a+n,0⟩)else(0,⟨s.a,2⟩))else(0,s)
def wR(B:List UInt8)(n:Nat)(s:Rs):List UInt8×Rs:=if s.e=0 then(if s.a+n<=B.length then((B.drop s.a).take n,⟨s.a+n,0⟩)else([],⟨s.a,2⟩))else([],s)
def eR(B:List UInt8)(s:Rs):Int:=if s.e=0 then(if s.a<B.length then 3 else 0)else s.e
structure iB(B:List UInt8)(s:Rs):Prop where
 a:s.a<=B.length
theorem xg{B:List UInt8}{n:Nat}{s:Rs}(h:iB B s):iB B (uR B n s).2:=by
 unfold uR;split
 ·split
  ·rename_i h2;exact⟨h2⟩
  ·exact⟨h.a⟩
 ·exact h
theorem H8{B:List UInt8}{n:Nat}{s:Rs}(h:iB B s):iB B (wR B n s).2:=by
 unfold wR;split
 ·split
  ·rename_i h2;exact⟨h2⟩
  ·exact⟨h.a⟩
 ·exact h
theorem f41(B:List UInt8)(hB:B.length<=1000000000):call T 41 [.byt B .no] [] 0=some ⟨.ptr 100 0,[(100,rdO B 60 ⟨0,0⟩)],[60]⟩:=by
 rw[ao ZQ];unfold rdO;have h:0+B.length<=140737488355328:=by omega
 have h':B.length<=140737488355328:=by omega
 simp only[go_sem,Q0,Q1,Q2,Q3,Q4,Q5,Q6,Q7,Q8,Q9,Qa,Qb,Qc,Qd,Qe,Qf,Qg,Qh,Qi,Qj,Qk,reduceCtorEq,reduceIte,h,h',aJ]
theorem f74(B:List UInt8)(a e x:Int):call T 74 [.ptr 0 0,.int .i64 x] [.rc [.byt B (.id 50),.int .i64 a,.int .i64 e]] 1=some ⟨.tup [],[(0,.rc [.byt B (.id 60),.int .i64 a,.int .i64 x])],[60]⟩:=by rw[ao ZD];simp only[go_sem,Q0,Q1,Q2,Q3,Q4,Q5,Q6,Q7,Q8,Q9,Qa,Qb,Qc,Qd,Qe,Qf,Qg,Qh,Qi,Qj,Qk,reduceCtorEq,reduceIte]
theorem f75(B:List UInt8)(e:Int)(hB:B.length<=1000000000)(a n p:Nat)(ha:a<=B.length)(hp:p<=1000000000)(hn:n<=1000000):call T 75 [.ptr 0 0,.int .i64 a,.int .i64 n] [.rc [.byt B (.id 50),.int .i64 p,.int .i64 e]] 1=
 if a+n<=B.length then some ⟨.tup [.byt ((B.drop a).take n) .no,.int .i64 0],[(0,.rc [.byt B (.id 60),.int .i64 p,.int .i64 e])],[60]⟩else some ⟨.tup [.byt [] .no,.int .i64 2],[(0,.rc [.byt B (.id 60),.int .i64 p,.int .i64 e])],[60]⟩:=by
 have e1:af.wrap ((B.length:Int)-(a:Int))=((B.length-a:Nat):Int):=wZ (by omega)
 have e2:af.wrap ((a:Int)+(n:Int))=((a+n:Nat):Int):=wZ (by omega)
 rw[ao ZC]
 by_cases h:a+n<=B.length
 ·rw[if_pos h]
  have h1:¬B.length-a<n:=by omega
  have h2:a<=a+n:=by omega
  have h3:(B.take (a+n)).drop a=(B.drop a).take n:=by rw[xM];congr 1;omega
  simp only[go_sem,Q0,Q1,Q2,Q3,Q4,Q5,Q6,Q7,Q8,Q9,Qa,Qb,Qc,Qd,Qe,Qf,Qg,Qh,Qi,Qj,Qk,reduceCtorEq,reduceIte,e1,e2,h,h1,h2,h3]
 ·rw[if_neg h]
  have h1:B.length-a<n:=by omega
  simp only[go_sem,Q0,Q1,Q2,Q3,Q4,Q5,Q6,Q7,Q8,Q9,Qa,Qb,Qc,Qd,Qe,Qf,Qg,Qh,Qi,Qj,Qk,reduceCtorEq,reduceIte,e1,e2,h1]
theorem l42(t:Nat)(O:aA)(n:Int)(X:List UInt8)(hX:X.length<=6)(hO:∃B s,O=rdO B t s):∀(m i v:Nat),X.length-i=m->i<=X.length->v<256^i->
 run T (.loop sB) ⟨[(0,.ptr 0 0),(1,.int .i64 n),(7,.int .u64 v),(38,.byt X .no),(39,.int .i64 X.length),(40,.int .i64 i)],[(0,O)],[t]⟩=
  some (.x 0,⟨[(0,.ptr 0 0),(1,.int .i64 n),(7,.int .u64 ((nF v (X.drop i):Nat):Int))],[(0,O)],[t]⟩):=by
 obtain⟨B,s,rfl⟩:=hO;intro m;induction m with
 |zero=>
  intro i v h0 h1 h2;have:i=X.length:=by omega
  subst this;rw[jf,aq];simp only[rdO,go_sem,Q0,Q1,Q2,Q3,Q4,Q5,Q6,Q7,Q8,Q9,Qa,Qb,Qc,Qd,Qe,Qf,Qg,Qh,Qi,Qj,Qk,reduceCtorEq,reduceIte,nF,List.foldl_nil]
 |succ m ih=>
  intro i v h0 h1 h2;have hi:i<X.length:=by omega
  have hiI:(i:Int)<(X.length:Int):=by omega
  have e1:=dF i (by omega)
  have hv:v<1099511627776:=by
   have:256^i<=256^5:=Nat.pow_le_pow_right (by decide) (by omega);have h3:(256:Nat)^5=1099511627776:=by decide
   omega
  have h3:=xz [X.getD i 0] v i h2;have ih':=ih (i+1) (v*256+(X.getD i 0).toNat) (by omega) (by omega) h3;have ho:=orW v hv (X.getD i 0);have hd:nF v (X.drop i)=nF (v*256+(X.getD i 0).toNat) (X.drop (i+1)):=by rw[ej X i hi];rfl
  rw[hd];generalize hc:X.getD i 0=c at*;rw[aq];simp only[rdO]at ih' ⊢;simp only[go_sem,Q0,Q1,Q2,Q3,Q4,Q5,Q6,Q7,Q8,Q9,Qa,Qb,Qc,Qd,Qe,Qf,Qg,Qh,Qi,Qj,Qk,reduceCtorEq,reduceIte,hi,hiI,e1,hc,ho,ih']
theorem f42(B:List UInt8)(hB:B.length<=1000000000)(n:Nat)(h1:1<=n)(h6:n<=6)(s:Rs)(hs:iB B s):call T 42 [.ptr 0 0,.int .i64 n] [rdO B 50 s] 1=some ⟨.int .i64 (uR B n s).1,[(0,rdO B 60 (uR B n s).2)],[60]⟩:=by
 have ha:=hs.a;have g1:=f75 B 0 hB s.a n s.a ha (by omega) (by omega);have g2:=f74 B s.a 0 2;have hX:((B.drop s.a).take n).length<=6:=by rw[ax];omega
 have hl:=l42 31060 (rdO B 31060 s) n ((B.drop s.a).take n) hX ⟨B,s,rfl⟩ _ 0 0 rfl (dB _) (by decide);have hsm:=p7 _ hX;have n1:¬(n:Int)<1:=by omega
 have n8:¬(8:Int)<n:=by omega
 have e2:af.wrap ((s.a:Int)+(n:Int))=((s.a+n:Nat):Int):=wZ (by omega)
 rw[ao ZP];unfold uR
 by_cases h0:s.e=0
 ·rw[if_pos h0]
  obtain⟨a,e⟩:=s;simp only at h0 g1 g2 hl e2 hsm;subst h0
  by_cases h:a+n<=B.length
  ·rw[if_pos h]at g1
   rw[if_pos h];rw[aJ,bK]at hl;change run T _ _=some (Ex.x 0,⟨[(0,SV.ptr 0 0),(1,SV.int .i64 n),(7,SV.int .u64 ((nB ((B.drop a).take n):Nat):Int))],_,_⟩)at hl;have m1:¬(9223372036854775807:Int)<((nB ((B.drop a).take n):Nat):Int):=by omega
   have m2:af.wrap ((nB ((B.drop a).take n):Nat):Int)=((nB ((B.drop a).take n):Nat):Int):=w64 (by omega) (by omega);generalize nB ((B.drop a).take n)=V at*;generalize (B.drop a).take n=X at*;simp only[rdO]at hl ⊢;simp only[go_sem,Q0,Q1,Q2,Q3,Q4,Q5,Q6,Q7,Q8,Q9,Qa,Qb,Qc,Qd,Qe,Qf,Qg,Qh,Qi,Qj,Qk,reduceCtorEq,reduceIte,n1,n8,g1,M9,hl,m1,m2,e2]
  ·rw[if_neg h]at g1
   rw[if_neg h];simp only[rdO];simp only[go_sem,Q0,Q1,Q2,Q3,Q4,Q5,Q6,Q7,Q8,Q9,Qa,Qb,Qc,Qd,Qe,Qf,Qg,Qh,Qi,Qj,Qk,reduceCtorEq,reduceIte,n1,n8,g1,M9,g2,XK]
 ·rw[if_neg h0]
  obtain⟨a,e⟩:=s;simp only at h0;simp only[rdO];simp only[go_sem,Q0,Q1,Q2,Q3,Q4,Q5,Q6,Q7,Q8,Q9,Qa,Qb,Qc,Qd,Qe,Qf,Qg,Qh,Qi,Qj,Qk,reduceCtorEq,reduceIte,h0]
theorem f43(B:List UInt8)(hB:B.length<=1000000000)(n:Nat)(h6:n<=1000000)(s:Rs)(hs:iB B s):call T 43 [.ptr 0 0,.int .i64 n] [rdO B 50 s] 1=some ⟨.byt (wR B n s).1 .no,[(0,rdO B 60 (wR B n s).2)],[60]⟩:=by
 have ha:=hs.a;have g1:=f75 B 0 hB s.a n s.a ha (by omega) (by omega);have g2:=f74 B s.a 0 2;have n1:¬(n:Int)<0:=by omega
 have e2:af.wrap ((s.a:Int)+(n:Int))=((s.a+n:Nat):Int):=wZ (by omega)
 have hX:0+((B.drop s.a).take n).length<=140737488355328:=by rw[ax];omega
 have hX':((B.drop s.a).take n).length<=140737488355328:=by rw[ax];omega
 rw[ao ZO];unfold wR
 by_cases h0:s.e=0
 ·rw[if_pos h0]
  obtain⟨a,e⟩:=s;simp only at h0 g1 g2 e2 hX hX';subst h0
  by_cases h:a+n<=B.length
  ·rw[if_pos h]at g1
   rw[if_pos h];generalize (B.drop a).take n=X at*;simp only[rdO];simp only[go_sem,Q0,Q1,Q2,Q3,Q4,Q5,Q6,Q7,Q8,Q9,Qa,Qb,Qc,Qd,Qe,Qf,Qg,Qh,Qi,Qj,Qk,reduceCtorEq,reduceIte,n1,g1,M9,e2,hX,hX']
  ·rw[if_neg h]at g1
   rw[if_neg h];simp only[rdO];simp only[go_sem,Q0,Q1,Q2,Q3,Q4,Q5,Q6,Q7,Q8,Q9,Qa,Qb,Qc,Qd,Qe,Qf,Qg,Qh,Qi,Qj,Qk,reduceCtorEq,reduceIte,n1,g1,M9,g2,XK]
 ·rw[if_neg h0]
  obtain⟨a,e⟩:=s;simp only at h0;simp only[rdO];simp only[go_sem,Q0,Q1,Q2,Q3,Q4,Q5,Q6,Q7,Q8,Q9,Qa,Qb,Qc,Qd,Qe,Qf,Qg,Qh,Qi,Qj,Qk,reduceCtorEq,reduceIte,h0]
theorem f76(B:List UInt8)(hB:B.length<=1000000000)(s:Rs)(hs:iB B s):call T 76 [.ptr 0 0] [rdO B 50 s] 1=some ⟨.int .i64 ((B.length-s.a:Nat):Int),[(0,rdO B 60 s)],[60]⟩:=by
 have ha:=hs.a;have e1:af.wrap ((B.length:Int)-(s.a:Int))=((B.length-s.a:Nat):Int):=wZ (by omega)
 rw[ao ZB];simp only[rdO];simp only[go_sem,Q0,Q1,Q2,Q3,Q4,Q5,Q6,Q7,Q8,Q9,Qa,Qb,Qc,Qd,Qe,Qf,Qg,Qh,Qi,Qj,Qk,reduceCtorEq,reduceIte,e1]
theorem f44(B:List UInt8)(hB:B.length<=1000000000)(s:Rs)(hs:iB B s):call T 44 [.ptr 0 0] [rdO B 50 s] 1=some ⟨.int .i64 (eR B s),[(0,rdO B 60 s)],[60]⟩:=by
 have g:=f76 B hB s hs;rw[ao ZN];unfold eR;obtain⟨a,e⟩:=s;simp only[rdO]at g ⊢
 by_cases h0:e=0
 ·subst h0
  by_cases h:a<B.length
  ·have h1:(0:Int)<((B.length-a:Nat):Int):=by omega
   simp only[go_sem,Q0,Q1,Q2,Q3,Q4,Q5,Q6,Q7,Q8,Q9,Qa,Qb,Qc,Qd,Qe,Qf,Qg,Qh,Qi,Qj,Qk,reduceCtorEq,reduceIte,g,XJ,h,h1]
  ·have h1:¬(0:Int)<((B.length-a:Nat):Int):=by omega
   simp only[go_sem,Q0,Q1,Q2,Q3,Q4,Q5,Q6,Q7,Q8,Q9,Qa,Qb,Qc,Qd,Qe,Qf,Qg,Qh,Qi,Qj,Qk,reduceCtorEq,reduceIte,g,XJ,h,h1]
 ·simp only[go_sem,Q0,Q1,Q2,Q3,Q4,Q5,Q6,Q7,Q8,Q9,Qa,Qb,Qc,Qd,Qe,Qf,Qg,Qh,Qi,Qj,Qk,reduceCtorEq,reduceIte,h0]
def rqO(B:List UInt8)(s:Rs):aA:= .rc [.byt B .no,.int .i64 s.a,.int .i64 s.e]
theorem f46(B:List UInt8):call T 46 [.byt B .no] [] 0=some ⟨.ptr 100 0,[(100,rqO B ⟨0,0⟩)],[]⟩:=by rw[ao ZL];unfold rqO;simp only[go_sem,Q0,Q1,Q2,Q3,Q4,Q5,Q6,Q7,Q8,Q9,Qa,Qb,Qc,Qd,Qe,Qf,Qg,Qh,Qi,Qj,Qk,reduceCtorEq,reduceIte,aJ]
theorem f77(B:List UInt8)(hB:B.length<=1000000000)(s:Rs)(hs:iB B s)(n:Nat)(hn:n<=1000000):call T 77 [.ptr 0 0,.int .i64 n] [rqO B s] 0=
 if s.e=0 then(if s.a+n<=B.length then some ⟨.bool true,[(0,rqO B s)],[]⟩else some ⟨.bool false,[(0,rqO B ⟨s.a,2⟩)],[]⟩)else some ⟨.bool false,[(0,rqO B s)],[]⟩:=by
 have ha:=hs.a;have e1:af.wrap ((B.length:Int)-(s.a:Int))=((B.length-s.a:Nat):Int):=wZ (by omega)
 obtain⟨a,e⟩:=s;simp only[rqO]at e1 ha ⊢;rw[ao ZA]
 by_cases h0:e=0
 ·subst h0
  rw[if_pos rfl]
  by_cases h:a+n<=B.length
  ·have h1:¬B.length-a<n:=by omega
   rw[if_pos h];simp only[go_sem,Q0,Q1,Q2,Q3,Q4,Q5,Q6,Q7,Q8,Q9,Qa,Qb,Qc,Qd,Qe,Qf,Qg,Qh,Qi,Qj,Qk,reduceCtorEq,reduceIte,e1,h1]
  ·have h1:B.length-a<n:=by omega
   rw[if_neg h];simp only[go_sem,Q0,Q1,Q2,Q3,Q4,Q5,Q6,Q7,Q8,Q9,Qa,Qb,Qc,Qd,Qe,Qf,Qg,Qh,Qi,Qj,Qk,reduceCtorEq,reduceIte,e1,h1]
 ·rw[if_neg h0]
  simp only[go_sem,Q0,Q1,Q2,Q3,Q4,Q5,Q6,Q7,Q8,Q9,Qa,Qb,Qc,Qd,Qe,Qf,Qg,Qh,Qi,Qj,Qk,reduceCtorEq,reduceIte,h0]
theorem f78(B:List UInt8)(hB:B.length<=1000000000)(s:Rs)(hs:iB B s):call T 78 [.ptr 0 0] [rqO B s] 0=some ⟨.int .i64 ((B.length-s.a:Nat):Int),[(0,rqO B s)],[]⟩:=by
 have ha:=hs.a;have e1:af.wrap ((B.length:Int)-(s.a:Int))=((B.length-s.a:Nat):Int):=wZ (by omega)
 rw[ao Zz];simp only[rqO];simp only[go_sem,Q0,Q1,Q2,Q3,Q4,Q5,Q6,Q7,Q8,Q9,Qa,Qb,Qc,Qd,Qe,Qf,Qg,Qh,Qi,Qj,Qk,reduceCtorEq,reduceIte,e1]
theorem f49(B:List UInt8)(hB:B.length<=1000000000)(s:Rs)(hs:iB B s):call T 49 [.ptr 0 0] [rqO B s] 0=some ⟨.int .i64 (eR B s),[(0,rqO B s)],[]⟩:=by
 have g:=f78 B hB s hs;rw[ao ZI];unfold eR;obtain⟨a,e⟩:=s;simp only[rqO]at g ⊢
 by_cases h0:e=0
 ·subst h0
  by_cases h:a<B.length
  ·have h1:(0:Int)<((B.length-a:Nat):Int):=by omega
   simp only[go_sem,Q0,Q1,Q2,Q3,Q4,Q5,Q6,Q7,Q8,Q9,Qa,Qb,Qc,Qd,Qe,Qf,Qg,Qh,Qi,Qj,Qk,reduceCtorEq,reduceIte,g,XI,h,h1]
  ·have h1:¬(0:Int)<((B.length-a:Nat):Int):=by omega
   simp only[go_sem,Q0,Q1,Q2,Q3,Q4,Q5,Q6,Q7,Q8,Q9,Qa,Qb,Qc,Qd,Qe,Qf,Qg,Qh,Qi,Qj,Qk,reduceCtorEq,reduceIte,g,XI,h,h1]
 ·simp only[go_sem,Q0,Q1,Q2,Q3,Q4,Q5,Q6,Q7,Q8,Q9,Qa,Qb,Qc,Qd,Qe,Qf,Qg,Qh,Qi,Qj,Qk,reduceCtorEq,reduceIte,h0]
theorem l47(B:List UInt8)(hB:B.length<=1000000000)(a n:Nat)(h6:n<=6)(hl:a+n<=B.length):∀(m i v:Nat),n-i=m->i<=n->v<256^i->
 run T (.loop sA) ⟨[(0,.ptr 0 0),(1,.int .i64 n),(5,.int .u64 v),(6,.int .i64 i)],[(0,rqO B ⟨a,0⟩)],[]⟩=
  some (.x 0,⟨[(0,.ptr 0 0),(1,.int .i64 n),(5,.int .u64 ((nF v ((B.drop (a+i)).take (n-i)):Nat):Int))],[(0,rqO B ⟨a,0⟩)],[]⟩):=by
 intro m;induction m with
 |zero=>
  intro i v h0 h1 h2;have:i=n:=by omega
  subst this;rw[Nat.sub_self,List.take_zero,aq];simp only[rqO,go_sem,Q0,Q1,Q2,Q3,Q4,Q5,Q6,Q7,Q8,Q9,Qa,Qb,Qc,Qd,Qe,Qf,Qg,Qh,Qi,Qj,Qk,reduceCtorEq,reduceIte,nF,List.foldl_nil]
 |succ m ih=>
  intro i v h0 h1 h2;have hi:i<n:=by omega
  have hiI:(i:Int)<(n:Int):=by omega
  have e1:=dF i (by omega);have e2:af.wrap ((a:Int)+(i:Int))=((a+i:Nat):Int):=wZ (by omega)
  have hai:a+i<B.length:=by omega
  have hv:v<1099511627776:=by
   have:256^i<=256^5:=Nat.pow_le_pow_right (by decide) (by omega);have h3:(256:Nat)^5=1099511627776:=by decide
   omega
  have h3:=xz [B.getD (a+i) 0] v i h2;have ih':=ih (i+1) (v*256+(B.getD (a+i) 0).toNat) (by omega) (by omega) h3;have ho:=orW v hv (B.getD (a+i) 0)
  have hd:nF v ((B.drop (a+i)).take (n-i))=nF (v*256+(B.getD (a+i) 0).toNat) ((B.drop (a+(i+1))).take (n-(i+1))):=by rw[ej B (a+i) hai,show n-i=n-(i+1)+1 from by omega,List.take_succ_cons];rfl
  rw[hd];generalize hc:B.getD (a+i) 0=c at*;rw[aq];simp only[rqO]at ih' ⊢;simp only[go_sem,Q0,Q1,Q2,Q3,Q4,Q5,Q6,Q7,Q8,Q9,Qa,Qb,Qc,Qd,Qe,Qf,Qg,Qh,Qi,Qj,Qk,reduceCtorEq,reduceIte,hi,hiI,hai,e1,e2,hc,ho,ih']
theorem f47(B:List UInt8)(hB:B.length<=1000000000)(n:Nat)(h1:1<=n)(h6:n<=6)(s:Rs)(hs:iB B s):call T 47 [.ptr 0 0,.int .i64 n] [rqO B s] 0=some ⟨.int .i64 (uR B n s).1,[(0,rqO B (uR B n s).2)],[]⟩:=by
 have ha:=hs.a;have g1:=f77 B hB s hs n (by omega);have hX:((B.drop s.a).take n).length<=6:=by rw[ax];omega
 have hsm:=p7 _ hX;have n1:¬(n:Int)<1:=by omega
 have n8:¬(8:Int)<n:=by omega
 have e2:af.wrap ((s.a:Int)+(n:Int))=((s.a+n:Nat):Int):=wZ (by omega)
 rw[ao ZK];unfold uR
 by_cases h0:s.e=0
 ·rw[if_pos h0]at g1 ⊢
  obtain⟨a,e⟩:=s;simp only at h0 g1 e2 hsm;subst h0
  by_cases h:a+n<=B.length
  ·rw[if_pos h]at g1
   rw[if_pos h];have hl:=l47 B hB a n h6 h _ 0 0 rfl (dB _) (by decide);rw[aJ,ek,Nat.sub_zero]at hl;change run T _ _=some (Ex.x 0,⟨[(0,SV.ptr 0 0),(1,SV.int .i64 n),(5,SV.int .u64 ((nB ((B.drop a).take n):Nat):Int))],_,_⟩)at hl;have m1:¬(9223372036854775808:Int)<=((nB ((B.drop a).take n):Nat):Int):=by omega
   have m2:af.wrap ((nB ((B.drop a).take n):Nat):Int)=((nB ((B.drop a).take n):Nat):Int):=w64 (by omega) (by omega);generalize nB ((B.drop a).take n)=V at*;simp only[rqO]at hl g1 ⊢;simp only[go_sem,Q0,Q1,Q2,Q3,Q4,Q5,Q6,Q7,Q8,Q9,Qa,Qb,Qc,Qd,Qe,Qf,Qg,Qh,Qi,Qj,Qk,reduceCtorEq,reduceIte,n1,n8,g1,M8,hl,m1,m2,e2]
  ·rw[if_neg h]at g1
   rw[if_neg h];simp only[rqO]at g1 ⊢;simp only[go_sem,Q0,Q1,Q2,Q3,Q4,Q5,Q6,Q7,Q8,Q9,Qa,Qb,Qc,Qd,Qe,Qf,Qg,Qh,Qi,Qj,Qk,reduceCtorEq,reduceIte,n1,n8,g1,M8]
 ·rw[if_neg h0]
  obtain⟨a,e⟩:=s;simp only at h0;simp only[rqO];simp only[go_sem,Q0,Q1,Q2,Q3,Q4,Q5,Q6,Q7,Q8,Q9,Qa,Qb,Qc,Qd,Qe,Qf,Qg,Qh,Qi,Qj,Qk,reduceCtorEq,reduceIte,h0]
theorem f48(B:List UInt8)(hB:B.length<=1000000000)(n:Nat)(h6:n<=1000000)(s:Rs)(hs:iB B s):call T 48 [.ptr 0 0,.int .i64 n] [rqO B s] 0=some ⟨.byt (wR B n s).1 .no,[(0,rqO B (wR B n s).2)],[]⟩:=by
 have ha:=hs.a;have g1:=f77 B hB s hs n h6;have n1:¬(n:Int)<0:=by omega
 have e2:af.wrap ((s.a:Int)+(n:Int))=((s.a+n:Nat):Int):=wZ (by omega)
 have e3:af.wrap (((s.a+n:Nat):Int)-(n:Int))=(s.a:Int):=wZ (by omega)
 have hX:0+((B.drop s.a).take n).length<=140737488355328:=by rw[ax];omega
 have hX':((B.drop s.a).take n).length<=140737488355328:=by rw[ax];omega
 have h3:(B.take (s.a+n)).drop s.a=(B.drop s.a).take n:=by rw[xM];congr 1;omega
 have h4:s.a<=s.a+n:=by omega
 rw[ao ZJ];unfold wR
 by_cases h0:s.e=0
 ·rw[if_pos h0]at g1 ⊢
  obtain⟨a,e⟩:=s;simp only at h0 g1 e2 e3 hX hX' h3 h4;subst h0
  by_cases h:a+n<=B.length
  ·rw[if_pos h]at g1
   rw[if_pos h];simp only[rqO]at g1 ⊢;simp only[go_sem,Q0,Q1,Q2,Q3,Q4,Q5,Q6,Q7,Q8,Q9,Qa,Qb,Qc,Qd,Qe,Qf,Qg,Qh,Qi,Qj,Qk,reduceCtorEq,reduceIte,n1,g1,M8,e2,e3,h4,h,h3,hX,hX']
  ·rw[if_neg h]at g1
   rw[if_neg h];simp only[rqO]at g1 ⊢;simp only[go_sem,Q0,Q1,Q2,Q3,Q4,Q5,Q6,Q7,Q8,Q9,Qa,Qb,Qc,Qd,Qe,Qf,Qg,Qh,Qi,Qj,Qk,reduceCtorEq,reduceIte,n1,g1,M8]
 ·rw[if_neg h0]
  obtain⟨a,e⟩:=s;simp only at h0;simp only[rqO];simp only[go_sem,Q0,Q1,Q2,Q3,Q4,Q5,Q6,Q7,Q8,Q9,Qa,Qb,Qc,Qd,Qe,Qf,Qg,Qh,Qi,Qj,Qk,reduceCtorEq,reduceIte,h0]
def bu(k:Nat)(v:Int):List UInt8:=be k (aW.wrap v)
theorem zC(v s:Nat):(fC (v:Int) s).toNat=v/2^s % 256:=by
 unfold fC
 have e:Int.fdiv (v:Int) (2^s)=((v/2^s:Nat):Int):=by
  have p:((2:Int)^s)=((2^s:Nat):Int):=by rw[Int.natCast_pow];rfl
  rw[p,m4 _ (Int.natCast_nonneg _)];rfl
 rw[e];show(cW ((v/2^s:Nat):Int)).toNat=_;generalize v/2^s=q;simp[cW];omega
theorem MH:∀(k a v:Nat),nF a (be k (v:Int))=a*256^k+v % 256^k
 |0,a,v=>by simp[be,nF,Nat.mod_one]
 |k+1,a,v=>by
  have h1:(fC (v:Int) (8*k)).toNat=v/256^k % 256:=by rw[zC,Nat.pow_mul]
  show nF (a*256+(fC (v:Int) (8*k)).toNat) (be k (v:Int))=_;rw[MH k,h1,Nat.mod_pow_succ,Nat.pow_succ,bt,Nat.mul_assoc a,co 256,co (v/256^k % 256)];omega
theorem Ub(k:Nat)(v:Int)(h0:0<=v)(h1:v<((256^k:Nat):Int))(h8:v<18446744073709551616):((nB (bu k v):Nat):Int)=v:=by
 unfold bu nB;have e:aW.wrap v=((v.toNat:Nat):Int):=by rw[bJ];omega
 rw[e,MH,js,cn,cr (by omega)];omega
theorem vh{B P X S:List UInt8}(h:B=P++(X++S)):(B.drop P.length).take X.length=X/\P.length+X.length<=B.length:=by
 subst h;constructor
 ·rw[List.drop_left',List.take_left']
  ·rfl
  ·rfl
 ·rw[ai,ai];omega
theorem If{B P X S:List UInt8}(n:Nat)(h:B=P++(X++S))(hn:X.length=n):uR B n ⟨P.length,0⟩=(((nB X:Nat):Int),⟨(P++X).length,0⟩):=by subst hn;obtain⟨h1,h2⟩:=vh h;unfold uR;rw[if_pos rfl];simp only;rw[if_pos h2,h1,ai]
theorem Sn{B P X S:List UInt8}(n:Nat)(h:B=P++(X++S))(hn:X.length=n):wR B n ⟨P.length,0⟩=(X,⟨(P++X).length,0⟩):=by subst hn;obtain⟨h1,h2⟩:=vh h;unfold wR;rw[if_pos rfl];simp only;rw[if_pos h2,h1,ai]
theorem pp6:((256^6:Nat):Int)=281474976710656:=by decide
end Go.Proofs.YtkggincjigbelaaGreatDoor
