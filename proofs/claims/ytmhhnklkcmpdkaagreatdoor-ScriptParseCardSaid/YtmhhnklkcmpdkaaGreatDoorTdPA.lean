/- Contracts. No condition. -/
import Derived.Test.YtmhhnklkcmpdkaaGreatDoorTcPA
open Int renaming natCast_zero -> aA
open Go.IntKind renaming i64 -> ai, u64 -> aS, wrap_u64 -> dU
open List renaming drop_length -> bB, drop_zero -> bj, length_append -> ac, length_cons -> ah, length_drop -> aX, length_take -> av
open Nat renaming add_mul -> bN, add_zero -> bW, mod_eq_of_lt -> dF, mul_comm -> cK, mul_le_mul_right -> bw, zero_add -> cd, zero_le -> bC, zero_mul -> jx
open UInt8 renaming ofInt -> dQ
set_option maxRecDepth 100000
set_option maxHeartbeats 16000000
set_option linter.unusedSimpArgs false
set_option linter.unusedVariables false
namespace Go.Proofs.YtmhhnklkcmpdkaaGreatDoor
open Go.Sy
open UInt8 renaming reduceLT -> Q0, reduceLE -> Q1
open Int renaming reduceToNat -> Q2, reduceLE -> Q3, reduceLT -> Q4, reduceEq -> Q5, reduceNe -> Q6, reduceNeg -> Q7, reduceAdd -> Q8, reduceSub -> Q9, reduceMul -> Qa
open Nat renaming reducePow -> Qb, reduceDiv -> Qc, reduceMod -> Qd, reduceAdd -> Qe, reduceSub -> Qf, reduceMul -> Qg, reduceLT -> Qh, reduceLeDiff -> Qi, reduceEqDiff -> Qj, reduceBEq -> Qk
def nF(v:Nat)(l:d9):Nat:=l.foldl (fun v b=>v*256+b.toNat) v
def nB(l:d9):Nat:=nF 0 l
theorem D5:∀(l:d9)(v k:Nat),v<256^k->nF v l<256^(k+l.length)
 |[],v,k,h=>h
 |b::r,v,k,h=>by
  have z:=b.toNat_lt
  have y:v*256+b.toNat<256^(k+1):=by have:(v+1)*256<=256^k*256:=bw _ h;rw[Nat.pow_succ];omega
  have:=D5 r (v*256+b.toNat) (k+1) y;rw[ah,show k+(r.length+1)=k+1+r.length from by omega];exact this
theorem xO(l:d9):nB l<256^l.length:=by have:=D5 l 0 0 (by decide);rwa[cd]at this
theorem vY(l:d9)(h:l.length<=6):nB l<281474976710656:=by
 have z:=xO l;have y:256^l.length<=256^6:=Nat.pow_le_pow_right (by decide) h;have C:(256:Nat)^6=281474976710656:=by decide
 omega
theorem orW(v:Nat)(hv:v<1099511627776)(b:UInt8):b9 .or .u64 (aS.wrap ((v:Int)*2^min 8 64)) (b.toNat:Int)=((v*256+b.toNat:Nat):Int):=by
 have y:=b.toNat_lt;have p:((2:Int)^min 8 64)=256:=by decide
 have e:aS.wrap ((v:Int)*2^min 8 64)=((v*256:Nat):Int):=by rw[p,dU];omega
 rw[e];unfold b9;simp only[BitVec.ofInt_natCast]
 have h:(BitVec.ofNat 64 (v*256)|||BitVec.ofNat 64 b.toNat).toNat=v*256+b.toNat:=by rw[BitVec.toNat_or,BitVec.toNat_ofNat,BitVec.toNat_ofNat,dF (by omega),dF (by omega)];have:=Nat.two_pow_add_eq_or_of_lt (i:=8) (b:=b.toNat) (by omega) v;rw[show(2:Nat)^8=256 from by decide]at this;rw[cK v 256,<-this]
 show aS.wrap (((BitVec.ofNat 64 (v*256)|||BitVec.ofNat 64 b.toNat).toNat:Nat):Int)=_;rw[h,dU];omega
structure Rs where
 a:Nat
 e:Int
def rdO(B:d9)(t:Nat)(s:Rs):aB:= .rc [.byt B (.id t),.int .i64 s.a,.int .i64 s.e]
def uR(B:d9)(n:Nat)(s:Rs):Int×Rs:=if s.e=0 then(if s.a+n<=B.length then(((nB ((B.drop s.a).take n):Nat):Int),⟨s.a+n,0⟩)else(0,⟨s.a,2⟩))else(0,s)
def bR(B:d9)(m:Nat)(s:Rs):d9×Rs:=
 if s.e=0 then(if s.a+2<=B.length then(if nB ((B.drop s.a).take 2)<=m then(if s.a+2+nB ((B.drop s.a).take 2)<=B.length then((B.drop (s.a+2)).take (nB ((B.drop s.a).take 2)),⟨s.a+(2+nB ((B.drop s.a).take 2)),0⟩)else([],⟨s.a,2⟩))else([],⟨s.a,4⟩))else([],⟨s.a,2⟩))else([],s)
def eR(B:d9)(s:Rs):Int:=if s.e=0 then(if s.a<B.length then 3 else 0)else s.e
structure iR(B:List UInt8)(s:Rs):Prop where
 a:s.a<=B.length
theorem Ta{B:d9}{n:Nat}{s:Rs}(h:iR B s):iR B (uR B n s).2:=by
 unfold uR;split
 ·split
  ·rename_i y;exact⟨y⟩
  ·exact⟨h.a⟩
 ·exact h
theorem vb{B:d9}{n:Nat}{s:Rs}(h:iR B s):iR B (bR B n s).2:=by
 unfold bR;split
 ·split
  ·split
   ·split
    ·rename_i y;exact⟨by show s.a+(2+_)<=_;omega⟩
    ·exact⟨h.a⟩
   ·exact⟨h.a⟩
  ·exact⟨h.a⟩
 ·exact h
theorem xk2(B:d9)(z:B.length<=1000000000):call T 228 [.byt B .no] [] 0=some ⟨.ptr 100 0,[(100,rdO B 60 ⟨0,0⟩)],[60]⟩:=by
 rw[am xhW];unfold rdO;have h:0+B.length<=140737488355328:=by omega
 have y:B.length<=140737488355328:=by omega
 simp only[go_sem,Q0,Q1,Q2,Q3,Q4,Q5,Q6,Q7,Q8,Q9,Qa,Qb,Qc,Qd,Qe,Qf,Qg,Qh,Qi,Qj,Qk,reduceCtorEq,reduceIte,h,y,aA]
theorem Sf(B:d9)(a e x:Int):call T 289 [.ptr 0 0,.int .i64 x] [.rc [.byt B (.id 50),.int .i64 a,.int .i64 e]] 1=some ⟨.tup [],[(0,.rc [.byt B (.id 60),.int .i64 a,.int .i64 x])],[60]⟩:=by rw[am xhG];simp only[go_sem,Q0,Q1,Q2,Q3,Q4,Q5,Q6,Q7,Q8,Q9,Qa,Qb,Qc,Qd,Qe,Qf,Qg,Qh,Qi,Qj,Qk,reduceCtorEq,reduceIte]
theorem Se(B:d9)(e:Int)(H:B.length<=1000000000)(a n p:Nat)(J:a<=B.length)(I:p<=1000000000)(hn:n<=1000000):call T 290 [.ptr 0 0,.int .i64 a,.int .i64 n] [.rc [.byt B (.id 50),.int .i64 p,.int .i64 e]] 1=
 if a+n<=B.length then some ⟨.tup [.byt ((B.drop a).take n) .no,.int .i64 0],[(0,.rc [.byt B (.id 60),.int .i64 p,.int .i64 e])],[60]⟩else some ⟨.tup [.byt [] .no,.int .i64 2],[(0,.rc [.byt B (.id 60),.int .i64 p,.int .i64 e])],[60]⟩:=by
 have C:ai.wrap ((B.length:Int)-(a:Int))=((B.length-a:Nat):Int):=wZ (by omega)
 have z:ai.wrap ((a:Int)+(n:Int))=((a+n:Nat):Int):=wZ (by omega)
 rw[am xhF]
 by_cases h:a+n<=B.length
 ·rw[if_pos h]
  have y:¬B.length-a<n:=by omega
  have E:a<=a+n:=by omega
  have F:(B.take (a+n)).drop a=(B.drop a).take n:=by rw[List.drop_take];congr 1;omega
  simp only[go_sem,Q0,Q1,Q2,Q3,Q4,Q5,Q6,Q7,Q8,Q9,Qa,Qb,Qc,Qd,Qe,Qf,Qg,Qh,Qi,Qj,Qk,reduceCtorEq,reduceIte,C,z,h,y,E,F]
 ·rw[if_neg h]
  have y:B.length-a<n:=by omega
  simp only[go_sem,Q0,Q1,Q2,Q3,Q4,Q5,Q6,Q7,Q8,Q9,Qa,Qb,Qc,Qd,Qe,Qf,Qg,Qh,Qi,Qj,Qk,reduceCtorEq,reduceIte,C,z,y]
theorem xmn(t:Nat)(O:aB)(n:Int)(X:d9)(hX:X.length<=6)(I:∃B s,O=rdO B t s):∀(m i v:Nat),X.length-i=m->i<=X.length->v<256^i->
 run T (.loop tu) ⟨[(0,.ptr 0 0),(1,.int .i64 n),(7,.int .u64 v),(38,.byt X .no),(39,.int .i64 X.length),(40,.int .i64 i)],[(0,O)],[t]⟩=
  some (.x 0,⟨[(0,.ptr 0 0),(1,.int .i64 n),(7,.int .u64 ((nF v (X.drop i):Nat):Int))],[(0,O)],[t]⟩):=by
 obtain⟨B,s,rfl⟩:=I;intro m;induction m with
 |zero=>
  intro i v E L z;have:i=X.length:=by omega
  subst this;rw[bB,aj];simp only[rdO,go_sem,Q0,Q1,Q2,Q3,Q4,Q5,Q6,Q7,Q8,Q9,Qa,Qb,Qc,Qd,Qe,Qf,Qg,Qh,Qi,Qj,Qk,reduceCtorEq,reduceIte,nF,List.foldl_nil]
 |succ m H=>
  intro i v E L z;have hi:i<X.length:=by omega
  have y:(i:Int)<(X.length:Int):=by omega
  have F:=cX i (by omega)
  have hv:v<1099511627776:=by
   have:256^i<=256^5:=Nat.pow_le_pow_right (by decide) (by omega);have C:(256:Nat)^5=1099511627776:=by decide
   omega
  have C:=D5 [X.getD i 0] v i z;have h:=H (i+1) (v*256+(X.getD i 0).toNat) (by omega) (by omega) C;have J:=orW v hv (X.getD i 0);have hd:nF v (X.drop i)=nF (v*256+(X.getD i 0).toNat) (X.drop (i+1)):=by rw[eE X i hi];rfl
  rw[hd];generalize Q:X.getD i 0=c at*;rw[aj];simp only[rdO]at h ⊢;simp only[go_sem,Q0,Q1,Q2,Q3,Q4,Q5,Q6,Q7,Q8,Q9,Qa,Qb,Qc,Qd,Qe,Qf,Qg,Qh,Qi,Qj,Qk,reduceCtorEq,reduceIte,hi,y,F,Q,J,h]
theorem xeC(B:d9)(H:B.length<=1000000000)(n:Nat)(W:1<=n)(Q:n<=6)(s:Rs)(I:iR B s):call T 229 [.ptr 0 0,.int .i64 n] [rdO B 50 s] 1=some ⟨.int .i64 (uR B n s).1,[(0,rdO B 60 (uR B n s).2)],[60]⟩:=by
 have J:=I.a;have g1:=Se B 0 H s.a n s.a J (by omega) (by omega);have E:=Sf B s.a 0 2;have hX:((B.drop s.a).take n).length<=6:=by rw[av];omega
 have z:=xmn 31060 (rdO B 31060 s) n ((B.drop s.a).take n) hX ⟨B,s,rfl⟩ _ 0 0 rfl (bC _) (by decide);have C:=vY _ hX;have n1:¬(n:Int)<1:=by omega
 have n8:¬(8:Int)<n:=by omega
 have F:ai.wrap ((s.a:Int)+(n:Int))=((s.a+n:Nat):Int):=wZ (by omega)
 rw[am xhV];unfold uR
 by_cases y:s.e=0
 ·rw[if_pos y]
  obtain⟨a,e⟩:=s;simp only at y g1 E z F C;subst y
  by_cases h:a+n<=B.length
  ·rw[if_pos h]at g1
   rw[if_pos h];rw[aA,bj]at z;change run T _ _=some (Ex.x 0,⟨[(0,SV.ptr 0 0),(1,SV.int .i64 n),(7,SV.int .u64 ((nB ((B.drop a).take n):Nat):Int))],_,_⟩)at z;have O:¬(9223372036854775807:Int)<((nB ((B.drop a).take n):Nat):Int):=by omega
   have L:ai.wrap ((nB ((B.drop a).take n):Nat):Int)=((nB ((B.drop a).take n):Nat):Int):=w64 (by omega) (by omega);generalize nB ((B.drop a).take n)=V at*;generalize (B.drop a).take n=X at*;simp only[rdO]at z ⊢;simp only[go_sem,Q0,Q1,Q2,Q3,Q4,Q5,Q6,Q7,Q8,Q9,Qa,Qb,Qc,Qd,Qe,Qf,Qg,Qh,Qi,Qj,Qk,reduceCtorEq,reduceIte,n1,n8,g1,nj,z,O,L,F]
  ·rw[if_neg h]at g1
   rw[if_neg h];simp only[rdO];simp only[go_sem,Q0,Q1,Q2,Q3,Q4,Q5,Q6,Q7,Q8,Q9,Qa,Qb,Qc,Qd,Qe,Qf,Qg,Qh,Qi,Qj,Qk,reduceCtorEq,reduceIte,n1,n8,g1,nj,E,rL]
 ·rw[if_neg y]
  obtain⟨a,e⟩:=s;simp only at y;simp only[rdO];simp only[go_sem,Q0,Q1,Q2,Q3,Q4,Q5,Q6,Q7,Q8,Q9,Qa,Qb,Qc,Qd,Qe,Qf,Qg,Qh,Qi,Qj,Qk,reduceCtorEq,reduceIte,y]
theorem xm4(B:d9)(s:Rs):call T 230 [.ptr 0 0] [rdO B 50 s] 1=some ⟨.int .i64 s.e,[(0,rdO B 60 s)],[60]⟩:=by rw[am xhU];simp only[rdO];simp only[go_sem,Q0,Q1,Q2,Q3,Q4,Q5,Q6,Q7,Q8,Q9,Qa,Qb,Qc,Qd,Qe,Qf,Qg,Qh,Qi,Qj,Qk,reduceCtorEq,reduceIte]
theorem xm0(B:d9)(z:B.length<=1000000000)(s:Rs)(y:iR B s):call T 291 [.ptr 0 0] [rdO B 50 s] 1=some ⟨.int .i64 ((B.length-s.a:Nat):Int),[(0,rdO B 60 s)],[60]⟩:=by
 have C:=y.a;have h:ai.wrap ((B.length:Int)-(s.a:Int))=((B.length-s.a:Nat):Int):=wZ (by omega)
 rw[am xhE];simp only[rdO];simp only[go_sem,Q0,Q1,Q2,Q3,Q4,Q5,Q6,Q7,Q8,Q9,Qa,Qb,Qc,Qd,Qe,Qf,Qg,Qh,Qi,Qj,Qk,reduceCtorEq,reduceIte,h]
theorem xk0(B:d9)(C:B.length<=1000000000)(s:Rs)(E:iR B s):call T 233 [.ptr 0 0] [rdO B 50 s] 1=some ⟨.int .i64 (eR B s),[(0,rdO B 60 s)],[60]⟩:=by
 have g:=xm0 B C s E;rw[am xhS];unfold eR;obtain⟨a,e⟩:=s;simp only[rdO]at g ⊢
 by_cases z:e=0
 ·subst z
  by_cases h:a<B.length
  ·have y:(0:Int)<((B.length-a:Nat):Int):=by omega
   simp only[go_sem,Q0,Q1,Q2,Q3,Q4,Q5,Q6,Q7,Q8,Q9,Qa,Qb,Qc,Qd,Qe,Qf,Qg,Qh,Qi,Qj,Qk,reduceCtorEq,reduceIte,g,Zv,h,y]
  ·have y:¬(0:Int)<((B.length-a:Nat):Int):=by omega
   simp only[go_sem,Q0,Q1,Q2,Q3,Q4,Q5,Q6,Q7,Q8,Q9,Qa,Qb,Qc,Qd,Qe,Qf,Qg,Qh,Qi,Qj,Qk,reduceCtorEq,reduceIte,g,Zv,h,y]
 ·simp only[go_sem,Q0,Q1,Q2,Q3,Q4,Q5,Q6,Q7,Q8,Q9,Qa,Qb,Qc,Qd,Qe,Qf,Qg,Qh,Qi,Qj,Qk,reduceCtorEq,reduceIte,z]
theorem YV(B:d9)(a:Nat)(h:a+2<=B.length):∃x y,(B.drop a).take 2=[x,y]:=by
 have:((B.drop a).take 2).length=2:=by rw[av,aX];omega
 match (B.drop a).take 2,this with
 |[x,y],_=>exact⟨x,y,rfl⟩
theorem xer(x y:UInt8):b9 .or .i64 (ai.wrap ((x.toNat:Int)*2^min 8 64)) (y.toNat:Int)=((nB [x,y]:Nat):Int):=by
 have C:=x.toNat_lt;have E:=y.toNat_lt;have p:((2:Int)^min 8 64)=256:=by decide
 have e:ai.wrap ((x.toNat:Int)*2^min 8 64)=((x.toNat*256:Nat):Int):=by rw[p,w64 (by omega) (by omega)];omega
 rw[e];unfold b9;simp only[BitVec.ofInt_natCast]
 have h:(BitVec.ofNat 64 (x.toNat*256)|||BitVec.ofNat 64 y.toNat).toNat=x.toNat*256+y.toNat:=by rw[BitVec.toNat_or,BitVec.toNat_ofNat,BitVec.toNat_ofNat,dF (by omega),dF (by omega)];have:=Nat.two_pow_add_eq_or_of_lt (i:=8) (b:=y.toNat) (by omega) x.toNat;rw[show(2:Nat)^8=256 from by decide]at this;rw[cK x.toNat 256,<-this]
 show ai.wrap (((BitVec.ofNat 64 (x.toNat*256)|||BitVec.ofNat 64 y.toNat).toNat:Nat):Int)=_;have z:nB [x,y]=x.toNat*256+y.toNat:=by simp[nB,nF]
 rw[h,z,w64 (by omega) (by omega)]
theorem xk1(B:d9)(O:B.length<=1000000000)(m:Nat)(hm:m<=65535)(s:Rs)(hs:iR B s):call T 232 [.ptr 0 0,.int .i64 m] [rdO B 50 s] 1=some ⟨.byt (bR B m s).1 .no,[(0,rdO B 60 (bR B m s).2)],[60]⟩:=by
 have W:=hs.a;have g1:=Se B 0 O s.a 2 s.a W (by omega) (by omega);have I:=Sf B s.a 0 2;have g4:=Sf B s.a 0 4;rw[show((2:Nat):Int)=2 from rfl]at g1;rw[am Zh];unfold bR
 by_cases E:s.e=0
 ·rw[if_pos E]
  obtain⟨a,e⟩:=s;simp only at E g1 I g4 W;subst E
  by_cases h:a+2<=B.length
  ·rw[if_pos h]at g1
   rw[if_pos h];obtain⟨x,y,H⟩:=YV B a h;simp only[H]at g1 ⊢;have J:=xer x y
   have hn:nB [x,y]<65536:=by
    have:=xO [x,y];have p:(256:Nat)^ [x,y].length=65536:=by show(256:Nat)^2=65536;decide
    omega
   have Q:ai.wrap ((a:Int)+2)=((a+2:Nat):Int):=wZ (by omega)
   have e2:ai.wrap (2+((nB [x,y]:Nat):Int))=((2+nB [x,y]:Nat):Int):=wZ (by omega)
   have e3:ai.wrap ((a:Int)+((2+nB [x,y]:Nat):Int))=((a+(2+nB [x,y]):Nat):Int):=wZ (by omega)
   have g3:=Se B 0 O (a+2) (nB [x,y]) a h (by omega) (by omega);generalize nB [x,y]=n at*
   by_cases Z:n<=m
   ·have C:¬(m:Int)<(n:Int):=by omega
    have z:¬m<n:=by omega
    rw[if_pos Z];have hX:0+((B.drop (a+2)).take n).length<=140737488355328:=by rw[av];omega
    have L:((B.drop (a+2)).take n).length<=140737488355328:=by rw[av];omega
    by_cases F:a+2+n<=B.length
    ·rw[if_pos F]at g3
     rw[if_pos F];generalize (B.drop (a+2)).take n=X at*;simp only[rdO];simp only[go_sem,Q0,Q1,Q2,Q3,Q4,Q5,Q6,Q7,Q8,Q9,Qa,Qb,Qc,Qd,Qe,Qf,Qg,Qh,Qi,Qj,Qk,reduceCtorEq,reduceIte,g1,nj,J,C,z,g3,Q,e2,e3,hX,L]
    ·rw[if_neg F]at g3
     rw[if_neg F];simp only[rdO];simp only[go_sem,Q0,Q1,Q2,Q3,Q4,Q5,Q6,Q7,Q8,Q9,Qa,Qb,Qc,Qd,Qe,Qf,Qg,Qh,Qi,Qj,Qk,reduceCtorEq,reduceIte,g1,nj,J,C,z,g3,Q,I,rL]
   ·have C:(m:Int)<(n:Int):=by omega
    have z:m<n:=by omega
    rw[if_neg Z];simp only[rdO];simp only[go_sem,Q0,Q1,Q2,Q3,Q4,Q5,Q6,Q7,Q8,Q9,Qa,Qb,Qc,Qd,Qe,Qf,Qg,Qh,Qi,Qj,Qk,reduceCtorEq,reduceIte,g1,nj,J,C,z,g4,rL]
  ·rw[if_neg h]at g1
   rw[if_neg h];simp only[rdO];simp only[go_sem,Q0,Q1,Q2,Q3,Q4,Q5,Q6,Q7,Q8,Q9,Qa,Qb,Qc,Qd,Qe,Qf,Qg,Qh,Qi,Qj,Qk,reduceCtorEq,reduceIte,g1,nj,I,rL]
 ·rw[if_neg E]
  obtain⟨a,e⟩:=s;simp only at E;simp only[rdO];simp only[go_sem,Q0,Q1,Q2,Q3,Q4,Q5,Q6,Q7,Q8,Q9,Qa,Qb,Qc,Qd,Qe,Qf,Qg,Qh,Qi,Qj,Qk,reduceCtorEq,reduceIte,E]
def rqO(B:d9)(s:Rs):aB:= .rc [.byt B .no,.int .i64 s.a,.int .i64 s.e]
theorem xk8(B:d9):call T 161 [.byt B .no] [] 0=some ⟨.ptr 100 0,[(100,rqO B ⟨0,0⟩)],[]⟩:=by rw[am xif];unfold rqO;simp only[go_sem,Q0,Q1,Q2,Q3,Q4,Q5,Q6,Q7,Q8,Q9,Qa,Qb,Qc,Qd,Qe,Qf,Qg,Qh,Qi,Qj,Qk,reduceCtorEq,reduceIte,aA]
theorem xeB(B:d9)(H:B.length<=1000000000)(s:Rs)(E:iR B s)(n:Nat)(hn:n<=1000000):call T 234 [.ptr 0 0,.int .i64 n] [rqO B s] 0=
 if s.e=0 then(if s.a+n<=B.length then some ⟨.bool true,[(0,rqO B s)],[]⟩else some ⟨.bool false,[(0,rqO B ⟨s.a,2⟩)],[]⟩)else some ⟨.bool false,[(0,rqO B s)],[]⟩:=by
 have F:=E.a;have z:ai.wrap ((B.length:Int)-(s.a:Int))=((B.length-s.a:Nat):Int):=wZ (by omega)
 obtain⟨a,e⟩:=s;simp only[rqO]at z F ⊢;rw[am xhR]
 by_cases y:e=0
 ·subst y
  rw[if_pos rfl]
  by_cases h:a+n<=B.length
  ·have C:¬B.length-a<n:=by omega
   rw[if_pos h];simp only[go_sem,Q0,Q1,Q2,Q3,Q4,Q5,Q6,Q7,Q8,Q9,Qa,Qb,Qc,Qd,Qe,Qf,Qg,Qh,Qi,Qj,Qk,reduceCtorEq,reduceIte,z,C]
  ·have C:B.length-a<n:=by omega
   rw[if_neg h];simp only[go_sem,Q0,Q1,Q2,Q3,Q4,Q5,Q6,Q7,Q8,Q9,Qa,Qb,Qc,Qd,Qe,Qf,Qg,Qh,Qi,Qj,Qk,reduceCtorEq,reduceIte,z,C]
 ·rw[if_neg y]
  simp only[go_sem,Q0,Q1,Q2,Q3,Q4,Q5,Q6,Q7,Q8,Q9,Qa,Qb,Qc,Qd,Qe,Qf,Qg,Qh,Qi,Qj,Qk,reduceCtorEq,reduceIte,y]
theorem xm2(B:d9)(z:B.length<=1000000000)(s:Rs)(y:iR B s):call T 235 [.ptr 0 0] [rqO B s] 0=some ⟨.int .i64 ((B.length-s.a:Nat):Int),[(0,rqO B s)],[]⟩:=by
 have C:=y.a;have h:ai.wrap ((B.length:Int)-(s.a:Int))=((B.length-s.a:Nat):Int):=wZ (by omega)
 rw[am xhQ];simp only[rqO];simp only[go_sem,Q0,Q1,Q2,Q3,Q4,Q5,Q6,Q7,Q8,Q9,Qa,Qb,Qc,Qd,Qe,Qf,Qg,Qh,Qi,Qj,Qk,reduceCtorEq,reduceIte,h]
theorem f165(B:d9)(C:B.length<=1000000000)(s:Rs)(E:iR B s):call T 165 [.ptr 0 0] [rqO B s] 0=some ⟨.int .i64 (eR B s),[(0,rqO B s)],[]⟩:=by
 have g:=xm2 B C s E;rw[am xib];unfold eR;obtain⟨a,e⟩:=s;simp only[rqO]at g ⊢
 by_cases z:e=0
 ·subst z
  by_cases h:a<B.length
  ·have y:(0:Int)<((B.length-a:Nat):Int):=by omega
   simp only[go_sem,Q0,Q1,Q2,Q3,Q4,Q5,Q6,Q7,Q8,Q9,Qa,Qb,Qc,Qd,Qe,Qf,Qg,Qh,Qi,Qj,Qk,reduceCtorEq,reduceIte,g,ZC,h,y]
  ·have y:¬(0:Int)<((B.length-a:Nat):Int):=by omega
   simp only[go_sem,Q0,Q1,Q2,Q3,Q4,Q5,Q6,Q7,Q8,Q9,Qa,Qb,Qc,Qd,Qe,Qf,Qg,Qh,Qi,Qj,Qk,reduceCtorEq,reduceIte,g,ZC,h,y]
 ·simp only[go_sem,Q0,Q1,Q2,Q3,Q4,Q5,Q6,Q7,Q8,Q9,Qa,Qb,Qc,Qd,Qe,Qf,Qg,Qh,Qi,Qj,Qk,reduceCtorEq,reduceIte,z]
theorem xmw(B:d9)(W:B.length<=1000000000)(a n:Nat)(Z:n<=6)(hl:a+n<=B.length):∀(m i v:Nat),n-i=m->i<=n->v<256^i->
 run T (.loop tA) ⟨[(0,.ptr 0 0),(1,.int .i64 n),(5,.int .u64 v),(6,.int .i64 i)],[(0,rqO B ⟨a,0⟩)],[]⟩=
  some (.x 0,⟨[(0,.ptr 0 0),(1,.int .i64 n),(5,.int .u64 ((nF v ((B.drop (a+i)).take (n-i)):Nat):Int))],[(0,rqO B ⟨a,0⟩)],[]⟩):=by
 intro m;induction m with
 |zero=>
  intro i v F O C;have:i=n:=by omega
  subst this;rw[Nat.sub_self,List.take_zero,aj];simp only[rqO,go_sem,Q0,Q1,Q2,Q3,Q4,Q5,Q6,Q7,Q8,Q9,Qa,Qb,Qc,Qd,Qe,Qf,Qg,Qh,Qi,Qj,Qk,reduceCtorEq,reduceIte,nF,List.foldl_nil]
 |succ m I=>
  intro i v F O C;have hi:i<n:=by omega
  have z:(i:Int)<(n:Int):=by omega
  have H:=cX i (by omega);have J:ai.wrap ((a:Int)+(i:Int))=((a+i:Nat):Int):=wZ (by omega)
  have h:a+i<B.length:=by omega
  have hv:v<1099511627776:=by
   have:256^i<=256^5:=Nat.pow_le_pow_right (by decide) (by omega);have E:(256:Nat)^5=1099511627776:=by decide
   omega
  have E:=D5 [B.getD (a+i) 0] v i C;have y:=I (i+1) (v*256+(B.getD (a+i) 0).toNat) (by omega) (by omega) E;have L:=orW v hv (B.getD (a+i) 0)
  have hd:nF v ((B.drop (a+i)).take (n-i))=nF (v*256+(B.getD (a+i) 0).toNat) ((B.drop (a+(i+1))).take (n-(i+1))):=by rw[eE B (a+i) h,show n-i=n-(i+1)+1 from by omega,List.take_succ_cons];rfl
  rw[hd];generalize Q:B.getD (a+i) 0=c at*;rw[aj];simp only[rqO]at y ⊢;simp only[go_sem,Q0,Q1,Q2,Q3,Q4,Q5,Q6,Q7,Q8,Q9,Qa,Qb,Qc,Qd,Qe,Qf,Qg,Qh,Qi,Qj,Qk,reduceCtorEq,reduceIte,hi,z,h,H,J,Q,L,y]
theorem xeF(B:d9)(E:B.length<=1000000000)(n:Nat)(Q:1<=n)(I:n<=6)(s:Rs)(F:iR B s):call T 162 [.ptr 0 0,.int .i64 n] [rqO B s] 0=some ⟨.int .i64 (uR B n s).1,[(0,rqO B (uR B n s).2)],[]⟩:=by
 have O:=F.a;have g1:=xeB B E s F n (by omega);have hX:((B.drop s.a).take n).length<=6:=by rw[av];omega
 have C:=vY _ hX;have n1:¬(n:Int)<1:=by omega
 have n8:¬(8:Int)<n:=by omega
 have H:ai.wrap ((s.a:Int)+(n:Int))=((s.a+n:Nat):Int):=wZ (by omega)
 rw[am xie];unfold uR
 by_cases y:s.e=0
 ·rw[if_pos y]at g1 ⊢
  obtain⟨a,e⟩:=s;simp only at y g1 H C;subst y
  by_cases h:a+n<=B.length
  ·rw[if_pos h]at g1
   rw[if_pos h];have z:=xmw B E a n I h _ 0 0 rfl (bC _) (by decide);rw[aA,bW,Nat.sub_zero]at z;change run T _ _=some (Ex.x 0,⟨[(0,SV.ptr 0 0),(1,SV.int .i64 n),(5,SV.int .u64 ((nB ((B.drop a).take n):Nat):Int))],_,_⟩)at z;have L:¬(9223372036854775808:Int)<=((nB ((B.drop a).take n):Nat):Int):=by omega
   have J:ai.wrap ((nB ((B.drop a).take n):Nat):Int)=((nB ((B.drop a).take n):Nat):Int):=w64 (by omega) (by omega);generalize nB ((B.drop a).take n)=V at*;simp only[rqO]at z g1 ⊢;simp only[go_sem,Q0,Q1,Q2,Q3,Q4,Q5,Q6,Q7,Q8,Q9,Qa,Qb,Qc,Qd,Qe,Qf,Qg,Qh,Qi,Qj,Qk,reduceCtorEq,reduceIte,n1,n8,g1,vf,z,L,J,H]
  ·rw[if_neg h]at g1
   rw[if_neg h];simp only[rqO]at g1 ⊢;simp only[go_sem,Q0,Q1,Q2,Q3,Q4,Q5,Q6,Q7,Q8,Q9,Qa,Qb,Qc,Qd,Qe,Qf,Qg,Qh,Qi,Qj,Qk,reduceCtorEq,reduceIte,n1,n8,g1,vf]
 ·rw[if_neg y]
  obtain⟨a,e⟩:=s;simp only at y;simp only[rqO];simp only[go_sem,Q0,Q1,Q2,Q3,Q4,Q5,Q6,Q7,Q8,Q9,Qa,Qb,Qc,Qd,Qe,Qf,Qg,Qh,Qi,Qj,Qk,reduceCtorEq,reduceIte,y]
theorem xeE(B:d9)(hB:B.length<=1000000000)(m:Nat)(hm:m<=65535)(s:Rs)(hs:iR B s):call T 164 [.ptr 0 0,.int .i64 m] [rqO B s] 0=some ⟨.byt (bR B m s).1 .no,[(0,rqO B (bR B m s).2)],[]⟩:=by
 have ha:=hs.a;have g1:=xeB B hB s hs 2 (by omega);rw[show((2:Nat):Int)=2 from rfl]at g1;rw[am xic];unfold bR
 by_cases F:s.e=0
 ·rw[if_pos F]at g1 ⊢
  obtain⟨a,e⟩:=s;simp only at F g1 ha;subst F
  by_cases h:a+2<=B.length
  ·rw[if_pos h]at g1
   rw[if_pos h]
   have O:(B.drop a).take 2=[B.getD a 0,B.getD (a+1) 0]:=by rw[eE B a (by omega),eE B (a+1) (by omega)];rfl
   simp only[O];have Q:=xer (B.getD a 0) (B.getD (a+1) 0)
   have hn:nB [B.getD a 0,B.getD (a+1) 0]<65536:=by
    have:=xO [B.getD a 0,B.getD (a+1) 0];have p:(256:Nat)^ [B.getD a 0,B.getD (a+1) 0].length=65536:=by show(256:Nat)^2=65536;decide
    omega
   have Z:=cX a (by omega);have a0:a<B.length:=by omega
   have J:a+1<B.length:=by omega
   generalize W:B.getD a 0=x at*;generalize H:B.getD (a+1) 0=y at*;have e2:ai.wrap (2+((nB [x,y]:Nat):Int))=((2+nB [x,y]:Nat):Int):=wZ (by omega)
   have e3:ai.wrap ((a:Int)+((2+nB [x,y]:Nat):Int))=((a+(2+nB [x,y]):Nat):Int):=wZ (by omega)
   have e4:ai.wrap (((a+(2+nB [x,y]):Nat):Int)-((nB [x,y]:Nat):Int))=((a+2:Nat):Int):=wZ (by omega)
   have g3:=xeB B hB ⟨a,0⟩ ⟨by show a<=_;omega⟩ (2+nB [x,y]) (by omega);rw[if_pos rfl]at g3;simp only at g3;have h3:∀n,(B.take (a+(2+n))).drop (a+2)=(B.drop (a+2)).take n:=fun n=>by rw[List.drop_take];congr 1;omega
   have I:=h3 (nB [x,y]);generalize nB [x,y]=n at*;have hX:0+((B.drop (a+2)).take n).length<=140737488355328:=by rw[av];omega
   have L:((B.drop (a+2)).take n).length<=140737488355328:=by rw[av];omega
   have h4:a+2<=a+(2+n):=by omega
   by_cases hq:n<=m
   ·have C:¬(m:Int)<(n:Int):=by omega
    have z:¬m<n:=by omega
    rw[if_pos hq]
    by_cases hr:a+2+n<=B.length
    ·have E:a+(2+n)<=B.length:=by omega
     rw[if_pos E]at g3;rw[if_pos hr];simp only[rqO]at g1 g3 ⊢;simp only[go_sem,Q0,Q1,Q2,Q3,Q4,Q5,Q6,Q7,Q8,Q9,Qa,Qb,Qc,Qd,Qe,Qf,Qg,Qh,Qi,Qj,Qk,reduceCtorEq,reduceIte,g1,vf,W,H,Q,a0,J,Z,C,z,g3,e2,e3,e4,h4,E,I,hX,L]
    ·have E:¬a+(2+n)<=B.length:=by omega
     rw[if_neg E]at g3;rw[if_neg hr];simp only[rqO]at g1 g3 ⊢;simp only[go_sem,Q0,Q1,Q2,Q3,Q4,Q5,Q6,Q7,Q8,Q9,Qa,Qb,Qc,Qd,Qe,Qf,Qg,Qh,Qi,Qj,Qk,reduceCtorEq,reduceIte,g1,vf,W,H,Q,a0,J,Z,C,z,g3,e2]
   ·have C:(m:Int)<(n:Int):=by omega
    have z:m<n:=by omega
    rw[if_neg hq];simp only[rqO]at g1 ⊢;simp only[go_sem,Q0,Q1,Q2,Q3,Q4,Q5,Q6,Q7,Q8,Q9,Qa,Qb,Qc,Qd,Qe,Qf,Qg,Qh,Qi,Qj,Qk,reduceCtorEq,reduceIte,g1,vf,W,H,Q,a0,J,Z,C,z]
  ·rw[if_neg h]at g1
   rw[if_neg h];simp only[rqO]at g1 ⊢;simp only[go_sem,Q0,Q1,Q2,Q3,Q4,Q5,Q6,Q7,Q8,Q9,Qa,Qb,Qc,Qd,Qe,Qf,Qg,Qh,Qi,Qj,Qk,reduceCtorEq,reduceIte,g1,vf]
 ·rw[if_neg F]
  obtain⟨a,e⟩:=s;simp only at F;simp only[rqO];simp only[go_sem,Q0,Q1,Q2,Q3,Q4,Q5,Q6,Q7,Q8,Q9,Qa,Qb,Qc,Qd,Qe,Qf,Qg,Qh,Qi,Qj,Qk,reduceCtorEq,reduceIte,F]
def bu(k:Nat)(v:Int):d9:=be k (aS.wrap v)
theorem Gu(v s:Nat):(kq (v:Int) s).toNat=v/2^s % 256:=by
 unfold kq
 have e:Int.fdiv (v:Int) (2^s)=((v/2^s:Nat):Int):=by
  have p:((2:Int)^s)=((2^s:Nat):Int):=by rw[Int.natCast_pow];rfl
  rw[p,Int.fdiv_eq_ediv_of_nonneg _ (Int.natCast_nonneg _)];rfl
 rw[e];show(dQ ((v/2^s:Nat):Int)).toNat=_;generalize v/2^s=q;simp[dQ];omega
theorem YJ:∀(k a v:Nat),nF a (be k (v:Int))=a*256^k+v % 256^k
 |0,a,v=>by simp[be,nF,Nat.mod_one]
 |k+1,a,v=>by
  have h:(kq (v:Int) (8*k)).toNat=v/256^k % 256:=by rw[Gu,Nat.pow_mul]
  show nF (a*256+(kq (v:Int) (8*k)).toNat) (be k (v:Int))=_;rw[YJ k,h,Nat.mod_pow_succ,Nat.pow_succ,bN,Nat.mul_assoc a,cK 256,cK (v/256^k % 256)];omega
theorem D6(k:Nat)(v:Int)(y:0<=v)(z:v<((256^k:Nat):Int))(h:v<18446744073709551616):((nB (bu k v):Nat):Int)=v:=by
 unfold bu nB;have e:aS.wrap v=((v.toNat:Nat):Int):=by rw[dU];omega
 rw[e,YJ,jx,cd,dF (by omega)];omega
theorem uy{B P X S:d9}(h:B=P++(X++S)):(B.drop P.length).take X.length=X/\P.length+X.length<=B.length:=by
 subst h;constructor
 ·rw[List.drop_left',List.take_left']
  ·rfl
  ·rfl
 ·rw[ac,ac];omega
theorem Og{B P X S:d9}(n:Nat)(h:B=P++(X++S))(hn:X.length=n):uR B n ⟨P.length,0⟩=(((nB X:Nat):Int),⟨(P++X).length,0⟩):=by subst hn;obtain⟨z,y⟩:=uy h;unfold uR;rw[if_pos rfl];simp only;rw[if_pos y,z,ac]
theorem pp1:((256^1:Nat):Int)=256:=by decide
theorem pp4:((256^4:Nat):Int)=4294967296:=by decide
end Go.Proofs.YtmhhnklkcmpdkaaGreatDoor
