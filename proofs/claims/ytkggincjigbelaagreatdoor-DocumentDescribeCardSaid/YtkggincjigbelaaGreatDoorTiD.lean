/- What the functions come to. No condition. -/
import Derived.Test.YtkggincjigbelaaGreatDoorTbD
import Derived.Test.YtkggincjigbelaaGreatDoorTfD
open Int renaming natCast_zero -> aB
open Go.IntKind renaming i64 -> af, u64 -> aI, wrap_u64 -> bQ
open List renaming append_assoc -> av, append_nil -> aZ, cons_append -> aS, drop_length -> bP, drop_take -> Dv, drop_zero -> bj, foldl_nil -> Du, length_append -> ac, length_cons -> ai, length_drop -> aQ, length_take -> ax, nil_append -> aF
open Nat renaming add_mul -> bz, add_zero -> fN, mod_eq_of_lt -> cx, mul_comm -> cy, mul_le_mul_right -> bt, sub_self -> kr, zero_add -> cg, zero_le -> bJ, zero_mul -> oG
open UInt8 renaming ofInt -> co
set_option maxRecDepth 100000
set_option maxHeartbeats 16000000
set_option linter.unusedSimpArgs false
set_option linter.unusedVariables false
namespace Go.Proofs.YtkggincjigbelaaGreatDoor
open Go.Sy
open UInt8 renaming reduceLT -> Q0, reduceLE -> Q1
open Int renaming reduceToNat -> Q2, reduceLE -> Q3, reduceLT -> Q4, reduceEq -> Q5, reduceNe -> Q6, reduceNeg -> Q7, reduceAdd -> Q8, reduceSub -> Q9, reduceMul -> Qa
open Nat renaming reducePow -> Qb, reduceDiv -> Qc, reduceMod -> Qd, reduceAdd -> Qe, reduceSub -> Qf, reduceMul -> Qg, reduceLT -> Qh, reduceLeDiff -> Qi, reduceEqDiff -> Qj, reduceBEq -> Qk
def nF(v:Nat)(l:List UInt8):Nat:=l.foldl (fun v b=>v*256+b.toNat) v
def nB(l:List UInt8):Nat:=nF 0 l
theorem De:∀(l:List UInt8)(v k:Nat),v<256^k->nF v l<256^(k+l.length)
 |[],v,k,h=>h
 |b::r,v,k,h=>by
  have hb:=b.toNat_lt
  have h2:v*256+b.toNat<256^(k+1):=by have:(v+1)*256<=256^k*256:=bt _ h;rw[Nat.pow_succ];omega
  have:=De r (v*256+b.toNat) (k+1) h2;rw[ai,show k+(r.length+1)=k+1+r.length from by omega];exact this
theorem Ns(l:List UInt8):nB l<256^l.length:=by have:=De l 0 0 (by decide);rwa[cg]at this
theorem tW(l:List UInt8)(h:l.length<=6):nB l<281474976710656:=by
 have h1:=Ns l;have h2:256^l.length<=256^6:=Nat.pow_le_pow_right (by decide) h;have h3:(256:Nat)^6=281474976710656:=by decide
 omega
theorem orW(v:Nat)(hv:v<1099511627776)(b:UInt8):bS .or .u64 (aI.wrap ((v:Int)*2^min 8 64)) (b.toNat:Int)=((v*256+b.toNat:Nat):Int):=by
 have hb:=b.toNat_lt;have p:((2:Int)^min 8 64)=256:=by decide
 have e:aI.wrap ((v:Int)*2^min 8 64)=((v*256:Nat):Int):=by rw[p,bQ];omega
 rw[e];unfold bS;simp only[BitVec.ofInt_natCast]
 have e1:(BitVec.ofNat 64 (v*256)|||BitVec.ofNat 64 b.toNat).toNat=v*256+b.toNat:=by rw[BitVec.toNat_or,BitVec.toNat_ofNat,BitVec.toNat_ofNat,cx (by omega),cx (by omega)];have:=Nat.two_pow_add_eq_or_of_lt (i:=8) (b:=b.toNat) (by omega) v;rw[show(2:Nat)^8=256 from by decide]at this;rw[cy v 256,<-this]
 show aI.wrap (((BitVec.ofNat 64 (v*256)|||BitVec.ofNat 64 b.toNat).toNat:Nat):Int)=_;rw[e1,bQ];omega
structure Rs where
 a:Nat
 e:Int
def rdO(B:List UInt8)(t:Nat)(s:Rs):aE:= .rc [.byt B (.id t),.int .i64 s.a,.int .i64 s.e]
def uR(B:List UInt8)(n:Nat)(s:Rs):Int×Rs:=if s.e=0 then(if s.a+n<=B.length then(((nB ((B.drop s.a).take n):Nat):Int),⟨s.a+n,0⟩)else(0,⟨s.a,2⟩))else(0,s)
def wR(B:List UInt8)(n:Nat)(s:Rs):List UInt8×Rs:=if s.e=0 then(if s.a+n<=B.length then((B.drop s.a).take n,⟨s.a+n,0⟩)else([],⟨s.a,2⟩))else([],s)
def bR(B:List UInt8)(m:Nat)(s:Rs):List UInt8×Rs:=
 if s.e=0 then(if s.a+2<=B.length then(if nB ((B.drop s.a).take 2)<=m then(if s.a+2+nB ((B.drop s.a).take 2)<=B.length then((B.drop (s.a+2)).take (nB ((B.drop s.a).take 2)),⟨s.a+(2+nB ((B.drop s.a).take 2)),0⟩)else([],⟨s.a,2⟩))else([],⟨s.a,4⟩))else([],⟨s.a,2⟩))else([],s)
def eR(B:List UInt8)(s:Rs):Int:=if s.e=0 then(if s.a<B.length then 3 else 0)else s.e
structure dT(B:List UInt8)(s:Rs):Prop where
 a:s.a<=B.length
theorem fo{B:List UInt8}{n:Nat}{s:Rs}(h:dT B s):dT B (uR B n s).2:=by
 unfold uR;split
 ·split
  ·rename_i h2;exact⟨h2⟩
  ·exact⟨h.a⟩
 ·exact h
theorem MY{B:List UInt8}{n:Nat}{s:Rs}(h:dT B s):dT B (wR B n s).2:=by
 unfold wR;split
 ·split
  ·rename_i h2;exact⟨h2⟩
  ·exact⟨h.a⟩
 ·exact h
theorem wk{B:List UInt8}{n:Nat}{s:Rs}(h:dT B s):dT B (bR B n s).2:=by
 unfold bR;split
 ·split
  ·split
   ·split
    ·rename_i h2;exact⟨by show s.a+(2+_)<=_;omega⟩
    ·exact⟨h.a⟩
   ·exact⟨h.a⟩
  ·exact⟨h.a⟩
 ·exact h
theorem f41(B:List UInt8)(hB:B.length<=1000000000):call T 41 [.byt B .no] [] 0=some ⟨.ptr 100 0,[(100,rdO B 60 ⟨0,0⟩)],[60]⟩:=by
 rw[aj xmG];unfold rdO;have h:0+B.length<=140737488355328:=by omega
 have h':B.length<=140737488355328:=by omega
 simp only[go_sem,Q0,Q1,Q2,Q3,Q4,Q5,Q6,Q7,Q8,Q9,Qa,Qb,Qc,Qd,Qe,Qf,Qg,Qh,Qi,Qj,Qk,reduceCtorEq,reduceIte,h,h',aB]
theorem f74(B:List UInt8)(a e x:Int):call T 74 [.ptr 0 0,.int .i64 x] [.rc [.byt B (.id 50),.int .i64 a,.int .i64 e]] 1=some ⟨.tup [],[(0,.rc [.byt B (.id 60),.int .i64 a,.int .i64 x])],[60]⟩:=by rw[aj xmn];simp only[go_sem,Q0,Q1,Q2,Q3,Q4,Q5,Q6,Q7,Q8,Q9,Qa,Qb,Qc,Qd,Qe,Qf,Qg,Qh,Qi,Qj,Qk,reduceCtorEq,reduceIte]
theorem f75(B:List UInt8)(e:Int)(hB:B.length<=1000000000)(a n p:Nat)(ha:a<=B.length)(hp:p<=1000000000)(hn:n<=1000000):call T 75 [.ptr 0 0,.int .i64 a,.int .i64 n] [.rc [.byt B (.id 50),.int .i64 p,.int .i64 e]] 1=
 if a+n<=B.length then some ⟨.tup [.byt ((B.drop a).take n) .no,.int .i64 0],[(0,.rc [.byt B (.id 60),.int .i64 p,.int .i64 e])],[60]⟩else some ⟨.tup [.byt [] .no,.int .i64 2],[(0,.rc [.byt B (.id 60),.int .i64 p,.int .i64 e])],[60]⟩:=by
 have e1:af.wrap ((B.length:Int)-(a:Int))=((B.length-a:Nat):Int):=wZ (by omega)
 have e2:af.wrap ((a:Int)+(n:Int))=((a+n:Nat):Int):=wZ (by omega)
 rw[aj xmm]
 by_cases h:a+n<=B.length
 ·rw[if_pos h]
  have h1:¬B.length-a<n:=by omega
  have h2:a<=a+n:=by omega
  have h3:(B.take (a+n)).drop a=(B.drop a).take n:=by rw[Dv];congr 1;omega
  simp only[go_sem,Q0,Q1,Q2,Q3,Q4,Q5,Q6,Q7,Q8,Q9,Qa,Qb,Qc,Qd,Qe,Qf,Qg,Qh,Qi,Qj,Qk,reduceCtorEq,reduceIte,e1,e2,h,h1,h2,h3]
 ·rw[if_neg h]
  have h1:B.length-a<n:=by omega
  simp only[go_sem,Q0,Q1,Q2,Q3,Q4,Q5,Q6,Q7,Q8,Q9,Qa,Qb,Qc,Qd,Qe,Qf,Qg,Qh,Qi,Qj,Qk,reduceCtorEq,reduceIte,e1,e2,h1]
theorem l42(t:Nat)(O:aE)(n:Int)(X:List UInt8)(hX:X.length<=6)(hO:∃B s,O=rdO B t s):∀(m i v:Nat),X.length-i=m->i<=X.length->v<256^i->
 run T (.loop xb) ⟨[(0,.ptr 0 0),(1,.int .i64 n),(7,.int .u64 v),(38,.byt X .no),(39,.int .i64 X.length),(40,.int .i64 i)],[(0,O)],[t]⟩=
  some (.x 0,⟨[(0,.ptr 0 0),(1,.int .i64 n),(7,.int .u64 ((nF v (X.drop i):Nat):Int))],[(0,O)],[t]⟩):=by
 obtain⟨B,s,rfl⟩:=hO;intro m;induction m with
 |zero=>
  intro i v h0 h1 h2;have:i=X.length:=by omega
  subst this;rw[bP,ah];simp only[rdO,go_sem,Q0,Q1,Q2,Q3,Q4,Q5,Q6,Q7,Q8,Q9,Qa,Qb,Qc,Qd,Qe,Qf,Qg,Qh,Qi,Qj,Qk,reduceCtorEq,reduceIte,nF,Du]
 |succ m ih=>
  intro i v h0 h1 h2;have hi:i<X.length:=by omega
  have hiI:(i:Int)<(X.length:Int):=by omega
  have e1:=cR i (by omega)
  have hv:v<1099511627776:=by
   have:256^i<=256^5:=Nat.pow_le_pow_right (by decide) (by omega);have h3:(256:Nat)^5=1099511627776:=by decide
   omega
  have h3:=De [X.getD i 0] v i h2;have ih':=ih (i+1) (v*256+(X.getD i 0).toNat) (by omega) (by omega) h3;have ho:=orW v hv (X.getD i 0);have hd:nF v (X.drop i)=nF (v*256+(X.getD i 0).toNat) (X.drop (i+1)):=by rw[de X i hi];rfl
  rw[hd];generalize hc:X.getD i 0=c at*;rw[ah];simp only[rdO]at ih' ⊢;simp only[go_sem,Q0,Q1,Q2,Q3,Q4,Q5,Q6,Q7,Q8,Q9,Qa,Qb,Qc,Qd,Qe,Qf,Qg,Qh,Qi,Qj,Qk,reduceCtorEq,reduceIte,hi,hiI,e1,hc,ho,ih']
theorem f42(B:List UInt8)(hB:B.length<=1000000000)(n:Nat)(h1:1<=n)(h6:n<=6)(s:Rs)(hs:dT B s):call T 42 [.ptr 0 0,.int .i64 n] [rdO B 50 s] 1=some ⟨.int .i64 (uR B n s).1,[(0,rdO B 60 (uR B n s).2)],[60]⟩:=by
 have ha:=hs.a;have g1:=f75 B 0 hB s.a n s.a ha (by omega) (by omega);have g2:=f74 B s.a 0 2;have hX:((B.drop s.a).take n).length<=6:=by rw[ax];omega
 have hl:=l42 31060 (rdO B 31060 s) n ((B.drop s.a).take n) hX ⟨B,s,rfl⟩ _ 0 0 rfl (bJ _) (by decide);have hsm:=tW _ hX;have n1:¬(n:Int)<1:=by omega
 have n8:¬(8:Int)<n:=by omega
 have e2:af.wrap ((s.a:Int)+(n:Int))=((s.a+n:Nat):Int):=wZ (by omega)
 rw[aj xmF];unfold uR
 by_cases h0:s.e=0
 ·rw[if_pos h0]
  obtain⟨a,e⟩:=s;simp only at h0 g1 g2 hl e2 hsm;subst h0
  by_cases h:a+n<=B.length
  ·rw[if_pos h]at g1
   rw[if_pos h];rw[aB,bj]at hl;change run T _ _=some (Ex.x 0,⟨[(0,SV.ptr 0 0),(1,SV.int .i64 n),(7,SV.int .u64 ((nB ((B.drop a).take n):Nat):Int))],_,_⟩)at hl;have m1:¬(9223372036854775807:Int)<((nB ((B.drop a).take n):Nat):Int):=by omega
   have m2:af.wrap ((nB ((B.drop a).take n):Nat):Int)=((nB ((B.drop a).take n):Nat):Int):=w64 (by omega) (by omega);generalize nB ((B.drop a).take n)=V at*;generalize (B.drop a).take n=X at*;simp only[rdO]at hl ⊢;simp only[go_sem,Q0,Q1,Q2,Q3,Q4,Q5,Q6,Q7,Q8,Q9,Qa,Qb,Qc,Qd,Qe,Qf,Qg,Qh,Qi,Qj,Qk,reduceCtorEq,reduceIte,n1,n8,g1,Bp,hl,m1,m2,e2]
  ·rw[if_neg h]at g1
   rw[if_neg h];simp only[rdO];simp only[go_sem,Q0,Q1,Q2,Q3,Q4,Q5,Q6,Q7,Q8,Q9,Qa,Qb,Qc,Qd,Qe,Qf,Qg,Qh,Qi,Qj,Qk,reduceCtorEq,reduceIte,n1,n8,g1,Bp,g2,Rd]
 ·rw[if_neg h0]
  obtain⟨a,e⟩:=s;simp only at h0;simp only[rdO];simp only[go_sem,Q0,Q1,Q2,Q3,Q4,Q5,Q6,Q7,Q8,Q9,Qa,Qb,Qc,Qd,Qe,Qf,Qg,Qh,Qi,Qj,Qk,reduceCtorEq,reduceIte,h0]
theorem f43(B:List UInt8)(hB:B.length<=1000000000)(n:Nat)(h6:n<=1000000)(s:Rs)(hs:dT B s):call T 43 [.ptr 0 0,.int .i64 n] [rdO B 50 s] 1=some ⟨.byt (wR B n s).1 .no,[(0,rdO B 60 (wR B n s).2)],[60]⟩:=by
 have ha:=hs.a;have g1:=f75 B 0 hB s.a n s.a ha (by omega) (by omega);have g2:=f74 B s.a 0 2;have n1:¬(n:Int)<0:=by omega
 have e2:af.wrap ((s.a:Int)+(n:Int))=((s.a+n:Nat):Int):=wZ (by omega)
 have hX:0+((B.drop s.a).take n).length<=140737488355328:=by rw[ax];omega
 have hX':((B.drop s.a).take n).length<=140737488355328:=by rw[ax];omega
 rw[aj xmE];unfold wR
 by_cases h0:s.e=0
 ·rw[if_pos h0]
  obtain⟨a,e⟩:=s;simp only at h0 g1 g2 e2 hX hX';subst h0
  by_cases h:a+n<=B.length
  ·rw[if_pos h]at g1
   rw[if_pos h];generalize (B.drop a).take n=X at*;simp only[rdO];simp only[go_sem,Q0,Q1,Q2,Q3,Q4,Q5,Q6,Q7,Q8,Q9,Qa,Qb,Qc,Qd,Qe,Qf,Qg,Qh,Qi,Qj,Qk,reduceCtorEq,reduceIte,n1,g1,Bp,e2,hX,hX']
  ·rw[if_neg h]at g1
   rw[if_neg h];simp only[rdO];simp only[go_sem,Q0,Q1,Q2,Q3,Q4,Q5,Q6,Q7,Q8,Q9,Qa,Qb,Qc,Qd,Qe,Qf,Qg,Qh,Qi,Qj,Qk,reduceCtorEq,reduceIte,n1,g1,Bp,g2,Rd]
 ·rw[if_neg h0]
  obtain⟨a,e⟩:=s;simp only at h0;simp only[rdO];simp only[go_sem,Q0,Q1,Q2,Q3,Q4,Q5,Q6,Q7,Q8,Q9,Qa,Qb,Qc,Qd,Qe,Qf,Qg,Qh,Qi,Qj,Qk,reduceCtorEq,reduceIte,h0]
theorem xjl(B:List UInt8)(s:Rs):call T 100 [.ptr 0 0] [rdO B 50 s] 1=some ⟨.int .i64 s.e,[(0,rdO B 60 s)],[60]⟩:=by rw[aj xhk];simp only[rdO];simp only[go_sem,Q0,Q1,Q2,Q3,Q4,Q5,Q6,Q7,Q8,Q9,Qa,Qb,Qc,Qd,Qe,Qf,Qg,Qh,Qi,Qj,Qk,reduceCtorEq,reduceIte]
theorem f76(B:List UInt8)(hB:B.length<=1000000000)(s:Rs)(hs:dT B s):call T 76 [.ptr 0 0] [rdO B 50 s] 1=some ⟨.int .i64 ((B.length-s.a:Nat):Int),[(0,rdO B 60 s)],[60]⟩:=by
 have ha:=hs.a;have e1:af.wrap ((B.length:Int)-(s.a:Int))=((B.length-s.a:Nat):Int):=wZ (by omega)
 rw[aj xml];simp only[rdO];simp only[go_sem,Q0,Q1,Q2,Q3,Q4,Q5,Q6,Q7,Q8,Q9,Qa,Qb,Qc,Qd,Qe,Qf,Qg,Qh,Qi,Qj,Qk,reduceCtorEq,reduceIte,e1]
theorem f44(B:List UInt8)(hB:B.length<=1000000000)(s:Rs)(hs:dT B s):call T 44 [.ptr 0 0] [rdO B 50 s] 1=some ⟨.int .i64 (eR B s),[(0,rdO B 60 s)],[60]⟩:=by
 have g:=f76 B hB s hs;rw[aj xmD];unfold eR;obtain⟨a,e⟩:=s;simp only[rdO]at g ⊢
 by_cases h0:e=0
 ·subst h0
  by_cases h:a<B.length
  ·have h1:(0:Int)<((B.length-a:Nat):Int):=by omega
   simp only[go_sem,Q0,Q1,Q2,Q3,Q4,Q5,Q6,Q7,Q8,Q9,Qa,Qb,Qc,Qd,Qe,Qf,Qg,Qh,Qi,Qj,Qk,reduceCtorEq,reduceIte,g,xjH,h,h1]
  ·have h1:¬(0:Int)<((B.length-a:Nat):Int):=by omega
   simp only[go_sem,Q0,Q1,Q2,Q3,Q4,Q5,Q6,Q7,Q8,Q9,Qa,Qb,Qc,Qd,Qe,Qf,Qg,Qh,Qi,Qj,Qk,reduceCtorEq,reduceIte,g,xjH,h,h1]
 ·simp only[go_sem,Q0,Q1,Q2,Q3,Q4,Q5,Q6,Q7,Q8,Q9,Qa,Qb,Qc,Qd,Qe,Qf,Qg,Qh,Qi,Qj,Qk,reduceCtorEq,reduceIte,h0]
theorem xfO(B:List UInt8)(a:Nat)(h:a+2<=B.length):∃x y,(B.drop a).take 2=[x,y]:=by
 have:((B.drop a).take 2).length=2:=by rw[ax,aQ];omega
 match (B.drop a).take 2,this with
 |[x,y],_=>exact⟨x,y,rfl⟩
theorem xkh(x y:UInt8):bS .or .i64 (af.wrap ((x.toNat:Int)*2^min 8 64)) (y.toNat:Int)=((nB [x,y]:Nat):Int):=by
 have hx:=x.toNat_lt;have hy:=y.toNat_lt;have p:((2:Int)^min 8 64)=256:=by decide
 have e:af.wrap ((x.toNat:Int)*2^min 8 64)=((x.toNat*256:Nat):Int):=by rw[p,w64 (by omega) (by omega)];omega
 rw[e];unfold bS;simp only[BitVec.ofInt_natCast]
 have e1:(BitVec.ofNat 64 (x.toNat*256)|||BitVec.ofNat 64 y.toNat).toNat=x.toNat*256+y.toNat:=by rw[BitVec.toNat_or,BitVec.toNat_ofNat,BitVec.toNat_ofNat,cx (by omega),cx (by omega)];have:=Nat.two_pow_add_eq_or_of_lt (i:=8) (b:=y.toNat) (by omega) x.toNat;rw[show(2:Nat)^8=256 from by decide]at this;rw[cy x.toNat 256,<-this]
 show af.wrap (((BitVec.ofNat 64 (x.toNat*256)|||BitVec.ofNat 64 y.toNat).toNat:Nat):Int)=_;have e2:nB [x,y]=x.toNat*256+y.toNat:=by simp[nB,nF]
 rw[e1,e2,w64 (by omega) (by omega)]
theorem f99(B:List UInt8)(hB:B.length<=1000000000)(m:Nat)(hm:m<=65535)(s:Rs)(hs:dT B s):call T 99 [.ptr 0 0,.int .i64 m] [rdO B 50 s] 1=some ⟨.byt (bR B m s).1 .no,[(0,rdO B 60 (bR B m s).2)],[60]⟩:=by
 have ha:=hs.a;have g1:=f75 B 0 hB s.a 2 s.a ha (by omega) (by omega);have g2:=f74 B s.a 0 2;have g4:=f74 B s.a 0 4;rw[show((2:Nat):Int)=2 from rfl]at g1;rw[aj xl9];unfold bR
 by_cases h0:s.e=0
 ·rw[if_pos h0]
  obtain⟨a,e⟩:=s;simp only at h0 g1 g2 g4 ha;subst h0
  by_cases h:a+2<=B.length
  ·rw[if_pos h]at g1
   rw[if_pos h];obtain⟨x,y,hxy⟩:=xfO B a h;simp only[hxy]at g1 ⊢;have ho:=xkh x y
   have hn:nB [x,y]<65536:=by
    have:=Ns [x,y];have p:(256:Nat)^ [x,y].length=65536:=by show(256:Nat)^2=65536;decide
    omega
   have e1:af.wrap ((a:Int)+2)=((a+2:Nat):Int):=wZ (by omega)
   have e2:af.wrap (2+((nB [x,y]:Nat):Int))=((2+nB [x,y]:Nat):Int):=wZ (by omega)
   have e3:af.wrap ((a:Int)+((2+nB [x,y]:Nat):Int))=((a+(2+nB [x,y]):Nat):Int):=wZ (by omega)
   have g3:=f75 B 0 hB (a+2) (nB [x,y]) a h (by omega) (by omega);generalize nB [x,y]=n at*
   by_cases hq:n<=m
   ·have hq':¬(m:Int)<(n:Int):=by omega
    have hq'':¬m<n:=by omega
    rw[if_pos hq];have hX:0+((B.drop (a+2)).take n).length<=140737488355328:=by rw[ax];omega
    have hX':((B.drop (a+2)).take n).length<=140737488355328:=by rw[ax];omega
    by_cases hr:a+2+n<=B.length
    ·rw[if_pos hr]at g3
     rw[if_pos hr];generalize (B.drop (a+2)).take n=X at*;simp only[rdO];simp only[go_sem,Q0,Q1,Q2,Q3,Q4,Q5,Q6,Q7,Q8,Q9,Qa,Qb,Qc,Qd,Qe,Qf,Qg,Qh,Qi,Qj,Qk,reduceCtorEq,reduceIte,g1,Bp,ho,hq',hq'',g3,e1,e2,e3,hX,hX']
    ·rw[if_neg hr]at g3
     rw[if_neg hr];simp only[rdO];simp only[go_sem,Q0,Q1,Q2,Q3,Q4,Q5,Q6,Q7,Q8,Q9,Qa,Qb,Qc,Qd,Qe,Qf,Qg,Qh,Qi,Qj,Qk,reduceCtorEq,reduceIte,g1,Bp,ho,hq',hq'',g3,e1,g2,Rd]
   ·have hq':(m:Int)<(n:Int):=by omega
    have hq'':m<n:=by omega
    rw[if_neg hq];simp only[rdO];simp only[go_sem,Q0,Q1,Q2,Q3,Q4,Q5,Q6,Q7,Q8,Q9,Qa,Qb,Qc,Qd,Qe,Qf,Qg,Qh,Qi,Qj,Qk,reduceCtorEq,reduceIte,g1,Bp,ho,hq',hq'',g4,Rd]
  ·rw[if_neg h]at g1
   rw[if_neg h];simp only[rdO];simp only[go_sem,Q0,Q1,Q2,Q3,Q4,Q5,Q6,Q7,Q8,Q9,Qa,Qb,Qc,Qd,Qe,Qf,Qg,Qh,Qi,Qj,Qk,reduceCtorEq,reduceIte,g1,Bp,g2,Rd]
 ·rw[if_neg h0]
  obtain⟨a,e⟩:=s;simp only at h0;simp only[rdO];simp only[go_sem,Q0,Q1,Q2,Q3,Q4,Q5,Q6,Q7,Q8,Q9,Qa,Qb,Qc,Qd,Qe,Qf,Qg,Qh,Qi,Qj,Qk,reduceCtorEq,reduceIte,h0]
def rqO(B:List UInt8)(s:Rs):aE:= .rc [.byt B .no,.int .i64 s.a,.int .i64 s.e]
theorem f46(B:List UInt8):call T 46 [.byt B .no] [] 0=some ⟨.ptr 100 0,[(100,rqO B ⟨0,0⟩)],[]⟩:=by rw[aj xmB];unfold rqO;simp only[go_sem,Q0,Q1,Q2,Q3,Q4,Q5,Q6,Q7,Q8,Q9,Qa,Qb,Qc,Qd,Qe,Qf,Qg,Qh,Qi,Qj,Qk,reduceCtorEq,reduceIte,aB]
theorem f77(B:List UInt8)(hB:B.length<=1000000000)(s:Rs)(hs:dT B s)(n:Nat)(hn:n<=1000000):call T 77 [.ptr 0 0,.int .i64 n] [rqO B s] 0=
 if s.e=0 then(if s.a+n<=B.length then some ⟨.bool true,[(0,rqO B s)],[]⟩else some ⟨.bool false,[(0,rqO B ⟨s.a,2⟩)],[]⟩)else some ⟨.bool false,[(0,rqO B s)],[]⟩:=by
 have ha:=hs.a;have e1:af.wrap ((B.length:Int)-(s.a:Int))=((B.length-s.a:Nat):Int):=wZ (by omega)
 obtain⟨a,e⟩:=s;simp only[rqO]at e1 ha ⊢;rw[aj xmk]
 by_cases h0:e=0
 ·subst h0
  rw[if_pos rfl]
  by_cases h:a+n<=B.length
  ·have h1:¬B.length-a<n:=by omega
   rw[if_pos h];simp only[go_sem,Q0,Q1,Q2,Q3,Q4,Q5,Q6,Q7,Q8,Q9,Qa,Qb,Qc,Qd,Qe,Qf,Qg,Qh,Qi,Qj,Qk,reduceCtorEq,reduceIte,e1,h1]
  ·have h1:B.length-a<n:=by omega
   rw[if_neg h];simp only[go_sem,Q0,Q1,Q2,Q3,Q4,Q5,Q6,Q7,Q8,Q9,Qa,Qb,Qc,Qd,Qe,Qf,Qg,Qh,Qi,Qj,Qk,reduceCtorEq,reduceIte,e1,h1]
 ·rw[if_neg h0]
  simp only[go_sem,Q0,Q1,Q2,Q3,Q4,Q5,Q6,Q7,Q8,Q9,Qa,Qb,Qc,Qd,Qe,Qf,Qg,Qh,Qi,Qj,Qk,reduceCtorEq,reduceIte,h0]
theorem f78(B:List UInt8)(hB:B.length<=1000000000)(s:Rs)(hs:dT B s):call T 78 [.ptr 0 0] [rqO B s] 0=some ⟨.int .i64 ((B.length-s.a:Nat):Int),[(0,rqO B s)],[]⟩:=by
 have ha:=hs.a;have e1:af.wrap ((B.length:Int)-(s.a:Int))=((B.length-s.a:Nat):Int):=wZ (by omega)
 rw[aj xmj];simp only[rqO];simp only[go_sem,Q0,Q1,Q2,Q3,Q4,Q5,Q6,Q7,Q8,Q9,Qa,Qb,Qc,Qd,Qe,Qf,Qg,Qh,Qi,Qj,Qk,reduceCtorEq,reduceIte,e1]
theorem f49(B:List UInt8)(hB:B.length<=1000000000)(s:Rs)(hs:dT B s):call T 49 [.ptr 0 0] [rqO B s] 0=some ⟨.int .i64 (eR B s),[(0,rqO B s)],[]⟩:=by
 have g:=f78 B hB s hs;rw[aj xmy];unfold eR;obtain⟨a,e⟩:=s;simp only[rqO]at g ⊢
 by_cases h0:e=0
 ·subst h0
  by_cases h:a<B.length
  ·have h1:(0:Int)<((B.length-a:Nat):Int):=by omega
   simp only[go_sem,Q0,Q1,Q2,Q3,Q4,Q5,Q6,Q7,Q8,Q9,Qa,Qb,Qc,Qd,Qe,Qf,Qg,Qh,Qi,Qj,Qk,reduceCtorEq,reduceIte,g,xjG,h,h1]
  ·have h1:¬(0:Int)<((B.length-a:Nat):Int):=by omega
   simp only[go_sem,Q0,Q1,Q2,Q3,Q4,Q5,Q6,Q7,Q8,Q9,Qa,Qb,Qc,Qd,Qe,Qf,Qg,Qh,Qi,Qj,Qk,reduceCtorEq,reduceIte,g,xjG,h,h1]
 ·simp only[go_sem,Q0,Q1,Q2,Q3,Q4,Q5,Q6,Q7,Q8,Q9,Qa,Qb,Qc,Qd,Qe,Qf,Qg,Qh,Qi,Qj,Qk,reduceCtorEq,reduceIte,h0]
theorem l47(B:List UInt8)(hB:B.length<=1000000000)(a n:Nat)(h6:n<=6)(hl:a+n<=B.length):∀(m i v:Nat),n-i=m->i<=n->v<256^i->
 run T (.loop xa) ⟨[(0,.ptr 0 0),(1,.int .i64 n),(5,.int .u64 v),(6,.int .i64 i)],[(0,rqO B ⟨a,0⟩)],[]⟩=
  some (.x 0,⟨[(0,.ptr 0 0),(1,.int .i64 n),(5,.int .u64 ((nF v ((B.drop (a+i)).take (n-i)):Nat):Int))],[(0,rqO B ⟨a,0⟩)],[]⟩):=by
 intro m;induction m with
 |zero=>
  intro i v h0 h1 h2;have:i=n:=by omega
  subst this;rw[kr,List.take_zero,ah];simp only[rqO,go_sem,Q0,Q1,Q2,Q3,Q4,Q5,Q6,Q7,Q8,Q9,Qa,Qb,Qc,Qd,Qe,Qf,Qg,Qh,Qi,Qj,Qk,reduceCtorEq,reduceIte,nF,Du]
 |succ m ih=>
  intro i v h0 h1 h2;have hi:i<n:=by omega
  have hiI:(i:Int)<(n:Int):=by omega
  have e1:=cR i (by omega);have e2:af.wrap ((a:Int)+(i:Int))=((a+i:Nat):Int):=wZ (by omega)
  have hai:a+i<B.length:=by omega
  have hv:v<1099511627776:=by
   have:256^i<=256^5:=Nat.pow_le_pow_right (by decide) (by omega);have h3:(256:Nat)^5=1099511627776:=by decide
   omega
  have h3:=De [B.getD (a+i) 0] v i h2;have ih':=ih (i+1) (v*256+(B.getD (a+i) 0).toNat) (by omega) (by omega) h3;have ho:=orW v hv (B.getD (a+i) 0)
  have hd:nF v ((B.drop (a+i)).take (n-i))=nF (v*256+(B.getD (a+i) 0).toNat) ((B.drop (a+(i+1))).take (n-(i+1))):=by rw[de B (a+i) hai,show n-i=n-(i+1)+1 from by omega,List.take_succ_cons];rfl
  rw[hd];generalize hc:B.getD (a+i) 0=c at*;rw[ah];simp only[rqO]at ih' ⊢;simp only[go_sem,Q0,Q1,Q2,Q3,Q4,Q5,Q6,Q7,Q8,Q9,Qa,Qb,Qc,Qd,Qe,Qf,Qg,Qh,Qi,Qj,Qk,reduceCtorEq,reduceIte,hi,hiI,hai,e1,e2,hc,ho,ih']
theorem f47(B:List UInt8)(hB:B.length<=1000000000)(n:Nat)(h1:1<=n)(h6:n<=6)(s:Rs)(hs:dT B s):call T 47 [.ptr 0 0,.int .i64 n] [rqO B s] 0=some ⟨.int .i64 (uR B n s).1,[(0,rqO B (uR B n s).2)],[]⟩:=by
 have ha:=hs.a;have g1:=f77 B hB s hs n (by omega);have hX:((B.drop s.a).take n).length<=6:=by rw[ax];omega
 have hsm:=tW _ hX;have n1:¬(n:Int)<1:=by omega
 have n8:¬(8:Int)<n:=by omega
 have e2:af.wrap ((s.a:Int)+(n:Int))=((s.a+n:Nat):Int):=wZ (by omega)
 rw[aj xmA];unfold uR
 by_cases h0:s.e=0
 ·rw[if_pos h0]at g1 ⊢
  obtain⟨a,e⟩:=s;simp only at h0 g1 e2 hsm;subst h0
  by_cases h:a+n<=B.length
  ·rw[if_pos h]at g1
   rw[if_pos h];have hl:=l47 B hB a n h6 h _ 0 0 rfl (bJ _) (by decide);rw[aB,fN,Nat.sub_zero]at hl;change run T _ _=some (Ex.x 0,⟨[(0,SV.ptr 0 0),(1,SV.int .i64 n),(5,SV.int .u64 ((nB ((B.drop a).take n):Nat):Int))],_,_⟩)at hl;have m1:¬(9223372036854775808:Int)<=((nB ((B.drop a).take n):Nat):Int):=by omega
   have m2:af.wrap ((nB ((B.drop a).take n):Nat):Int)=((nB ((B.drop a).take n):Nat):Int):=w64 (by omega) (by omega);generalize nB ((B.drop a).take n)=V at*;simp only[rqO]at hl g1 ⊢;simp only[go_sem,Q0,Q1,Q2,Q3,Q4,Q5,Q6,Q7,Q8,Q9,Qa,Qb,Qc,Qd,Qe,Qf,Qg,Qh,Qi,Qj,Qk,reduceCtorEq,reduceIte,n1,n8,g1,XQ,hl,m1,m2,e2]
  ·rw[if_neg h]at g1
   rw[if_neg h];simp only[rqO]at g1 ⊢;simp only[go_sem,Q0,Q1,Q2,Q3,Q4,Q5,Q6,Q7,Q8,Q9,Qa,Qb,Qc,Qd,Qe,Qf,Qg,Qh,Qi,Qj,Qk,reduceCtorEq,reduceIte,n1,n8,g1,XQ]
 ·rw[if_neg h0]
  obtain⟨a,e⟩:=s;simp only at h0;simp only[rqO];simp only[go_sem,Q0,Q1,Q2,Q3,Q4,Q5,Q6,Q7,Q8,Q9,Qa,Qb,Qc,Qd,Qe,Qf,Qg,Qh,Qi,Qj,Qk,reduceCtorEq,reduceIte,h0]
theorem f48(B:List UInt8)(hB:B.length<=1000000000)(n:Nat)(h6:n<=1000000)(s:Rs)(hs:dT B s):call T 48 [.ptr 0 0,.int .i64 n] [rqO B s] 0=some ⟨.byt (wR B n s).1 .no,[(0,rqO B (wR B n s).2)],[]⟩:=by
 have ha:=hs.a;have g1:=f77 B hB s hs n h6;have n1:¬(n:Int)<0:=by omega
 have e2:af.wrap ((s.a:Int)+(n:Int))=((s.a+n:Nat):Int):=wZ (by omega)
 have e3:af.wrap (((s.a+n:Nat):Int)-(n:Int))=(s.a:Int):=wZ (by omega)
 have hX:0+((B.drop s.a).take n).length<=140737488355328:=by rw[ax];omega
 have hX':((B.drop s.a).take n).length<=140737488355328:=by rw[ax];omega
 have h3:(B.take (s.a+n)).drop s.a=(B.drop s.a).take n:=by rw[Dv];congr 1;omega
 have h4:s.a<=s.a+n:=by omega
 rw[aj xmz];unfold wR
 by_cases h0:s.e=0
 ·rw[if_pos h0]at g1 ⊢
  obtain⟨a,e⟩:=s;simp only at h0 g1 e2 e3 hX hX' h3 h4;subst h0
  by_cases h:a+n<=B.length
  ·rw[if_pos h]at g1
   rw[if_pos h];simp only[rqO]at g1 ⊢;simp only[go_sem,Q0,Q1,Q2,Q3,Q4,Q5,Q6,Q7,Q8,Q9,Qa,Qb,Qc,Qd,Qe,Qf,Qg,Qh,Qi,Qj,Qk,reduceCtorEq,reduceIte,n1,g1,XQ,e2,e3,h4,h,h3,hX,hX']
  ·rw[if_neg h]at g1
   rw[if_neg h];simp only[rqO]at g1 ⊢;simp only[go_sem,Q0,Q1,Q2,Q3,Q4,Q5,Q6,Q7,Q8,Q9,Qa,Qb,Qc,Qd,Qe,Qf,Qg,Qh,Qi,Qj,Qk,reduceCtorEq,reduceIte,n1,g1,XQ]
 ·rw[if_neg h0]
  obtain⟨a,e⟩:=s;simp only at h0;simp only[rqO];simp only[go_sem,Q0,Q1,Q2,Q3,Q4,Q5,Q6,Q7,Q8,Q9,Qa,Qb,Qc,Qd,Qe,Qf,Qg,Qh,Qi,Qj,Qk,reduceCtorEq,reduceIte,h0]
def bu(k:Nat)(v:Int):List UInt8:=be k (aI.wrap v)
theorem FG(v s:Nat):(fW (v:Int) s).toNat=v/2^s % 256:=by
 unfold fW
 have e:Int.fdiv (v:Int) (2^s)=((v/2^s:Nat):Int):=by
  have p:((2:Int)^s)=((2^s:Nat):Int):=by rw[Int.natCast_pow];rfl
  rw[p,Int.fdiv_eq_ediv_of_nonneg _ (Int.natCast_nonneg _)];rfl
 rw[e];show(co ((v/2^s:Nat):Int)).toNat=_;generalize v/2^s=q;simp[co];omega
theorem Xb:∀(k a v:Nat),nF a (be k (v:Int))=a*256^k+v % 256^k
 |0,a,v=>by simp[be,nF,Nat.mod_one]
 |k+1,a,v=>by
  have h1:(fW (v:Int) (8*k)).toNat=v/256^k % 256:=by rw[FG,Nat.pow_mul]
  show nF (a*256+(fW (v:Int) (8*k)).toNat) (be k (v:Int))=_;rw[Xb k,h1,Nat.mod_pow_succ,Nat.pow_succ,bz,Nat.mul_assoc a,cy 256,cy (v/256^k % 256)];omega
theorem iR(k:Nat)(v:Int)(h0:0<=v)(h1:v<((256^k:Nat):Int))(h8:v<18446744073709551616):((nB (bu k v):Nat):Int)=v:=by
 unfold bu nB;have e:aI.wrap v=((v.toNat:Nat):Int):=by rw[bQ];omega
 rw[e,Xb,oG,cg,cx (by omega)];omega
theorem nQ{B P X S:List UInt8}(h:B=P++(X++S)):(B.drop P.length).take X.length=X/\P.length+X.length<=B.length:=by
 subst h;constructor
 ·rw[List.drop_left',List.take_left']
  ·rfl
  ·rfl
 ·rw[ac,ac];omega
theorem iK{B P X S:List UInt8}(n:Nat)(h:B=P++(X++S))(hn:X.length=n):uR B n ⟨P.length,0⟩=(((nB X:Nat):Int),⟨(P++X).length,0⟩):=by subst hn;obtain⟨h1,h2⟩:=nQ h;unfold uR;rw[if_pos rfl];simp only;rw[if_pos h2,h1,ac]
theorem Rn{B P X S:List UInt8}(n:Nat)(h:B=P++(X++S))(hn:X.length=n):wR B n ⟨P.length,0⟩=(X,⟨(P++X).length,0⟩):=by subst hn;obtain⟨h1,h2⟩:=nQ h;unfold wR;rw[if_pos rfl];simp only;rw[if_pos h2,h1,ac]
theorem pp1:((256^1:Nat):Int)=256:=by decide
theorem pp4:((256^4:Nat):Int)=4294967296:=by decide
theorem pp6:((256^6:Nat):Int)=281474976710656:=by decide
structure Wd where
 man:List UInt8
 frm:Int
 deriving DecidableEq
def Wd.sv(w:Wd):List SV:=[.byt w.man .no,.int .i64 w.frm]
def Dw(w:Wd):Prop:=w.man.length=32/\0<=w.frm/\w.frm<=1099511627776
instance (w:Wd):Decidable (Dw w):=by unfold Dw;infer_instance
def kM(w:Wd):List UInt8:=if Dw w then 22::(w.man++be 6 (aI.wrap w.frm))else []
theorem xcQ:be 1 (aI.wrap 22)=[22]:=by decide
theorem f15(w:Wd):call T 15 [.agg w.sv] [] 0=some ⟨.byt (kM w) .no,[],[]⟩:=by
 have g1:=f40 [] 1 22 (by decide) (by decide) (by decide);rw[xcQ]at g1;rw[c1]at g1;simp only[aF]at g1;obtain⟨m,f⟩:=w;unfold kM Dw Wd.sv;rw[aj xmR]
 by_cases h1:m.length=32
 ·have h1I:(m.length:Int)=32:=by omega
  by_cases h2:f<0
  ·have h3:¬(m.length=32/\0<=f/\f<=1099511627776):=by omega
   simp only[go_sem,Q0,Q1,Q2,Q3,Q4,Q5,Q6,Q7,Q8,Q9,Qa,Qb,Qc,Qd,Qe,Qf,Qg,Qh,Qi,Qj,Qk,reduceCtorEq,reduceIte,h1I,h2,h3]
  ·by_cases h4:1099511627776<f
   ·have h3:¬(m.length=32/\0<=f/\f<=1099511627776):=by omega
    simp only[go_sem,Q0,Q1,Q2,Q3,Q4,Q5,Q6,Q7,Q8,Q9,Qa,Qb,Qc,Qd,Qe,Qf,Qg,Qh,Qi,Qj,Qk,reduceCtorEq,reduceIte,h1I,h2,h4,h3]
   ·have h3:m.length=32/\0<=f/\f<=1099511627776:=by omega
    have g2:=f40 (22::m) 6 f (by decide) (by decide) (by rw[ai,h1];decide);rw[c6]at g2;simp only[go_sem,Q0,Q1,Q2,Q3,Q4,Q5,Q6,Q7,Q8,Q9,Qa,Qb,Qc,Qd,Qe,Qf,Qg,Qh,Qi,Qj,Qk,reduceCtorEq,reduceIte,h1I,h1,h2,h4,h3,g1,g2,nV,aS,aF]
    trace_state
 ·have h1I:¬(m.length:Int)=32:=by omega
  have h3:¬(m.length=32/\0<=f/\f<=1099511627776):=by omega
  simp only[go_sem,Q0,Q1,Q2,Q3,Q4,Q5,Q6,Q7,Q8,Q9,Qa,Qb,Qc,Qd,Qe,Qf,Qg,Qh,Qi,Qj,Qk,reduceCtorEq,reduceIte,h1I,h3]
def wT(B:List UInt8):Int×Rs:=uR B 1 ⟨0,0⟩
def wM(B:List UInt8):List UInt8×Rs:=wR B 32 (wT B).2
def wF(B:List UInt8):Int×Rs:=uR B 6 (wM B).2
def wdP(B:List UInt8):Prop:=eR B (wF B).2=0/\(wT B).1=22/\(wF B).1<=1099511627776
instance (B:List UInt8):Decidable (wdP B):=by unfold wdP;infer_instance
def pf(B:List UInt8):Option Wd:=if wdP B then some ⟨(wM B).1,(wF B).1⟩else none
def wdO:Option Wd->SV
 |some w=> .tup [.agg w.sv,.int .i64 0]
 |none=> .tup [.agg [.byt [] .no,.int .i64 0],.int .i64 30]
theorem f16(B:List UInt8)(hB:B.length<=1000000000):call T 16 [.byt B .no] [] 0=some ⟨wdO (pf B),[],[]⟩:=by
 have o0:dT B ⟨0,0⟩:=⟨bJ _⟩;have o1:dT B (wT B).2:=fo o0;have o2:dT B (wM B).2:=MY o1;have o3:dT B (wF B).2:=fo o2;have g0:=f41 B hB;have g1:=f42 B hB 1 (by decide) (by decide) ⟨0,0⟩ o0;have g2:=f43 B hB 32 (by decide) (wT B).2 o1;have g3:=f42 B hB 6 (by decide) (by decide) (wM B).2 o2;have g4:=f44 B hB (wF B).2 o3;change call T 42 _ _ _=some ⟨.int .i64 (wT B).1,[(0,rdO B 60 (wT B).2)],[60]⟩at g1;change call T 43 _ _ _=some ⟨.byt (wM B).1 .no,[(0,rdO B 60 (wM B).2)],[60]⟩at g2;change call T 42 _ _ _=some ⟨.int .i64 (wF B).1,[(0,rdO B 60 (wF B).2)],[60]⟩at g3;rw[c1]at g1;rw[c32]at g2;rw[c6]at g3
 by_cases hp:wdP B
 ·rw[show pf B=some ⟨(wM B).1,(wF B).1⟩from if_pos hp]
  obtain⟨h1,h2,h4⟩:=hp;have h3:¬1099511627776<(wF B).1:=by omega
  generalize wT B=t at*;generalize wM B=m at*;generalize wF B=f at*;obtain⟨t1,t2⟩:=t;obtain⟨m1,m2⟩:=m;obtain⟨f1,f2⟩:=f;simp only[rdO,aB]at g0 g1 g2 g3 g4 h1 h2 h3 ⊢;generalize eR B f2=e at*;rw[aj xjC];simp only[go_sem,Q0,Q1,Q2,Q3,Q4,Q5,Q6,Q7,Q8,Q9,Qa,Qb,Qc,Qd,Qe,Qf,Qg,Qh,Qi,Qj,Qk,reduceCtorEq,reduceIte,g0,g1,g2,g3,g4,wy,mK,ww,Bq,h1,h2,h3,wdO,Wd.sv]
 ·rw[show pf B=none from if_neg hp]
  unfold wdP at hp;generalize wT B=t at*;generalize wM B=m at*;generalize wF B=f at*;obtain⟨t1,t2⟩:=t;obtain⟨m1,m2⟩:=m;obtain⟨f1,f2⟩:=f;simp only[rdO,aB]at g0 g1 g2 g3 g4 hp ⊢;generalize eR B f2=e at*;rw[aj xjC]
  by_cases h1:e=0
  ·by_cases h2:t1=22
   ·have h3:1099511627776<f1:=by omega
    simp only[go_sem,Q0,Q1,Q2,Q3,Q4,Q5,Q6,Q7,Q8,Q9,Qa,Qb,Qc,Qd,Qe,Qf,Qg,Qh,Qi,Qj,Qk,reduceCtorEq,reduceIte,g0,g1,g2,g3,g4,wy,mK,ww,Bq,h1,h2,h3,wdO]
   ·simp only[go_sem,Q0,Q1,Q2,Q3,Q4,Q5,Q6,Q7,Q8,Q9,Qa,Qb,Qc,Qd,Qe,Qf,Qg,Qh,Qi,Qj,Qk,reduceCtorEq,reduceIte,g0,g1,g2,g3,g4,wy,mK,ww,Bq,h1,h2,wdO]
  ·by_cases h2:t1=22
   ·simp only[go_sem,Q0,Q1,Q2,Q3,Q4,Q5,Q6,Q7,Q8,Q9,Qa,Qb,Qc,Qd,Qe,Qf,Qg,Qh,Qi,Qj,Qk,reduceCtorEq,reduceIte,g0,g1,g2,g3,g4,wy,mK,ww,Bq,h1,h2,wdO]
   ·simp only[go_sem,Q0,Q1,Q2,Q3,Q4,Q5,Q6,Q7,Q8,Q9,Qa,Qb,Qc,Qd,Qe,Qf,Qg,Qh,Qi,Qj,Qk,reduceCtorEq,reduceIte,g0,g1,g2,g3,g4,wy,mK,ww,Bq,h1,h2,wdO]
theorem f20(B:List UInt8)(hB:B.length<=1000000000):call T 20 [.byt B .no] [] 0=some ⟨wdO (pf B),[],[]⟩:=by
 have o0:dT B ⟨0,0⟩:=⟨bJ _⟩;have o1:dT B (wT B).2:=fo o0;have o2:dT B (wM B).2:=MY o1;have o3:dT B (wF B).2:=fo o2;have g0:=f46 B;have g1:=f47 B hB 1 (by decide) (by decide) ⟨0,0⟩ o0;have g2:=f48 B hB 32 (by decide) (wT B).2 o1;have g3:=f47 B hB 6 (by decide) (by decide) (wM B).2 o2;have g4:=f49 B hB (wF B).2 o3;change call T 47 _ _ _=some ⟨.int .i64 (wT B).1,[(0,rqO B (wT B).2)],[]⟩at g1;change call T 48 _ _ _=some ⟨.byt (wM B).1 .no,[(0,rqO B (wM B).2)],[]⟩at g2;change call T 47 _ _ _=some ⟨.int .i64 (wF B).1,[(0,rqO B (wF B).2)],[]⟩at g3;rw[c1]at g1;rw[c32]at g2;rw[c6]at g3
 by_cases hp:wdP B
 ·rw[show pf B=some ⟨(wM B).1,(wF B).1⟩from if_pos hp]
  obtain⟨h1,h2,h4⟩:=hp;have h3:¬1099511627776<(wF B).1:=by omega
  generalize wT B=t at*;generalize wM B=m at*;generalize wF B=f at*;obtain⟨t1,t2⟩:=t;obtain⟨m1,m2⟩:=m;obtain⟨f1,f2⟩:=f;simp only[rqO,aB]at g0 g1 g2 g3 g4 h1 h2 h3 ⊢;generalize eR B f2=e at*;rw[aj xjA];simp only[go_sem,Q0,Q1,Q2,Q3,Q4,Q5,Q6,Q7,Q8,Q9,Qa,Qb,Qc,Qd,Qe,Qf,Qg,Qh,Qi,Qj,Qk,reduceCtorEq,reduceIte,g0,g1,g2,g3,g4,Rk,Rj,Ri,Rh,h1,h2,h3,wdO,Wd.sv]
 ·rw[show pf B=none from if_neg hp]
  unfold wdP at hp;generalize wT B=t at*;generalize wM B=m at*;generalize wF B=f at*;obtain⟨t1,t2⟩:=t;obtain⟨m1,m2⟩:=m;obtain⟨f1,f2⟩:=f;simp only[rqO,aB]at g0 g1 g2 g3 g4 hp ⊢;generalize eR B f2=e at*;rw[aj xjA]
  by_cases h1:e=0
  ·by_cases h2:t1=22
   ·have h3:1099511627776<f1:=by omega
    simp only[go_sem,Q0,Q1,Q2,Q3,Q4,Q5,Q6,Q7,Q8,Q9,Qa,Qb,Qc,Qd,Qe,Qf,Qg,Qh,Qi,Qj,Qk,reduceCtorEq,reduceIte,g0,g1,g2,g3,g4,Rk,Rj,Ri,Rh,h1,h2,h3,wdO]
   ·simp only[go_sem,Q0,Q1,Q2,Q3,Q4,Q5,Q6,Q7,Q8,Q9,Qa,Qb,Qc,Qd,Qe,Qf,Qg,Qh,Qi,Qj,Qk,reduceCtorEq,reduceIte,g0,g1,g2,g3,g4,Rk,Rj,Ri,Rh,h1,h2,wdO]
  ·by_cases h2:t1=22
   ·simp only[go_sem,Q0,Q1,Q2,Q3,Q4,Q5,Q6,Q7,Q8,Q9,Qa,Qb,Qc,Qd,Qe,Qf,Qg,Qh,Qi,Qj,Qk,reduceCtorEq,reduceIte,g0,g1,g2,g3,g4,Rk,Rj,Ri,Rh,h1,h2,wdO]
   ·simp only[go_sem,Q0,Q1,Q2,Q3,Q4,Q5,Q6,Q7,Q8,Q9,Qa,Qb,Qc,Qd,Qe,Qf,Qg,Qh,Qi,Qj,Qk,reduceCtorEq,reduceIte,g0,g1,g2,g3,g4,Rk,Rj,Ri,Rh,h1,h2,wdO]
theorem f17(v w:Wd)(h:v.man.length<=140737488355328):call T 17 [.agg v.sv,.agg w.sv] [] 0=some ⟨.bool (decide (v=w)),[],[]⟩:=by
 obtain⟨a,b⟩:=v;obtain⟨c,d⟩:=w;have g:=f18 a c h
 by_cases h1:b=d
 ·have e:decide ((⟨a,b⟩:Wd)=⟨c,d⟩)=decide (a=c):=by subst h1;simp
  rw[e];unfold Wd.sv;rw[aj xjB];simp only[go_sem,Q0,Q1,Q2,Q3,Q4,Q5,Q6,Q7,Q8,Q9,Qa,Qb,Qc,Qd,Qe,Qf,Qg,Qh,Qi,Qj,Qk,reduceCtorEq,reduceIte,g,xm5,h1]
 ·have e:decide ((⟨a,b⟩:Wd)=⟨c,d⟩)=false:=by simp[h1]
  rw[e];unfold Wd.sv;rw[aj xjB];simp only[go_sem,Q0,Q1,Q2,Q3,Q4,Q5,Q6,Q7,Q8,Q9,Qa,Qb,Qc,Qd,Qe,Qf,Qg,Qh,Qi,Qj,Qk,reduceCtorEq,reduceIte,h1]
theorem uB(w:Wd)(h:Dw w):(kM w).length=39:=by rw[kM,if_pos h,ai,ac,dQ,h.1]
theorem Fq(w:Wd)(h:Dw w):pf (kM w)=some w:=by
 have hb:be 6 (aI.wrap w.frm)=bu 6 w.frm:=rfl;have e:kM w=[]++([22]++(w.man++bu 6 w.frm)):=by rw[kM,if_pos h,hb];rfl
 have h1:wT (kM w)=(22,⟨1,0⟩):=by have:=iK (B:=kM w) (P:=[]) (X:=[22]) 1 e rfl;exact this
 have e2:kM w=[22]++(w.man++bu 6 w.frm):=e
 have h2:wM (kM w)=(w.man,⟨33,0⟩):=by have:=Rn (B:=kM w) (P:=[22]) (X:=w.man) 32 e2 h.1;rw[ac,h.1]at this;unfold wM;rw[h1];exact this
 have e3:kM w=([22]++w.man)++(bu 6 w.frm++ []):=by rw[aZ,av];exact e2
 have hn:=iR 6 w.frm h.2.1 (by rw[pp6];have:=h.2.2;omega) (by have:=h.2.2;omega)
 have h3:wF (kM w)=(w.frm,⟨39,0⟩):=by
  have:=iK (B:=kM w) (P:=[22]++w.man) (X:=bu 6 w.frm) 6 e3 (dQ _ _);have l1:([22]++w.man).length=33:=by rw[ac,h.1];rfl
  have l2:([22]++w.man++bu 6 w.frm).length=39:=by rw[ac,l1,bu,dQ]
  rw[l1,l2,hn]at this;unfold wF;rw[h2];exact this
 have h4:wdP (kM w):=by unfold wdP;rw[h3,h1];refine⟨?_,rfl,h.2.2⟩;unfold eR;rw[uB w h];rfl
 unfold pf;rw[if_pos h4,h2,h3]
end Go.Proofs.YtkggincjigbelaaGreatDoor
