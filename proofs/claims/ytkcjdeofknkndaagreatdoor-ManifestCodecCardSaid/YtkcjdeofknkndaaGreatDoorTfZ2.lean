/- What the functions come to. No condition. -/
import Derived.Test.YtkcjdeofknkndaaGreatDoorTdZ2
open Int renaming cast_ofNat_Int -> cj, natCast_zero -> aA
open Go.IntKind renaming i64 -> af, u32 -> ax, u64 -> aZ, wrap_u64 -> cf
open List renaming cons -> jr, cons_append -> aH, length_append -> ac, length_cons -> aC, length_replicate -> bY, nil_append -> aF, replicate -> aq, take -> du
open Nat renaming lt_or_ge -> bS, zero_add -> cM
open UInt8 renaming ofInt -> cO, ofNat -> iC
set_option maxRecDepth 100000
set_option maxHeartbeats 16000000
set_option linter.unusedSimpArgs false
set_option linter.unusedVariables false
namespace Go.Proofs.YtkcjdeofknkndaaGreatDoor
open Go.Sy
open UInt8 renaming reduceLT -> Q0, reduceLE -> Q1
open Int renaming reduceToNat -> Q2, reduceLE -> Q3, reduceLT -> Q4, reduceEq -> Q5, reduceNe -> Q6, reduceNeg -> Q7, reduceAdd -> Q8, reduceSub -> Q9, reduceMul -> Qa
open Nat renaming reducePow -> Qb, reduceDiv -> Qc, reduceMod -> Qd, reduceAdd -> Qe, reduceSub -> Qf, reduceMul -> Qg, reduceLT -> Qh, reduceLeDiff -> Qi, reduceEqDiff -> Qj, reduceBEq -> Qk
theorem ir:∀v,v<100->cs2.getD (2*v) 0=dg (v/10)/\cs2.getD (2*v+1) 0=dg (v % 10):=by decide
theorem Z8:∀v,v<100->(cs2.take (2*v+2)).drop (2*v)=[dg (v/10),dg (v % 10)]:=by decide
theorem xcT:∀v,v<10->(cs1.take (v+1)).drop v=[dg v]:=by decide
theorem lq:cs2.length=200:=rfl
theorem RA:cs1.length=36:=rfl
theorem RB:cs0.length=256:=rfl
theorem xkC{n:Nat}(h1:10<=n)(h2:n<100):dec n=[dg (n/10),dg (n % 10)]:=by rw[ct (by omega),fk (by omega)];rfl
theorem xj6(n:Nat)(h:n<100):call T 171 [.int .i64 n] [] 0=some ⟨.str (dec n),[],[]⟩:=by
 have e1:af.wrap ((n:Int)+1)=((n+1:Nat):Int):=cE n (by omega);have e2:af.wrap ((n:Int)*2)=((2*n:Nat):Int):=wZ (by omega)
 have e3:af.wrap (((2*n:Nat):Int)+2)=((2*n+2:Nat):Int):=wZ (by omega)
 have l1:=RA;have l2:=lq;rw[ao xf1]
 by_cases h1:n<10
 ·have h1':(n:Int)<10:=by omega
  have hs:=xcT n h1;have k1:n<=n+1:=by omega
  have k2:((n+1:Nat):Int)<=36:=by omega
  rw[fk h1];simp only[go_sem,Q0,Q1,Q2,Q3,Q4,Q5,Q6,Q7,Q8,Q9,Qa,Qb,Qc,Qd,Qe,Qf,Qg,Qh,Qi,Qj,Qk,reduceCtorEq,reduceIte,h1',e1,l1,k1,k2,hs]
 ·have h1':¬(n:Int)<10:=by omega
  have hs:=Z8 n h;have k1:2*n<=2*n+2:=by omega
  have k2:((2*n+2:Nat):Int)<=200:=by omega
  rw[xkC (by omega) h];simp only[go_sem,Q0,Q1,Q2,Q3,Q4,Q5,Q6,Q7,Q8,Q9,Qa,Qb,Qc,Qd,Qe,Qf,Qg,Qh,Qi,Qj,Qk,reduceCtorEq,reduceIte,h1',e2,e3,l2,k1,k2,hs]
def bl8(v:Nat):Nat:=(cs0.getD v 0).toNat
theorem ul:∀v,v<256->bl8 v<=8/\(v=0\/(1<=bl8 v/\2^(bl8 v-1)<=v))/\v<2^bl8 v:=by unfold bl8;decide
def pe(u:Nat):Nat:=if u<256 then bl8 u else if u<65536 then 8+bl8 (u/256)else 16+bl8 (u/65536)
theorem xj7(u:Nat)(h:u<16777216):call T 167 [.int .u64 u] [] 0=some ⟨.int .i64 (pe u:Nat),[],[]⟩:=by
 have h1:¬(4294967296:Int)<=(u:Nat):=by omega
 have l0:=RB;have b0:∀v,v<256->bl8 v<=8:=fun v hv=>(ul v hv).1
 have kw:∀a b:Nat,a<=100->b<=8->af.wrap ((a:Int)+(b:Int))=((a+b:Nat):Int):=fun a b ha hb=>by rw[w64 (by omega) (by omega)];omega
 have u8:∀v:Nat,v<256->(cO (v:Int)).toNat=v:=fun v hv=>by show(iC ((v:Int) % 256).toNat).toNat=v;rw[show((v:Int) % 256).toNat=v from by omega];simp;omega
 rw[ao Yo];unfold pe;have d8:Int.fdiv (u:Int) (2^8)=((u/256:Nat):Int):=by rw[Int.fdiv_eq_ediv_of_nonneg _ (by decide)];rfl
 have d16:Int.fdiv (u:Int) (2^16)=((u/65536:Nat):Int):=by rw[Int.fdiv_eq_ediv_of_nonneg _ (by decide)];rfl
 have m8:min 8 64=8:=rfl;have m16:min 16 64=16:=rfl
 by_cases h2:u<256
 ·have a1:¬(65536:Int)<=(u:Nat):=by omega
  have a2:¬(256:Int)<=(u:Nat):=by omega
  have q:=u8 u h2;have hi:(u:Int)<256:=by omega
  have z:=kw 0 (bl8 u) (by omega) (b0 u h2);rw[cM,aA]at z;unfold bl8 at z ⊢;simp only[go_sem,Q0,Q1,Q2,Q3,Q4,Q5,Q6,Q7,Q8,Q9,Qa,Qb,Qc,Qd,Qe,Qf,Qg,Qh,Qi,Qj,Qk,reduceCtorEq,reduceIte,h1,a1,a2,h2,q,l0,hi,z]
 ·by_cases h3:u<65536
  ·have a1:¬(65536:Int)<=(u:Nat):=by omega
   have a2:(256:Int)<=(u:Nat):=by omega
   have h4:u/256<256:=by omega
   have q:=u8 (u/256) h4;have hi:((u/256:Nat):Int)<256:=by omega
   have w8:af.wrap 8=8:=rfl;have z:=kw 8 (bl8 (u/256)) (by omega) (b0 _ h4);simp only[cj]at z;unfold bl8 at z ⊢;simp only[go_sem,Q0,Q1,Q2,Q3,Q4,Q5,Q6,Q7,Q8,Q9,Qa,Qb,Qc,Qd,Qe,Qf,Qg,Qh,Qi,Qj,Qk,reduceCtorEq,reduceIte,h1,a1,a2,h2,h3,q,l0,h4,hi,w8,z,d8,m8]
  ·have a1:(65536:Int)<=(u:Nat):=by omega
   have h4:u/65536<256:=by omega
   have a2:¬(256:Int)<=((u/65536:Nat):Int):=by omega
   have q:=u8 (u/65536) h4;have hi:((u/65536:Nat):Int)<256:=by omega
   have w16:af.wrap 16=16:=rfl;have z:=kw 16 (bl8 (u/65536)) (by omega) (b0 _ h4);simp only[cj]at z;unfold bl8 at z ⊢;simp only[go_sem,Q0,Q1,Q2,Q3,Q4,Q5,Q6,Q7,Q8,Q9,Qa,Qb,Qc,Qd,Qe,Qf,Qg,Qh,Qi,Qj,Qk,reduceCtorEq,reduceIte,h1,a1,a2,h2,h3,q,l0,h4,hi,w16,z,d16,m16]
theorem RN(u:Nat)(h:u<16777216)(h1:1<=u):1<=pe u/\pe u<=24/\2^(pe u-1)<=u/\u<2^pe u:=by
 unfold pe
 by_cases h2:u<256
 ·rw[if_pos h2]
  obtain⟨a,b,c⟩:=ul u h2;omega
 ·rw[if_neg h2]
  by_cases h3:u<65536
  ·rw[if_pos h3]
   obtain⟨a,b,c⟩:=ul (u/256) (by omega);have d:1<=bl8 (u/256)/\2^(bl8 (u/256)-1)<=u/256:=by omega
   obtain⟨d1,d2⟩:=d;generalize bl8 (u/256)=k at*;have e1:2^(8+k-1)=256*2^(k-1):=by rw[show 8+k-1=8+(k-1)from by omega,Nat.pow_add]
   have e2:2^(8+k)=256*2^k:=by rw[Nat.pow_add]
   rw[e1,e2];omega
  ·rw[if_neg h3]
   obtain⟨a,b,c⟩:=ul (u/65536) (by omega);have d:1<=bl8 (u/65536)/\2^(bl8 (u/65536)-1)<=u/65536:=by omega
   obtain⟨d1,d2⟩:=d;generalize bl8 (u/65536)=k at*;have e1:2^(16+k-1)=65536*2^(k-1):=by rw[show 16+k-1=16+(k-1)from by omega,Nat.pow_add]
   have e2:2^(16+k)=65536*2^k:=by rw[Nat.pow_add]
   rw[e1,e2];omega
def nd(u:Nat):Nat:=if u<1000 then 3 else if u<10000 then 4 else if u<100000 then 5 else if u<1000000 then 6 else 7
theorem xj4(k:Nat)(h:k<=24):call T 189 [.int .i64 k] [] 0=some ⟨.int .i64 (k*78913/262144:Nat),[],[]⟩:=by
 have e1:af.wrap ((k:Int)*78913)=((k*78913:Nat):Int):=wZ (by omega)
 have e2:Int.fdiv ((k*78913:Nat):Int) (2^18)=((k*78913/262144:Nat):Int):=by rw[Int.fdiv_eq_ediv_of_nonneg _ (by decide)];rfl
 have m:min 18 64=18:=rfl;rw[ao xfZ];simp only[go_sem,Q0,Q1,Q2,Q3,Q4,Q5,Q6,Q7,Q8,Q9,Qa,Qb,Qc,Qd,Qe,Qf,Qg,Qh,Qi,Qj,Qk,reduceCtorEq,reduceIte,e1,e2,m]
theorem xif(b:Bool):call T 190 [.bool b] [] 0=some ⟨.int .i64 (if b=true then 1 else 0),[],[]⟩:=by rw[ao xfY];cases b<;>simp only[go_sem,Q0,Q1,Q2,Q3,Q4,Q5,Q6,Q7,Q8,Q9,Qa,Qb,Qc,Qd,Qe,Qf,Qg,Qh,Qi,Qj,Qk,reduceCtorEq,reduceIte]
theorem xj5(u:Nat)(h0:100<=u)(h:u<10000000):call T 172 [.int .u64 u] [] 0=some ⟨.int .i64 (nd u:Nat),[],[]⟩:=by
 obtain⟨b1,b2,b3,b4⟩:=RN u (by omega) (by omega);have g1:=xj7 u (by omega);have g2:=xj4 (pe u) b2;have gt:=xif true;have gf:=xif false
 have k7:7<=pe u:=by
  rcases bS (pe u) 7 with h5|h5
  ·have:2^pe u<=2^6:=Nat.pow_le_pow_right (by omega) (by omega)
   omega
  ·exact h5
 have key:∀v,pe u*78913/262144=v->10^v<=u*10->u<10^(v+1)->2<=v->v<=7->call T 172 [.int .u64 u] [] 0=some ⟨.int .i64 (nd u:Nat),[],[]⟩:=by
  intro v hv h1 h2 h3 h4;rw[hv]at g2;have hc:v=2\/v=3\/v=4\/v=5\/v=6\/v=7:=by omega
  rw[ao xf0];generalize pe u=bb at*;unfold nd;rcases hc with rfl|rfl|rfl|rfl|rfl|rfl
  ·have kw0:af.wrap 2=2:=rfl
   have kw1:af.wrap 3=3:=rfl;simp only[cj]at g2
   by_cases h5:(100:Int)<=(u:Nat)
   ·have hn:(if u<1000 then 3 else if u<10000 then 4 else if u<100000 then 5 else if u<1000000 then 6 else 7)=3:=by
     repeat' split
     all_goals omega
    rw[hn];simp only[go_sem,Q0,Q1,Q2,Q3,Q4,Q5,Q6,Q7,Q8,Q9,Qa,Qb,Qc,Qd,Qe,Qf,Qg,Qh,Qi,Qj,Qk,reduceCtorEq,reduceIte,g1,jO,g2,kV,iM,h5,gt,kU,kw0,kw1]
   ·have hn:(if u<1000 then 3 else if u<10000 then 4 else if u<100000 then 5 else if u<1000000 then 6 else 7)=2:=by
     repeat' split
     all_goals omega
    rw[hn];simp only[go_sem,Q0,Q1,Q2,Q3,Q4,Q5,Q6,Q7,Q8,Q9,Qa,Qb,Qc,Qd,Qe,Qf,Qg,Qh,Qi,Qj,Qk,reduceCtorEq,reduceIte,g1,jO,g2,kV,iM,h5,gf,kU,kw0,kw1]
  ·have kw0:af.wrap 3=3:=rfl
   have kw1:af.wrap 4=4:=rfl;simp only[cj]at g2
   by_cases h5:(1000:Int)<=(u:Nat)
   ·have hn:(if u<1000 then 3 else if u<10000 then 4 else if u<100000 then 5 else if u<1000000 then 6 else 7)=4:=by
     repeat' split
     all_goals omega
    rw[hn];simp only[go_sem,Q0,Q1,Q2,Q3,Q4,Q5,Q6,Q7,Q8,Q9,Qa,Qb,Qc,Qd,Qe,Qf,Qg,Qh,Qi,Qj,Qk,reduceCtorEq,reduceIte,g1,jO,g2,kV,iM,h5,gt,kU,kw0,kw1]
   ·have hn:(if u<1000 then 3 else if u<10000 then 4 else if u<100000 then 5 else if u<1000000 then 6 else 7)=3:=by
     repeat' split
     all_goals omega
    rw[hn];simp only[go_sem,Q0,Q1,Q2,Q3,Q4,Q5,Q6,Q7,Q8,Q9,Qa,Qb,Qc,Qd,Qe,Qf,Qg,Qh,Qi,Qj,Qk,reduceCtorEq,reduceIte,g1,jO,g2,kV,iM,h5,gf,kU,kw0,kw1]
  ·have kw0:af.wrap 4=4:=rfl
   have kw1:af.wrap 5=5:=rfl;simp only[cj]at g2
   by_cases h5:(10000:Int)<=(u:Nat)
   ·have hn:(if u<1000 then 3 else if u<10000 then 4 else if u<100000 then 5 else if u<1000000 then 6 else 7)=5:=by
     repeat' split
     all_goals omega
    rw[hn];simp only[go_sem,Q0,Q1,Q2,Q3,Q4,Q5,Q6,Q7,Q8,Q9,Qa,Qb,Qc,Qd,Qe,Qf,Qg,Qh,Qi,Qj,Qk,reduceCtorEq,reduceIte,g1,jO,g2,kV,iM,h5,gt,kU,kw0,kw1]
   ·have hn:(if u<1000 then 3 else if u<10000 then 4 else if u<100000 then 5 else if u<1000000 then 6 else 7)=4:=by
     repeat' split
     all_goals omega
    rw[hn];simp only[go_sem,Q0,Q1,Q2,Q3,Q4,Q5,Q6,Q7,Q8,Q9,Qa,Qb,Qc,Qd,Qe,Qf,Qg,Qh,Qi,Qj,Qk,reduceCtorEq,reduceIte,g1,jO,g2,kV,iM,h5,gf,kU,kw0,kw1]
  ·have kw0:af.wrap 5=5:=rfl
   have kw1:af.wrap 6=6:=rfl;simp only[cj]at g2
   by_cases h5:(100000:Int)<=(u:Nat)
   ·have hn:(if u<1000 then 3 else if u<10000 then 4 else if u<100000 then 5 else if u<1000000 then 6 else 7)=6:=by
     repeat' split
     all_goals omega
    rw[hn];simp only[go_sem,Q0,Q1,Q2,Q3,Q4,Q5,Q6,Q7,Q8,Q9,Qa,Qb,Qc,Qd,Qe,Qf,Qg,Qh,Qi,Qj,Qk,reduceCtorEq,reduceIte,g1,jO,g2,kV,iM,h5,gt,kU,kw0,kw1]
   ·have hn:(if u<1000 then 3 else if u<10000 then 4 else if u<100000 then 5 else if u<1000000 then 6 else 7)=5:=by
     repeat' split
     all_goals omega
    rw[hn];simp only[go_sem,Q0,Q1,Q2,Q3,Q4,Q5,Q6,Q7,Q8,Q9,Qa,Qb,Qc,Qd,Qe,Qf,Qg,Qh,Qi,Qj,Qk,reduceCtorEq,reduceIte,g1,jO,g2,kV,iM,h5,gf,kU,kw0,kw1]
  ·have kw0:af.wrap 6=6:=rfl
   have kw1:af.wrap 7=7:=rfl;simp only[cj]at g2
   by_cases h5:(1000000:Int)<=(u:Nat)
   ·have hn:(if u<1000 then 3 else if u<10000 then 4 else if u<100000 then 5 else if u<1000000 then 6 else 7)=7:=by
     repeat' split
     all_goals omega
    rw[hn];simp only[go_sem,Q0,Q1,Q2,Q3,Q4,Q5,Q6,Q7,Q8,Q9,Qa,Qb,Qc,Qd,Qe,Qf,Qg,Qh,Qi,Qj,Qk,reduceCtorEq,reduceIte,g1,jO,g2,kV,iM,h5,gt,kU,kw0,kw1]
   ·have hn:(if u<1000 then 3 else if u<10000 then 4 else if u<100000 then 5 else if u<1000000 then 6 else 7)=6:=by
     repeat' split
     all_goals omega
    rw[hn];simp only[go_sem,Q0,Q1,Q2,Q3,Q4,Q5,Q6,Q7,Q8,Q9,Qa,Qb,Qc,Qd,Qe,Qf,Qg,Qh,Qi,Qj,Qk,reduceCtorEq,reduceIte,g1,jO,g2,kV,iM,h5,gf,kU,kw0,kw1]
  ·have kw0:af.wrap 7=7:=rfl
   have kw1:af.wrap 8=8:=rfl;simp only[cj]at g2
   by_cases h5:(10000000:Int)<=(u:Nat)
   ·have hn:(if u<1000 then 3 else if u<10000 then 4 else if u<100000 then 5 else if u<1000000 then 6 else 7)=8:=by
     repeat' split
     all_goals omega
    rw[hn];simp only[go_sem,Q0,Q1,Q2,Q3,Q4,Q5,Q6,Q7,Q8,Q9,Qa,Qb,Qc,Qd,Qe,Qf,Qg,Qh,Qi,Qj,Qk,reduceCtorEq,reduceIte,g1,jO,g2,kV,iM,h5,gt,kU,kw0,kw1]
   ·have hn:(if u<1000 then 3 else if u<10000 then 4 else if u<100000 then 5 else if u<1000000 then 6 else 7)=7:=by
     repeat' split
     all_goals omega
    rw[hn];simp only[go_sem,Q0,Q1,Q2,Q3,Q4,Q5,Q6,Q7,Q8,Q9,Qa,Qb,Qc,Qd,Qe,Qf,Qg,Qh,Qi,Qj,Qk,reduceCtorEq,reduceIte,g1,jO,g2,kV,iM,h5,gf,kU,kw0,kw1]
 have hk:∀k,7<=k->k<=24->2^(k-1)<10000000->10^(k*78913/262144)<=2^(k-1)*10/\2^k<=10^(k*78913/262144+1)/\2<=k*78913/262144/\k*78913/262144<=7:=by
  intro k h1 h2 h3;have hd:∀k,k<25->7<=k->10^(k*78913/262144)<=2^(k-1)*10/\2^k<=10^(k*78913/262144+1)/\2<=k*78913/262144/\k*78913/262144<=7:=by decide
  exact hd k (by omega) h1
 obtain⟨c1,c2,c3,c4⟩:=hk (pe u) k7 b2 (by omega);exact key _ rfl (by omega) (by omega) c3 c4
theorem eX(k:Nat)(h:k<4294967296):ax.wrap (k:Int)=(k:Int):=by rw[IntKind.wrap_u32];omega
theorem xcH(u:Nat)(h1:100<=u)(h2:u<1000):call T 173 [.psl 0 1 1 3 (some 23),.int .u64 u] [.bar (aq 24 0)] 0=some ⟨.tup [],[(0,.bar (0::(dec u++aq 20 0)))],[]⟩:=by
 have hl:cs2.length=200:=by exact lq
 have q0:ax.wrap (u:Int)=(u:Int):=by exact eX u (by omega)
 have a1:(u:Int).tmod 100=((u % 100:Nat):Int):=by rfl
 have a2:(u:Int).tdiv 100=((u/100:Nat):Int):=by rfl
 have b2:ax.wrap ((u/100:Nat):Int)=((u/100:Nat):Int):=by exact eX _ (by omega)
 have c3:ax.wrap ((((u % 100):Nat):Int)*2)=((2*(u % 100):Nat):Int):=by rw[show(((u % 100):Nat):Int)*2=((2*(u % 100):Nat):Int)from by omega];exact eX _ (by omega)
 have d3:ax.wrap (((2*(u % 100):Nat):Int)+1)=((2*(u % 100)+1:Nat):Int):=by rw[show((2*(u % 100):Nat):Int)+1=((2*(u % 100)+1:Nat):Int)from by omega];exact eX _ (by omega)
 have e3:cs2.getD (2*(u % 100)) 0=dg ((u % 100)/10)/\cs2.getD (2*(u % 100)+1) 0=dg ((u % 100) % 10):=by exact ir _ (by omega)
 have ff3:((2*(u % 100):Nat):Int)<200/\((2*(u % 100)+1:Nat):Int)<200:=by omega
 have z1:ax.wrap (48+(((u/100):Nat):Int))=((48+(u/100):Nat):Int):=by rw[show 48+(((u/100):Nat):Int)=((48+(u/100):Nat):Int)from by omega];exact eX _ (by omega)
 have z2:cO ((48+(u/100):Nat):Int)=dg (u/100):=by rfl
 have hd:dec u=[dg ((u/100)),dg ((u % 100)/10),dg ((u % 100) % 10)]:=by rw[ct (n:=u) (by omega),ct (n:=u/10) (by omega),fk (n:=u/10/10) (by omega)];simp only[aF,aH,jr.injEq,and_true];exact⟨congrArg dg (by omega),congrArg dg (by omega),congrArg dg (by omega)⟩
 have w0:af.wrap 0=0:=rfl;have w1:af.wrap 1=1:=rfl;have w2:af.wrap 2=2:=rfl;have w3:af.wrap 3=3:=rfl;have w4:af.wrap 4=4:=rfl;have w5:af.wrap 5=5:=rfl;have w6:af.wrap 6=6:=rfl;have w7:af.wrap 7=7:=rfl;have hr:aq 24 (0:UInt8)=[0,0,0,0,0,0,0,0,0,0,0,0,0,0,0,0,0,0,0,0,0,0,0,0]:=rfl;have hr2:aq 20 (0:UInt8)=[0,0,0,0,0,0,0,0,0,0,0,0,0,0,0,0,0,0,0,0]:=rfl;rw[hd,hr,hr2,ao xu];simp only[go_sem,Q0,Q1,Q2,Q3,Q4,Q5,Q6,Q7,Q8,Q9,Qa,Qb,Qc,Qd,Qe,Qf,Qg,Qh,Qi,Qj,Qk,reduceCtorEq,reduceIte];rw[ai];simp only[go_sem,Q0,Q1,Q2,Q3,Q4,Q5,Q6,Q7,Q8,Q9,Qa,Qb,Qc,Qd,Qe,Qf,Qg,Qh,Qi,Qj,Qk,reduceCtorEq,reduceIte,hl,q0,a1,a2,b2,c3,d3,e3.1,e3.2,ff3.1,ff3.2,z1,z2,w0,w1,w2,w3,w4,w5,w6,w7]
theorem xcG(u:Nat)(h1:1000<=u)(h2:u<10000):call T 173 [.psl 0 1 1 4 (some 23),.int .u64 u] [.bar (aq 24 0)] 0=some ⟨.tup [],[(0,.bar (0::(dec u++aq 19 0)))],[]⟩:=by
 have hl:cs2.length=200:=by exact lq
 have q0:ax.wrap (u:Int)=(u:Int):=by exact eX u (by omega)
 have a1:(u:Int).tmod 10000=((u % 10000:Nat):Int):=by rfl
 have a2:(u:Int).tdiv 10000=((u/10000:Nat):Int):=by rfl
 have b2:ax.wrap ((u/10000:Nat):Int)=((u/10000:Nat):Int):=by exact eX _ (by omega)
 have a3:(((u % 10000):Nat):Int).tdiv 100=(((u % 10000)/100:Nat):Int):=by rfl
 have b3:ax.wrap (((u % 10000)/100:Nat):Int)=(((u % 10000)/100:Nat):Int):=by exact eX _ (by omega)
 have a4:(((u % 10000):Nat):Int).tmod 100=(((u % 10000) % 100:Nat):Int):=by rfl
 have c5:ax.wrap (((((u % 10000)/100):Nat):Int)*2)=((2*((u % 10000)/100):Nat):Int):=by rw[show((((u % 10000)/100):Nat):Int)*2=((2*((u % 10000)/100):Nat):Int)from by omega];exact eX _ (by omega)
 have d5:ax.wrap (((2*((u % 10000)/100):Nat):Int)+1)=((2*((u % 10000)/100)+1:Nat):Int):=by rw[show((2*((u % 10000)/100):Nat):Int)+1=((2*((u % 10000)/100)+1:Nat):Int)from by omega];exact eX _ (by omega)
 have e5:cs2.getD (2*((u % 10000)/100)) 0=dg (((u % 10000)/100)/10)/\cs2.getD (2*((u % 10000)/100)+1) 0=dg (((u % 10000)/100) % 10):=by exact ir _ (by omega)
 have f5:((2*((u % 10000)/100):Nat):Int)<200/\((2*((u % 10000)/100)+1:Nat):Int)<200:=by omega
 have c6:ax.wrap (((((u % 10000) % 100):Nat):Int)*2)=((2*((u % 10000) % 100):Nat):Int):=by rw[show((((u % 10000) % 100):Nat):Int)*2=((2*((u % 10000) % 100):Nat):Int)from by omega];exact eX _ (by omega)
 have d6:ax.wrap (((2*((u % 10000) % 100):Nat):Int)+1)=((2*((u % 10000) % 100)+1:Nat):Int):=by rw[show((2*((u % 10000) % 100):Nat):Int)+1=((2*((u % 10000) % 100)+1:Nat):Int)from by omega];exact eX _ (by omega)
 have e6:cs2.getD (2*((u % 10000) % 100)) 0=dg (((u % 10000) % 100)/10)/\cs2.getD (2*((u % 10000) % 100)+1) 0=dg (((u % 10000) % 100) % 10):=by exact ir _ (by omega)
 have f6:((2*((u % 10000) % 100):Nat):Int)<200/\((2*((u % 10000) % 100)+1:Nat):Int)<200:=by omega
 have hd:dec u=[dg (((u % 10000)/100)/10),dg (((u % 10000)/100) % 10),dg (((u % 10000) % 100)/10),dg (((u % 10000) % 100) % 10)]:=by rw[ct (n:=u) (by omega),ct (n:=u/10) (by omega),ct (n:=u/10/10) (by omega),fk (n:=u/10/10/10) (by omega)];simp only[aF,aH,jr.injEq,and_true];exact⟨congrArg dg (by omega),congrArg dg (by omega),congrArg dg (by omega),congrArg dg (by omega)⟩
 have w0:af.wrap 0=0:=rfl;have w1:af.wrap 1=1:=rfl;have w2:af.wrap 2=2:=rfl;have w3:af.wrap 3=3:=rfl;have w4:af.wrap 4=4:=rfl;have w5:af.wrap 5=5:=rfl;have w6:af.wrap 6=6:=rfl;have w7:af.wrap 7=7:=rfl;have hr:aq 24 (0:UInt8)=[0,0,0,0,0,0,0,0,0,0,0,0,0,0,0,0,0,0,0,0,0,0,0,0]:=rfl;have hr2:aq 19 (0:UInt8)=[0,0,0,0,0,0,0,0,0,0,0,0,0,0,0,0,0,0,0]:=rfl;rw[hd,hr,hr2,ao xu];simp only[go_sem,Q0,Q1,Q2,Q3,Q4,Q5,Q6,Q7,Q8,Q9,Qa,Qb,Qc,Qd,Qe,Qf,Qg,Qh,Qi,Qj,Qk,reduceCtorEq,reduceIte];rw[ai];simp only[go_sem,Q0,Q1,Q2,Q3,Q4,Q5,Q6,Q7,Q8,Q9,Qa,Qb,Qc,Qd,Qe,Qf,Qg,Qh,Qi,Qj,Qk,reduceCtorEq,reduceIte,hl,q0,a1,a2,b2,a3,b3,a4,c5,d5,e5.1,e5.2,f5.1,f5.2,c6,d6,e6.1,e6.2,f6.1,f6.2,w0,w1,w2,w3,w4,w5,w6,w7]
theorem xcF(u:Nat)(h1:10000<=u)(h2:u<100000):call T 173 [.psl 0 1 1 5 (some 23),.int .u64 u] [.bar (aq 24 0)] 0=some ⟨.tup [],[(0,.bar (0::(dec u++aq 18 0)))],[]⟩:=by
 have hl:cs2.length=200:=by exact lq
 have q0:ax.wrap (u:Int)=(u:Int):=by exact eX u (by omega)
 have a1:(u:Int).tmod 10000=((u % 10000:Nat):Int):=by rfl
 have a2:(u:Int).tdiv 10000=((u/10000:Nat):Int):=by rfl
 have b2:ax.wrap ((u/10000:Nat):Int)=((u/10000:Nat):Int):=by exact eX _ (by omega)
 have a3:(((u % 10000):Nat):Int).tdiv 100=(((u % 10000)/100:Nat):Int):=by rfl
 have b3:ax.wrap (((u % 10000)/100:Nat):Int)=(((u % 10000)/100:Nat):Int):=by exact eX _ (by omega)
 have a4:(((u % 10000):Nat):Int).tmod 100=(((u % 10000) % 100:Nat):Int):=by rfl
 have c5:ax.wrap (((((u % 10000)/100):Nat):Int)*2)=((2*((u % 10000)/100):Nat):Int):=by rw[show((((u % 10000)/100):Nat):Int)*2=((2*((u % 10000)/100):Nat):Int)from by omega];exact eX _ (by omega)
 have d5:ax.wrap (((2*((u % 10000)/100):Nat):Int)+1)=((2*((u % 10000)/100)+1:Nat):Int):=by rw[show((2*((u % 10000)/100):Nat):Int)+1=((2*((u % 10000)/100)+1:Nat):Int)from by omega];exact eX _ (by omega)
 have e5:cs2.getD (2*((u % 10000)/100)) 0=dg (((u % 10000)/100)/10)/\cs2.getD (2*((u % 10000)/100)+1) 0=dg (((u % 10000)/100) % 10):=by exact ir _ (by omega)
 have f5:((2*((u % 10000)/100):Nat):Int)<200/\((2*((u % 10000)/100)+1:Nat):Int)<200:=by omega
 have c6:ax.wrap (((((u % 10000) % 100):Nat):Int)*2)=((2*((u % 10000) % 100):Nat):Int):=by rw[show((((u % 10000) % 100):Nat):Int)*2=((2*((u % 10000) % 100):Nat):Int)from by omega];exact eX _ (by omega)
 have d6:ax.wrap (((2*((u % 10000) % 100):Nat):Int)+1)=((2*((u % 10000) % 100)+1:Nat):Int):=by rw[show((2*((u % 10000) % 100):Nat):Int)+1=((2*((u % 10000) % 100)+1:Nat):Int)from by omega];exact eX _ (by omega)
 have e6:cs2.getD (2*((u % 10000) % 100)) 0=dg (((u % 10000) % 100)/10)/\cs2.getD (2*((u % 10000) % 100)+1) 0=dg (((u % 10000) % 100) % 10):=by exact ir _ (by omega)
 have f6:((2*((u % 10000) % 100):Nat):Int)<200/\((2*((u % 10000) % 100)+1:Nat):Int)<200:=by omega
 have z1:ax.wrap (48+(((u/10000):Nat):Int))=((48+(u/10000):Nat):Int):=by rw[show 48+(((u/10000):Nat):Int)=((48+(u/10000):Nat):Int)from by omega];exact eX _ (by omega)
 have z2:cO ((48+(u/10000):Nat):Int)=dg (u/10000):=by rfl
 have hd:dec u=[dg ((u/10000)),dg (((u % 10000)/100)/10),dg (((u % 10000)/100) % 10),dg (((u % 10000) % 100)/10),dg (((u % 10000) % 100) % 10)]:=by rw[ct (n:=u) (by omega),ct (n:=u/10) (by omega),ct (n:=u/10/10) (by omega),ct (n:=u/10/10/10) (by omega),fk (n:=u/10/10/10/10) (by omega)];simp only[aF,aH,jr.injEq,and_true];exact⟨congrArg dg (by omega),congrArg dg (by omega),congrArg dg (by omega),congrArg dg (by omega),congrArg dg (by omega)⟩
 have w0:af.wrap 0=0:=rfl;have w1:af.wrap 1=1:=rfl;have w2:af.wrap 2=2:=rfl;have w3:af.wrap 3=3:=rfl;have w4:af.wrap 4=4:=rfl;have w5:af.wrap 5=5:=rfl;have w6:af.wrap 6=6:=rfl;have w7:af.wrap 7=7:=rfl;have hr:aq 24 (0:UInt8)=[0,0,0,0,0,0,0,0,0,0,0,0,0,0,0,0,0,0,0,0,0,0,0,0]:=rfl;have hr2:aq 18 (0:UInt8)=[0,0,0,0,0,0,0,0,0,0,0,0,0,0,0,0,0,0]:=rfl;rw[hd,hr,hr2,ao xu];simp only[go_sem,Q0,Q1,Q2,Q3,Q4,Q5,Q6,Q7,Q8,Q9,Qa,Qb,Qc,Qd,Qe,Qf,Qg,Qh,Qi,Qj,Qk,reduceCtorEq,reduceIte];rw[ai];simp only[go_sem,Q0,Q1,Q2,Q3,Q4,Q5,Q6,Q7,Q8,Q9,Qa,Qb,Qc,Qd,Qe,Qf,Qg,Qh,Qi,Qj,Qk,reduceCtorEq,reduceIte,hl,q0,a1,a2,b2,a3,b3,a4,c5,d5,e5.1,e5.2,f5.1,f5.2,c6,d6,e6.1,e6.2,f6.1,f6.2,z1,z2,w0,w1,w2,w3,w4,w5,w6,w7]
theorem xcE(u:Nat)(h1:100000<=u)(h2:u<1000000):call T 173 [.psl 0 1 1 6 (some 23),.int .u64 u] [.bar (aq 24 0)] 0=some ⟨.tup [],[(0,.bar (0::(dec u++aq 17 0)))],[]⟩:=by
 have hl:cs2.length=200:=by exact lq
 have q0:ax.wrap (u:Int)=(u:Int):=by exact eX u (by omega)
 have a1:(u:Int).tmod 10000=((u % 10000:Nat):Int):=by rfl
 have a2:(u:Int).tdiv 10000=((u/10000:Nat):Int):=by rfl
 have b2:ax.wrap ((u/10000:Nat):Int)=((u/10000:Nat):Int):=by exact eX _ (by omega)
 have a3:(((u % 10000):Nat):Int).tdiv 100=(((u % 10000)/100:Nat):Int):=by rfl
 have b3:ax.wrap (((u % 10000)/100:Nat):Int)=(((u % 10000)/100:Nat):Int):=by exact eX _ (by omega)
 have a4:(((u % 10000):Nat):Int).tmod 100=(((u % 10000) % 100:Nat):Int):=by rfl
 have c5:ax.wrap (((((u % 10000)/100):Nat):Int)*2)=((2*((u % 10000)/100):Nat):Int):=by rw[show((((u % 10000)/100):Nat):Int)*2=((2*((u % 10000)/100):Nat):Int)from by omega];exact eX _ (by omega)
 have d5:ax.wrap (((2*((u % 10000)/100):Nat):Int)+1)=((2*((u % 10000)/100)+1:Nat):Int):=by rw[show((2*((u % 10000)/100):Nat):Int)+1=((2*((u % 10000)/100)+1:Nat):Int)from by omega];exact eX _ (by omega)
 have e5:cs2.getD (2*((u % 10000)/100)) 0=dg (((u % 10000)/100)/10)/\cs2.getD (2*((u % 10000)/100)+1) 0=dg (((u % 10000)/100) % 10):=by exact ir _ (by omega)
 have f5:((2*((u % 10000)/100):Nat):Int)<200/\((2*((u % 10000)/100)+1:Nat):Int)<200:=by omega
 have c6:ax.wrap (((((u % 10000) % 100):Nat):Int)*2)=((2*((u % 10000) % 100):Nat):Int):=by rw[show((((u % 10000) % 100):Nat):Int)*2=((2*((u % 10000) % 100):Nat):Int)from by omega];exact eX _ (by omega)
 have d6:ax.wrap (((2*((u % 10000) % 100):Nat):Int)+1)=((2*((u % 10000) % 100)+1:Nat):Int):=by rw[show((2*((u % 10000) % 100):Nat):Int)+1=((2*((u % 10000) % 100)+1:Nat):Int)from by omega];exact eX _ (by omega)
 have e6:cs2.getD (2*((u % 10000) % 100)) 0=dg (((u % 10000) % 100)/10)/\cs2.getD (2*((u % 10000) % 100)+1) 0=dg (((u % 10000) % 100) % 10):=by exact ir _ (by omega)
 have f6:((2*((u % 10000) % 100):Nat):Int)<200/\((2*((u % 10000) % 100)+1:Nat):Int)<200:=by omega
 have a7:(((u/10000):Nat):Int).tmod 100=(((u/10000) % 100:Nat):Int):=by rfl
 have a8:(((u/10000):Nat):Int).tdiv 100=(((u/10000)/100:Nat):Int):=by rfl
 have b8:ax.wrap (((u/10000)/100:Nat):Int)=(((u/10000)/100:Nat):Int):=by exact eX _ (by omega)
 have c9:ax.wrap (((((u/10000) % 100):Nat):Int)*2)=((2*((u/10000) % 100):Nat):Int):=by rw[show((((u/10000) % 100):Nat):Int)*2=((2*((u/10000) % 100):Nat):Int)from by omega];exact eX _ (by omega)
 have d9:ax.wrap (((2*((u/10000) % 100):Nat):Int)+1)=((2*((u/10000) % 100)+1:Nat):Int):=by rw[show((2*((u/10000) % 100):Nat):Int)+1=((2*((u/10000) % 100)+1:Nat):Int)from by omega];exact eX _ (by omega)
 have e9:cs2.getD (2*((u/10000) % 100)) 0=dg (((u/10000) % 100)/10)/\cs2.getD (2*((u/10000) % 100)+1) 0=dg (((u/10000) % 100) % 10):=by exact ir _ (by omega)
 have f9:((2*((u/10000) % 100):Nat):Int)<200/\((2*((u/10000) % 100)+1:Nat):Int)<200:=by omega
 have hd:dec u=[dg (((u/10000) % 100)/10),dg (((u/10000) % 100) % 10),dg (((u % 10000)/100)/10),dg (((u % 10000)/100) % 10),dg (((u % 10000) % 100)/10),dg (((u % 10000) % 100) % 10)]:=by rw[ct (n:=u) (by omega),ct (n:=u/10) (by omega),ct (n:=u/10/10) (by omega),ct (n:=u/10/10/10) (by omega),ct (n:=u/10/10/10/10) (by omega),fk (n:=u/10/10/10/10/10) (by omega)];simp only[aF,aH,jr.injEq,and_true];exact⟨congrArg dg (by omega),congrArg dg (by omega),congrArg dg (by omega),congrArg dg (by omega),congrArg dg (by omega),congrArg dg (by omega)⟩
 have w0:af.wrap 0=0:=rfl;have w1:af.wrap 1=1:=rfl;have w2:af.wrap 2=2:=rfl;have w3:af.wrap 3=3:=rfl;have w4:af.wrap 4=4:=rfl;have w5:af.wrap 5=5:=rfl;have w6:af.wrap 6=6:=rfl;have w7:af.wrap 7=7:=rfl;have hr:aq 24 (0:UInt8)=[0,0,0,0,0,0,0,0,0,0,0,0,0,0,0,0,0,0,0,0,0,0,0,0]:=rfl;have hr2:aq 17 (0:UInt8)=[0,0,0,0,0,0,0,0,0,0,0,0,0,0,0,0,0]:=rfl;rw[hd,hr,hr2,ao xu];simp only[go_sem,Q0,Q1,Q2,Q3,Q4,Q5,Q6,Q7,Q8,Q9,Qa,Qb,Qc,Qd,Qe,Qf,Qg,Qh,Qi,Qj,Qk,reduceCtorEq,reduceIte];rw[ai];simp only[go_sem,Q0,Q1,Q2,Q3,Q4,Q5,Q6,Q7,Q8,Q9,Qa,Qb,Qc,Qd,Qe,Qf,Qg,Qh,Qi,Qj,Qk,reduceCtorEq,reduceIte,hl,q0,a1,a2,b2,a3,b3,a4,c5,d5,e5.1,e5.2,f5.1,f5.2,c6,d6,e6.1,e6.2,f6.1,f6.2,a7,a8,b8,c9,d9,e9.1,e9.2,f9.1,f9.2,w0,w1,w2,w3,w4,w5,w6,w7]
theorem xcD(u:Nat)(h1:1000000<=u)(h2:u<10000000):call T 173 [.psl 0 1 1 7 (some 23),.int .u64 u] [.bar (aq 24 0)] 0=some ⟨.tup [],[(0,.bar (0::(dec u++aq 16 0)))],[]⟩:=by
 have hl:cs2.length=200:=by exact lq
 have q0:ax.wrap (u:Int)=(u:Int):=by exact eX u (by omega)
 have a1:(u:Int).tmod 10000=((u % 10000:Nat):Int):=by rfl
 have a2:(u:Int).tdiv 10000=((u/10000:Nat):Int):=by rfl
 have b2:ax.wrap ((u/10000:Nat):Int)=((u/10000:Nat):Int):=by exact eX _ (by omega)
 have a3:(((u % 10000):Nat):Int).tdiv 100=(((u % 10000)/100:Nat):Int):=by rfl
 have b3:ax.wrap (((u % 10000)/100:Nat):Int)=(((u % 10000)/100:Nat):Int):=by exact eX _ (by omega)
 have a4:(((u % 10000):Nat):Int).tmod 100=(((u % 10000) % 100:Nat):Int):=by rfl
 have c5:ax.wrap (((((u % 10000)/100):Nat):Int)*2)=((2*((u % 10000)/100):Nat):Int):=by rw[show((((u % 10000)/100):Nat):Int)*2=((2*((u % 10000)/100):Nat):Int)from by omega];exact eX _ (by omega)
 have d5:ax.wrap (((2*((u % 10000)/100):Nat):Int)+1)=((2*((u % 10000)/100)+1:Nat):Int):=by rw[show((2*((u % 10000)/100):Nat):Int)+1=((2*((u % 10000)/100)+1:Nat):Int)from by omega];exact eX _ (by omega)
 have e5:cs2.getD (2*((u % 10000)/100)) 0=dg (((u % 10000)/100)/10)/\cs2.getD (2*((u % 10000)/100)+1) 0=dg (((u % 10000)/100) % 10):=by exact ir _ (by omega)
 have f5:((2*((u % 10000)/100):Nat):Int)<200/\((2*((u % 10000)/100)+1:Nat):Int)<200:=by omega
 have c6:ax.wrap (((((u % 10000) % 100):Nat):Int)*2)=((2*((u % 10000) % 100):Nat):Int):=by rw[show((((u % 10000) % 100):Nat):Int)*2=((2*((u % 10000) % 100):Nat):Int)from by omega];exact eX _ (by omega)
 have d6:ax.wrap (((2*((u % 10000) % 100):Nat):Int)+1)=((2*((u % 10000) % 100)+1:Nat):Int):=by rw[show((2*((u % 10000) % 100):Nat):Int)+1=((2*((u % 10000) % 100)+1:Nat):Int)from by omega];exact eX _ (by omega)
 have e6:cs2.getD (2*((u % 10000) % 100)) 0=dg (((u % 10000) % 100)/10)/\cs2.getD (2*((u % 10000) % 100)+1) 0=dg (((u % 10000) % 100) % 10):=by exact ir _ (by omega)
 have f6:((2*((u % 10000) % 100):Nat):Int)<200/\((2*((u % 10000) % 100)+1:Nat):Int)<200:=by omega
 have a7:(((u/10000):Nat):Int).tmod 100=(((u/10000) % 100:Nat):Int):=by rfl
 have a8:(((u/10000):Nat):Int).tdiv 100=(((u/10000)/100:Nat):Int):=by rfl
 have b8:ax.wrap (((u/10000)/100:Nat):Int)=(((u/10000)/100:Nat):Int):=by exact eX _ (by omega)
 have c9:ax.wrap (((((u/10000) % 100):Nat):Int)*2)=((2*((u/10000) % 100):Nat):Int):=by rw[show((((u/10000) % 100):Nat):Int)*2=((2*((u/10000) % 100):Nat):Int)from by omega];exact eX _ (by omega)
 have d9:ax.wrap (((2*((u/10000) % 100):Nat):Int)+1)=((2*((u/10000) % 100)+1:Nat):Int):=by rw[show((2*((u/10000) % 100):Nat):Int)+1=((2*((u/10000) % 100)+1:Nat):Int)from by omega];exact eX _ (by omega)
 have e9:cs2.getD (2*((u/10000) % 100)) 0=dg (((u/10000) % 100)/10)/\cs2.getD (2*((u/10000) % 100)+1) 0=dg (((u/10000) % 100) % 10):=by exact ir _ (by omega)
 have f9:((2*((u/10000) % 100):Nat):Int)<200/\((2*((u/10000) % 100)+1:Nat):Int)<200:=by omega
 have z1:ax.wrap (48+((((u/10000)/100):Nat):Int))=((48+((u/10000)/100):Nat):Int):=by rw[show 48+((((u/10000)/100):Nat):Int)=((48+((u/10000)/100):Nat):Int)from by omega];exact eX _ (by omega)
 have z2:cO ((48+((u/10000)/100):Nat):Int)=dg ((u/10000)/100):=by rfl
 have hd:dec u=[dg (((u/10000)/100)),dg (((u/10000) % 100)/10),dg (((u/10000) % 100) % 10),dg (((u % 10000)/100)/10),dg (((u % 10000)/100) % 10),dg (((u % 10000) % 100)/10),dg (((u % 10000) % 100) % 10)]:=by rw[ct (n:=u) (by omega),ct (n:=u/10) (by omega),ct (n:=u/10/10) (by omega),ct (n:=u/10/10/10) (by omega),ct (n:=u/10/10/10/10) (by omega),ct (n:=u/10/10/10/10/10) (by omega),fk (n:=u/10/10/10/10/10/10) (by omega)];simp only[aF,aH,jr.injEq,and_true];exact⟨congrArg dg (by omega),congrArg dg (by omega),congrArg dg (by omega),congrArg dg (by omega),congrArg dg (by omega),congrArg dg (by omega),congrArg dg (by omega)⟩
 have w0:af.wrap 0=0:=rfl;have w1:af.wrap 1=1:=rfl;have w2:af.wrap 2=2:=rfl;have w3:af.wrap 3=3:=rfl;have w4:af.wrap 4=4:=rfl;have w5:af.wrap 5=5:=rfl;have w6:af.wrap 6=6:=rfl;have w7:af.wrap 7=7:=rfl;have hr:aq 24 (0:UInt8)=[0,0,0,0,0,0,0,0,0,0,0,0,0,0,0,0,0,0,0,0,0,0,0,0]:=rfl;have hr2:aq 16 (0:UInt8)=[0,0,0,0,0,0,0,0,0,0,0,0,0,0,0,0]:=rfl;rw[hd,hr,hr2,ao xu];simp only[go_sem,Q0,Q1,Q2,Q3,Q4,Q5,Q6,Q7,Q8,Q9,Qa,Qb,Qc,Qd,Qe,Qf,Qg,Qh,Qi,Qj,Qk,reduceCtorEq,reduceIte];rw[ai];simp only[go_sem,Q0,Q1,Q2,Q3,Q4,Q5,Q6,Q7,Q8,Q9,Qa,Qb,Qc,Qd,Qe,Qf,Qg,Qh,Qi,Qj,Qk,reduceCtorEq,reduceIte,hl,q0,a1,a2,b2,a3,b3,a4,c5,d5,e5.1,e5.2,f5.1,f5.2,c6,d6,e6.1,e6.2,f6.1,f6.2,a7,a8,b8,c9,d9,e9.1,e9.2,f9.1,f9.2,z1,z2,w0,w1,w2,w3,w4,w5,w6,w7]
theorem xkc(n:Nat)(h:n<10000000):call T 145 [.int .i64 n,.int .i64 10] [] 0=some ⟨.str (dec n),[],[]⟩:=by
 rw[ao xf9]
 by_cases h1:n<100
 ·have h1':(n:Int)<100:=by omega
  have g:=xj6 n h1;simp only[go_sem,Q0,Q1,Q2,Q3,Q4,Q5,Q6,Q7,Q8,Q9,Qa,Qb,Qc,Qd,Qe,Qf,Qg,Qh,Qi,Qj,Qk,reduceCtorEq,reduceIte,h1',g,xgI]
 ·have h1':¬(n:Int)<100:=by omega
  have g1:=xj5 n (by omega) h;have e1:aZ.wrap (n:Int)=(n:Int):=by rw[cf];omega
  have n0:¬(n:Int)<0:=by omega
  have hk:(nd n=3/\n<1000)\/(nd n=4/\1000<=n/\n<10000)\/(nd n=5/\10000<=n/\n<100000)\/(nd n=6/\100000<=n/\n<1000000)\/(nd n=7/\1000000<=n):=by
   unfold nd
   repeat' split
   all_goals omega
  rcases hk with⟨hk,h3⟩|⟨hk,h3,h4⟩|⟨hk,h3,h4⟩|⟨hk,h3,h4⟩|⟨hk,h3⟩
  ·have g2:=xcH n (by omega) (by omega)
   have hl:(dec n).length=3:=by rw[ct (n:=n) (by omega),ct (n:=n/10) (by omega),fk (n:=n/10/10) (by omega)];rfl
   have ht:du 3 (dec n++aq 20 0)=dec n:=by rw[<-hl];exact List.take_left
   have w1:af.wrap (1+3)=4:=rfl;have w2:af.wrap 4=4:=rfl;have hb:3<=(dec n).length+20:=by omega
   rw[hk]at g1;simp only[cj]at g1;simp only[go_sem,Q0,Q1,Q2,Q3,Q4,Q5,Q6,Q7,Q8,Q9,Qa,Qb,Qc,Qd,Qe,Qf,Qg,Qh,Qi,Qj,Qk,reduceCtorEq,reduceIte,h1',n0,e1,g1,xA,g2,xz,w1,w2,ht,hl,hb,aC,ac,bY]
  ·have g2:=xcG n (by omega) (by omega)
   have hl:(dec n).length=4:=by rw[ct (n:=n) (by omega),ct (n:=n/10) (by omega),ct (n:=n/10/10) (by omega),fk (n:=n/10/10/10) (by omega)];rfl
   have ht:du 4 (dec n++aq 19 0)=dec n:=by rw[<-hl];exact List.take_left
   have w1:af.wrap (1+4)=5:=rfl;have w2:af.wrap 5=5:=rfl;have hb:4<=(dec n).length+19:=by omega
   rw[hk]at g1;simp only[cj]at g1;simp only[go_sem,Q0,Q1,Q2,Q3,Q4,Q5,Q6,Q7,Q8,Q9,Qa,Qb,Qc,Qd,Qe,Qf,Qg,Qh,Qi,Qj,Qk,reduceCtorEq,reduceIte,h1',n0,e1,g1,xA,g2,xz,w1,w2,ht,hl,hb,aC,ac,bY]
  ·have g2:=xcF n (by omega) (by omega)
   have hl:(dec n).length=5:=by rw[ct (n:=n) (by omega),ct (n:=n/10) (by omega),ct (n:=n/10/10) (by omega),ct (n:=n/10/10/10) (by omega),fk (n:=n/10/10/10/10) (by omega)];rfl
   have ht:du 5 (dec n++aq 18 0)=dec n:=by rw[<-hl];exact List.take_left
   have w1:af.wrap (1+5)=6:=rfl;have w2:af.wrap 6=6:=rfl;have hb:5<=(dec n).length+18:=by omega
   rw[hk]at g1;simp only[cj]at g1;simp only[go_sem,Q0,Q1,Q2,Q3,Q4,Q5,Q6,Q7,Q8,Q9,Qa,Qb,Qc,Qd,Qe,Qf,Qg,Qh,Qi,Qj,Qk,reduceCtorEq,reduceIte,h1',n0,e1,g1,xA,g2,xz,w1,w2,ht,hl,hb,aC,ac,bY]
  ·have g2:=xcE n (by omega) (by omega)
   have hl:(dec n).length=6:=by rw[ct (n:=n) (by omega),ct (n:=n/10) (by omega),ct (n:=n/10/10) (by omega),ct (n:=n/10/10/10) (by omega),ct (n:=n/10/10/10/10) (by omega),fk (n:=n/10/10/10/10/10) (by omega)];rfl
   have ht:du 6 (dec n++aq 17 0)=dec n:=by rw[<-hl];exact List.take_left
   have w1:af.wrap (1+6)=7:=rfl;have w2:af.wrap 7=7:=rfl;have hb:6<=(dec n).length+17:=by omega
   rw[hk]at g1;simp only[cj]at g1;simp only[go_sem,Q0,Q1,Q2,Q3,Q4,Q5,Q6,Q7,Q8,Q9,Qa,Qb,Qc,Qd,Qe,Qf,Qg,Qh,Qi,Qj,Qk,reduceCtorEq,reduceIte,h1',n0,e1,g1,xA,g2,xz,w1,w2,ht,hl,hb,aC,ac,bY]
  ·have g2:=xcD n (by omega) (by omega)
   have hl:(dec n).length=7:=by rw[ct (n:=n) (by omega),ct (n:=n/10) (by omega),ct (n:=n/10/10) (by omega),ct (n:=n/10/10/10) (by omega),ct (n:=n/10/10/10/10) (by omega),ct (n:=n/10/10/10/10/10) (by omega),fk (n:=n/10/10/10/10/10/10) (by omega)];rfl
   have ht:du 7 (dec n++aq 16 0)=dec n:=by rw[<-hl];exact List.take_left
   have w1:af.wrap (1+7)=8:=rfl;have w2:af.wrap 8=8:=rfl;have hb:7<=(dec n).length+16:=by omega
   rw[hk]at g1;simp only[cj]at g1;simp only[go_sem,Q0,Q1,Q2,Q3,Q4,Q5,Q6,Q7,Q8,Q9,Qa,Qb,Qc,Qd,Qe,Qf,Qg,Qh,Qi,Qj,Qk,reduceCtorEq,reduceIte,h1',n0,e1,g1,xA,g2,xz,w1,w2,ht,hl,hb,aC,ac,bY]
theorem xkl(n:Nat)(h:n<10000000):call T 124 [.int .i64 n] [] 0=some ⟨.str (dec n),[],[]⟩:=by have g:=xkc n h;rw[ao xgo];simp only[go_sem,Q0,Q1,Q2,Q3,Q4,Q5,Q6,Q7,Q8,Q9,Qa,Qb,Qc,Qd,Qe,Qf,Qg,Qh,Qi,Qj,Qk,reduceCtorEq,reduceIte,g,xgM]
theorem f78(n:Nat)(h:n<10000000):call T 78 [.int .i64 n] [] 0=some ⟨.str (dec n),[],[]⟩:=by have g:=xkl n h;rw[ao xk3];simp only[go_sem,Q0,Q1,Q2,Q3,Q4,Q5,Q6,Q7,Q8,Q9,Qa,Qb,Qc,Qd,Qe,Qf,Qg,Qh,Qi,Qj,Qk,reduceCtorEq,reduceIte,g,xgS]
end Go.Proofs.YtkcjdeofknkndaaGreatDoor
