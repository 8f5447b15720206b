/- Contracts. No condition. -/
import Derived.Test.YtkcjdeofknkndaaGreatDoorTdDF
open Int renaming cast_ofNat_Int -> bW, natCast_zero -> aD
open Go.IntKind renaming i64 -> ai, u32 -> av, u64 -> aZ, wrap_u64 -> cn
open List renaming cons -> jp, cons_append -> aV, length_append -> af, length_cons -> ay, length_replicate -> bO, nil_append -> aK, replicate -> ao, take -> dn
open Nat renaming lt_or_ge -> bL, zero_add -> cf
open UInt8 renaming ofInt -> dj, ofNat -> ed
set_option maxRecDepth 100000
set_option maxHeartbeats 16000000
set_option linter.unusedSimpArgs false
set_option linter.unusedVariables false
namespace Go.Proofs.YtkcjdeofknkndaaGreatDoor
open Go.Sy
open UInt8 renaming reduceLT -> Q0, reduceLE -> Q1
open Int renaming reduceToNat -> Q2, reduceLE -> Q3, reduceLT -> Q4, reduceEq -> Q5, reduceNe -> Q6, reduceNeg -> Q7, reduceAdd -> Q8, reduceSub -> Q9, reduceMul -> Qa
open Nat renaming reducePow -> Qb, reduceDiv -> Qc, reduceMod -> Qd, reduceAdd -> Qe, reduceSub -> Qf, reduceMul -> Qg, reduceLT -> Qh, reduceLeDiff -> Qi, reduceEqDiff -> Qj, reduceBEq -> Qk
theorem ij:∀v,v<100->cs2.getD (2*v) 0=dg (v/10)/\cs2.getD (2*v+1) 0=dg (v % 10):=by decide
theorem Z5:∀v,v<100->(cs2.take (2*v+2)).drop (2*v)=[dg (v/10),dg (v % 10)]:=by decide
theorem xcR:∀v,v<10->(cs1.take (v+1)).drop v=[dg v]:=by decide
theorem kY:cs2.length=200:=rfl
theorem QO:cs1.length=36:=rfl
theorem QP:cs0.length=256:=rfl
theorem xkL{n:Nat}(h:10<=n)(y:n<100):dec n=[dg (n/10),dg (n % 10)]:=by rw[bZ (by omega),fj (by omega)];rfl
theorem xke(n:Nat)(h:n<100):call T 171 [.int .i64 n] [] 0=some ⟨.str (dec n),[],[]⟩:=by
 have J:ai.wrap ((n:Int)+1)=((n+1:Nat):Int):=cA n (by omega);have F:ai.wrap ((n:Int)*2)=((2*n:Nat):Int):=wZ (by omega)
 have E:ai.wrap (((2*n:Nat):Int)+2)=((2*n+2:Nat):Int):=wZ (by omega)
 have I:=QO;have H:=kY;rw[au xf8]
 by_cases C:n<10
 ·have y:(n:Int)<10:=by omega
  have z:=xcR n C;have k1:n<=n+1:=by omega
  have k2:((n+1:Nat):Int)<=36:=by omega
  rw[fj C];simp only[go_sem,Q0,Q1,Q2,Q3,Q4,Q5,Q6,Q7,Q8,Q9,Qa,Qb,Qc,Qd,Qe,Qf,Qg,Qh,Qi,Qj,Qk,reduceCtorEq,reduceIte,y,J,I,k1,k2,z]
 ·have y:¬(n:Int)<10:=by omega
  have z:=Z5 n h;have k1:2*n<=2*n+2:=by omega
  have k2:((2*n+2:Nat):Int)<=200:=by omega
  rw[xkL (by omega) h];simp only[go_sem,Q0,Q1,Q2,Q3,Q4,Q5,Q6,Q7,Q8,Q9,Qa,Qb,Qc,Qd,Qe,Qf,Qg,Qh,Qi,Qj,Qk,reduceCtorEq,reduceIte,y,F,E,H,k1,k2,z]
def bl8(v:Nat):Nat:=(cs0.getD v 0).toNat
theorem tA:∀v,v<256->bl8 v<=8/\(v=0\/(1<=bl8 v/\2^(bl8 v-1)<=v))/\v<2^bl8 v:=by unfold bl8;decide
def oW(u:Nat):Nat:=if u<256 then bl8 u else if u<65536 then 8+bl8 (u/256)else 16+bl8 (u/65536)
theorem xkf(u:Nat)(h:u<16777216):call T 167 [.int .u64 u] [] 0=some ⟨.int .i64 (oW u:Nat),[],[]⟩:=by
 have H:¬(4294967296:Int)<=(u:Nat):=by omega
 have O:=QP;have b0:∀v,v<256->bl8 v<=8:=fun v U=>(tA v U).1
 have I:∀a b:Nat,a<=100->b<=8->ai.wrap ((a:Int)+(b:Int))=((a+b:Nat):Int):=fun a b ha hb=>by rw[w64 (by omega) (by omega)];omega
 have u8:∀v:Nat,v<256->(dj (v:Int)).toNat=v:=fun v U=>by show(ed ((v:Int) % 256).toNat).toNat=v;rw[show((v:Int) % 256).toNat=v from by omega];simp;omega
 rw[au Yn];unfold oW;have Z:Int.fdiv (u:Int) (2^8)=((u/256:Nat):Int):=by rw[Int.fdiv_eq_ediv_of_nonneg _ (by decide)];rfl
 have L:Int.fdiv (u:Int) (2^16)=((u/65536:Nat):Int):=by rw[Int.fdiv_eq_ediv_of_nonneg _ (by decide)];rfl
 have m8:min 8 64=8:=rfl;have m16:min 16 64=16:=rfl
 by_cases C:u<256
 ·have F:¬(65536:Int)<=(u:Nat):=by omega
  have E:¬(256:Int)<=(u:Nat):=by omega
  have q:=u8 u C;have hi:(u:Int)<256:=by omega
  have z:=I 0 (bl8 u) (by omega) (b0 u C);rw[cf,aD]at z;unfold bl8 at z ⊢;simp only[go_sem,Q0,Q1,Q2,Q3,Q4,Q5,Q6,Q7,Q8,Q9,Qa,Qb,Qc,Qd,Qe,Qf,Qg,Qh,Qi,Qj,Qk,reduceCtorEq,reduceIte,H,F,E,C,q,O,hi,z]
 ·by_cases Q:u<65536
  ·have F:¬(65536:Int)<=(u:Nat):=by omega
   have E:(256:Int)<=(u:Nat):=by omega
   have y:u/256<256:=by omega
   have q:=u8 (u/256) y;have hi:((u/256:Nat):Int)<256:=by omega
   have W:ai.wrap 8=8:=rfl;have z:=I 8 (bl8 (u/256)) (by omega) (b0 _ y);simp only[bW]at z;unfold bl8 at z ⊢;simp only[go_sem,Q0,Q1,Q2,Q3,Q4,Q5,Q6,Q7,Q8,Q9,Qa,Qb,Qc,Qd,Qe,Qf,Qg,Qh,Qi,Qj,Qk,reduceCtorEq,reduceIte,H,F,E,C,Q,q,O,y,hi,W,z,Z,m8]
  ·have F:(65536:Int)<=(u:Nat):=by omega
   have y:u/65536<256:=by omega
   have E:¬(256:Int)<=((u/65536:Nat):Int):=by omega
   have q:=u8 (u/65536) y;have hi:((u/65536:Nat):Int)<256:=by omega
   have J:ai.wrap 16=16:=rfl;have z:=I 16 (bl8 (u/65536)) (by omega) (b0 _ y);simp only[bW]at z;unfold bl8 at z ⊢;simp only[go_sem,Q0,Q1,Q2,Q3,Q4,Q5,Q6,Q7,Q8,Q9,Qa,Qb,Qc,Qd,Qe,Qf,Qg,Qh,Qi,Qj,Qk,reduceCtorEq,reduceIte,H,F,E,C,Q,q,O,y,hi,J,z,L,m16]
theorem QZ(u:Nat)(h:u<16777216)(F:1<=u):1<=oW u/\oW u<=24/\2^(oW u-1)<=u/\u<2^oW u:=by
 unfold oW
 by_cases z:u<256
 ·rw[if_pos z]
  obtain⟨a,b,c⟩:=tA u z;omega
 ·rw[if_neg z]
  by_cases E:u<65536
  ·rw[if_pos E]
   obtain⟨a,b,c⟩:=tA (u/256) (by omega);have d:1<=bl8 (u/256)/\2^(bl8 (u/256)-1)<=u/256:=by omega
   obtain⟨d1,d2⟩:=d;generalize bl8 (u/256)=k at*;have C:2^(8+k-1)=256*2^(k-1):=by rw[show 8+k-1=8+(k-1)from by omega,Nat.pow_add]
   have y:2^(8+k)=256*2^k:=by rw[Nat.pow_add]
   rw[C,y];omega
  ·rw[if_neg E]
   obtain⟨a,b,c⟩:=tA (u/65536) (by omega);have d:1<=bl8 (u/65536)/\2^(bl8 (u/65536)-1)<=u/65536:=by omega
   obtain⟨d1,d2⟩:=d;generalize bl8 (u/65536)=k at*;have C:2^(16+k-1)=65536*2^(k-1):=by rw[show 16+k-1=16+(k-1)from by omega,Nat.pow_add]
   have y:2^(16+k)=65536*2^k:=by rw[Nat.pow_add]
   rw[C,y];omega
def nd(u:Nat):Nat:=if u<1000 then 3 else if u<10000 then 4 else if u<100000 then 5 else if u<1000000 then 6 else 7
theorem f189(k:Nat)(h:k<=24):call T 189 [.int .i64 k] [] 0=some ⟨.int .i64 (k*78913/262144:Nat),[],[]⟩:=by
 have z:ai.wrap ((k:Int)*78913)=((k*78913:Nat):Int):=wZ (by omega)
 have y:Int.fdiv ((k*78913:Nat):Int) (2^18)=((k*78913/262144:Nat):Int):=by rw[Int.fdiv_eq_ediv_of_nonneg _ (by decide)];rfl
 have m:min 18 64=18:=rfl;rw[au xf6];simp only[go_sem,Q0,Q1,Q2,Q3,Q4,Q5,Q6,Q7,Q8,Q9,Qa,Qb,Qc,Qd,Qe,Qf,Qg,Qh,Qi,Qj,Qk,reduceCtorEq,reduceIte,z,y,m]
theorem xii(b:Bool):call T 190 [.bool b] [] 0=some ⟨.int .i64 (if b=true then 1 else 0),[],[]⟩:=by rw[au xf5];cases b<;>simp only[go_sem,Q0,Q1,Q2,Q3,Q4,Q5,Q6,Q7,Q8,Q9,Qa,Qb,Qc,Qd,Qe,Qf,Qg,Qh,Qi,Qj,Qk,reduceCtorEq,reduceIte]
theorem xkd(u:Nat)(h0:100<=u)(h:u<10000000):call T 172 [.int .u64 u] [] 0=some ⟨.int .i64 (nd u:Nat),[],[]⟩:=by
 obtain⟨b1,O,b3,b4⟩:=QZ u (by omega) (by omega);have F:=xkf u (by omega);have E:=f189 (oW u) O;have H:=xii true;have I:=xii false
 have k7:7<=oW u:=by
  rcases bL (oW u) 7 with C|C
  ·have:2^oW u<=2^6:=Nat.pow_le_pow_right (by omega) (by omega)
   omega
  ·exact C
 have J:∀v,oW u*78913/262144=v->10^v<=u*10->u<10^(v+1)->2<=v->v<=7->call T 172 [.int .u64 u] [] 0=some ⟨.int .i64 (nd u:Nat),[],[]⟩:=by
  intro v hv L U h3 h4;rw[hv]at E;have Q:v=2\/v=3\/v=4\/v=5\/v=6\/v=7:=by omega
  rw[au xf7];generalize oW u=bb at*;unfold nd;rcases Q with rfl|rfl|rfl|rfl|rfl|rfl
  ·have z:ai.wrap 2=2:=rfl
   have y:ai.wrap 3=3:=rfl;simp only[bW]at E
   by_cases C:(100:Int)<=(u:Nat)
   ·have hn:(if u<1000 then 3 else if u<10000 then 4 else if u<100000 then 5 else if u<1000000 then 6 else 7)=3:=by
     repeat' split
     all_goals omega
    rw[hn];simp only[go_sem,Q0,Q1,Q2,Q3,Q4,Q5,Q6,Q7,Q8,Q9,Qa,Qb,Qc,Qd,Qe,Qf,Qg,Qh,Qi,Qj,Qk,reduceCtorEq,reduceIte,F,jJ,E,kG,iI,C,H,kF,z,y]
   ·have hn:(if u<1000 then 3 else if u<10000 then 4 else if u<100000 then 5 else if u<1000000 then 6 else 7)=2:=by
     repeat' split
     all_goals omega
    rw[hn];simp only[go_sem,Q0,Q1,Q2,Q3,Q4,Q5,Q6,Q7,Q8,Q9,Qa,Qb,Qc,Qd,Qe,Qf,Qg,Qh,Qi,Qj,Qk,reduceCtorEq,reduceIte,F,jJ,E,kG,iI,C,I,kF,z,y]
  ·have z:ai.wrap 3=3:=rfl
   have y:ai.wrap 4=4:=rfl;simp only[bW]at E
   by_cases C:(1000:Int)<=(u:Nat)
   ·have hn:(if u<1000 then 3 else if u<10000 then 4 else if u<100000 then 5 else if u<1000000 then 6 else 7)=4:=by
     repeat' split
     all_goals omega
    rw[hn];simp only[go_sem,Q0,Q1,Q2,Q3,Q4,Q5,Q6,Q7,Q8,Q9,Qa,Qb,Qc,Qd,Qe,Qf,Qg,Qh,Qi,Qj,Qk,reduceCtorEq,reduceIte,F,jJ,E,kG,iI,C,H,kF,z,y]
   ·have hn:(if u<1000 then 3 else if u<10000 then 4 else if u<100000 then 5 else if u<1000000 then 6 else 7)=3:=by
     repeat' split
     all_goals omega
    rw[hn];simp only[go_sem,Q0,Q1,Q2,Q3,Q4,Q5,Q6,Q7,Q8,Q9,Qa,Qb,Qc,Qd,Qe,Qf,Qg,Qh,Qi,Qj,Qk,reduceCtorEq,reduceIte,F,jJ,E,kG,iI,C,I,kF,z,y]
  ·have z:ai.wrap 4=4:=rfl
   have y:ai.wrap 5=5:=rfl;simp only[bW]at E
   by_cases C:(10000:Int)<=(u:Nat)
   ·have hn:(if u<1000 then 3 else if u<10000 then 4 else if u<100000 then 5 else if u<1000000 then 6 else 7)=5:=by
     repeat' split
     all_goals omega
    rw[hn];simp only[go_sem,Q0,Q1,Q2,Q3,Q4,Q5,Q6,Q7,Q8,Q9,Qa,Qb,Qc,Qd,Qe,Qf,Qg,Qh,Qi,Qj,Qk,reduceCtorEq,reduceIte,F,jJ,E,kG,iI,C,H,kF,z,y]
   ·have hn:(if u<1000 then 3 else if u<10000 then 4 else if u<100000 then 5 else if u<1000000 then 6 else 7)=4:=by
     repeat' split
     all_goals omega
    rw[hn];simp only[go_sem,Q0,Q1,Q2,Q3,Q4,Q5,Q6,Q7,Q8,Q9,Qa,Qb,Qc,Qd,Qe,Qf,Qg,Qh,Qi,Qj,Qk,reduceCtorEq,reduceIte,F,jJ,E,kG,iI,C,I,kF,z,y]
  ·have z:ai.wrap 5=5:=rfl
   have y:ai.wrap 6=6:=rfl;simp only[bW]at E
   by_cases C:(100000:Int)<=(u:Nat)
   ·have hn:(if u<1000 then 3 else if u<10000 then 4 else if u<100000 then 5 else if u<1000000 then 6 else 7)=6:=by
     repeat' split
     all_goals omega
    rw[hn];simp only[go_sem,Q0,Q1,Q2,Q3,Q4,Q5,Q6,Q7,Q8,Q9,Qa,Qb,Qc,Qd,Qe,Qf,Qg,Qh,Qi,Qj,Qk,reduceCtorEq,reduceIte,F,jJ,E,kG,iI,C,H,kF,z,y]
   ·have hn:(if u<1000 then 3 else if u<10000 then 4 else if u<100000 then 5 else if u<1000000 then 6 else 7)=5:=by
     repeat' split
     all_goals omega
    rw[hn];simp only[go_sem,Q0,Q1,Q2,Q3,Q4,Q5,Q6,Q7,Q8,Q9,Qa,Qb,Qc,Qd,Qe,Qf,Qg,Qh,Qi,Qj,Qk,reduceCtorEq,reduceIte,F,jJ,E,kG,iI,C,I,kF,z,y]
  ·have z:ai.wrap 6=6:=rfl
   have y:ai.wrap 7=7:=rfl;simp only[bW]at E
   by_cases C:(1000000:Int)<=(u:Nat)
   ·have hn:(if u<1000 then 3 else if u<10000 then 4 else if u<100000 then 5 else if u<1000000 then 6 else 7)=7:=by
     repeat' split
     all_goals omega
    rw[hn];simp only[go_sem,Q0,Q1,Q2,Q3,Q4,Q5,Q6,Q7,Q8,Q9,Qa,Qb,Qc,Qd,Qe,Qf,Qg,Qh,Qi,Qj,Qk,reduceCtorEq,reduceIte,F,jJ,E,kG,iI,C,H,kF,z,y]
   ·have hn:(if u<1000 then 3 else if u<10000 then 4 else if u<100000 then 5 else if u<1000000 then 6 else 7)=6:=by
     repeat' split
     all_goals omega
    rw[hn];simp only[go_sem,Q0,Q1,Q2,Q3,Q4,Q5,Q6,Q7,Q8,Q9,Qa,Qb,Qc,Qd,Qe,Qf,Qg,Qh,Qi,Qj,Qk,reduceCtorEq,reduceIte,F,jJ,E,kG,iI,C,I,kF,z,y]
  ·have z:ai.wrap 7=7:=rfl
   have y:ai.wrap 8=8:=rfl;simp only[bW]at E
   by_cases C:(10000000:Int)<=(u:Nat)
   ·have hn:(if u<1000 then 3 else if u<10000 then 4 else if u<100000 then 5 else if u<1000000 then 6 else 7)=8:=by
     repeat' split
     all_goals omega
    rw[hn];simp only[go_sem,Q0,Q1,Q2,Q3,Q4,Q5,Q6,Q7,Q8,Q9,Qa,Qb,Qc,Qd,Qe,Qf,Qg,Qh,Qi,Qj,Qk,reduceCtorEq,reduceIte,F,jJ,E,kG,iI,C,H,kF,z,y]
   ·have hn:(if u<1000 then 3 else if u<10000 then 4 else if u<100000 then 5 else if u<1000000 then 6 else 7)=7:=by
     repeat' split
     all_goals omega
    rw[hn];simp only[go_sem,Q0,Q1,Q2,Q3,Q4,Q5,Q6,Q7,Q8,Q9,Qa,Qb,Qc,Qd,Qe,Qf,Qg,Qh,Qi,Qj,Qk,reduceCtorEq,reduceIte,F,jJ,E,kG,iI,C,I,kF,z,y]
 have W:∀k,7<=k->k<=24->2^(k-1)<10000000->10^(k*78913/262144)<=2^(k-1)*10/\2^k<=10^(k*78913/262144+1)/\2<=k*78913/262144/\k*78913/262144<=7:=by
  intro k L U h3;have hd:∀k,k<25->7<=k->10^(k*78913/262144)<=2^(k-1)*10/\2^k<=10^(k*78913/262144+1)/\2<=k*78913/262144/\k*78913/262144<=7:=by decide
  exact hd k (by omega) L
 obtain⟨c1,c2,c3,Z⟩:=W (oW u) k7 O (by omega);exact J _ rfl (by omega) (by omega) c3 Z
theorem eV(k:Nat)(h:k<4294967296):av.wrap (k:Int)=(k:Int):=by rw[IntKind.wrap_u32];omega
theorem xcE(u:Nat)(h1:100<=u)(h2:u<1000):call T 173 [.psl 0 1 1 3 (some 23),.int .u64 u] [.bar (ao 24 0)] 0=some ⟨.tup [],[(0,.bar (0::(dec u++ao 20 0)))],[]⟩:=by
 have F:cs2.length=200:=by exact kY
 have q0:av.wrap (u:Int)=(u:Int):=by exact eV u (by omega)
 have Z:(u:Int).tmod 100=((u % 100:Nat):Int):=by rfl
 have I:(u:Int).tdiv 100=((u/100:Nat):Int):=by rfl
 have b2:av.wrap ((u/100:Nat):Int)=((u/100:Nat):Int):=by exact eV _ (by omega)
 have U:av.wrap ((((u % 100):Nat):Int)*2)=((2*(u % 100):Nat):Int):=by rw[show(((u % 100):Nat):Int)*2=((2*(u % 100):Nat):Int)from by omega];exact eV _ (by omega)
 have H:av.wrap (((2*(u % 100):Nat):Int)+1)=((2*(u % 100)+1:Nat):Int):=by rw[show((2*(u % 100):Nat):Int)+1=((2*(u % 100)+1:Nat):Int)from by omega];exact eV _ (by omega)
 have z:cs2.getD (2*(u % 100)) 0=dg ((u % 100)/10)/\cs2.getD (2*(u % 100)+1) 0=dg ((u % 100) % 10):=by exact ij _ (by omega)
 have h:((2*(u % 100):Nat):Int)<200/\((2*(u % 100)+1:Nat):Int)<200:=by omega
 have z1:av.wrap (48+(((u/100):Nat):Int))=((48+(u/100):Nat):Int):=by rw[show 48+(((u/100):Nat):Int)=((48+(u/100):Nat):Int)from by omega];exact eV _ (by omega)
 have W:dj ((48+(u/100):Nat):Int)=dg (u/100):=by rfl
 have hd:dec u=[dg ((u/100)),dg ((u % 100)/10),dg ((u % 100) % 10)]:=by rw[bZ (n:=u) (by omega),bZ (n:=u/10) (by omega),fj (n:=u/10/10) (by omega)];simp only[aK,aV,jp.injEq,and_true];exact⟨congrArg dg (by omega),congrArg dg (by omega),congrArg dg (by omega)⟩
 have w0:ai.wrap 0=0:=rfl;have w1:ai.wrap 1=1:=rfl;have O:ai.wrap 2=2:=rfl;have C:ai.wrap 3=3:=rfl;have w4:ai.wrap 4=4:=rfl;have E:ai.wrap 5=5:=rfl;have Q:ai.wrap 6=6:=rfl;have L:ai.wrap 7=7:=rfl;have J:ao 24 (0:UInt8)=[0,0,0,0,0,0,0,0,0,0,0,0,0,0,0,0,0,0,0,0,0,0,0,0]:=rfl;have y:ao 20 (0:UInt8)=[0,0,0,0,0,0,0,0,0,0,0,0,0,0,0,0,0,0,0,0]:=rfl;rw[hd,J,y,au wN];simp only[go_sem,Q0,Q1,Q2,Q3,Q4,Q5,Q6,Q7,Q8,Q9,Qa,Qb,Qc,Qd,Qe,Qf,Qg,Qh,Qi,Qj,Qk,reduceCtorEq,reduceIte];rw[al];simp only[go_sem,Q0,Q1,Q2,Q3,Q4,Q5,Q6,Q7,Q8,Q9,Qa,Qb,Qc,Qd,Qe,Qf,Qg,Qh,Qi,Qj,Qk,reduceCtorEq,reduceIte,F,q0,Z,I,b2,U,H,z.1,z.2,h.1,h.2,z1,W,w0,w1,O,C,w4,E,Q,L]
theorem xcD(u:Nat)(h1:1000<=u)(h2:u<10000):call T 173 [.psl 0 1 1 4 (some 23),.int .u64 u] [.bar (ao 24 0)] 0=some ⟨.tup [],[(0,.bar (0::(dec u++ao 19 0)))],[]⟩:=by
 have L:cs2.length=200:=by exact kY
 have q0:av.wrap (u:Int)=(u:Int):=by exact eV u (by omega)
 have a1:(u:Int).tmod 10000=((u % 10000:Nat):Int):=by rfl
 have U:(u:Int).tdiv 10000=((u/10000:Nat):Int):=by rfl
 have b2:av.wrap ((u/10000:Nat):Int)=((u/10000:Nat):Int):=by exact eV _ (by omega)
 have W:(((u % 10000):Nat):Int).tdiv 100=(((u % 10000)/100:Nat):Int):=by rfl
 have I:av.wrap (((u % 10000)/100:Nat):Int)=(((u % 10000)/100:Nat):Int):=by exact eV _ (by omega)
 have a4:(((u % 10000):Nat):Int).tmod 100=(((u % 10000) % 100:Nat):Int):=by rfl
 have c5:av.wrap (((((u % 10000)/100):Nat):Int)*2)=((2*((u % 10000)/100):Nat):Int):=by rw[show((((u % 10000)/100):Nat):Int)*2=((2*((u % 10000)/100):Nat):Int)from by omega];exact eV _ (by omega)
 have J:av.wrap (((2*((u % 10000)/100):Nat):Int)+1)=((2*((u % 10000)/100)+1:Nat):Int):=by rw[show((2*((u % 10000)/100):Nat):Int)+1=((2*((u % 10000)/100)+1:Nat):Int)from by omega];exact eV _ (by omega)
 have C:cs2.getD (2*((u % 10000)/100)) 0=dg (((u % 10000)/100)/10)/\cs2.getD (2*((u % 10000)/100)+1) 0=dg (((u % 10000)/100) % 10):=by exact ij _ (by omega)
 have y:((2*((u % 10000)/100):Nat):Int)<200/\((2*((u % 10000)/100)+1:Nat):Int)<200:=by omega
 have c6:av.wrap (((((u % 10000) % 100):Nat):Int)*2)=((2*((u % 10000) % 100):Nat):Int):=by rw[show((((u % 10000) % 100):Nat):Int)*2=((2*((u % 10000) % 100):Nat):Int)from by omega];exact eV _ (by omega)
 have O:av.wrap (((2*((u % 10000) % 100):Nat):Int)+1)=((2*((u % 10000) % 100)+1:Nat):Int):=by rw[show((2*((u % 10000) % 100):Nat):Int)+1=((2*((u % 10000) % 100)+1:Nat):Int)from by omega];exact eV _ (by omega)
 have E:cs2.getD (2*((u % 10000) % 100)) 0=dg (((u % 10000) % 100)/10)/\cs2.getD (2*((u % 10000) % 100)+1) 0=dg (((u % 10000) % 100) % 10):=by exact ij _ (by omega)
 have z:((2*((u % 10000) % 100):Nat):Int)<200/\((2*((u % 10000) % 100)+1:Nat):Int)<200:=by omega
 have hd:dec u=[dg (((u % 10000)/100)/10),dg (((u % 10000)/100) % 10),dg (((u % 10000) % 100)/10),dg (((u % 10000) % 100) % 10)]:=by rw[bZ (n:=u) (by omega),bZ (n:=u/10) (by omega),bZ (n:=u/10/10) (by omega),fj (n:=u/10/10/10) (by omega)];simp only[aK,aV,jp.injEq,and_true];exact⟨congrArg dg (by omega),congrArg dg (by omega),congrArg dg (by omega),congrArg dg (by omega)⟩
 have w0:ai.wrap 0=0:=rfl;have w1:ai.wrap 1=1:=rfl;have w2:ai.wrap 2=2:=rfl;have F:ai.wrap 3=3:=rfl;have w4:ai.wrap 4=4:=rfl;have H:ai.wrap 5=5:=rfl;have w6:ai.wrap 6=6:=rfl;have Z:ai.wrap 7=7:=rfl;have Q:ao 24 (0:UInt8)=[0,0,0,0,0,0,0,0,0,0,0,0,0,0,0,0,0,0,0,0,0,0,0,0]:=rfl;have h:ao 19 (0:UInt8)=[0,0,0,0,0,0,0,0,0,0,0,0,0,0,0,0,0,0,0]:=rfl;rw[hd,Q,h,au wN];simp only[go_sem,Q0,Q1,Q2,Q3,Q4,Q5,Q6,Q7,Q8,Q9,Qa,Qb,Qc,Qd,Qe,Qf,Qg,Qh,Qi,Qj,Qk,reduceCtorEq,reduceIte];rw[al];simp only[go_sem,Q0,Q1,Q2,Q3,Q4,Q5,Q6,Q7,Q8,Q9,Qa,Qb,Qc,Qd,Qe,Qf,Qg,Qh,Qi,Qj,Qk,reduceCtorEq,reduceIte,L,q0,a1,U,b2,W,I,a4,c5,J,C.1,C.2,y.1,y.2,c6,O,E.1,E.2,z.1,z.2,w0,w1,w2,F,w4,H,w6,Z]
theorem xcC(u:Nat)(h1:10000<=u)(h2:u<100000):call T 173 [.psl 0 1 1 5 (some 23),.int .u64 u] [.bar (ao 24 0)] 0=some ⟨.tup [],[(0,.bar (0::(dec u++ao 18 0)))],[]⟩:=by
 have L:cs2.length=200:=by exact kY
 have q0:av.wrap (u:Int)=(u:Int):=by exact eV u (by omega)
 have a1:(u:Int).tmod 10000=((u % 10000:Nat):Int):=by rfl
 have U:(u:Int).tdiv 10000=((u/10000:Nat):Int):=by rfl
 have b2:av.wrap ((u/10000:Nat):Int)=((u/10000:Nat):Int):=by exact eV _ (by omega)
 have W:(((u % 10000):Nat):Int).tdiv 100=(((u % 10000)/100:Nat):Int):=by rfl
 have I:av.wrap (((u % 10000)/100:Nat):Int)=(((u % 10000)/100:Nat):Int):=by exact eV _ (by omega)
 have a4:(((u % 10000):Nat):Int).tmod 100=(((u % 10000) % 100:Nat):Int):=by rfl
 have c5:av.wrap (((((u % 10000)/100):Nat):Int)*2)=((2*((u % 10000)/100):Nat):Int):=by rw[show((((u % 10000)/100):Nat):Int)*2=((2*((u % 10000)/100):Nat):Int)from by omega];exact eV _ (by omega)
 have J:av.wrap (((2*((u % 10000)/100):Nat):Int)+1)=((2*((u % 10000)/100)+1:Nat):Int):=by rw[show((2*((u % 10000)/100):Nat):Int)+1=((2*((u % 10000)/100)+1:Nat):Int)from by omega];exact eV _ (by omega)
 have C:cs2.getD (2*((u % 10000)/100)) 0=dg (((u % 10000)/100)/10)/\cs2.getD (2*((u % 10000)/100)+1) 0=dg (((u % 10000)/100) % 10):=by exact ij _ (by omega)
 have y:((2*((u % 10000)/100):Nat):Int)<200/\((2*((u % 10000)/100)+1:Nat):Int)<200:=by omega
 have c6:av.wrap (((((u % 10000) % 100):Nat):Int)*2)=((2*((u % 10000) % 100):Nat):Int):=by rw[show((((u % 10000) % 100):Nat):Int)*2=((2*((u % 10000) % 100):Nat):Int)from by omega];exact eV _ (by omega)
 have O:av.wrap (((2*((u % 10000) % 100):Nat):Int)+1)=((2*((u % 10000) % 100)+1:Nat):Int):=by rw[show((2*((u % 10000) % 100):Nat):Int)+1=((2*((u % 10000) % 100)+1:Nat):Int)from by omega];exact eV _ (by omega)
 have E:cs2.getD (2*((u % 10000) % 100)) 0=dg (((u % 10000) % 100)/10)/\cs2.getD (2*((u % 10000) % 100)+1) 0=dg (((u % 10000) % 100) % 10):=by exact ij _ (by omega)
 have z:((2*((u % 10000) % 100):Nat):Int)<200/\((2*((u % 10000) % 100)+1:Nat):Int)<200:=by omega
 have z1:av.wrap (48+(((u/10000):Nat):Int))=((48+(u/10000):Nat):Int):=by rw[show 48+(((u/10000):Nat):Int)=((48+(u/10000):Nat):Int)from by omega];exact eV _ (by omega)
 have z2:dj ((48+(u/10000):Nat):Int)=dg (u/10000):=by rfl
 have hd:dec u=[dg ((u/10000)),dg (((u % 10000)/100)/10),dg (((u % 10000)/100) % 10),dg (((u % 10000) % 100)/10),dg (((u % 10000) % 100) % 10)]:=by rw[bZ (n:=u) (by omega),bZ (n:=u/10) (by omega),bZ (n:=u/10/10) (by omega),bZ (n:=u/10/10/10) (by omega),fj (n:=u/10/10/10/10) (by omega)];simp only[aK,aV,jp.injEq,and_true];exact⟨congrArg dg (by omega),congrArg dg (by omega),congrArg dg (by omega),congrArg dg (by omega),congrArg dg (by omega)⟩
 have w0:ai.wrap 0=0:=rfl;have w1:ai.wrap 1=1:=rfl;have w2:ai.wrap 2=2:=rfl;have F:ai.wrap 3=3:=rfl;have w4:ai.wrap 4=4:=rfl;have H:ai.wrap 5=5:=rfl;have w6:ai.wrap 6=6:=rfl;have Z:ai.wrap 7=7:=rfl;have Q:ao 24 (0:UInt8)=[0,0,0,0,0,0,0,0,0,0,0,0,0,0,0,0,0,0,0,0,0,0,0,0]:=rfl;have h:ao 18 (0:UInt8)=[0,0,0,0,0,0,0,0,0,0,0,0,0,0,0,0,0,0]:=rfl;rw[hd,Q,h,au wN];simp only[go_sem,Q0,Q1,Q2,Q3,Q4,Q5,Q6,Q7,Q8,Q9,Qa,Qb,Qc,Qd,Qe,Qf,Qg,Qh,Qi,Qj,Qk,reduceCtorEq,reduceIte];rw[al];simp only[go_sem,Q0,Q1,Q2,Q3,Q4,Q5,Q6,Q7,Q8,Q9,Qa,Qb,Qc,Qd,Qe,Qf,Qg,Qh,Qi,Qj,Qk,reduceCtorEq,reduceIte,L,q0,a1,U,b2,W,I,a4,c5,J,C.1,C.2,y.1,y.2,c6,O,E.1,E.2,z.1,z.2,z1,z2,w0,w1,w2,F,w4,H,w6,Z]
theorem xcB(u:Nat)(h1:100000<=u)(h2:u<1000000):call T 173 [.psl 0 1 1 6 (some 23),.int .u64 u] [.bar (ao 24 0)] 0=some ⟨.tup [],[(0,.bar (0::(dec u++ao 17 0)))],[]⟩:=by
 have W:cs2.length=200:=by exact kY
 have q0:av.wrap (u:Int)=(u:Int):=by exact eV u (by omega)
 have a1:(u:Int).tmod 10000=((u % 10000:Nat):Int):=by rfl
 have a2:(u:Int).tdiv 10000=((u/10000:Nat):Int):=by rfl
 have b2:av.wrap ((u/10000:Nat):Int)=((u/10000:Nat):Int):=by exact eV _ (by omega)
 have a3:(((u % 10000):Nat):Int).tdiv 100=(((u % 10000)/100:Nat):Int):=by rfl
 have J:av.wrap (((u % 10000)/100:Nat):Int)=(((u % 10000)/100:Nat):Int):=by exact eV _ (by omega)
 have a4:(((u % 10000):Nat):Int).tmod 100=(((u % 10000) % 100:Nat):Int):=by rfl
 have c5:av.wrap (((((u % 10000)/100):Nat):Int)*2)=((2*((u % 10000)/100):Nat):Int):=by rw[show((((u % 10000)/100):Nat):Int)*2=((2*((u % 10000)/100):Nat):Int)from by omega];exact eV _ (by omega)
 have L:av.wrap (((2*((u % 10000)/100):Nat):Int)+1)=((2*((u % 10000)/100)+1:Nat):Int):=by rw[show((2*((u % 10000)/100):Nat):Int)+1=((2*((u % 10000)/100)+1:Nat):Int)from by omega];exact eV _ (by omega)
 have E:cs2.getD (2*((u % 10000)/100)) 0=dg (((u % 10000)/100)/10)/\cs2.getD (2*((u % 10000)/100)+1) 0=dg (((u % 10000)/100) % 10):=by exact ij _ (by omega)
 have y:((2*((u % 10000)/100):Nat):Int)<200/\((2*((u % 10000)/100)+1:Nat):Int)<200:=by omega
 have c6:av.wrap (((((u % 10000) % 100):Nat):Int)*2)=((2*((u % 10000) % 100):Nat):Int):=by rw[show((((u % 10000) % 100):Nat):Int)*2=((2*((u % 10000) % 100):Nat):Int)from by omega];exact eV _ (by omega)
 have Z:av.wrap (((2*((u % 10000) % 100):Nat):Int)+1)=((2*((u % 10000) % 100)+1:Nat):Int):=by rw[show((2*((u % 10000) % 100):Nat):Int)+1=((2*((u % 10000) % 100)+1:Nat):Int)from by omega];exact eV _ (by omega)
 have F:cs2.getD (2*((u % 10000) % 100)) 0=dg (((u % 10000) % 100)/10)/\cs2.getD (2*((u % 10000) % 100)+1) 0=dg (((u % 10000) % 100) % 10):=by exact ij _ (by omega)
 have z:((2*((u % 10000) % 100):Nat):Int)<200/\((2*((u % 10000) % 100)+1:Nat):Int)<200:=by omega
 have I:(((u/10000):Nat):Int).tmod 100=(((u/10000) % 100:Nat):Int):=by rfl
 have O:(((u/10000):Nat):Int).tdiv 100=(((u/10000)/100:Nat):Int):=by rfl
 have U:av.wrap (((u/10000)/100:Nat):Int)=(((u/10000)/100:Nat):Int):=by exact eV _ (by omega)
 have c9:av.wrap (((((u/10000) % 100):Nat):Int)*2)=((2*((u/10000) % 100):Nat):Int):=by rw[show((((u/10000) % 100):Nat):Int)*2=((2*((u/10000) % 100):Nat):Int)from by omega];exact eV _ (by omega)
 have d9:av.wrap (((2*((u/10000) % 100):Nat):Int)+1)=((2*((u/10000) % 100)+1:Nat):Int):=by rw[show((2*((u/10000) % 100):Nat):Int)+1=((2*((u/10000) % 100)+1:Nat):Int)from by omega];exact eV _ (by omega)
 have C:cs2.getD (2*((u/10000) % 100)) 0=dg (((u/10000) % 100)/10)/\cs2.getD (2*((u/10000) % 100)+1) 0=dg (((u/10000) % 100) % 10):=by exact ij _ (by omega)
 have f9:((2*((u/10000) % 100):Nat):Int)<200/\((2*((u/10000) % 100)+1:Nat):Int)<200:=by omega
 have hd:dec u=[dg (((u/10000) % 100)/10),dg (((u/10000) % 100) % 10),dg (((u % 10000)/100)/10),dg (((u % 10000)/100) % 10),dg (((u % 10000) % 100)/10),dg (((u % 10000) % 100) % 10)]:=by rw[bZ (n:=u) (by omega),bZ (n:=u/10) (by omega),bZ (n:=u/10/10) (by omega),bZ (n:=u/10/10/10) (by omega),bZ (n:=u/10/10/10/10) (by omega),fj (n:=u/10/10/10/10/10) (by omega)];simp only[aK,aV,jp.injEq,and_true];exact⟨congrArg dg (by omega),congrArg dg (by omega),congrArg dg (by omega),congrArg dg (by omega),congrArg dg (by omega),congrArg dg (by omega)⟩
 have w0:ai.wrap 0=0:=rfl;have w1:ai.wrap 1=1:=rfl;have w2:ai.wrap 2=2:=rfl;have H:ai.wrap 3=3:=rfl;have w4:ai.wrap 4=4:=rfl;have Q:ai.wrap 5=5:=rfl;have w6:ai.wrap 6=6:=rfl;have w7:ai.wrap 7=7:=rfl;have hr:ao 24 (0:UInt8)=[0,0,0,0,0,0,0,0,0,0,0,0,0,0,0,0,0,0,0,0,0,0,0,0]:=rfl;have h:ao 17 (0:UInt8)=[0,0,0,0,0,0,0,0,0,0,0,0,0,0,0,0,0]:=rfl;rw[hd,hr,h,au wN];simp only[go_sem,Q0,Q1,Q2,Q3,Q4,Q5,Q6,Q7,Q8,Q9,Qa,Qb,Qc,Qd,Qe,Qf,Qg,Qh,Qi,Qj,Qk,reduceCtorEq,reduceIte];rw[al];simp only[go_sem,Q0,Q1,Q2,Q3,Q4,Q5,Q6,Q7,Q8,Q9,Qa,Qb,Qc,Qd,Qe,Qf,Qg,Qh,Qi,Qj,Qk,reduceCtorEq,reduceIte,W,q0,a1,a2,b2,a3,J,a4,c5,L,E.1,E.2,y.1,y.2,c6,Z,F.1,F.2,z.1,z.2,I,O,U,c9,d9,C.1,C.2,f9.1,f9.2,w0,w1,w2,H,w4,Q,w6,w7]
theorem xcA(u:Nat)(h1:1000000<=u)(h2:u<10000000):call T 173 [.psl 0 1 1 7 (some 23),.int .u64 u] [.bar (ao 24 0)] 0=some ⟨.tup [],[(0,.bar (0::(dec u++ao 16 0)))],[]⟩:=by
 have L:cs2.length=200:=by exact kY
 have U:av.wrap (u:Int)=(u:Int):=by exact eV u (by omega)
 have a1:(u:Int).tmod 10000=((u % 10000:Nat):Int):=by rfl
 have Q:(u:Int).tdiv 10000=((u/10000:Nat):Int):=by rfl
 have W:av.wrap ((u/10000:Nat):Int)=((u/10000:Nat):Int):=by exact eV _ (by omega)
 have a3:(((u % 10000):Nat):Int).tdiv 100=(((u % 10000)/100:Nat):Int):=by rfl
 have b3:av.wrap (((u % 10000)/100:Nat):Int)=(((u % 10000)/100:Nat):Int):=by exact eV _ (by omega)
 have a4:(((u % 10000):Nat):Int).tmod 100=(((u % 10000) % 100:Nat):Int):=by rfl
 have c5:av.wrap (((((u % 10000)/100):Nat):Int)*2)=((2*((u % 10000)/100):Nat):Int):=by rw[show((((u % 10000)/100):Nat):Int)*2=((2*((u % 10000)/100):Nat):Int)from by omega];exact eV _ (by omega)
 have J:av.wrap (((2*((u % 10000)/100):Nat):Int)+1)=((2*((u % 10000)/100)+1:Nat):Int):=by rw[show((2*((u % 10000)/100):Nat):Int)+1=((2*((u % 10000)/100)+1:Nat):Int)from by omega];exact eV _ (by omega)
 have z:cs2.getD (2*((u % 10000)/100)) 0=dg (((u % 10000)/100)/10)/\cs2.getD (2*((u % 10000)/100)+1) 0=dg (((u % 10000)/100) % 10):=by exact ij _ (by omega)
 have y:((2*((u % 10000)/100):Nat):Int)<200/\((2*((u % 10000)/100)+1:Nat):Int)<200:=by omega
 have Z:av.wrap (((((u % 10000) % 100):Nat):Int)*2)=((2*((u % 10000) % 100):Nat):Int):=by rw[show((((u % 10000) % 100):Nat):Int)*2=((2*((u % 10000) % 100):Nat):Int)from by omega];exact eV _ (by omega)
 have d6:av.wrap (((2*((u % 10000) % 100):Nat):Int)+1)=((2*((u % 10000) % 100)+1:Nat):Int):=by rw[show((2*((u % 10000) % 100):Nat):Int)+1=((2*((u % 10000) % 100)+1:Nat):Int)from by omega];exact eV _ (by omega)
 have F:cs2.getD (2*((u % 10000) % 100)) 0=dg (((u % 10000) % 100)/10)/\cs2.getD (2*((u % 10000) % 100)+1) 0=dg (((u % 10000) % 100) % 10):=by exact ij _ (by omega)
 have E:((2*((u % 10000) % 100):Nat):Int)<200/\((2*((u % 10000) % 100)+1:Nat):Int)<200:=by omega
 have I:(((u/10000):Nat):Int).tmod 100=(((u/10000) % 100:Nat):Int):=by rfl
 have a8:(((u/10000):Nat):Int).tdiv 100=(((u/10000)/100:Nat):Int):=by rfl
 have b8:av.wrap (((u/10000)/100:Nat):Int)=(((u/10000)/100:Nat):Int):=by exact eV _ (by omega)
 have c9:av.wrap (((((u/10000) % 100):Nat):Int)*2)=((2*((u/10000) % 100):Nat):Int):=by rw[show((((u/10000) % 100):Nat):Int)*2=((2*((u/10000) % 100):Nat):Int)from by omega];exact eV _ (by omega)
 have d9:av.wrap (((2*((u/10000) % 100):Nat):Int)+1)=((2*((u/10000) % 100)+1:Nat):Int):=by rw[show((2*((u/10000) % 100):Nat):Int)+1=((2*((u/10000) % 100)+1:Nat):Int)from by omega];exact eV _ (by omega)
 have C:cs2.getD (2*((u/10000) % 100)) 0=dg (((u/10000) % 100)/10)/\cs2.getD (2*((u/10000) % 100)+1) 0=dg (((u/10000) % 100) % 10):=by exact ij _ (by omega)
 have f9:((2*((u/10000) % 100):Nat):Int)<200/\((2*((u/10000) % 100)+1:Nat):Int)<200:=by omega
 have z1:av.wrap (48+((((u/10000)/100):Nat):Int))=((48+((u/10000)/100):Nat):Int):=by rw[show 48+((((u/10000)/100):Nat):Int)=((48+((u/10000)/100):Nat):Int)from by omega];exact eV _ (by omega)
 have z2:dj ((48+((u/10000)/100):Nat):Int)=dg ((u/10000)/100):=by rfl
 have hd:dec u=[dg (((u/10000)/100)),dg (((u/10000) % 100)/10),dg (((u/10000) % 100) % 10),dg (((u % 10000)/100)/10),dg (((u % 10000)/100) % 10),dg (((u % 10000) % 100)/10),dg (((u % 10000) % 100) % 10)]:=by rw[bZ (n:=u) (by omega),bZ (n:=u/10) (by omega),bZ (n:=u/10/10) (by omega),bZ (n:=u/10/10/10) (by omega),bZ (n:=u/10/10/10/10) (by omega),bZ (n:=u/10/10/10/10/10) (by omega),fj (n:=u/10/10/10/10/10/10) (by omega)];simp only[aK,aV,jp.injEq,and_true];exact⟨congrArg dg (by omega),congrArg dg (by omega),congrArg dg (by omega),congrArg dg (by omega),congrArg dg (by omega),congrArg dg (by omega),congrArg dg (by omega)⟩
 have w0:ai.wrap 0=0:=rfl;have w1:ai.wrap 1=1:=rfl;have w2:ai.wrap 2=2:=rfl;have H:ai.wrap 3=3:=rfl;have w4:ai.wrap 4=4:=rfl;have w5:ai.wrap 5=5:=rfl;have O:ai.wrap 6=6:=rfl;have w7:ai.wrap 7=7:=rfl;have hr:ao 24 (0:UInt8)=[0,0,0,0,0,0,0,0,0,0,0,0,0,0,0,0,0,0,0,0,0,0,0,0]:=rfl;have h:ao 16 (0:UInt8)=[0,0,0,0,0,0,0,0,0,0,0,0,0,0,0,0]:=rfl;rw[hd,hr,h,au wN];simp only[go_sem,Q0,Q1,Q2,Q3,Q4,Q5,Q6,Q7,Q8,Q9,Qa,Qb,Qc,Qd,Qe,Qf,Qg,Qh,Qi,Qj,Qk,reduceCtorEq,reduceIte];rw[al];simp only[go_sem,Q0,Q1,Q2,Q3,Q4,Q5,Q6,Q7,Q8,Q9,Qa,Qb,Qc,Qd,Qe,Qf,Qg,Qh,Qi,Qj,Qk,reduceCtorEq,reduceIte,L,U,a1,Q,W,a3,b3,a4,c5,J,z.1,z.2,y.1,y.2,Z,d6,F.1,F.2,E.1,E.2,I,a8,b8,c9,d9,C.1,C.2,f9.1,f9.2,z1,z2,w0,w1,w2,H,w4,w5,O,w7]
theorem xkk(n:Nat)(h:n<10000000):call T 145 [.int .i64 n,.int .i64 10] [] 0=some ⟨.str (dec n),[],[]⟩:=by
 rw[au xgg]
 by_cases U:n<100
 ·have y:(n:Int)<100:=by omega
  have g:=xke n U;simp only[go_sem,Q0,Q1,Q2,Q3,Q4,Q5,Q6,Q7,Q8,Q9,Qa,Qb,Qc,Qd,Qe,Qf,Qg,Qh,Qi,Qj,Qk,reduceCtorEq,reduceIte,y,g,xgP]
 ·have y:¬(n:Int)<100:=by omega
  have z:=xkd n (by omega) h;have O:aZ.wrap (n:Int)=(n:Int):=by rw[cn];omega
  have L:¬(n:Int)<0:=by omega
  have E:(nd n=3/\n<1000)\/(nd n=4/\1000<=n/\n<10000)\/(nd n=5/\10000<=n/\n<100000)\/(nd n=6/\100000<=n/\n<1000000)\/(nd n=7/\1000000<=n):=by
   unfold nd
   repeat' split
   all_goals omega
  rcases E with⟨E,Q⟩|⟨E,Q,h4⟩|⟨E,Q,h4⟩|⟨E,Q,h4⟩|⟨E,Q⟩
  ·have I:=xcE n (by omega) (by omega)
   have C:(dec n).length=3:=by rw[bZ (n:=n) (by omega),bZ (n:=n/10) (by omega),fj (n:=n/10/10) (by omega)];rfl
   have F:dn 3 (dec n++ao 20 0)=dec n:=by rw[<-C];exact List.take_left
   have w1:ai.wrap (1+3)=4:=rfl;have H:ai.wrap 4=4:=rfl;have J:3<=(dec n).length+20:=by omega
   rw[E]at z;simp only[bW]at z;simp only[go_sem,Q0,Q1,Q2,Q3,Q4,Q5,Q6,Q7,Q8,Q9,Qa,Qb,Qc,Qd,Qe,Qf,Qg,Qh,Qi,Qj,Qk,reduceCtorEq,reduceIte,y,L,O,z,wT,I,wS,w1,H,F,C,J,ay,af,bO]
  ·have I:=xcD n (by omega) (by omega)
   have C:(dec n).length=4:=by rw[bZ (n:=n) (by omega),bZ (n:=n/10) (by omega),bZ (n:=n/10/10) (by omega),fj (n:=n/10/10/10) (by omega)];rfl
   have F:dn 4 (dec n++ao 19 0)=dec n:=by rw[<-C];exact List.take_left
   have w1:ai.wrap (1+4)=5:=rfl;have H:ai.wrap 5=5:=rfl;have J:4<=(dec n).length+19:=by omega
   rw[E]at z;simp only[bW]at z;simp only[go_sem,Q0,Q1,Q2,Q3,Q4,Q5,Q6,Q7,Q8,Q9,Qa,Qb,Qc,Qd,Qe,Qf,Qg,Qh,Qi,Qj,Qk,reduceCtorEq,reduceIte,y,L,O,z,wT,I,wS,w1,H,F,C,J,ay,af,bO]
  ·have I:=xcC n (by omega) (by omega)
   have C:(dec n).length=5:=by rw[bZ (n:=n) (by omega),bZ (n:=n/10) (by omega),bZ (n:=n/10/10) (by omega),bZ (n:=n/10/10/10) (by omega),fj (n:=n/10/10/10/10) (by omega)];rfl
   have F:dn 5 (dec n++ao 18 0)=dec n:=by rw[<-C];exact List.take_left
   have w1:ai.wrap (1+5)=6:=rfl;have H:ai.wrap 6=6:=rfl;have J:5<=(dec n).length+18:=by omega
   rw[E]at z;simp only[bW]at z;simp only[go_sem,Q0,Q1,Q2,Q3,Q4,Q5,Q6,Q7,Q8,Q9,Qa,Qb,Qc,Qd,Qe,Qf,Qg,Qh,Qi,Qj,Qk,reduceCtorEq,reduceIte,y,L,O,z,wT,I,wS,w1,H,F,C,J,ay,af,bO]
  ·have I:=xcB n (by omega) (by omega)
   have C:(dec n).length=6:=by rw[bZ (n:=n) (by omega),bZ (n:=n/10) (by omega),bZ (n:=n/10/10) (by omega),bZ (n:=n/10/10/10) (by omega),bZ (n:=n/10/10/10/10) (by omega),fj (n:=n/10/10/10/10/10) (by omega)];rfl
   have F:dn 6 (dec n++ao 17 0)=dec n:=by rw[<-C];exact List.take_left
   have w1:ai.wrap (1+6)=7:=rfl;have H:ai.wrap 7=7:=rfl;have J:6<=(dec n).length+17:=by omega
   rw[E]at z;simp only[bW]at z;simp only[go_sem,Q0,Q1,Q2,Q3,Q4,Q5,Q6,Q7,Q8,Q9,Qa,Qb,Qc,Qd,Qe,Qf,Qg,Qh,Qi,Qj,Qk,reduceCtorEq,reduceIte,y,L,O,z,wT,I,wS,w1,H,F,C,J,ay,af,bO]
  ·have I:=xcA n (by omega) (by omega)
   have C:(dec n).length=7:=by rw[bZ (n:=n) (by omega),bZ (n:=n/10) (by omega),bZ (n:=n/10/10) (by omega),bZ (n:=n/10/10/10) (by omega),bZ (n:=n/10/10/10/10) (by omega),bZ (n:=n/10/10/10/10/10) (by omega),fj (n:=n/10/10/10/10/10/10) (by omega)];rfl
   have F:dn 7 (dec n++ao 16 0)=dec n:=by rw[<-C];exact List.take_left
   have w1:ai.wrap (1+7)=8:=rfl;have H:ai.wrap 8=8:=rfl;have J:7<=(dec n).length+16:=by omega
   rw[E]at z;simp only[bW]at z;simp only[go_sem,Q0,Q1,Q2,Q3,Q4,Q5,Q6,Q7,Q8,Q9,Qa,Qb,Qc,Qd,Qe,Qf,Qg,Qh,Qi,Qj,Qk,reduceCtorEq,reduceIte,y,L,O,z,wT,I,wS,w1,H,F,C,J,ay,af,bO]
theorem xkv(n:Nat)(h:n<10000000):call T 124 [.int .i64 n] [] 0=some ⟨.str (dec n),[],[]⟩:=by have g:=xkk n h;rw[au xgx];simp only[go_sem,Q0,Q1,Q2,Q3,Q4,Q5,Q6,Q7,Q8,Q9,Qa,Qb,Qc,Qd,Qe,Qf,Qg,Qh,Qi,Qj,Qk,reduceCtorEq,reduceIte,g,xgT]
theorem f78(n:Nat)(h:n<10000000):call T 78 [.int .i64 n] [] 0=some ⟨.str (dec n),[],[]⟩:=by have g:=xkv n h;rw[au xk2];simp only[go_sem,Q0,Q1,Q2,Q3,Q4,Q5,Q6,Q7,Q8,Q9,Qa,Qb,Qc,Qd,Qe,Qf,Qg,Qh,Qi,Qj,Qk,reduceCtorEq,reduceIte,g,xg1]
end Go.Proofs.YtkcjdeofknkndaaGreatDoor
