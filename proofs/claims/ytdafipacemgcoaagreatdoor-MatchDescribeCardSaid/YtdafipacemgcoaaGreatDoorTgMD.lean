/- Contracts. No condition. -/
import Derived.Test.YtdafipacemgcoaaGreatDoorTeMD
open Int renaming cast_ofNat_Int -> bX, natCast_zero -> aH
open Go.IntKind renaming i64 -> aj, u32 -> ay, u64 -> bd, wrap_u64 -> cz
open List renaming cons -> io, cons_append -> bU, length_append -> ah, length_cons -> av, length_replicate -> bQ, nil_append -> bw, replicate -> au, take -> dj
open Nat renaming lt_or_ge -> bH, zero_add -> bC
open UInt8 renaming ofInt -> dO, ofNat -> ej
set_option maxRecDepth 100000
set_option maxHeartbeats 16000000
set_option linter.unusedSimpArgs false
set_option linter.unusedVariables false
namespace Go.Proofs.YtdafipacemgcoaaGreatDoor
open Go.Sy
open UInt8 renaming reduceLT -> Q0, reduceLE -> Q1
open Int renaming reduceToNat -> Q2, reduceLE -> Q3, reduceLT -> Q4, reduceEq -> Q5, reduceNe -> Q6, reduceNeg -> Q7, reduceAdd -> Q8, reduceSub -> Q9, reduceMul -> Qa
open Nat renaming reducePow -> Qb, reduceDiv -> Qc, reduceMod -> Qd, reduceAdd -> Qe, reduceSub -> Qf, reduceMul -> Qg, reduceLT -> Qh, reduceLeDiff -> Qi, reduceEqDiff -> Qj, reduceBEq -> Qk
theorem iy:∀v,v<100->cs2.getD (2*v) 0=dg (v/10)/\cs2.getD (2*v+1) 0=dg (v % 10):=by decide
theorem xau:∀v,v<100->(cs2.take (2*v+2)).drop (2*v)=[dg (v/10),dg (v % 10)]:=by decide
theorem xdf:∀v,v<10->(cs1.take (v+1)).drop v=[dg v]:=by decide
theorem kT:cs2.length=200:=rfl
theorem QA:cs1.length=36:=rfl
theorem QB:cs0.length=256:=rfl
theorem xkq{n:Nat}(h:10<=n)(z:n<100):dec n=[dg (n/10),dg (n % 10)]:=by rw[b9 (by omega),fk (by omega)];rfl
theorem xj2(n:Nat)(h:n<100):call T 155 [.int .i64 n] [] 0=some ⟨.str (dec n),[],[]⟩:=by
 have I:aj.wrap ((n:Int)+1)=((n+1:Nat):Int):=cA n (by omega);have F:aj.wrap ((n:Int)*2)=((2*n:Nat):Int):=wZ (by omega)
 have E:aj.wrap (((2*n:Nat):Int)+2)=((2*n+2:Nat):Int):=wZ (by omega)
 have J:=QA;have H:=kT;rw[az xgm]
 by_cases C:n<10
 ·have z:(n:Int)<10:=by omega
  have B:=xdf n C;have k1:n<=n+1:=by omega
  have k2:((n+1:Nat):Int)<=36:=by omega
  rw[fk C];simp only[go_sem,Q0,Q1,Q2,Q3,Q4,Q5,Q6,Q7,Q8,Q9,Qa,Qb,Qc,Qd,Qe,Qf,Qg,Qh,Qi,Qj,Qk,reduceCtorEq,reduceIte,z,I,J,k1,k2,B]
 ·have z:¬(n:Int)<10:=by omega
  have B:=xau n h;have k1:2*n<=2*n+2:=by omega
  have k2:((2*n+2:Nat):Int)<=200:=by omega
  rw[xkq (by omega) h];simp only[go_sem,Q0,Q1,Q2,Q3,Q4,Q5,Q6,Q7,Q8,Q9,Qa,Qb,Qc,Qd,Qe,Qf,Qg,Qh,Qi,Qj,Qk,reduceCtorEq,reduceIte,z,F,E,H,k1,k2,B]
def bl8(v:Nat):Nat:=(cs0.getD v 0).toNat
theorem tx:∀v,v<256->bl8 v<=8/\(v=0\/(1<=bl8 v/\2^(bl8 v-1)<=v))/\v<2^bl8 v:=by unfold bl8;decide
def oK(u:Nat):Nat:=if u<256 then bl8 u else if u<65536 then 8+bl8 (u/256)else 16+bl8 (u/65536)
theorem xj4(u:Nat)(h:u<16777216):call T 152 [.int .u64 u] [] 0=some ⟨.int .i64 (oK u:Nat),[],[]⟩:=by
 have J:¬(4294967296:Int)<=(u:Nat):=by omega
 have O:=QB;have b0:∀v,v<256->bl8 v<=8:=fun v Q=>(tx v Q).1
 have L:∀a b:Nat,a<=100->b<=8->aj.wrap ((a:Int)+(b:Int))=((a+b:Nat):Int):=fun a b ha Z=>by rw[w64 (by omega) (by omega)];omega
 have u8:∀v:Nat,v<256->(dO (v:Int)).toNat=v:=fun v Q=>by show(ej ((v:Int) % 256).toNat).toNat=v;rw[show((v:Int) % 256).toNat=v from by omega];simp;omega
 rw[az YK];unfold oK;have W:Int.fdiv (u:Int) (2^8)=((u/256:Nat):Int):=by rw[Int.fdiv_eq_ediv_of_nonneg _ (by decide)];rfl
 have I:Int.fdiv (u:Int) (2^16)=((u/65536:Nat):Int):=by rw[Int.fdiv_eq_ediv_of_nonneg _ (by decide)];rfl
 have m8:min 8 64=8:=rfl;have m16:min 16 64=16:=rfl
 by_cases F:u<256
 ·have C:¬(65536:Int)<=(u:Nat):=by omega
  have E:¬(256:Int)<=(u:Nat):=by omega
  have q:=u8 u F;have hi:(u:Int)<256:=by omega
  have z:=L 0 (bl8 u) (by omega) (b0 u F);rw[bC,aH]at z;unfold bl8 at z ⊢;simp only[go_sem,Q0,Q1,Q2,Q3,Q4,Q5,Q6,Q7,Q8,Q9,Qa,Qb,Qc,Qd,Qe,Qf,Qg,Qh,Qi,Qj,Qk,reduceCtorEq,reduceIte,J,C,E,F,q,O,hi,z]
 ·by_cases S:u<65536
  ·have C:¬(65536:Int)<=(u:Nat):=by omega
   have E:(256:Int)<=(u:Nat):=by omega
   have B:u/256<256:=by omega
   have q:=u8 (u/256) B;have hi:((u/256:Nat):Int)<256:=by omega
   have U:aj.wrap 8=8:=rfl;have z:=L 8 (bl8 (u/256)) (by omega) (b0 _ B);simp only[bX]at z;unfold bl8 at z ⊢;simp only[go_sem,Q0,Q1,Q2,Q3,Q4,Q5,Q6,Q7,Q8,Q9,Qa,Qb,Qc,Qd,Qe,Qf,Qg,Qh,Qi,Qj,Qk,reduceCtorEq,reduceIte,J,C,E,F,S,q,O,B,hi,U,z,W,m8]
  ·have C:(65536:Int)<=(u:Nat):=by omega
   have B:u/65536<256:=by omega
   have E:¬(256:Int)<=((u/65536:Nat):Int):=by omega
   have q:=u8 (u/65536) B;have hi:((u/65536:Nat):Int)<256:=by omega
   have H:aj.wrap 16=16:=rfl;have z:=L 16 (bl8 (u/65536)) (by omega) (b0 _ B);simp only[bX]at z;unfold bl8 at z ⊢;simp only[go_sem,Q0,Q1,Q2,Q3,Q4,Q5,Q6,Q7,Q8,Q9,Qa,Qb,Qc,Qd,Qe,Qf,Qg,Qh,Qi,Qj,Qk,reduceCtorEq,reduceIte,J,C,E,F,S,q,O,B,hi,H,z,I,m16]
theorem QO(u:Nat)(h:u<16777216)(F:1<=u):1<=oK u/\oK u<=24/\2^(oK u-1)<=u/\u<2^oK u:=by
 unfold oK
 by_cases C:u<256
 ·rw[if_pos C]
  obtain⟨a,b,c⟩:=tx u C;omega
 ·rw[if_neg C]
  by_cases E:u<65536
  ·rw[if_pos E]
   obtain⟨a,b,c⟩:=tx (u/256) (by omega);have d:1<=bl8 (u/256)/\2^(bl8 (u/256)-1)<=u/256:=by omega
   obtain⟨d1,d2⟩:=d;generalize bl8 (u/256)=k at*;have B:2^(8+k-1)=256*2^(k-1):=by rw[show 8+k-1=8+(k-1)from by omega,Nat.pow_add]
   have z:2^(8+k)=256*2^k:=by rw[Nat.pow_add]
   rw[B,z];omega
  ·rw[if_neg E]
   obtain⟨a,b,c⟩:=tx (u/65536) (by omega);have d:1<=bl8 (u/65536)/\2^(bl8 (u/65536)-1)<=u/65536:=by omega
   obtain⟨d1,d2⟩:=d;generalize bl8 (u/65536)=k at*;have B:2^(16+k-1)=65536*2^(k-1):=by rw[show 16+k-1=16+(k-1)from by omega,Nat.pow_add]
   have z:2^(16+k)=65536*2^k:=by rw[Nat.pow_add]
   rw[B,z];omega
def nd(u:Nat):Nat:=if u<1000 then 3 else if u<10000 then 4 else if u<100000 then 5 else if u<1000000 then 6 else 7
theorem xjX(k:Nat)(h:k<=24):call T 178 [.int .i64 k] [] 0=some ⟨.int .i64 (k*78913/262144:Nat),[],[]⟩:=by
 have z:aj.wrap ((k:Int)*78913)=((k*78913:Nat):Int):=wZ (by omega)
 have B:Int.fdiv ((k*78913:Nat):Int) (2^18)=((k*78913/262144:Nat):Int):=by rw[Int.fdiv_eq_ediv_of_nonneg _ (by decide)];rfl
 have m:min 18 64=18:=rfl;rw[az xgf];simp only[go_sem,Q0,Q1,Q2,Q3,Q4,Q5,Q6,Q7,Q8,Q9,Qa,Qb,Qc,Qd,Qe,Qf,Qg,Qh,Qi,Qj,Qk,reduceCtorEq,reduceIte,z,B,m]
theorem xif(b:Bool):call T 179 [.bool b] [] 0=some ⟨.int .i64 (if b=true then 1 else 0),[],[]⟩:=by rw[az xge];cases b<;>simp only[go_sem,Q0,Q1,Q2,Q3,Q4,Q5,Q6,Q7,Q8,Q9,Qa,Qb,Qc,Qd,Qe,Qf,Qg,Qh,Qi,Qj,Qk,reduceCtorEq,reduceIte]
theorem xj1(u:Nat)(h0:100<=u)(h:u<10000000):call T 156 [.int .u64 u] [] 0=some ⟨.int .i64 (nd u:Nat),[],[]⟩:=by
 obtain⟨b1,L,b3,b4⟩:=QO u (by omega) (by omega);have F:=xj4 u (by omega);have E:=xjX (oK u) L;have H:=xif true;have I:=xif false
 have k7:7<=oK u:=by
  rcases bH (oK u) 7 with C|C
  ·have:2^oK u<=2^6:=Nat.pow_le_pow_right (by omega) (by omega)
   omega
  ·exact C
 have J:∀v,oK u*78913/262144=v->10^v<=u*10->u<10^(v+1)->2<=v->v<=7->call T 156 [.int .u64 u] [] 0=some ⟨.int .i64 (nd u:Nat),[],[]⟩:=by
  intro v hv O S h3 h4;rw[hv]at E;have W:v=2\/v=3\/v=4\/v=5\/v=6\/v=7:=by omega
  rw[az xgl];generalize oK u=bb at*;unfold nd;rcases W with rfl|rfl|rfl|rfl|rfl|rfl
  ·have B:aj.wrap 2=2:=rfl
   have z:aj.wrap 3=3:=rfl;simp only[bX]at E
   by_cases C:(100:Int)<=(u:Nat)
   ·have hn:(if u<1000 then 3 else if u<10000 then 4 else if u<100000 then 5 else if u<1000000 then 6 else 7)=3:=by
     repeat' split
     all_goals omega
    rw[hn];simp only[go_sem,Q0,Q1,Q2,Q3,Q4,Q5,Q6,Q7,Q8,Q9,Qa,Qb,Qc,Qd,Qe,Qf,Qg,Qh,Qi,Qj,Qk,reduceCtorEq,reduceIte,F,jJ,E,kC,iQ,C,H,kz,B,z]
   ·have hn:(if u<1000 then 3 else if u<10000 then 4 else if u<100000 then 5 else if u<1000000 then 6 else 7)=2:=by
     repeat' split
     all_goals omega
    rw[hn];simp only[go_sem,Q0,Q1,Q2,Q3,Q4,Q5,Q6,Q7,Q8,Q9,Qa,Qb,Qc,Qd,Qe,Qf,Qg,Qh,Qi,Qj,Qk,reduceCtorEq,reduceIte,F,jJ,E,kC,iQ,C,I,kz,B,z]
  ·have B:aj.wrap 3=3:=rfl
   have z:aj.wrap 4=4:=rfl;simp only[bX]at E
   by_cases C:(1000:Int)<=(u:Nat)
   ·have hn:(if u<1000 then 3 else if u<10000 then 4 else if u<100000 then 5 else if u<1000000 then 6 else 7)=4:=by
     repeat' split
     all_goals omega
    rw[hn];simp only[go_sem,Q0,Q1,Q2,Q3,Q4,Q5,Q6,Q7,Q8,Q9,Qa,Qb,Qc,Qd,Qe,Qf,Qg,Qh,Qi,Qj,Qk,reduceCtorEq,reduceIte,F,jJ,E,kC,iQ,C,H,kz,B,z]
   ·have hn:(if u<1000 then 3 else if u<10000 then 4 else if u<100000 then 5 else if u<1000000 then 6 else 7)=3:=by
     repeat' split
     all_goals omega
    rw[hn];simp only[go_sem,Q0,Q1,Q2,Q3,Q4,Q5,Q6,Q7,Q8,Q9,Qa,Qb,Qc,Qd,Qe,Qf,Qg,Qh,Qi,Qj,Qk,reduceCtorEq,reduceIte,F,jJ,E,kC,iQ,C,I,kz,B,z]
  ·have B:aj.wrap 4=4:=rfl
   have z:aj.wrap 5=5:=rfl;simp only[bX]at E
   by_cases C:(10000:Int)<=(u:Nat)
   ·have hn:(if u<1000 then 3 else if u<10000 then 4 else if u<100000 then 5 else if u<1000000 then 6 else 7)=5:=by
     repeat' split
     all_goals omega
    rw[hn];simp only[go_sem,Q0,Q1,Q2,Q3,Q4,Q5,Q6,Q7,Q8,Q9,Qa,Qb,Qc,Qd,Qe,Qf,Qg,Qh,Qi,Qj,Qk,reduceCtorEq,reduceIte,F,jJ,E,kC,iQ,C,H,kz,B,z]
   ·have hn:(if u<1000 then 3 else if u<10000 then 4 else if u<100000 then 5 else if u<1000000 then 6 else 7)=4:=by
     repeat' split
     all_goals omega
    rw[hn];simp only[go_sem,Q0,Q1,Q2,Q3,Q4,Q5,Q6,Q7,Q8,Q9,Qa,Qb,Qc,Qd,Qe,Qf,Qg,Qh,Qi,Qj,Qk,reduceCtorEq,reduceIte,F,jJ,E,kC,iQ,C,I,kz,B,z]
  ·have B:aj.wrap 5=5:=rfl
   have z:aj.wrap 6=6:=rfl;simp only[bX]at E
   by_cases C:(100000:Int)<=(u:Nat)
   ·have hn:(if u<1000 then 3 else if u<10000 then 4 else if u<100000 then 5 else if u<1000000 then 6 else 7)=6:=by
     repeat' split
     all_goals omega
    rw[hn];simp only[go_sem,Q0,Q1,Q2,Q3,Q4,Q5,Q6,Q7,Q8,Q9,Qa,Qb,Qc,Qd,Qe,Qf,Qg,Qh,Qi,Qj,Qk,reduceCtorEq,reduceIte,F,jJ,E,kC,iQ,C,H,kz,B,z]
   ·have hn:(if u<1000 then 3 else if u<10000 then 4 else if u<100000 then 5 else if u<1000000 then 6 else 7)=5:=by
     repeat' split
     all_goals omega
    rw[hn];simp only[go_sem,Q0,Q1,Q2,Q3,Q4,Q5,Q6,Q7,Q8,Q9,Qa,Qb,Qc,Qd,Qe,Qf,Qg,Qh,Qi,Qj,Qk,reduceCtorEq,reduceIte,F,jJ,E,kC,iQ,C,I,kz,B,z]
  ·have B:aj.wrap 6=6:=rfl
   have z:aj.wrap 7=7:=rfl;simp only[bX]at E
   by_cases C:(1000000:Int)<=(u:Nat)
   ·have hn:(if u<1000 then 3 else if u<10000 then 4 else if u<100000 then 5 else if u<1000000 then 6 else 7)=7:=by
     repeat' split
     all_goals omega
    rw[hn];simp only[go_sem,Q0,Q1,Q2,Q3,Q4,Q5,Q6,Q7,Q8,Q9,Qa,Qb,Qc,Qd,Qe,Qf,Qg,Qh,Qi,Qj,Qk,reduceCtorEq,reduceIte,F,jJ,E,kC,iQ,C,H,kz,B,z]
   ·have hn:(if u<1000 then 3 else if u<10000 then 4 else if u<100000 then 5 else if u<1000000 then 6 else 7)=6:=by
     repeat' split
     all_goals omega
    rw[hn];simp only[go_sem,Q0,Q1,Q2,Q3,Q4,Q5,Q6,Q7,Q8,Q9,Qa,Qb,Qc,Qd,Qe,Qf,Qg,Qh,Qi,Qj,Qk,reduceCtorEq,reduceIte,F,jJ,E,kC,iQ,C,I,kz,B,z]
  ·have B:aj.wrap 7=7:=rfl
   have z:aj.wrap 8=8:=rfl;simp only[bX]at E
   by_cases C:(10000000:Int)<=(u:Nat)
   ·have hn:(if u<1000 then 3 else if u<10000 then 4 else if u<100000 then 5 else if u<1000000 then 6 else 7)=8:=by
     repeat' split
     all_goals omega
    rw[hn];simp only[go_sem,Q0,Q1,Q2,Q3,Q4,Q5,Q6,Q7,Q8,Q9,Qa,Qb,Qc,Qd,Qe,Qf,Qg,Qh,Qi,Qj,Qk,reduceCtorEq,reduceIte,F,jJ,E,kC,iQ,C,H,kz,B,z]
   ·have hn:(if u<1000 then 3 else if u<10000 then 4 else if u<100000 then 5 else if u<1000000 then 6 else 7)=7:=by
     repeat' split
     all_goals omega
    rw[hn];simp only[go_sem,Q0,Q1,Q2,Q3,Q4,Q5,Q6,Q7,Q8,Q9,Qa,Qb,Qc,Qd,Qe,Qf,Qg,Qh,Qi,Qj,Qk,reduceCtorEq,reduceIte,F,jJ,E,kC,iQ,C,I,kz,B,z]
 have Q:∀k,7<=k->k<=24->2^(k-1)<10000000->10^(k*78913/262144)<=2^(k-1)*10/\2^k<=10^(k*78913/262144+1)/\2<=k*78913/262144/\k*78913/262144<=7:=by
  intro k O S h3;have hd:∀k,k<25->7<=k->10^(k*78913/262144)<=2^(k-1)*10/\2^k<=10^(k*78913/262144+1)/\2<=k*78913/262144/\k*78913/262144<=7:=by decide
  exact hd k (by omega) O
 obtain⟨c1,c2,U,Z⟩:=Q (oK u) k7 L (by omega);exact J _ rfl (by omega) (by omega) U Z
theorem eY(k:Nat)(h:k<4294967296):ay.wrap (k:Int)=(k:Int):=by rw[IntKind.wrap_u32];omega
theorem xc1(u:Nat)(h1:100<=u)(h2:u<1000):call T 157 [.psl 0 1 1 3 (some 23),.int .u64 u] [.bar (au 24 0)] 0=some ⟨.tup [],[(0,.bar (0::(dec u++au 20 0)))],[]⟩:=by
 have F:cs2.length=200:=by exact kT
 have U:ay.wrap (u:Int)=(u:Int):=by exact eY u (by omega)
 have C:(u:Int).tmod 100=((u % 100:Nat):Int):=by rfl
 have I:(u:Int).tdiv 100=((u/100:Nat):Int):=by rfl
 have b2:ay.wrap ((u/100:Nat):Int)=((u/100:Nat):Int):=by exact eY _ (by omega)
 have S:ay.wrap ((((u % 100):Nat):Int)*2)=((2*(u % 100):Nat):Int):=by rw[show(((u % 100):Nat):Int)*2=((2*(u % 100):Nat):Int)from by omega];exact eY _ (by omega)
 have O:ay.wrap (((2*(u % 100):Nat):Int)+1)=((2*(u % 100)+1:Nat):Int):=by rw[show((2*(u % 100):Nat):Int)+1=((2*(u % 100)+1:Nat):Int)from by omega];exact eY _ (by omega)
 have z:cs2.getD (2*(u % 100)) 0=dg ((u % 100)/10)/\cs2.getD (2*(u % 100)+1) 0=dg ((u % 100) % 10):=by exact iy _ (by omega)
 have B:((2*(u % 100):Nat):Int)<200/\((2*(u % 100)+1:Nat):Int)<200:=by omega
 have z1:ay.wrap (48+(((u/100):Nat):Int))=((48+(u/100):Nat):Int):=by rw[show 48+(((u/100):Nat):Int)=((48+(u/100):Nat):Int)from by omega];exact eY _ (by omega)
 have Q:dO ((48+(u/100):Nat):Int)=dg (u/100):=by rfl
 have hd:dec u=[dg ((u/100)),dg ((u % 100)/10),dg ((u % 100) % 10)]:=by rw[b9 (n:=u) (by omega),b9 (n:=u/10) (by omega),fk (n:=u/10/10) (by omega)];simp only[bw,bU,io.injEq,and_true];exact⟨congrArg dg (by omega),congrArg dg (by omega),congrArg dg (by omega)⟩
 have w0:aj.wrap 0=0:=rfl;have w1:aj.wrap 1=1:=rfl;have W:aj.wrap 2=2:=rfl;have E:aj.wrap 3=3:=rfl;have w4:aj.wrap 4=4:=rfl;have J:aj.wrap 5=5:=rfl;have H:aj.wrap 6=6:=rfl;have Z:aj.wrap 7=7:=rfl;have L:au 24 (0:UInt8)=[0,0,0,0,0,0,0,0,0,0,0,0,0,0,0,0,0,0,0,0,0,0,0,0]:=rfl;have h:au 20 (0:UInt8)=[0,0,0,0,0,0,0,0,0,0,0,0,0,0,0,0,0,0,0,0]:=rfl;rw[hd,L,h,az wL];simp only[go_sem,Q0,Q1,Q2,Q3,Q4,Q5,Q6,Q7,Q8,Q9,Qa,Qb,Qc,Qd,Qe,Qf,Qg,Qh,Qi,Qj,Qk,reduceCtorEq,reduceIte];rw[al];simp only[go_sem,Q0,Q1,Q2,Q3,Q4,Q5,Q6,Q7,Q8,Q9,Qa,Qb,Qc,Qd,Qe,Qf,Qg,Qh,Qi,Qj,Qk,reduceCtorEq,reduceIte,F,U,C,I,b2,S,O,z.1,z.2,B.1,B.2,z1,Q,w0,w1,W,E,w4,J,H,Z]
theorem xc0(u:Nat)(h1:1000<=u)(h2:u<10000):call T 157 [.psl 0 1 1 4 (some 23),.int .u64 u] [.bar (au 24 0)] 0=some ⟨.tup [],[(0,.bar (0::(dec u++au 19 0)))],[]⟩:=by
 have I:cs2.length=200:=by exact kT
 have q0:ay.wrap (u:Int)=(u:Int):=by exact eY u (by omega)
 have F:(u:Int).tmod 10000=((u % 10000:Nat):Int):=by rfl
 have O:(u:Int).tdiv 10000=((u/10000:Nat):Int):=by rfl
 have b2:ay.wrap ((u/10000:Nat):Int)=((u/10000:Nat):Int):=by exact eY _ (by omega)
 have Q:(((u % 10000):Nat):Int).tdiv 100=(((u % 10000)/100:Nat):Int):=by rfl
 have W:ay.wrap (((u % 10000)/100:Nat):Int)=(((u % 10000)/100:Nat):Int):=by exact eY _ (by omega)
 have Z:(((u % 10000):Nat):Int).tmod 100=(((u % 10000) % 100:Nat):Int):=by rfl
 have c5:ay.wrap (((((u % 10000)/100):Nat):Int)*2)=((2*((u % 10000)/100):Nat):Int):=by rw[show((((u % 10000)/100):Nat):Int)*2=((2*((u % 10000)/100):Nat):Int)from by omega];exact eY _ (by omega)
 have d5:ay.wrap (((2*((u % 10000)/100):Nat):Int)+1)=((2*((u % 10000)/100)+1:Nat):Int):=by rw[show((2*((u % 10000)/100):Nat):Int)+1=((2*((u % 10000)/100)+1:Nat):Int)from by omega];exact eY _ (by omega)
 have E:cs2.getD (2*((u % 10000)/100)) 0=dg (((u % 10000)/100)/10)/\cs2.getD (2*((u % 10000)/100)+1) 0=dg (((u % 10000)/100) % 10):=by exact iy _ (by omega)
 have C:((2*((u % 10000)/100):Nat):Int)<200/\((2*((u % 10000)/100)+1:Nat):Int)<200:=by omega
 have L:ay.wrap (((((u % 10000) % 100):Nat):Int)*2)=((2*((u % 10000) % 100):Nat):Int):=by rw[show((((u % 10000) % 100):Nat):Int)*2=((2*((u % 10000) % 100):Nat):Int)from by omega];exact eY _ (by omega)
 have d6:ay.wrap (((2*((u % 10000) % 100):Nat):Int)+1)=((2*((u % 10000) % 100)+1:Nat):Int):=by rw[show((2*((u % 10000) % 100):Nat):Int)+1=((2*((u % 10000) % 100)+1:Nat):Int)from by omega];exact eY _ (by omega)
 have z:cs2.getD (2*((u % 10000) % 100)) 0=dg (((u % 10000) % 100)/10)/\cs2.getD (2*((u % 10000) % 100)+1) 0=dg (((u % 10000) % 100) % 10):=by exact iy _ (by omega)
 have B:((2*((u % 10000) % 100):Nat):Int)<200/\((2*((u % 10000) % 100)+1:Nat):Int)<200:=by omega
 have hd:dec u=[dg (((u % 10000)/100)/10),dg (((u % 10000)/100) % 10),dg (((u % 10000) % 100)/10),dg (((u % 10000) % 100) % 10)]:=by rw[b9 (n:=u) (by omega),b9 (n:=u/10) (by omega),b9 (n:=u/10/10) (by omega),fk (n:=u/10/10/10) (by omega)];simp only[bw,bU,io.injEq,and_true];exact⟨congrArg dg (by omega),congrArg dg (by omega),congrArg dg (by omega),congrArg dg (by omega)⟩
 have w0:aj.wrap 0=0:=rfl;have w1:aj.wrap 1=1:=rfl;have w2:aj.wrap 2=2:=rfl;have H:aj.wrap 3=3:=rfl;have w4:aj.wrap 4=4:=rfl;have S:aj.wrap 5=5:=rfl;have J:aj.wrap 6=6:=rfl;have w7:aj.wrap 7=7:=rfl;have U:au 24 (0:UInt8)=[0,0,0,0,0,0,0,0,0,0,0,0,0,0,0,0,0,0,0,0,0,0,0,0]:=rfl;have h:au 19 (0:UInt8)=[0,0,0,0,0,0,0,0,0,0,0,0,0,0,0,0,0,0,0]:=rfl;rw[hd,U,h,az wL];simp only[go_sem,Q0,Q1,Q2,Q3,Q4,Q5,Q6,Q7,Q8,Q9,Qa,Qb,Qc,Qd,Qe,Qf,Qg,Qh,Qi,Qj,Qk,reduceCtorEq,reduceIte];rw[al];simp only[go_sem,Q0,Q1,Q2,Q3,Q4,Q5,Q6,Q7,Q8,Q9,Qa,Qb,Qc,Qd,Qe,Qf,Qg,Qh,Qi,Qj,Qk,reduceCtorEq,reduceIte,I,q0,F,O,b2,Q,W,Z,c5,d5,E.1,E.2,C.1,C.2,L,d6,z.1,z.2,B.1,B.2,w0,w1,w2,H,w4,S,J,w7]
theorem xcZ(u:Nat)(h1:10000<=u)(h2:u<100000):call T 157 [.psl 0 1 1 5 (some 23),.int .u64 u] [.bar (au 24 0)] 0=some ⟨.tup [],[(0,.bar (0::(dec u++au 18 0)))],[]⟩:=by
 have I:cs2.length=200:=by exact kT
 have q0:ay.wrap (u:Int)=(u:Int):=by exact eY u (by omega)
 have F:(u:Int).tmod 10000=((u % 10000:Nat):Int):=by rfl
 have O:(u:Int).tdiv 10000=((u/10000:Nat):Int):=by rfl
 have b2:ay.wrap ((u/10000:Nat):Int)=((u/10000:Nat):Int):=by exact eY _ (by omega)
 have Q:(((u % 10000):Nat):Int).tdiv 100=(((u % 10000)/100:Nat):Int):=by rfl
 have W:ay.wrap (((u % 10000)/100:Nat):Int)=(((u % 10000)/100:Nat):Int):=by exact eY _ (by omega)
 have a4:(((u % 10000):Nat):Int).tmod 100=(((u % 10000) % 100:Nat):Int):=by rfl
 have c5:ay.wrap (((((u % 10000)/100):Nat):Int)*2)=((2*((u % 10000)/100):Nat):Int):=by rw[show((((u % 10000)/100):Nat):Int)*2=((2*((u % 10000)/100):Nat):Int)from by omega];exact eY _ (by omega)
 have d5:ay.wrap (((2*((u % 10000)/100):Nat):Int)+1)=((2*((u % 10000)/100)+1:Nat):Int):=by rw[show((2*((u % 10000)/100):Nat):Int)+1=((2*((u % 10000)/100)+1:Nat):Int)from by omega];exact eY _ (by omega)
 have E:cs2.getD (2*((u % 10000)/100)) 0=dg (((u % 10000)/100)/10)/\cs2.getD (2*((u % 10000)/100)+1) 0=dg (((u % 10000)/100) % 10):=by exact iy _ (by omega)
 have C:((2*((u % 10000)/100):Nat):Int)<200/\((2*((u % 10000)/100)+1:Nat):Int)<200:=by omega
 have L:ay.wrap (((((u % 10000) % 100):Nat):Int)*2)=((2*((u % 10000) % 100):Nat):Int):=by rw[show((((u % 10000) % 100):Nat):Int)*2=((2*((u % 10000) % 100):Nat):Int)from by omega];exact eY _ (by omega)
 have d6:ay.wrap (((2*((u % 10000) % 100):Nat):Int)+1)=((2*((u % 10000) % 100)+1:Nat):Int):=by rw[show((2*((u % 10000) % 100):Nat):Int)+1=((2*((u % 10000) % 100)+1:Nat):Int)from by omega];exact eY _ (by omega)
 have z:cs2.getD (2*((u % 10000) % 100)) 0=dg (((u % 10000) % 100)/10)/\cs2.getD (2*((u % 10000) % 100)+1) 0=dg (((u % 10000) % 100) % 10):=by exact iy _ (by omega)
 have B:((2*((u % 10000) % 100):Nat):Int)<200/\((2*((u % 10000) % 100)+1:Nat):Int)<200:=by omega
 have z1:ay.wrap (48+(((u/10000):Nat):Int))=((48+(u/10000):Nat):Int):=by rw[show 48+(((u/10000):Nat):Int)=((48+(u/10000):Nat):Int)from by omega];exact eY _ (by omega)
 have Z:dO ((48+(u/10000):Nat):Int)=dg (u/10000):=by rfl
 have hd:dec u=[dg ((u/10000)),dg (((u % 10000)/100)/10),dg (((u % 10000)/100) % 10),dg (((u % 10000) % 100)/10),dg (((u % 10000) % 100) % 10)]:=by rw[b9 (n:=u) (by omega),b9 (n:=u/10) (by omega),b9 (n:=u/10/10) (by omega),b9 (n:=u/10/10/10) (by omega),fk (n:=u/10/10/10/10) (by omega)];simp only[bw,bU,io.injEq,and_true];exact⟨congrArg dg (by omega),congrArg dg (by omega),congrArg dg (by omega),congrArg dg (by omega),congrArg dg (by omega)⟩
 have w0:aj.wrap 0=0:=rfl;have w1:aj.wrap 1=1:=rfl;have w2:aj.wrap 2=2:=rfl;have H:aj.wrap 3=3:=rfl;have w4:aj.wrap 4=4:=rfl;have S:aj.wrap 5=5:=rfl;have J:aj.wrap 6=6:=rfl;have w7:aj.wrap 7=7:=rfl;have U:au 24 (0:UInt8)=[0,0,0,0,0,0,0,0,0,0,0,0,0,0,0,0,0,0,0,0,0,0,0,0]:=rfl;have h:au 18 (0:UInt8)=[0,0,0,0,0,0,0,0,0,0,0,0,0,0,0,0,0,0]:=rfl;rw[hd,U,h,az wL];simp only[go_sem,Q0,Q1,Q2,Q3,Q4,Q5,Q6,Q7,Q8,Q9,Qa,Qb,Qc,Qd,Qe,Qf,Qg,Qh,Qi,Qj,Qk,reduceCtorEq,reduceIte];rw[al];simp only[go_sem,Q0,Q1,Q2,Q3,Q4,Q5,Q6,Q7,Q8,Q9,Qa,Qb,Qc,Qd,Qe,Qf,Qg,Qh,Qi,Qj,Qk,reduceCtorEq,reduceIte,I,q0,F,O,b2,Q,W,a4,c5,d5,E.1,E.2,C.1,C.2,L,d6,z.1,z.2,B.1,B.2,z1,Z,w0,w1,w2,H,w4,S,J,w7]
theorem xcY(u:Nat)(h1:100000<=u)(h2:u<1000000):call T 157 [.psl 0 1 1 6 (some 23),.int .u64 u] [.bar (au 24 0)] 0=some ⟨.tup [],[(0,.bar (0::(dec u++au 17 0)))],[]⟩:=by
 have J:cs2.length=200:=by exact kT
 have q0:ay.wrap (u:Int)=(u:Int):=by exact eY u (by omega)
 have H:(u:Int).tmod 10000=((u % 10000:Nat):Int):=by rfl
 have S:(u:Int).tdiv 10000=((u/10000:Nat):Int):=by rfl
 have b2:ay.wrap ((u/10000:Nat):Int)=((u/10000:Nat):Int):=by exact eY _ (by omega)
 have U:(((u % 10000):Nat):Int).tdiv 100=(((u % 10000)/100:Nat):Int):=by rfl
 have b3:ay.wrap (((u % 10000)/100:Nat):Int)=(((u % 10000)/100:Nat):Int):=by exact eY _ (by omega)
 have a4:(((u % 10000):Nat):Int).tmod 100=(((u % 10000) % 100:Nat):Int):=by rfl
 have c5:ay.wrap (((((u % 10000)/100):Nat):Int)*2)=((2*((u % 10000)/100):Nat):Int):=by rw[show((((u % 10000)/100):Nat):Int)*2=((2*((u % 10000)/100):Nat):Int)from by omega];exact eY _ (by omega)
 have d5:ay.wrap (((2*((u % 10000)/100):Nat):Int)+1)=((2*((u % 10000)/100)+1:Nat):Int):=by rw[show((2*((u % 10000)/100):Nat):Int)+1=((2*((u % 10000)/100)+1:Nat):Int)from by omega];exact eY _ (by omega)
 have E:cs2.getD (2*((u % 10000)/100)) 0=dg (((u % 10000)/100)/10)/\cs2.getD (2*((u % 10000)/100)+1) 0=dg (((u % 10000)/100) % 10):=by exact iy _ (by omega)
 have C:((2*((u % 10000)/100):Nat):Int)<200/\((2*((u % 10000)/100)+1:Nat):Int)<200:=by omega
 have O:ay.wrap (((((u % 10000) % 100):Nat):Int)*2)=((2*((u % 10000) % 100):Nat):Int):=by rw[show((((u % 10000) % 100):Nat):Int)*2=((2*((u % 10000) % 100):Nat):Int)from by omega];exact eY _ (by omega)
 have d6:ay.wrap (((2*((u % 10000) % 100):Nat):Int)+1)=((2*((u % 10000) % 100)+1:Nat):Int):=by rw[show((2*((u % 10000) % 100):Nat):Int)+1=((2*((u % 10000) % 100)+1:Nat):Int)from by omega];exact eY _ (by omega)
 have z:cs2.getD (2*((u % 10000) % 100)) 0=dg (((u % 10000) % 100)/10)/\cs2.getD (2*((u % 10000) % 100)+1) 0=dg (((u % 10000) % 100) % 10):=by exact iy _ (by omega)
 have B:((2*((u % 10000) % 100):Nat):Int)<200/\((2*((u % 10000) % 100)+1:Nat):Int)<200:=by omega
 have a7:(((u/10000):Nat):Int).tmod 100=(((u/10000) % 100:Nat):Int):=by rfl
 have a8:(((u/10000):Nat):Int).tdiv 100=(((u/10000)/100:Nat):Int):=by rfl
 have L:ay.wrap (((u/10000)/100:Nat):Int)=(((u/10000)/100:Nat):Int):=by exact eY _ (by omega)
 have c9:ay.wrap (((((u/10000) % 100):Nat):Int)*2)=((2*((u/10000) % 100):Nat):Int):=by rw[show((((u/10000) % 100):Nat):Int)*2=((2*((u/10000) % 100):Nat):Int)from by omega];exact eY _ (by omega)
 have d9:ay.wrap (((2*((u/10000) % 100):Nat):Int)+1)=((2*((u/10000) % 100)+1:Nat):Int):=by rw[show((2*((u/10000) % 100):Nat):Int)+1=((2*((u/10000) % 100)+1:Nat):Int)from by omega];exact eY _ (by omega)
 have F:cs2.getD (2*((u/10000) % 100)) 0=dg (((u/10000) % 100)/10)/\cs2.getD (2*((u/10000) % 100)+1) 0=dg (((u/10000) % 100) % 10):=by exact iy _ (by omega)
 have f9:((2*((u/10000) % 100):Nat):Int)<200/\((2*((u/10000) % 100)+1:Nat):Int)<200:=by omega
 have hd:dec u=[dg (((u/10000) % 100)/10),dg (((u/10000) % 100) % 10),dg (((u % 10000)/100)/10),dg (((u % 10000)/100) % 10),dg (((u % 10000) % 100)/10),dg (((u % 10000) % 100) % 10)]:=by rw[b9 (n:=u) (by omega),b9 (n:=u/10) (by omega),b9 (n:=u/10/10) (by omega),b9 (n:=u/10/10/10) (by omega),b9 (n:=u/10/10/10/10) (by omega),fk (n:=u/10/10/10/10/10) (by omega)];simp only[bw,bU,io.injEq,and_true];exact⟨congrArg dg (by omega),congrArg dg (by omega),congrArg dg (by omega),congrArg dg (by omega),congrArg dg (by omega),congrArg dg (by omega)⟩
 have w0:aj.wrap 0=0:=rfl;have w1:aj.wrap 1=1:=rfl;have w2:aj.wrap 2=2:=rfl;have I:aj.wrap 3=3:=rfl;have w4:aj.wrap 4=4:=rfl;have W:aj.wrap 5=5:=rfl;have Q:aj.wrap 6=6:=rfl;have w7:aj.wrap 7=7:=rfl;have Z:au 24 (0:UInt8)=[0,0,0,0,0,0,0,0,0,0,0,0,0,0,0,0,0,0,0,0,0,0,0,0]:=rfl;have h:au 17 (0:UInt8)=[0,0,0,0,0,0,0,0,0,0,0,0,0,0,0,0,0]:=rfl;rw[hd,Z,h,az wL];simp only[go_sem,Q0,Q1,Q2,Q3,Q4,Q5,Q6,Q7,Q8,Q9,Qa,Qb,Qc,Qd,Qe,Qf,Qg,Qh,Qi,Qj,Qk,reduceCtorEq,reduceIte];rw[al];simp only[go_sem,Q0,Q1,Q2,Q3,Q4,Q5,Q6,Q7,Q8,Q9,Qa,Qb,Qc,Qd,Qe,Qf,Qg,Qh,Qi,Qj,Qk,reduceCtorEq,reduceIte,J,q0,H,S,b2,U,b3,a4,c5,d5,E.1,E.2,C.1,C.2,O,d6,z.1,z.2,B.1,B.2,a7,a8,L,c9,d9,F.1,F.2,f9.1,f9.2,w0,w1,w2,I,w4,W,Q,w7]
theorem xcX(u:Nat)(h1:1000000<=u)(h2:u<10000000):call T 157 [.psl 0 1 1 7 (some 23),.int .u64 u] [.bar (au 24 0)] 0=some ⟨.tup [],[(0,.bar (0::(dec u++au 16 0)))],[]⟩:=by
 have Z:cs2.length=200:=by exact kT
 have q0:ay.wrap (u:Int)=(u:Int):=by exact eY u (by omega)
 have W:(u:Int).tmod 10000=((u % 10000:Nat):Int):=by rfl
 have a2:(u:Int).tdiv 10000=((u/10000:Nat):Int):=by rfl
 have b2:ay.wrap ((u/10000:Nat):Int)=((u/10000:Nat):Int):=by exact eY _ (by omega)
 have a3:(((u % 10000):Nat):Int).tdiv 100=(((u % 10000)/100:Nat):Int):=by rfl
 have b3:ay.wrap (((u % 10000)/100:Nat):Int)=(((u % 10000)/100:Nat):Int):=by exact eY _ (by omega)
 have O:(((u % 10000):Nat):Int).tmod 100=(((u % 10000) % 100:Nat):Int):=by rfl
 have c5:ay.wrap (((((u % 10000)/100):Nat):Int)*2)=((2*((u % 10000)/100):Nat):Int):=by rw[show((((u % 10000)/100):Nat):Int)*2=((2*((u % 10000)/100):Nat):Int)from by omega];exact eY _ (by omega)
 have U:ay.wrap (((2*((u % 10000)/100):Nat):Int)+1)=((2*((u % 10000)/100)+1:Nat):Int):=by rw[show((2*((u % 10000)/100):Nat):Int)+1=((2*((u % 10000)/100)+1:Nat):Int)from by omega];exact eY _ (by omega)
 have B:cs2.getD (2*((u % 10000)/100)) 0=dg (((u % 10000)/100)/10)/\cs2.getD (2*((u % 10000)/100)+1) 0=dg (((u % 10000)/100) % 10):=by exact iy _ (by omega)
 have z:((2*((u % 10000)/100):Nat):Int)<200/\((2*((u % 10000)/100)+1:Nat):Int)<200:=by omega
 have J:ay.wrap (((((u % 10000) % 100):Nat):Int)*2)=((2*((u % 10000) % 100):Nat):Int):=by rw[show((((u % 10000) % 100):Nat):Int)*2=((2*((u % 10000) % 100):Nat):Int)from by omega];exact eY _ (by omega)
 have Q:ay.wrap (((2*((u % 10000) % 100):Nat):Int)+1)=((2*((u % 10000) % 100)+1:Nat):Int):=by rw[show((2*((u % 10000) % 100):Nat):Int)+1=((2*((u % 10000) % 100)+1:Nat):Int)from by omega];exact eY _ (by omega)
 have C:cs2.getD (2*((u % 10000) % 100)) 0=dg (((u % 10000) % 100)/10)/\cs2.getD (2*((u % 10000) % 100)+1) 0=dg (((u % 10000) % 100) % 10):=by exact iy _ (by omega)
 have E:((2*((u % 10000) % 100):Nat):Int)<200/\((2*((u % 10000) % 100)+1:Nat):Int)<200:=by omega
 have a7:(((u/10000):Nat):Int).tmod 100=(((u/10000) % 100:Nat):Int):=by rfl
 have a8:(((u/10000):Nat):Int).tdiv 100=(((u/10000)/100:Nat):Int):=by rfl
 have b8:ay.wrap (((u/10000)/100:Nat):Int)=(((u/10000)/100:Nat):Int):=by exact eY _ (by omega)
 have c9:ay.wrap (((((u/10000) % 100):Nat):Int)*2)=((2*((u/10000) % 100):Nat):Int):=by rw[show((((u/10000) % 100):Nat):Int)*2=((2*((u/10000) % 100):Nat):Int)from by omega];exact eY _ (by omega)
 have d9:ay.wrap (((2*((u/10000) % 100):Nat):Int)+1)=((2*((u/10000) % 100)+1:Nat):Int):=by rw[show((2*((u/10000) % 100):Nat):Int)+1=((2*((u/10000) % 100)+1:Nat):Int)from by omega];exact eY _ (by omega)
 have F:cs2.getD (2*((u/10000) % 100)) 0=dg (((u/10000) % 100)/10)/\cs2.getD (2*((u/10000) % 100)+1) 0=dg (((u/10000) % 100) % 10):=by exact iy _ (by omega)
 have f9:((2*((u/10000) % 100):Nat):Int)<200/\((2*((u/10000) % 100)+1:Nat):Int)<200:=by omega
 have z1:ay.wrap (48+((((u/10000)/100):Nat):Int))=((48+((u/10000)/100):Nat):Int):=by rw[show 48+((((u/10000)/100):Nat):Int)=((48+((u/10000)/100):Nat):Int)from by omega];exact eY _ (by omega)
 have L:dO ((48+((u/10000)/100):Nat):Int)=dg ((u/10000)/100):=by rfl
 have hd:dec u=[dg (((u/10000)/100)),dg (((u/10000) % 100)/10),dg (((u/10000) % 100) % 10),dg (((u % 10000)/100)/10),dg (((u % 10000)/100) % 10),dg (((u % 10000) % 100)/10),dg (((u % 10000) % 100) % 10)]:=by rw[b9 (n:=u) (by omega),b9 (n:=u/10) (by omega),b9 (n:=u/10/10) (by omega),b9 (n:=u/10/10/10) (by omega),b9 (n:=u/10/10/10/10) (by omega),b9 (n:=u/10/10/10/10/10) (by omega),fk (n:=u/10/10/10/10/10/10) (by omega)];simp only[bw,bU,io.injEq,and_true];exact⟨congrArg dg (by omega),congrArg dg (by omega),congrArg dg (by omega),congrArg dg (by omega),congrArg dg (by omega),congrArg dg (by omega),congrArg dg (by omega)⟩
 have w0:aj.wrap 0=0:=rfl;have w1:aj.wrap 1=1:=rfl;have w2:aj.wrap 2=2:=rfl;have H:aj.wrap 3=3:=rfl;have w4:aj.wrap 4=4:=rfl;have w5:aj.wrap 5=5:=rfl;have I:aj.wrap 6=6:=rfl;have S:aj.wrap 7=7:=rfl;have hr:au 24 (0:UInt8)=[0,0,0,0,0,0,0,0,0,0,0,0,0,0,0,0,0,0,0,0,0,0,0,0]:=rfl;have h:au 16 (0:UInt8)=[0,0,0,0,0,0,0,0,0,0,0,0,0,0,0,0]:=rfl;rw[hd,hr,h,az wL];simp only[go_sem,Q0,Q1,Q2,Q3,Q4,Q5,Q6,Q7,Q8,Q9,Qa,Qb,Qc,Qd,Qe,Qf,Qg,Qh,Qi,Qj,Qk,reduceCtorEq,reduceIte];rw[al];simp only[go_sem,Q0,Q1,Q2,Q3,Q4,Q5,Q6,Q7,Q8,Q9,Qa,Qb,Qc,Qd,Qe,Qf,Qg,Qh,Qi,Qj,Qk,reduceCtorEq,reduceIte,Z,q0,W,a2,b2,a3,b3,O,c5,U,B.1,B.2,z.1,z.2,J,Q,C.1,C.2,E.1,E.2,a7,a8,b8,c9,d9,F.1,F.2,f9.1,f9.2,z1,L,w0,w1,w2,H,w4,w5,I,S]
theorem xkb(n:Nat)(h:n<10000000):call T 132 [.int .i64 n,.int .i64 10] [] 0=some ⟨.str (dec n),[],[]⟩:=by
 rw[az xgy]
 by_cases S:n<100
 ·have z:(n:Int)<100:=by omega
  have g:=xj2 n S;simp only[go_sem,Q0,Q1,Q2,Q3,Q4,Q5,Q6,Q7,Q8,Q9,Qa,Qb,Qc,Qd,Qe,Qf,Qg,Qh,Qi,Qj,Qk,reduceCtorEq,reduceIte,z,g,xgX]
 ·have z:¬(n:Int)<100:=by omega
  have B:=xj1 n (by omega) h;have L:bd.wrap (n:Int)=(n:Int):=by rw[cz];omega
  have O:¬(n:Int)<0:=by omega
  have E:(nd n=3/\n<1000)\/(nd n=4/\1000<=n/\n<10000)\/(nd n=5/\10000<=n/\n<100000)\/(nd n=6/\100000<=n/\n<1000000)\/(nd n=7/\1000000<=n):=by
   unfold nd
   repeat' split
   all_goals omega
  rcases E with⟨E,Q⟩|⟨E,Q,h4⟩|⟨E,Q,h4⟩|⟨E,Q,h4⟩|⟨E,Q⟩
  ·have H:=xc1 n (by omega) (by omega)
   have C:(dec n).length=3:=by rw[b9 (n:=n) (by omega),b9 (n:=n/10) (by omega),fk (n:=n/10/10) (by omega)];rfl
   have I:dj 3 (dec n++au 20 0)=dec n:=by rw[<-C];exact List.take_left
   have w1:aj.wrap (1+3)=4:=rfl;have F:aj.wrap 4=4:=rfl;have J:3<=(dec n).length+20:=by omega
   rw[E]at B;simp only[bX]at B;simp only[go_sem,Q0,Q1,Q2,Q3,Q4,Q5,Q6,Q7,Q8,Q9,Qa,Qb,Qc,Qd,Qe,Qf,Qg,Qh,Qi,Qj,Qk,reduceCtorEq,reduceIte,z,O,L,B,wR,H,wQ,w1,F,I,C,J,av,ah,bQ]
  ·have H:=xc0 n (by omega) (by omega)
   have C:(dec n).length=4:=by rw[b9 (n:=n) (by omega),b9 (n:=n/10) (by omega),b9 (n:=n/10/10) (by omega),fk (n:=n/10/10/10) (by omega)];rfl
   have I:dj 4 (dec n++au 19 0)=dec n:=by rw[<-C];exact List.take_left
   have w1:aj.wrap (1+4)=5:=rfl;have F:aj.wrap 5=5:=rfl;have J:4<=(dec n).length+19:=by omega
   rw[E]at B;simp only[bX]at B;simp only[go_sem,Q0,Q1,Q2,Q3,Q4,Q5,Q6,Q7,Q8,Q9,Qa,Qb,Qc,Qd,Qe,Qf,Qg,Qh,Qi,Qj,Qk,reduceCtorEq,reduceIte,z,O,L,B,wR,H,wQ,w1,F,I,C,J,av,ah,bQ]
  ·have H:=xcZ n (by omega) (by omega)
   have C:(dec n).length=5:=by rw[b9 (n:=n) (by omega),b9 (n:=n/10) (by omega),b9 (n:=n/10/10) (by omega),b9 (n:=n/10/10/10) (by omega),fk (n:=n/10/10/10/10) (by omega)];rfl
   have I:dj 5 (dec n++au 18 0)=dec n:=by rw[<-C];exact List.take_left
   have w1:aj.wrap (1+5)=6:=rfl;have F:aj.wrap 6=6:=rfl;have J:5<=(dec n).length+18:=by omega
   rw[E]at B;simp only[bX]at B;simp only[go_sem,Q0,Q1,Q2,Q3,Q4,Q5,Q6,Q7,Q8,Q9,Qa,Qb,Qc,Qd,Qe,Qf,Qg,Qh,Qi,Qj,Qk,reduceCtorEq,reduceIte,z,O,L,B,wR,H,wQ,w1,F,I,C,J,av,ah,bQ]
  ·have H:=xcY n (by omega) (by omega)
   have C:(dec n).length=6:=by rw[b9 (n:=n) (by omega),b9 (n:=n/10) (by omega),b9 (n:=n/10/10) (by omega),b9 (n:=n/10/10/10) (by omega),b9 (n:=n/10/10/10/10) (by omega),fk (n:=n/10/10/10/10/10) (by omega)];rfl
   have I:dj 6 (dec n++au 17 0)=dec n:=by rw[<-C];exact List.take_left
   have w1:aj.wrap (1+6)=7:=rfl;have F:aj.wrap 7=7:=rfl;have J:6<=(dec n).length+17:=by omega
   rw[E]at B;simp only[bX]at B;simp only[go_sem,Q0,Q1,Q2,Q3,Q4,Q5,Q6,Q7,Q8,Q9,Qa,Qb,Qc,Qd,Qe,Qf,Qg,Qh,Qi,Qj,Qk,reduceCtorEq,reduceIte,z,O,L,B,wR,H,wQ,w1,F,I,C,J,av,ah,bQ]
  ·have H:=xcX n (by omega) (by omega)
   have C:(dec n).length=7:=by rw[b9 (n:=n) (by omega),b9 (n:=n/10) (by omega),b9 (n:=n/10/10) (by omega),b9 (n:=n/10/10/10) (by omega),b9 (n:=n/10/10/10/10) (by omega),b9 (n:=n/10/10/10/10/10) (by omega),fk (n:=n/10/10/10/10/10/10) (by omega)];rfl
   have I:dj 7 (dec n++au 16 0)=dec n:=by rw[<-C];exact List.take_left
   have w1:aj.wrap (1+7)=8:=rfl;have F:aj.wrap 8=8:=rfl;have J:7<=(dec n).length+16:=by omega
   rw[E]at B;simp only[bX]at B;simp only[go_sem,Q0,Q1,Q2,Q3,Q4,Q5,Q6,Q7,Q8,Q9,Qa,Qb,Qc,Qd,Qe,Qf,Qg,Qh,Qi,Qj,Qk,reduceCtorEq,reduceIte,z,O,L,B,wR,H,wQ,w1,F,I,C,J,av,ah,bQ]
theorem f91(n:Nat)(h:n<10000000):call T 91 [.int .i64 n] [] 0=some ⟨.str (dec n),[],[]⟩:=by have g:=xkb n h;rw[az xkC];simp only[go_sem,Q0,Q1,Q2,Q3,Q4,Q5,Q6,Q7,Q8,Q9,Qa,Qb,Qc,Qd,Qe,Qf,Qg,Qh,Qi,Qj,Qk,reduceCtorEq,reduceIte,g,xg2]
theorem f49(n:Nat)(h:n<10000000):call T 49 [.int .i64 n] [] 0=some ⟨.str (dec n),[],[]⟩:=by have g:=f91 n h;rw[az xk2];simp only[go_sem,Q0,Q1,Q2,Q3,Q4,Q5,Q6,Q7,Q8,Q9,Qa,Qb,Qc,Qd,Qe,Qf,Qg,Qh,Qi,Qj,Qk,reduceCtorEq,reduceIte,g,xlr]
end Go.Proofs.YtdafipacemgcoaaGreatDoor
