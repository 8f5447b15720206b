/- Contracts. No condition. -/
import Derived.Test.YtkcjdeofknkndaaGreatDoorTdDE
open Int renaming cast_ofNat_Int -> bX, fdiv_eq_ediv_of_nonneg -> qP, natCast_zero -> aB
open Go.IntKind renaming i64 -> af, u32 -> au, u64 -> aQ, wrap_u64 -> bK
open List renaming cons -> jy, cons_append -> bf, length_append -> ac, length_cons -> aA, length_replicate -> bQ, nil_append -> aG, replicate -> ao, take -> dd
open Nat renaming lt_or_ge -> bO, zero_add -> cj
open UInt8 renaming ofInt -> ct, ofNat -> gy
set_option maxRecDepth 100000
set_option maxHeartbeats 16000000
set_option linter.unusedSimpArgs false
set_option linter.unusedVariables false
namespace Go.Proofs.YtkcjdeofknkndaaGreatDoor
open Go.Sy
open UInt8 renaming reduceLT -> Q0, reduceLE -> Q1
open Int renaming reduceToNat -> Q2, reduceLE -> Q3, reduceLT -> Q4, reduceEq -> Q5, reduceNe -> Q6, reduceNeg -> Q7, reduceAdd -> Q8, reduceSub -> Q9, reduceMul -> Qa
open Nat renaming reducePow -> Qb, reduceDiv -> Qc, reduceMod -> Qd, reduceAdd -> Qe, reduceSub -> Qf, reduceMul -> Qg, reduceLT -> Qh, reduceLeDiff -> Qi, reduceEqDiff -> Qj, reduceBEq -> Qk
theorem iy:∀v,v<100->cs2.getD (2*v) 0=dg (v/10)/\cs2.getD (2*v+1) 0=dg (v % 10):=by decide
theorem xcE:∀v,v<100->(cs2.take (2*v+2)).drop (2*v)=[dg (v/10),dg (v % 10)]:=by decide
theorem xfC:∀v,v<10->(cs1.take (v+1)).drop v=[dg v]:=by decide
theorem ll:cs2.length=200:=rfl
theorem SU:cs1.length=36:=rfl
theorem SW:cs0.length=256:=rfl
theorem xnC{n:Nat}(y:10<=n)(h:n<100):dec n=[dg (n/10),dg (n % 10)]:=by rw[cd (by omega),fk (by omega)];rfl
theorem xm5(n:Nat)(h:n<100):call T 171 [.int .i64 n] [] 0=some ⟨.str (dec n),[],[]⟩:=by
 have E:af.wrap ((n:Int)+1)=((n+1:Nat):Int):=bW n (by omega);have H:af.wrap ((n:Int)*2)=((2*n:Nat):Int):=wZ (by omega)
 have F:af.wrap (((2*n:Nat):Int)+2)=((2*n+2:Nat):Int):=wZ (by omega)
 have I:=SU;have J:=ll;rw[an xiY]
 by_cases C:n<10
 ·have y:(n:Int)<10:=by omega
  have z:=xfC n C;have k1:n<=n+1:=by omega
  have k2:((n+1:Nat):Int)<=36:=by omega
  rw[fk C];simp only[go_sem,Q0,Q1,Q2,Q3,Q4,Q5,Q6,Q7,Q8,Q9,Qa,Qb,Qc,Qd,Qe,Qf,Qg,Qh,Qi,Qj,Qk,reduceCtorEq,reduceIte,y,E,I,k1,k2,z]
 ·have y:¬(n:Int)<10:=by omega
  have z:=xcE n h;have k1:2*n<=2*n+2:=by omega
  have k2:((2*n+2:Nat):Int)<=200:=by omega
  rw[xnC (by omega) h];simp only[go_sem,Q0,Q1,Q2,Q3,Q4,Q5,Q6,Q7,Q8,Q9,Qa,Qb,Qc,Qd,Qe,Qf,Qg,Qh,Qi,Qj,Qk,reduceCtorEq,reduceIte,y,H,F,J,k1,k2,z]
def bl8(v:Nat):Nat:=(cs0.getD v 0).toNat
theorem tY:∀v,v<256->bl8 v<=8/\(v=0\/(1<=bl8 v/\2^(bl8 v-1)<=v))/\v<2^bl8 v:=by unfold bl8;decide
def o9(u:Nat):Nat:=if u<256 then bl8 u else if u<65536 then 8+bl8 (u/256)else 16+bl8 (u/65536)
theorem xm6(u:Nat)(h:u<16777216):call T 167 [.int .u64 u] [] 0=some ⟨.int .i64 (o9 u:Nat),[],[]⟩:=by
 have J:¬(4294967296:Int)<=(u:Nat):=by omega
 have O:=SW;have b0:∀v,v<256->bl8 v<=8:=fun v Q=>(tY v Q).1
 have I:∀a b:Nat,a<=100->b<=8->af.wrap ((a:Int)+(b:Int))=((a+b:Nat):Int):=fun a b ha hb=>by rw[w64 (by omega) (by omega)];omega
 have u8:∀v:Nat,v<256->(ct (v:Int)).toNat=v:=fun v Q=>by show(gy ((v:Int) % 256).toNat).toNat=v;rw[show((v:Int) % 256).toNat=v from by omega];simp;omega
 rw[an xaE];unfold o9;have W:Int.fdiv (u:Int) (2^8)=((u/256:Nat):Int):=by rw[qP _ (by decide)];rfl
 have L:Int.fdiv (u:Int) (2^16)=((u/65536:Nat):Int):=by rw[qP _ (by decide)];rfl
 have m8:min 8 64=8:=rfl;have m16:min 16 64=16:=rfl
 by_cases C:u<256
 ·have E:¬(65536:Int)<=(u:Nat):=by omega
  have F:¬(256:Int)<=(u:Nat):=by omega
  have q:=u8 u C;have hi:(u:Int)<256:=by omega
  have z:=I 0 (bl8 u) (by omega) (b0 u C);rw[cj,aB]at z;unfold bl8 at z ⊢;simp only[go_sem,Q0,Q1,Q2,Q3,Q4,Q5,Q6,Q7,Q8,Q9,Qa,Qb,Qc,Qd,Qe,Qf,Qg,Qh,Qi,Qj,Qk,reduceCtorEq,reduceIte,J,E,F,C,q,O,hi,z]
 ·by_cases U:u<65536
  ·have E:¬(65536:Int)<=(u:Nat):=by omega
   have F:(256:Int)<=(u:Nat):=by omega
   have y:u/256<256:=by omega
   have q:=u8 (u/256) y;have hi:((u/256:Nat):Int)<256:=by omega
   have Z:af.wrap 8=8:=rfl;have z:=I 8 (bl8 (u/256)) (by omega) (b0 _ y);simp only[bX]at z;unfold bl8 at z ⊢;simp only[go_sem,Q0,Q1,Q2,Q3,Q4,Q5,Q6,Q7,Q8,Q9,Qa,Qb,Qc,Qd,Qe,Qf,Qg,Qh,Qi,Qj,Qk,reduceCtorEq,reduceIte,J,E,F,C,U,q,O,y,hi,Z,z,W,m8]
  ·have E:(65536:Int)<=(u:Nat):=by omega
   have y:u/65536<256:=by omega
   have F:¬(256:Int)<=((u/65536:Nat):Int):=by omega
   have q:=u8 (u/65536) y;have hi:((u/65536:Nat):Int)<256:=by omega
   have H:af.wrap 16=16:=rfl;have z:=I 16 (bl8 (u/65536)) (by omega) (b0 _ y);simp only[bX]at z;unfold bl8 at z ⊢;simp only[go_sem,Q0,Q1,Q2,Q3,Q4,Q5,Q6,Q7,Q8,Q9,Qa,Qb,Qc,Qd,Qe,Qf,Qg,Qh,Qi,Qj,Qk,reduceCtorEq,reduceIte,J,E,F,C,U,q,O,y,hi,H,z,L,m16]
theorem S6(u:Nat)(h:u<16777216)(F:1<=u):1<=o9 u/\o9 u<=24/\2^(o9 u-1)<=u/\u<2^o9 u:=by
 unfold o9
 by_cases z:u<256
 ·rw[if_pos z]
  obtain⟨a,b,c⟩:=tY u z;omega
 ·rw[if_neg z]
  by_cases E:u<65536
  ·rw[if_pos E]
   obtain⟨a,b,c⟩:=tY (u/256) (by omega);have d:1<=bl8 (u/256)/\2^(bl8 (u/256)-1)<=u/256:=by omega
   obtain⟨d1,d2⟩:=d;generalize bl8 (u/256)=k at*;have y:2^(8+k-1)=256*2^(k-1):=by rw[show 8+k-1=8+(k-1)from by omega,Nat.pow_add]
   have C:2^(8+k)=256*2^k:=by rw[Nat.pow_add]
   rw[y,C];omega
  ·rw[if_neg E]
   obtain⟨a,b,c⟩:=tY (u/65536) (by omega);have d:1<=bl8 (u/65536)/\2^(bl8 (u/65536)-1)<=u/65536:=by omega
   obtain⟨d1,d2⟩:=d;generalize bl8 (u/65536)=k at*;have y:2^(16+k-1)=65536*2^(k-1):=by rw[show 16+k-1=16+(k-1)from by omega,Nat.pow_add]
   have C:2^(16+k)=65536*2^k:=by rw[Nat.pow_add]
   rw[y,C];omega
def nd(u:Nat):Nat:=if u<1000 then 3 else if u<10000 then 4 else if u<100000 then 5 else if u<1000000 then 6 else 7
theorem f189(k:Nat)(h:k<=24):call T 189 [.int .i64 k] [] 0=some ⟨.int .i64 (k*78913/262144:Nat),[],[]⟩:=by
 have y:af.wrap ((k:Int)*78913)=((k*78913:Nat):Int):=wZ (by omega)
 have z:Int.fdiv ((k*78913:Nat):Int) (2^18)=((k*78913/262144:Nat):Int):=by rw[qP _ (by decide)];rfl
 have m:min 18 64=18:=rfl;rw[an xiW];simp only[go_sem,Q0,Q1,Q2,Q3,Q4,Q5,Q6,Q7,Q8,Q9,Qa,Qb,Qc,Qd,Qe,Qf,Qg,Qh,Qi,Qj,Qk,reduceCtorEq,reduceIte,y,z,m]
theorem xk9(b:Bool):call T 190 [.bool b] [] 0=some ⟨.int .i64 (if b=true then 1 else 0),[],[]⟩:=by rw[an xiV];cases b<;>simp only[go_sem,Q0,Q1,Q2,Q3,Q4,Q5,Q6,Q7,Q8,Q9,Qa,Qb,Qc,Qd,Qe,Qf,Qg,Qh,Qi,Qj,Qk,reduceCtorEq,reduceIte]
theorem xm4(u:Nat)(h0:100<=u)(h:u<10000000):call T 172 [.int .u64 u] [] 0=some ⟨.int .i64 (nd u:Nat),[],[]⟩:=by
 obtain⟨b1,O,b3,b4⟩:=S6 u (by omega) (by omega);have F:=xm6 u (by omega);have E:=f189 (o9 u) O;have I:=xk9 true;have H:=xk9 false
 have k7:7<=o9 u:=by
  rcases bO (o9 u) 7 with C|C
  ·have:2^o9 u<=2^6:=Nat.pow_le_pow_right (by omega) (by omega)
   omega
  ·exact C
 have J:∀v,o9 u*78913/262144=v->10^v<=u*10->u<10^(v+1)->2<=v->v<=7->call T 172 [.int .u64 u] [] 0=some ⟨.int .i64 (nd u:Nat),[],[]⟩:=by
  intro v W L Q h3 h4;rw[W]at E;have hc:v=2\/v=3\/v=4\/v=5\/v=6\/v=7:=by omega
  rw[an xiX];generalize o9 u=bb at*;unfold nd;rcases hc with rfl|rfl|rfl|rfl|rfl|rfl
  ·have z:af.wrap 2=2:=rfl
   have y:af.wrap 3=3:=rfl;simp only[bX]at E
   by_cases C:(100:Int)<=(u:Nat)
   ·have hn:(if u<1000 then 3 else if u<10000 then 4 else if u<100000 then 5 else if u<1000000 then 6 else 7)=3:=by
     repeat' split
     all_goals omega
    rw[hn];simp only[go_sem,Q0,Q1,Q2,Q3,Q4,Q5,Q6,Q7,Q8,Q9,Qa,Qb,Qc,Qd,Qe,Qf,Qg,Qh,Qi,Qj,Qk,reduceCtorEq,reduceIte,F,jQ,E,kQ,iQ,C,I,kP,z,y]
   ·have hn:(if u<1000 then 3 else if u<10000 then 4 else if u<100000 then 5 else if u<1000000 then 6 else 7)=2:=by
     repeat' split
     all_goals omega
    rw[hn];simp only[go_sem,Q0,Q1,Q2,Q3,Q4,Q5,Q6,Q7,Q8,Q9,Qa,Qb,Qc,Qd,Qe,Qf,Qg,Qh,Qi,Qj,Qk,reduceCtorEq,reduceIte,F,jQ,E,kQ,iQ,C,H,kP,z,y]
  ·have z:af.wrap 3=3:=rfl
   have y:af.wrap 4=4:=rfl;simp only[bX]at E
   by_cases C:(1000:Int)<=(u:Nat)
   ·have hn:(if u<1000 then 3 else if u<10000 then 4 else if u<100000 then 5 else if u<1000000 then 6 else 7)=4:=by
     repeat' split
     all_goals omega
    rw[hn];simp only[go_sem,Q0,Q1,Q2,Q3,Q4,Q5,Q6,Q7,Q8,Q9,Qa,Qb,Qc,Qd,Qe,Qf,Qg,Qh,Qi,Qj,Qk,reduceCtorEq,reduceIte,F,jQ,E,kQ,iQ,C,I,kP,z,y]
   ·have hn:(if u<1000 then 3 else if u<10000 then 4 else if u<100000 then 5 else if u<1000000 then 6 else 7)=3:=by
     repeat' split
     all_goals omega
    rw[hn];simp only[go_sem,Q0,Q1,Q2,Q3,Q4,Q5,Q6,Q7,Q8,Q9,Qa,Qb,Qc,Qd,Qe,Qf,Qg,Qh,Qi,Qj,Qk,reduceCtorEq,reduceIte,F,jQ,E,kQ,iQ,C,H,kP,z,y]
  ·have z:af.wrap 4=4:=rfl
   have y:af.wrap 5=5:=rfl;simp only[bX]at E
   by_cases C:(10000:Int)<=(u:Nat)
   ·have hn:(if u<1000 then 3 else if u<10000 then 4 else if u<100000 then 5 else if u<1000000 then 6 else 7)=5:=by
     repeat' split
     all_goals omega
    rw[hn];simp only[go_sem,Q0,Q1,Q2,Q3,Q4,Q5,Q6,Q7,Q8,Q9,Qa,Qb,Qc,Qd,Qe,Qf,Qg,Qh,Qi,Qj,Qk,reduceCtorEq,reduceIte,F,jQ,E,kQ,iQ,C,I,kP,z,y]
   ·have hn:(if u<1000 then 3 else if u<10000 then 4 else if u<100000 then 5 else if u<1000000 then 6 else 7)=4:=by
     repeat' split
     all_goals omega
    rw[hn];simp only[go_sem,Q0,Q1,Q2,Q3,Q4,Q5,Q6,Q7,Q8,Q9,Qa,Qb,Qc,Qd,Qe,Qf,Qg,Qh,Qi,Qj,Qk,reduceCtorEq,reduceIte,F,jQ,E,kQ,iQ,C,H,kP,z,y]
  ·have z:af.wrap 5=5:=rfl
   have y:af.wrap 6=6:=rfl;simp only[bX]at E
   by_cases C:(100000:Int)<=(u:Nat)
   ·have hn:(if u<1000 then 3 else if u<10000 then 4 else if u<100000 then 5 else if u<1000000 then 6 else 7)=6:=by
     repeat' split
     all_goals omega
    rw[hn];simp only[go_sem,Q0,Q1,Q2,Q3,Q4,Q5,Q6,Q7,Q8,Q9,Qa,Qb,Qc,Qd,Qe,Qf,Qg,Qh,Qi,Qj,Qk,reduceCtorEq,reduceIte,F,jQ,E,kQ,iQ,C,I,kP,z,y]
   ·have hn:(if u<1000 then 3 else if u<10000 then 4 else if u<100000 then 5 else if u<1000000 then 6 else 7)=5:=by
     repeat' split
     all_goals omega
    rw[hn];simp only[go_sem,Q0,Q1,Q2,Q3,Q4,Q5,Q6,Q7,Q8,Q9,Qa,Qb,Qc,Qd,Qe,Qf,Qg,Qh,Qi,Qj,Qk,reduceCtorEq,reduceIte,F,jQ,E,kQ,iQ,C,H,kP,z,y]
  ·have z:af.wrap 6=6:=rfl
   have y:af.wrap 7=7:=rfl;simp only[bX]at E
   by_cases C:(1000000:Int)<=(u:Nat)
   ·have hn:(if u<1000 then 3 else if u<10000 then 4 else if u<100000 then 5 else if u<1000000 then 6 else 7)=7:=by
     repeat' split
     all_goals omega
    rw[hn];simp only[go_sem,Q0,Q1,Q2,Q3,Q4,Q5,Q6,Q7,Q8,Q9,Qa,Qb,Qc,Qd,Qe,Qf,Qg,Qh,Qi,Qj,Qk,reduceCtorEq,reduceIte,F,jQ,E,kQ,iQ,C,I,kP,z,y]
   ·have hn:(if u<1000 then 3 else if u<10000 then 4 else if u<100000 then 5 else if u<1000000 then 6 else 7)=6:=by
     repeat' split
     all_goals omega
    rw[hn];simp only[go_sem,Q0,Q1,Q2,Q3,Q4,Q5,Q6,Q7,Q8,Q9,Qa,Qb,Qc,Qd,Qe,Qf,Qg,Qh,Qi,Qj,Qk,reduceCtorEq,reduceIte,F,jQ,E,kQ,iQ,C,H,kP,z,y]
  ·have z:af.wrap 7=7:=rfl
   have y:af.wrap 8=8:=rfl;simp only[bX]at E
   by_cases C:(10000000:Int)<=(u:Nat)
   ·have hn:(if u<1000 then 3 else if u<10000 then 4 else if u<100000 then 5 else if u<1000000 then 6 else 7)=8:=by
     repeat' split
     all_goals omega
    rw[hn];simp only[go_sem,Q0,Q1,Q2,Q3,Q4,Q5,Q6,Q7,Q8,Q9,Qa,Qb,Qc,Qd,Qe,Qf,Qg,Qh,Qi,Qj,Qk,reduceCtorEq,reduceIte,F,jQ,E,kQ,iQ,C,I,kP,z,y]
   ·have hn:(if u<1000 then 3 else if u<10000 then 4 else if u<100000 then 5 else if u<1000000 then 6 else 7)=7:=by
     repeat' split
     all_goals omega
    rw[hn];simp only[go_sem,Q0,Q1,Q2,Q3,Q4,Q5,Q6,Q7,Q8,Q9,Qa,Qb,Qc,Qd,Qe,Qf,Qg,Qh,Qi,Qj,Qk,reduceCtorEq,reduceIte,F,jQ,E,kQ,iQ,C,H,kP,z,y]
 have Z:∀k,7<=k->k<=24->2^(k-1)<10000000->10^(k*78913/262144)<=2^(k-1)*10/\2^k<=10^(k*78913/262144+1)/\2<=k*78913/262144/\k*78913/262144<=7:=by
  intro k L Q h3;have hd:∀k,k<25->7<=k->10^(k*78913/262144)<=2^(k-1)*10/\2^k<=10^(k*78913/262144+1)/\2<=k*78913/262144/\k*78913/262144<=7:=by decide
  exact hd k (by omega) L
 obtain⟨c1,c2,U,c4⟩:=Z (o9 u) k7 O (by omega);exact J _ rfl (by omega) (by omega) U c4
theorem eU(k:Nat)(h:k<4294967296):au.wrap (k:Int)=(k:Int):=by rw[IntKind.wrap_u32];omega
theorem xfp(u:Nat)(h1:100<=u)(h2:u<1000):call T 173 [.psl 0 1 1 3 (some 23),.int .u64 u] [.bar (ao 24 0)] 0=some ⟨.tup [],[(0,.bar (0::(dec u++ao 20 0)))],[]⟩:=by
 have L:cs2.length=200:=by exact ll
 have Z:au.wrap (u:Int)=(u:Int):=by exact eU u (by omega)
 have F:(u:Int).tmod 100=((u % 100:Nat):Int):=by rfl
 have U:(u:Int).tdiv 100=((u/100:Nat):Int):=by rfl
 have J:au.wrap ((u/100:Nat):Int)=((u/100:Nat):Int):=by exact eU _ (by omega)
 have Q:au.wrap ((((u % 100):Nat):Int)*2)=((2*(u % 100):Nat):Int):=by rw[show(((u % 100):Nat):Int)*2=((2*(u % 100):Nat):Int)from by omega];exact eU _ (by omega)
 have E:au.wrap (((2*(u % 100):Nat):Int)+1)=((2*(u % 100)+1:Nat):Int):=by rw[show((2*(u % 100):Nat):Int)+1=((2*(u % 100)+1:Nat):Int)from by omega];exact eU _ (by omega)
 have z:cs2.getD (2*(u % 100)) 0=dg ((u % 100)/10)/\cs2.getD (2*(u % 100)+1) 0=dg ((u % 100) % 10):=by exact iy _ (by omega)
 have h:((2*(u % 100):Nat):Int)<200/\((2*(u % 100)+1:Nat):Int)<200:=by omega
 have z1:au.wrap (48+(((u/100):Nat):Int))=((48+(u/100):Nat):Int):=by rw[show 48+(((u/100):Nat):Int)=((48+(u/100):Nat):Int)from by omega];exact eU _ (by omega)
 have z2:ct ((48+(u/100):Nat):Int)=dg (u/100):=by rfl
 have hd:dec u=[dg ((u/100)),dg ((u % 100)/10),dg ((u % 100) % 10)]:=by rw[cd (n:=u) (by omega),cd (n:=u/10) (by omega),fk (n:=u/10/10) (by omega)];simp only[aG,bf,jy.injEq,and_true];exact⟨congrArg dg (by omega),congrArg dg (by omega),congrArg dg (by omega)⟩
 have w0:af.wrap 0=0:=rfl;have w1:af.wrap 1=1:=rfl;have I:af.wrap 2=2:=rfl;have O:af.wrap 3=3:=rfl;have w4:af.wrap 4=4:=rfl;have C:af.wrap 5=5:=rfl;have w6:af.wrap 6=6:=rfl;have W:af.wrap 7=7:=rfl;have H:ao 24 (0:UInt8)=[0,0,0,0,0,0,0,0,0,0,0,0,0,0,0,0,0,0,0,0,0,0,0,0]:=rfl;have y:ao 20 (0:UInt8)=[0,0,0,0,0,0,0,0,0,0,0,0,0,0,0,0,0,0,0,0]:=rfl;rw[hd,H,y,an xe];simp only[go_sem,Q0,Q1,Q2,Q3,Q4,Q5,Q6,Q7,Q8,Q9,Qa,Qb,Qc,Qd,Qe,Qf,Qg,Qh,Qi,Qj,Qk,reduceCtorEq,reduceIte];rw[ai];simp only[go_sem,Q0,Q1,Q2,Q3,Q4,Q5,Q6,Q7,Q8,Q9,Qa,Qb,Qc,Qd,Qe,Qf,Qg,Qh,Qi,Qj,Qk,reduceCtorEq,reduceIte,L,Z,F,U,J,Q,E,z.1,z.2,h.1,h.2,z1,z2,w0,w1,I,O,w4,C,w6,W]
theorem xfo(u:Nat)(h1:1000<=u)(h2:u<10000):call T 173 [.psl 0 1 1 4 (some 23),.int .u64 u] [.bar (ao 24 0)] 0=some ⟨.tup [],[(0,.bar (0::(dec u++ao 19 0)))],[]⟩:=by
 have O:cs2.length=200:=by exact ll
 have q0:au.wrap (u:Int)=(u:Int):=by exact eU u (by omega)
 have H:(u:Int).tmod 10000=((u % 10000:Nat):Int):=by rfl
 have Z:(u:Int).tdiv 10000=((u/10000:Nat):Int):=by rfl
 have L:au.wrap ((u/10000:Nat):Int)=((u/10000:Nat):Int):=by exact eU _ (by omega)
 have Q:(((u % 10000):Nat):Int).tdiv 100=(((u % 10000)/100:Nat):Int):=by rfl
 have b3:au.wrap (((u % 10000)/100:Nat):Int)=(((u % 10000)/100:Nat):Int):=by exact eU _ (by omega)
 have a4:(((u % 10000):Nat):Int).tmod 100=(((u % 10000) % 100:Nat):Int):=by rfl
 have c5:au.wrap (((((u % 10000)/100):Nat):Int)*2)=((2*((u % 10000)/100):Nat):Int):=by rw[show((((u % 10000)/100):Nat):Int)*2=((2*((u % 10000)/100):Nat):Int)from by omega];exact eU _ (by omega)
 have d5:au.wrap (((2*((u % 10000)/100):Nat):Int)+1)=((2*((u % 10000)/100)+1:Nat):Int):=by rw[show((2*((u % 10000)/100):Nat):Int)+1=((2*((u % 10000)/100)+1:Nat):Int)from by omega];exact eU _ (by omega)
 have y:cs2.getD (2*((u % 10000)/100)) 0=dg (((u % 10000)/100)/10)/\cs2.getD (2*((u % 10000)/100)+1) 0=dg (((u % 10000)/100) % 10):=by exact iy _ (by omega)
 have f5:((2*((u % 10000)/100):Nat):Int)<200/\((2*((u % 10000)/100)+1:Nat):Int)<200:=by omega
 have J:au.wrap (((((u % 10000) % 100):Nat):Int)*2)=((2*((u % 10000) % 100):Nat):Int):=by rw[show((((u % 10000) % 100):Nat):Int)*2=((2*((u % 10000) % 100):Nat):Int)from by omega];exact eU _ (by omega)
 have W:au.wrap (((2*((u % 10000) % 100):Nat):Int)+1)=((2*((u % 10000) % 100)+1:Nat):Int):=by rw[show((2*((u % 10000) % 100):Nat):Int)+1=((2*((u % 10000) % 100)+1:Nat):Int)from by omega];exact eU _ (by omega)
 have C:cs2.getD (2*((u % 10000) % 100)) 0=dg (((u % 10000) % 100)/10)/\cs2.getD (2*((u % 10000) % 100)+1) 0=dg (((u % 10000) % 100) % 10):=by exact iy _ (by omega)
 have z:((2*((u % 10000) % 100):Nat):Int)<200/\((2*((u % 10000) % 100)+1:Nat):Int)<200:=by omega
 have hd:dec u=[dg (((u % 10000)/100)/10),dg (((u % 10000)/100) % 10),dg (((u % 10000) % 100)/10),dg (((u % 10000) % 100) % 10)]:=by rw[cd (n:=u) (by omega),cd (n:=u/10) (by omega),cd (n:=u/10/10) (by omega),fk (n:=u/10/10/10) (by omega)];simp only[aG,bf,jy.injEq,and_true];exact⟨congrArg dg (by omega),congrArg dg (by omega),congrArg dg (by omega),congrArg dg (by omega)⟩
 have w0:af.wrap 0=0:=rfl;have w1:af.wrap 1=1:=rfl;have I:af.wrap 2=2:=rfl;have U:af.wrap 3=3:=rfl;have w4:af.wrap 4=4:=rfl;have E:af.wrap 5=5:=rfl;have w6:af.wrap 6=6:=rfl;have w7:af.wrap 7=7:=rfl;have F:ao 24 (0:UInt8)=[0,0,0,0,0,0,0,0,0,0,0,0,0,0,0,0,0,0,0,0,0,0,0,0]:=rfl;have h:ao 19 (0:UInt8)=[0,0,0,0,0,0,0,0,0,0,0,0,0,0,0,0,0,0,0]:=rfl;rw[hd,F,h,an xe];simp only[go_sem,Q0,Q1,Q2,Q3,Q4,Q5,Q6,Q7,Q8,Q9,Qa,Qb,Qc,Qd,Qe,Qf,Qg,Qh,Qi,Qj,Qk,reduceCtorEq,reduceIte];rw[ai];simp only[go_sem,Q0,Q1,Q2,Q3,Q4,Q5,Q6,Q7,Q8,Q9,Qa,Qb,Qc,Qd,Qe,Qf,Qg,Qh,Qi,Qj,Qk,reduceCtorEq,reduceIte,O,q0,H,Z,L,Q,b3,a4,c5,d5,y.1,y.2,f5.1,f5.2,J,W,C.1,C.2,z.1,z.2,w0,w1,I,U,w4,E,w6,w7]
theorem xfn(u:Nat)(h1:10000<=u)(h2:u<100000):call T 173 [.psl 0 1 1 5 (some 23),.int .u64 u] [.bar (ao 24 0)] 0=some ⟨.tup [],[(0,.bar (0::(dec u++ao 18 0)))],[]⟩:=by
 have O:cs2.length=200:=by exact ll
 have q0:au.wrap (u:Int)=(u:Int):=by exact eU u (by omega)
 have H:(u:Int).tmod 10000=((u % 10000:Nat):Int):=by rfl
 have Z:(u:Int).tdiv 10000=((u/10000:Nat):Int):=by rfl
 have L:au.wrap ((u/10000:Nat):Int)=((u/10000:Nat):Int):=by exact eU _ (by omega)
 have Q:(((u % 10000):Nat):Int).tdiv 100=(((u % 10000)/100:Nat):Int):=by rfl
 have b3:au.wrap (((u % 10000)/100:Nat):Int)=(((u % 10000)/100:Nat):Int):=by exact eU _ (by omega)
 have a4:(((u % 10000):Nat):Int).tmod 100=(((u % 10000) % 100:Nat):Int):=by rfl
 have c5:au.wrap (((((u % 10000)/100):Nat):Int)*2)=((2*((u % 10000)/100):Nat):Int):=by rw[show((((u % 10000)/100):Nat):Int)*2=((2*((u % 10000)/100):Nat):Int)from by omega];exact eU _ (by omega)
 have d5:au.wrap (((2*((u % 10000)/100):Nat):Int)+1)=((2*((u % 10000)/100)+1:Nat):Int):=by rw[show((2*((u % 10000)/100):Nat):Int)+1=((2*((u % 10000)/100)+1:Nat):Int)from by omega];exact eU _ (by omega)
 have y:cs2.getD (2*((u % 10000)/100)) 0=dg (((u % 10000)/100)/10)/\cs2.getD (2*((u % 10000)/100)+1) 0=dg (((u % 10000)/100) % 10):=by exact iy _ (by omega)
 have f5:((2*((u % 10000)/100):Nat):Int)<200/\((2*((u % 10000)/100)+1:Nat):Int)<200:=by omega
 have J:au.wrap (((((u % 10000) % 100):Nat):Int)*2)=((2*((u % 10000) % 100):Nat):Int):=by rw[show((((u % 10000) % 100):Nat):Int)*2=((2*((u % 10000) % 100):Nat):Int)from by omega];exact eU _ (by omega)
 have W:au.wrap (((2*((u % 10000) % 100):Nat):Int)+1)=((2*((u % 10000) % 100)+1:Nat):Int):=by rw[show((2*((u % 10000) % 100):Nat):Int)+1=((2*((u % 10000) % 100)+1:Nat):Int)from by omega];exact eU _ (by omega)
 have C:cs2.getD (2*((u % 10000) % 100)) 0=dg (((u % 10000) % 100)/10)/\cs2.getD (2*((u % 10000) % 100)+1) 0=dg (((u % 10000) % 100) % 10):=by exact iy _ (by omega)
 have z:((2*((u % 10000) % 100):Nat):Int)<200/\((2*((u % 10000) % 100)+1:Nat):Int)<200:=by omega
 have z1:au.wrap (48+(((u/10000):Nat):Int))=((48+(u/10000):Nat):Int):=by rw[show 48+(((u/10000):Nat):Int)=((48+(u/10000):Nat):Int)from by omega];exact eU _ (by omega)
 have z2:ct ((48+(u/10000):Nat):Int)=dg (u/10000):=by rfl
 have hd:dec u=[dg ((u/10000)),dg (((u % 10000)/100)/10),dg (((u % 10000)/100) % 10),dg (((u % 10000) % 100)/10),dg (((u % 10000) % 100) % 10)]:=by rw[cd (n:=u) (by omega),cd (n:=u/10) (by omega),cd (n:=u/10/10) (by omega),cd (n:=u/10/10/10) (by omega),fk (n:=u/10/10/10/10) (by omega)];simp only[aG,bf,jy.injEq,and_true];exact⟨congrArg dg (by omega),congrArg dg (by omega),congrArg dg (by omega),congrArg dg (by omega),congrArg dg (by omega)⟩
 have w0:af.wrap 0=0:=rfl;have w1:af.wrap 1=1:=rfl;have I:af.wrap 2=2:=rfl;have U:af.wrap 3=3:=rfl;have w4:af.wrap 4=4:=rfl;have E:af.wrap 5=5:=rfl;have w6:af.wrap 6=6:=rfl;have w7:af.wrap 7=7:=rfl;have F:ao 24 (0:UInt8)=[0,0,0,0,0,0,0,0,0,0,0,0,0,0,0,0,0,0,0,0,0,0,0,0]:=rfl;have h:ao 18 (0:UInt8)=[0,0,0,0,0,0,0,0,0,0,0,0,0,0,0,0,0,0]:=rfl;rw[hd,F,h,an xe];simp only[go_sem,Q0,Q1,Q2,Q3,Q4,Q5,Q6,Q7,Q8,Q9,Qa,Qb,Qc,Qd,Qe,Qf,Qg,Qh,Qi,Qj,Qk,reduceCtorEq,reduceIte];rw[ai];simp only[go_sem,Q0,Q1,Q2,Q3,Q4,Q5,Q6,Q7,Q8,Q9,Qa,Qb,Qc,Qd,Qe,Qf,Qg,Qh,Qi,Qj,Qk,reduceCtorEq,reduceIte,O,q0,H,Z,L,Q,b3,a4,c5,d5,y.1,y.2,f5.1,f5.2,J,W,C.1,C.2,z.1,z.2,z1,z2,w0,w1,I,U,w4,E,w6,w7]
theorem xfm(u:Nat)(h1:100000<=u)(h2:u<1000000):call T 173 [.psl 0 1 1 6 (some 23),.int .u64 u] [.bar (ao 24 0)] 0=some ⟨.tup [],[(0,.bar (0::(dec u++ao 17 0)))],[]⟩:=by
 have W:cs2.length=200:=by exact ll
 have q0:au.wrap (u:Int)=(u:Int):=by exact eU u (by omega)
 have J:(u:Int).tmod 10000=((u % 10000:Nat):Int):=by rfl
 have a2:(u:Int).tdiv 10000=((u/10000:Nat):Int):=by rfl
 have U:au.wrap ((u/10000:Nat):Int)=((u/10000:Nat):Int):=by exact eU _ (by omega)
 have Z:(((u % 10000):Nat):Int).tdiv 100=(((u % 10000)/100:Nat):Int):=by rfl
 have b3:au.wrap (((u % 10000)/100:Nat):Int)=(((u % 10000)/100:Nat):Int):=by exact eU _ (by omega)
 have a4:(((u % 10000):Nat):Int).tmod 100=(((u % 10000) % 100:Nat):Int):=by rfl
 have c5:au.wrap (((((u % 10000)/100):Nat):Int)*2)=((2*((u % 10000)/100):Nat):Int):=by rw[show((((u % 10000)/100):Nat):Int)*2=((2*((u % 10000)/100):Nat):Int)from by omega];exact eU _ (by omega)
 have d5:au.wrap (((2*((u % 10000)/100):Nat):Int)+1)=((2*((u % 10000)/100)+1:Nat):Int):=by rw[show((2*((u % 10000)/100):Nat):Int)+1=((2*((u % 10000)/100)+1:Nat):Int)from by omega];exact eU _ (by omega)
 have y:cs2.getD (2*((u % 10000)/100)) 0=dg (((u % 10000)/100)/10)/\cs2.getD (2*((u % 10000)/100)+1) 0=dg (((u % 10000)/100) % 10):=by exact iy _ (by omega)
 have f5:((2*((u % 10000)/100):Nat):Int)<200/\((2*((u % 10000)/100)+1:Nat):Int)<200:=by omega
 have Q:au.wrap (((((u % 10000) % 100):Nat):Int)*2)=((2*((u % 10000) % 100):Nat):Int):=by rw[show((((u % 10000) % 100):Nat):Int)*2=((2*((u % 10000) % 100):Nat):Int)from by omega];exact eU _ (by omega)
 have d6:au.wrap (((2*((u % 10000) % 100):Nat):Int)+1)=((2*((u % 10000) % 100)+1:Nat):Int):=by rw[show((2*((u % 10000) % 100):Nat):Int)+1=((2*((u % 10000) % 100)+1:Nat):Int)from by omega];exact eU _ (by omega)
 have C:cs2.getD (2*((u % 10000) % 100)) 0=dg (((u % 10000) % 100)/10)/\cs2.getD (2*((u % 10000) % 100)+1) 0=dg (((u % 10000) % 100) % 10):=by exact iy _ (by omega)
 have z:((2*((u % 10000) % 100):Nat):Int)<200/\((2*((u % 10000) % 100)+1:Nat):Int)<200:=by omega
 have I:(((u/10000):Nat):Int).tmod 100=(((u/10000) % 100:Nat):Int):=by rfl
 have a8:(((u/10000):Nat):Int).tdiv 100=(((u/10000)/100:Nat):Int):=by rfl
 have b8:au.wrap (((u/10000)/100:Nat):Int)=(((u/10000)/100:Nat):Int):=by exact eU _ (by omega)
 have c9:au.wrap (((((u/10000) % 100):Nat):Int)*2)=((2*((u/10000) % 100):Nat):Int):=by rw[show((((u/10000) % 100):Nat):Int)*2=((2*((u/10000) % 100):Nat):Int)from by omega];exact eU _ (by omega)
 have d9:au.wrap (((2*((u/10000) % 100):Nat):Int)+1)=((2*((u/10000) % 100)+1:Nat):Int):=by rw[show((2*((u/10000) % 100):Nat):Int)+1=((2*((u/10000) % 100)+1:Nat):Int)from by omega];exact eU _ (by omega)
 have E:cs2.getD (2*((u/10000) % 100)) 0=dg (((u/10000) % 100)/10)/\cs2.getD (2*((u/10000) % 100)+1) 0=dg (((u/10000) % 100) % 10):=by exact iy _ (by omega)
 have F:((2*((u/10000) % 100):Nat):Int)<200/\((2*((u/10000) % 100)+1:Nat):Int)<200:=by omega
 have hd:dec u=[dg (((u/10000) % 100)/10),dg (((u/10000) % 100) % 10),dg (((u % 10000)/100)/10),dg (((u % 10000)/100) % 10),dg (((u % 10000) % 100)/10),dg (((u % 10000) % 100) % 10)]:=by rw[cd (n:=u) (by omega),cd (n:=u/10) (by omega),cd (n:=u/10/10) (by omega),cd (n:=u/10/10/10) (by omega),cd (n:=u/10/10/10/10) (by omega),fk (n:=u/10/10/10/10/10) (by omega)];simp only[aG,bf,jy.injEq,and_true];exact⟨congrArg dg (by omega),congrArg dg (by omega),congrArg dg (by omega),congrArg dg (by omega),congrArg dg (by omega),congrArg dg (by omega)⟩
 have w0:af.wrap 0=0:=rfl;have w1:af.wrap 1=1:=rfl;have O:af.wrap 2=2:=rfl;have w3:af.wrap 3=3:=rfl;have w4:af.wrap 4=4:=rfl;have H:af.wrap 5=5:=rfl;have w6:af.wrap 6=6:=rfl;have w7:af.wrap 7=7:=rfl;have L:ao 24 (0:UInt8)=[0,0,0,0,0,0,0,0,0,0,0,0,0,0,0,0,0,0,0,0,0,0,0,0]:=rfl;have h:ao 17 (0:UInt8)=[0,0,0,0,0,0,0,0,0,0,0,0,0,0,0,0,0]:=rfl;rw[hd,L,h,an xe];simp only[go_sem,Q0,Q1,Q2,Q3,Q4,Q5,Q6,Q7,Q8,Q9,Qa,Qb,Qc,Qd,Qe,Qf,Qg,Qh,Qi,Qj,Qk,reduceCtorEq,reduceIte];rw[ai];simp only[go_sem,Q0,Q1,Q2,Q3,Q4,Q5,Q6,Q7,Q8,Q9,Qa,Qb,Qc,Qd,Qe,Qf,Qg,Qh,Qi,Qj,Qk,reduceCtorEq,reduceIte,W,q0,J,a2,U,Z,b3,a4,c5,d5,y.1,y.2,f5.1,f5.2,Q,d6,C.1,C.2,z.1,z.2,I,a8,b8,c9,d9,E.1,E.2,F.1,F.2,w0,w1,O,w3,w4,H,w6,w7]
theorem xfl(u:Nat)(h1:1000000<=u)(h2:u<10000000):call T 173 [.psl 0 1 1 7 (some 23),.int .u64 u] [.bar (ao 24 0)] 0=some ⟨.tup [],[(0,.bar (0::(dec u++ao 16 0)))],[]⟩:=by
 have O:cs2.length=200:=by exact ll
 have q0:au.wrap (u:Int)=(u:Int):=by exact eU u (by omega)
 have a1:(u:Int).tmod 10000=((u % 10000:Nat):Int):=by rfl
 have a2:(u:Int).tdiv 10000=((u/10000:Nat):Int):=by rfl
 have b2:au.wrap ((u/10000:Nat):Int)=((u/10000:Nat):Int):=by exact eU _ (by omega)
 have a3:(((u % 10000):Nat):Int).tdiv 100=(((u % 10000)/100:Nat):Int):=by rfl
 have b3:au.wrap (((u % 10000)/100:Nat):Int)=(((u % 10000)/100:Nat):Int):=by exact eU _ (by omega)
 have a4:(((u % 10000):Nat):Int).tmod 100=(((u % 10000) % 100:Nat):Int):=by rfl
 have c5:au.wrap (((((u % 10000)/100):Nat):Int)*2)=((2*((u % 10000)/100):Nat):Int):=by rw[show((((u % 10000)/100):Nat):Int)*2=((2*((u % 10000)/100):Nat):Int)from by omega];exact eU _ (by omega)
 have d5:au.wrap (((2*((u % 10000)/100):Nat):Int)+1)=((2*((u % 10000)/100)+1:Nat):Int):=by rw[show((2*((u % 10000)/100):Nat):Int)+1=((2*((u % 10000)/100)+1:Nat):Int)from by omega];exact eU _ (by omega)
 have y:cs2.getD (2*((u % 10000)/100)) 0=dg (((u % 10000)/100)/10)/\cs2.getD (2*((u % 10000)/100)+1) 0=dg (((u % 10000)/100) % 10):=by exact iy _ (by omega)
 have f5:((2*((u % 10000)/100):Nat):Int)<200/\((2*((u % 10000)/100)+1:Nat):Int)<200:=by omega
 have L:au.wrap (((((u % 10000) % 100):Nat):Int)*2)=((2*((u % 10000) % 100):Nat):Int):=by rw[show((((u % 10000) % 100):Nat):Int)*2=((2*((u % 10000) % 100):Nat):Int)from by omega];exact eU _ (by omega)
 have U:au.wrap (((2*((u % 10000) % 100):Nat):Int)+1)=((2*((u % 10000) % 100)+1:Nat):Int):=by rw[show((2*((u % 10000) % 100):Nat):Int)+1=((2*((u % 10000) % 100)+1:Nat):Int)from by omega];exact eU _ (by omega)
 have C:cs2.getD (2*((u % 10000) % 100)) 0=dg (((u % 10000) % 100)/10)/\cs2.getD (2*((u % 10000) % 100)+1) 0=dg (((u % 10000) % 100) % 10):=by exact iy _ (by omega)
 have z:((2*((u % 10000) % 100):Nat):Int)<200/\((2*((u % 10000) % 100)+1:Nat):Int)<200:=by omega
 have I:(((u/10000):Nat):Int).tmod 100=(((u/10000) % 100:Nat):Int):=by rfl
 have W:(((u/10000):Nat):Int).tdiv 100=(((u/10000)/100:Nat):Int):=by rfl
 have b8:au.wrap (((u/10000)/100:Nat):Int)=(((u/10000)/100:Nat):Int):=by exact eU _ (by omega)
 have c9:au.wrap (((((u/10000) % 100):Nat):Int)*2)=((2*((u/10000) % 100):Nat):Int):=by rw[show((((u/10000) % 100):Nat):Int)*2=((2*((u/10000) % 100):Nat):Int)from by omega];exact eU _ (by omega)
 have d9:au.wrap (((2*((u/10000) % 100):Nat):Int)+1)=((2*((u/10000) % 100)+1:Nat):Int):=by rw[show((2*((u/10000) % 100):Nat):Int)+1=((2*((u/10000) % 100)+1:Nat):Int)from by omega];exact eU _ (by omega)
 have E:cs2.getD (2*((u/10000) % 100)) 0=dg (((u/10000) % 100)/10)/\cs2.getD (2*((u/10000) % 100)+1) 0=dg (((u/10000) % 100) % 10):=by exact iy _ (by omega)
 have F:((2*((u/10000) % 100):Nat):Int)<200/\((2*((u/10000) % 100)+1:Nat):Int)<200:=by omega
 have z1:au.wrap (48+((((u/10000)/100):Nat):Int))=((48+((u/10000)/100):Nat):Int):=by rw[show 48+((((u/10000)/100):Nat):Int)=((48+((u/10000)/100):Nat):Int)from by omega];exact eU _ (by omega)
 have z2:ct ((48+((u/10000)/100):Nat):Int)=dg ((u/10000)/100):=by rfl
 have hd:dec u=[dg (((u/10000)/100)),dg (((u/10000) % 100)/10),dg (((u/10000) % 100) % 10),dg (((u % 10000)/100)/10),dg (((u % 10000)/100) % 10),dg (((u % 10000) % 100)/10),dg (((u % 10000) % 100) % 10)]:=by rw[cd (n:=u) (by omega),cd (n:=u/10) (by omega),cd (n:=u/10/10) (by omega),cd (n:=u/10/10/10) (by omega),cd (n:=u/10/10/10/10) (by omega),cd (n:=u/10/10/10/10/10) (by omega),fk (n:=u/10/10/10/10/10/10) (by omega)];simp only[aG,bf,jy.injEq,and_true];exact⟨congrArg dg (by omega),congrArg dg (by omega),congrArg dg (by omega),congrArg dg (by omega),congrArg dg (by omega),congrArg dg (by omega),congrArg dg (by omega)⟩
 have w0:af.wrap 0=0:=rfl;have w1:af.wrap 1=1:=rfl;have J:af.wrap 2=2:=rfl;have Q:af.wrap 3=3:=rfl;have w4:af.wrap 4=4:=rfl;have H:af.wrap 5=5:=rfl;have w6:af.wrap 6=6:=rfl;have Z:af.wrap 7=7:=rfl;have hr:ao 24 (0:UInt8)=[0,0,0,0,0,0,0,0,0,0,0,0,0,0,0,0,0,0,0,0,0,0,0,0]:=rfl;have h:ao 16 (0:UInt8)=[0,0,0,0,0,0,0,0,0,0,0,0,0,0,0,0]:=rfl;rw[hd,hr,h,an xe];simp only[go_sem,Q0,Q1,Q2,Q3,Q4,Q5,Q6,Q7,Q8,Q9,Qa,Qb,Qc,Qd,Qe,Qf,Qg,Qh,Qi,Qj,Qk,reduceCtorEq,reduceIte];rw[ai];simp only[go_sem,Q0,Q1,Q2,Q3,Q4,Q5,Q6,Q7,Q8,Q9,Qa,Qb,Qc,Qd,Qe,Qf,Qg,Qh,Qi,Qj,Qk,reduceCtorEq,reduceIte,O,q0,a1,a2,b2,a3,b3,a4,c5,d5,y.1,y.2,f5.1,f5.2,L,U,C.1,C.2,z.1,z.2,I,W,b8,c9,d9,E.1,E.2,F.1,F.2,z1,z2,w0,w1,J,Q,w4,H,w6,Z]
theorem xnb(n:Nat)(h:n<10000000):call T 145 [.int .i64 n,.int .i64 10] [] 0=some ⟨.str (dec n),[],[]⟩:=by
 rw[an xi6]
 by_cases U:n<100
 ·have z:(n:Int)<100:=by omega
  have g:=xm5 n U;simp only[go_sem,Q0,Q1,Q2,Q3,Q4,Q5,Q6,Q7,Q8,Q9,Qa,Qb,Qc,Qd,Qe,Qf,Qg,Qh,Qi,Qj,Qk,reduceCtorEq,reduceIte,z,g,xjK]
 ·have z:¬(n:Int)<100:=by omega
  have y:=xm4 n (by omega) h;have L:aQ.wrap (n:Int)=(n:Int):=by rw[bK];omega
  have O:¬(n:Int)<0:=by omega
  have E:(nd n=3/\n<1000)\/(nd n=4/\1000<=n/\n<10000)\/(nd n=5/\10000<=n/\n<100000)\/(nd n=6/\100000<=n/\n<1000000)\/(nd n=7/\1000000<=n):=by
   unfold nd
   repeat' split
   all_goals omega
  rcases E with⟨E,Q⟩|⟨E,Q,h4⟩|⟨E,Q,h4⟩|⟨E,Q,h4⟩|⟨E,Q⟩
  ·have H:=xfp n (by omega) (by omega)
   have C:(dec n).length=3:=by rw[cd (n:=n) (by omega),cd (n:=n/10) (by omega),fk (n:=n/10/10) (by omega)];rfl
   have F:dd 3 (dec n++ao 20 0)=dec n:=by rw[<-C];exact List.take_left
   have w1:af.wrap (1+3)=4:=rfl;have I:af.wrap 4=4:=rfl;have J:3<=(dec n).length+20:=by omega
   rw[E]at y;simp only[bX]at y;simp only[go_sem,Q0,Q1,Q2,Q3,Q4,Q5,Q6,Q7,Q8,Q9,Qa,Qb,Qc,Qd,Qe,Qf,Qg,Qh,Qi,Qj,Qk,reduceCtorEq,reduceIte,z,O,L,y,xl,H,xk,w1,I,F,C,J,aA,ac,bQ]
  ·have H:=xfo n (by omega) (by omega)
   have C:(dec n).length=4:=by rw[cd (n:=n) (by omega),cd (n:=n/10) (by omega),cd (n:=n/10/10) (by omega),fk (n:=n/10/10/10) (by omega)];rfl
   have F:dd 4 (dec n++ao 19 0)=dec n:=by rw[<-C];exact List.take_left
   have w1:af.wrap (1+4)=5:=rfl;have I:af.wrap 5=5:=rfl;have J:4<=(dec n).length+19:=by omega
   rw[E]at y;simp only[bX]at y;simp only[go_sem,Q0,Q1,Q2,Q3,Q4,Q5,Q6,Q7,Q8,Q9,Qa,Qb,Qc,Qd,Qe,Qf,Qg,Qh,Qi,Qj,Qk,reduceCtorEq,reduceIte,z,O,L,y,xl,H,xk,w1,I,F,C,J,aA,ac,bQ]
  ·have H:=xfn n (by omega) (by omega)
   have C:(dec n).length=5:=by rw[cd (n:=n) (by omega),cd (n:=n/10) (by omega),cd (n:=n/10/10) (by omega),cd (n:=n/10/10/10) (by omega),fk (n:=n/10/10/10/10) (by omega)];rfl
   have F:dd 5 (dec n++ao 18 0)=dec n:=by rw[<-C];exact List.take_left
   have w1:af.wrap (1+5)=6:=rfl;have I:af.wrap 6=6:=rfl;have J:5<=(dec n).length+18:=by omega
   rw[E]at y;simp only[bX]at y;simp only[go_sem,Q0,Q1,Q2,Q3,Q4,Q5,Q6,Q7,Q8,Q9,Qa,Qb,Qc,Qd,Qe,Qf,Qg,Qh,Qi,Qj,Qk,reduceCtorEq,reduceIte,z,O,L,y,xl,H,xk,w1,I,F,C,J,aA,ac,bQ]
  ·have H:=xfm n (by omega) (by omega)
   have C:(dec n).length=6:=by rw[cd (n:=n) (by omega),cd (n:=n/10) (by omega),cd (n:=n/10/10) (by omega),cd (n:=n/10/10/10) (by omega),cd (n:=n/10/10/10/10) (by omega),fk (n:=n/10/10/10/10/10) (by omega)];rfl
   have F:dd 6 (dec n++ao 17 0)=dec n:=by rw[<-C];exact List.take_left
   have w1:af.wrap (1+6)=7:=rfl;have I:af.wrap 7=7:=rfl;have J:6<=(dec n).length+17:=by omega
   rw[E]at y;simp only[bX]at y;simp only[go_sem,Q0,Q1,Q2,Q3,Q4,Q5,Q6,Q7,Q8,Q9,Qa,Qb,Qc,Qd,Qe,Qf,Qg,Qh,Qi,Qj,Qk,reduceCtorEq,reduceIte,z,O,L,y,xl,H,xk,w1,I,F,C,J,aA,ac,bQ]
  ·have H:=xfl n (by omega) (by omega)
   have C:(dec n).length=7:=by rw[cd (n:=n) (by omega),cd (n:=n/10) (by omega),cd (n:=n/10/10) (by omega),cd (n:=n/10/10/10) (by omega),cd (n:=n/10/10/10/10) (by omega),cd (n:=n/10/10/10/10/10) (by omega),fk (n:=n/10/10/10/10/10/10) (by omega)];rfl
   have F:dd 7 (dec n++ao 16 0)=dec n:=by rw[<-C];exact List.take_left
   have w1:af.wrap (1+7)=8:=rfl;have I:af.wrap 8=8:=rfl;have J:7<=(dec n).length+16:=by omega
   rw[E]at y;simp only[bX]at y;simp only[go_sem,Q0,Q1,Q2,Q3,Q4,Q5,Q6,Q7,Q8,Q9,Qa,Qb,Qc,Qd,Qe,Qf,Qg,Qh,Qi,Qj,Qk,reduceCtorEq,reduceIte,z,O,L,y,xl,H,xk,w1,I,F,C,J,aA,ac,bQ]
theorem xnk(n:Nat)(h:n<10000000):call T 124 [.int .i64 n] [] 0=some ⟨.str (dec n),[],[]⟩:=by have g:=xnb n h;rw[an xjl];simp only[go_sem,Q0,Q1,Q2,Q3,Q4,Q5,Q6,Q7,Q8,Q9,Qa,Qb,Qc,Qd,Qe,Qf,Qg,Qh,Qi,Qj,Qk,reduceCtorEq,reduceIte,g,xjO]
theorem f78(n:Nat)(h:n<10000000):call T 78 [.int .i64 n] [] 0=some ⟨.str (dec n),[],[]⟩:=by have g:=xnk n h;rw[an xnS];simp only[go_sem,Q0,Q1,Q2,Q3,Q4,Q5,Q6,Q7,Q8,Q9,Qa,Qb,Qc,Qd,Qe,Qf,Qg,Qh,Qi,Qj,Qk,reduceCtorEq,reduceIte,g,xjU]
end Go.Proofs.YtkcjdeofknkndaaGreatDoor
