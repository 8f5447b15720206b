/- What the functions come to. No condition. -/
import Derived.Test.YtkcjdeofknkndaaGreatDoorTdIt
open Int renaming cast_ofNat_Int -> cr, natCast_zero -> av
open Go.IntKind renaming i64 -> ac, u32 -> ax, u64 -> aZ, wrap_u64 -> cB
open List renaming cons -> iv, cons_append -> aJ, length_append -> af, length_cons -> aC, length_replicate -> ca, nil_append -> aF, replicate -> am, take -> du
open Nat renaming lt_or_ge -> bX, zero_add -> cK
open UInt8 renaming ofInt -> bO, ofNat -> iK
set_option maxRecDepth 100000
set_option maxHeartbeats 16000000
set_option linter.unusedSimpArgs false
set_option linter.unusedVariables false
namespace Go.Proofs.YtkcjdeofknkndaaGreatDoor
open Go.Sy
open UInt8 renaming reduceLT -> Q0, reduceLE -> Q1
open Int renaming reduceToNat -> Q2, reduceLE -> Q3, reduceLT -> Q4, reduceEq -> Q5, reduceNe -> Q6, reduceNeg -> Q7, reduceAdd -> Q8, reduceSub -> Q9, reduceMul -> Qa
open Nat renaming reducePow -> Qb, reduceDiv -> Qc, reduceMod -> Qd, reduceAdd -> Qe, reduceSub -> Qf, reduceMul -> Qg, reduceLT -> Qh, reduceLeDiff -> Qi, reduceEqDiff -> Qj, reduceBEq -> Qk
theorem iB:∀v,v<100->cs2.getD (2*v) 0=dg (v/10)/\cs2.getD (2*v+1) 0=dg (v % 10):=by decide
theorem xcf:∀v,v<100->(cs2.take (2*v+2)).drop (2*v)=[dg (v/10),dg (v % 10)]:=by decide
theorem xfh:∀v,v<10->(cs1.take (v+1)).drop v=[dg v]:=by decide
theorem lv:cs2.length=200:=rfl
theorem TC:cs1.length=36:=rfl
theorem TD:cs0.length=256:=rfl
theorem xna{n:Nat}(h1:10<=n)(h2:n<100):dec n=[dg (n/10),dg (n % 10)]:=by rw[cm (by omega),eh (by omega)];rfl
theorem xmC(n:Nat)(h:n<100):call T 171 [.int .i64 n] [] 0=some ⟨.str (dec n),[],[]⟩:=by
 have e1:ac.wrap ((n:Int)+1)=((n+1:Nat):Int):=cg n (by omega);have e2:ac.wrap ((n:Int)*2)=((2*n:Nat):Int):=wZ (by omega)
 have e3:ac.wrap (((2*n:Nat):Int)+2)=((2*n+2:Nat):Int):=wZ (by omega)
 have l1:=TC;have l2:=lv;rw[ao xiE]
 by_cases h1:n<10
 ·have h1':(n:Int)<10:=by omega
  have hs:=xfh n h1;have k1:n<=n+1:=by omega
  have k2:((n+1:Nat):Int)<=36:=by omega
  rw[eh h1];simp only[go_sem,Q0,Q1,Q2,Q3,Q4,Q5,Q6,Q7,Q8,Q9,Qa,Qb,Qc,Qd,Qe,Qf,Qg,Qh,Qi,Qj,Qk,reduceCtorEq,reduceIte,h1',e1,l1,k1,k2,hs]
 ·have h1':¬(n:Int)<10:=by omega
  have hs:=xcf n h;have k1:2*n<=2*n+2:=by omega
  have k2:((2*n+2:Nat):Int)<=200:=by omega
  rw[xna (by omega) h];simp only[go_sem,Q0,Q1,Q2,Q3,Q4,Q5,Q6,Q7,Q8,Q9,Qa,Qb,Qc,Qd,Qe,Qf,Qg,Qh,Qi,Qj,Qk,reduceCtorEq,reduceIte,h1',e2,e3,l2,k1,k2,hs]
def bl8(v:Nat):Nat:=(cs0.getD v 0).toNat
theorem uH:∀v,v<256->bl8 v<=8/\(v=0\/(1<=bl8 v/\2^(bl8 v-1)<=v))/\v<2^bl8 v:=by unfold bl8;decide
def pu(u:Nat):Nat:=if u<256 then bl8 u else if u<65536 then 8+bl8 (u/256)else 16+bl8 (u/65536)
theorem xmD(u:Nat)(h:u<16777216):call T 167 [.int .u64 u] [] 0=some ⟨.int .i64 (pu u:Nat),[],[]⟩:=by
 have h1:¬(4294967296:Int)<=(u:Nat):=by omega
 have l0:=TD;have b0:∀v,v<256->bl8 v<=8:=fun v hv=>(uH v hv).1
 have kw:∀a b:Nat,a<=100->b<=8->ac.wrap ((a:Int)+(b:Int))=((a+b:Nat):Int):=fun a b ha hb=>by rw[w64 (by omega) (by omega)];omega
 have u8:∀v:Nat,v<256->(bO (v:Int)).toNat=v:=fun v hv=>by show(iK ((v:Int) % 256).toNat).toNat=v;rw[show((v:Int) % 256).toNat=v from by omega];simp;omega
 rw[ao xat];unfold pu;have d8:Int.fdiv (u:Int) (2^8)=((u/256:Nat):Int):=by rw[Int.fdiv_eq_ediv_of_nonneg _ (by decide)];rfl
 have d16:Int.fdiv (u:Int) (2^16)=((u/65536:Nat):Int):=by rw[Int.fdiv_eq_ediv_of_nonneg _ (by decide)];rfl
 have m8:min 8 64=8:=rfl;have m16:min 16 64=16:=rfl
 by_cases h2:u<256
 ·have a1:¬(65536:Int)<=(u:Nat):=by omega
  have a2:¬(256:Int)<=(u:Nat):=by omega
  have q:=u8 u h2;have hi:(u:Int)<256:=by omega
  have z:=kw 0 (bl8 u) (by omega) (b0 u h2);rw[cK,av]at z;unfold bl8 at z ⊢;simp only[go_sem,Q0,Q1,Q2,Q3,Q4,Q5,Q6,Q7,Q8,Q9,Qa,Qb,Qc,Qd,Qe,Qf,Qg,Qh,Qi,Qj,Qk,reduceCtorEq,reduceIte,h1,a1,a2,h2,q,l0,hi,z]
 ·by_cases h3:u<65536
  ·have a1:¬(65536:Int)<=(u:Nat):=by omega
   have a2:(256:Int)<=(u:Nat):=by omega
   have h4:u/256<256:=by omega
   have q:=u8 (u/256) h4;have hi:((u/256:Nat):Int)<256:=by omega
   have w8:ac.wrap 8=8:=rfl;have z:=kw 8 (bl8 (u/256)) (by omega) (b0 _ h4);simp only[cr]at z;unfold bl8 at z ⊢;simp only[go_sem,Q0,Q1,Q2,Q3,Q4,Q5,Q6,Q7,Q8,Q9,Qa,Qb,Qc,Qd,Qe,Qf,Qg,Qh,Qi,Qj,Qk,reduceCtorEq,reduceIte,h1,a1,a2,h2,h3,q,l0,h4,hi,w8,z,d8,m8]
  ·have a1:(65536:Int)<=(u:Nat):=by omega
   have h4:u/65536<256:=by omega
   have a2:¬(256:Int)<=((u/65536:Nat):Int):=by omega
   have q:=u8 (u/65536) h4;have hi:((u/65536:Nat):Int)<256:=by omega
   have w16:ac.wrap 16=16:=rfl;have z:=kw 16 (bl8 (u/65536)) (by omega) (b0 _ h4);simp only[cr]at z;unfold bl8 at z ⊢;simp only[go_sem,Q0,Q1,Q2,Q3,Q4,Q5,Q6,Q7,Q8,Q9,Qa,Qb,Qc,Qd,Qe,Qf,Qg,Qh,Qi,Qj,Qk,reduceCtorEq,reduceIte,h1,a1,a2,h2,h3,q,l0,h4,hi,w16,z,d16,m16]
theorem TP(u:Nat)(h:u<16777216)(h1:1<=u):1<=pu u/\pu u<=24/\2^(pu u-1)<=u/\u<2^pu u:=by
 unfold pu
 by_cases h2:u<256
 ·rw[if_pos h2]
  obtain⟨a,b,c⟩:=uH u h2;omega
 ·rw[if_neg h2]
  by_cases h3:u<65536
  ·rw[if_pos h3]
   obtain⟨a,b,c⟩:=uH (u/256) (by omega);have d:1<=bl8 (u/256)/\2^(bl8 (u/256)-1)<=u/256:=by omega
   obtain⟨d1,d2⟩:=d;generalize bl8 (u/256)=k at*;have e1:2^(8+k-1)=256*2^(k-1):=by rw[show 8+k-1=8+(k-1)from by omega,Nat.pow_add]
   have e2:2^(8+k)=256*2^k:=by rw[Nat.pow_add]
   rw[e1,e2];omega
  ·rw[if_neg h3]
   obtain⟨a,b,c⟩:=uH (u/65536) (by omega);have d:1<=bl8 (u/65536)/\2^(bl8 (u/65536)-1)<=u/65536:=by omega
   obtain⟨d1,d2⟩:=d;generalize bl8 (u/65536)=k at*;have e1:2^(16+k-1)=65536*2^(k-1):=by rw[show 16+k-1=16+(k-1)from by omega,Nat.pow_add]
   have e2:2^(16+k)=65536*2^k:=by rw[Nat.pow_add]
   rw[e1,e2];omega
def nd(u:Nat):Nat:=if u<1000 then 3 else if u<10000 then 4 else if u<100000 then 5 else if u<1000000 then 6 else 7
theorem xmA(k:Nat)(h:k<=24):call T 189 [.int .i64 k] [] 0=some ⟨.int .i64 (k*78913/262144:Nat),[],[]⟩:=by
 have e1:ac.wrap ((k:Int)*78913)=((k*78913:Nat):Int):=wZ (by omega)
 have e2:Int.fdiv ((k*78913:Nat):Int) (2^18)=((k*78913/262144:Nat):Int):=by rw[Int.fdiv_eq_ediv_of_nonneg _ (by decide)];rfl
 have m:min 18 64=18:=rfl;rw[ao xiC];simp only[go_sem,Q0,Q1,Q2,Q3,Q4,Q5,Q6,Q7,Q8,Q9,Qa,Qb,Qc,Qd,Qe,Qf,Qg,Qh,Qi,Qj,Qk,reduceCtorEq,reduceIte,e1,e2,m]
theorem xkN(b:Bool):call T 190 [.bool b] [] 0=some ⟨.int .i64 (if b=true then 1 else 0),[],[]⟩:=by rw[ao xiB];cases b<;>simp only[go_sem,Q0,Q1,Q2,Q3,Q4,Q5,Q6,Q7,Q8,Q9,Qa,Qb,Qc,Qd,Qe,Qf,Qg,Qh,Qi,Qj,Qk,reduceCtorEq,reduceIte]
theorem xmB(u:Nat)(h0:100<=u)(h:u<10000000):call T 172 [.int .u64 u] [] 0=some ⟨.int .i64 (nd u:Nat),[],[]⟩:=by
 obtain⟨b1,b2,b3,b4⟩:=TP u (by omega) (by omega);have g1:=xmD u (by omega);have g2:=xmA (pu u) b2;have gt:=xkN true;have gf:=xkN false
 have k7:7<=pu u:=by
  rcases bX (pu u) 7 with h5|h5
  ·have:2^pu u<=2^6:=Nat.pow_le_pow_right (by omega) (by omega)
   omega
  ·exact h5
 have key:∀v,pu u*78913/262144=v->10^v<=u*10->u<10^(v+1)->2<=v->v<=7->call T 172 [.int .u64 u] [] 0=some ⟨.int .i64 (nd u:Nat),[],[]⟩:=by
  intro v hv h1 h2 h3 h4;rw[hv]at g2;have hc:v=2\/v=3\/v=4\/v=5\/v=6\/v=7:=by omega
  rw[ao xiD];generalize pu u=bb at*;unfold nd;rcases hc with rfl|rfl|rfl|rfl|rfl|rfl
  ·have kw0:ac.wrap 2=2:=rfl
   have kw1:ac.wrap 3=3:=rfl;simp only[cr]at g2
   by_cases h5:(100:Int)<=(u:Nat)
   ·have hn:(if u<1000 then 3 else if u<10000 then 4 else if u<100000 then 5 else if u<1000000 then 6 else 7)=3:=by
     repeat' split
     all_goals omega
    rw[hn];simp only[go_sem,Q0,Q1,Q2,Q3,Q4,Q5,Q6,Q7,Q8,Q9,Qa,Qb,Qc,Qd,Qe,Qf,Qg,Qh,Qi,Qj,Qk,reduceCtorEq,reduceIte,g1,jR,g2,kW,iT,h5,gt,kV,kw0,kw1]
   ·have hn:(if u<1000 then 3 else if u<10000 then 4 else if u<100000 then 5 else if u<1000000 then 6 else 7)=2:=by
     repeat' split
     all_goals omega
    rw[hn];simp only[go_sem,Q0,Q1,Q2,Q3,Q4,Q5,Q6,Q7,Q8,Q9,Qa,Qb,Qc,Qd,Qe,Qf,Qg,Qh,Qi,Qj,Qk,reduceCtorEq,reduceIte,g1,jR,g2,kW,iT,h5,gf,kV,kw0,kw1]
  ·have kw0:ac.wrap 3=3:=rfl
   have kw1:ac.wrap 4=4:=rfl;simp only[cr]at g2
   by_cases h5:(1000:Int)<=(u:Nat)
   ·have hn:(if u<1000 then 3 else if u<10000 then 4 else if u<100000 then 5 else if u<1000000 then 6 else 7)=4:=by
     repeat' split
     all_goals omega
    rw[hn];simp only[go_sem,Q0,Q1,Q2,Q3,Q4,Q5,Q6,Q7,Q8,Q9,Qa,Qb,Qc,Qd,Qe,Qf,Qg,Qh,Qi,Qj,Qk,reduceCtorEq,reduceIte,g1,jR,g2,kW,iT,h5,gt,kV,kw0,kw1]
   ·have hn:(if u<1000 then 3 else if u<10000 then 4 else if u<100000 then 5 else if u<1000000 then 6 else 7)=3:=by
     repeat' split
     all_goals omega
    rw[hn];simp only[go_sem,Q0,Q1,Q2,Q3,Q4,Q5,Q6,Q7,Q8,Q9,Qa,Qb,Qc,Qd,Qe,Qf,Qg,Qh,Qi,Qj,Qk,reduceCtorEq,reduceIte,g1,jR,g2,kW,iT,h5,gf,kV,kw0,kw1]
  ·have kw0:ac.wrap 4=4:=rfl
   have kw1:ac.wrap 5=5:=rfl;simp only[cr]at g2
   by_cases h5:(10000:Int)<=(u:Nat)
   ·have hn:(if u<1000 then 3 else if u<10000 then 4 else if u<100000 then 5 else if u<1000000 then 6 else 7)=5:=by
     repeat' split
     all_goals omega
    rw[hn];simp only[go_sem,Q0,Q1,Q2,Q3,Q4,Q5,Q6,Q7,Q8,Q9,Qa,Qb,Qc,Qd,Qe,Qf,Qg,Qh,Qi,Qj,Qk,reduceCtorEq,reduceIte,g1,jR,g2,kW,iT,h5,gt,kV,kw0,kw1]
   ·have hn:(if u<1000 then 3 else if u<10000 then 4 else if u<100000 then 5 else if u<1000000 then 6 else 7)=4:=by
     repeat' split
     all_goals omega
    rw[hn];simp only[go_sem,Q0,Q1,Q2,Q3,Q4,Q5,Q6,Q7,Q8,Q9,Qa,Qb,Qc,Qd,Qe,Qf,Qg,Qh,Qi,Qj,Qk,reduceCtorEq,reduceIte,g1,jR,g2,kW,iT,h5,gf,kV,kw0,kw1]
  ·have kw0:ac.wrap 5=5:=rfl
   have kw1:ac.wrap 6=6:=rfl;simp only[cr]at g2
   by_cases h5:(100000:Int)<=(u:Nat)
   ·have hn:(if u<1000 then 3 else if u<10000 then 4 else if u<100000 then 5 else if u<1000000 then 6 else 7)=6:=by
     repeat' split
     all_goals omega
    rw[hn];simp only[go_sem,Q0,Q1,Q2,Q3,Q4,Q5,Q6,Q7,Q8,Q9,Qa,Qb,Qc,Qd,Qe,Qf,Qg,Qh,Qi,Qj,Qk,reduceCtorEq,reduceIte,g1,jR,g2,kW,iT,h5,gt,kV,kw0,kw1]
   ·have hn:(if u<1000 then 3 else if u<10000 then 4 else if u<100000 then 5 else if u<1000000 then 6 else 7)=5:=by
     repeat' split
     all_goals omega
    rw[hn];simp only[go_sem,Q0,Q1,Q2,Q3,Q4,Q5,Q6,Q7,Q8,Q9,Qa,Qb,Qc,Qd,Qe,Qf,Qg,Qh,Qi,Qj,Qk,reduceCtorEq,reduceIte,g1,jR,g2,kW,iT,h5,gf,kV,kw0,kw1]
  ·have kw0:ac.wrap 6=6:=rfl
   have kw1:ac.wrap 7=7:=rfl;simp only[cr]at g2
   by_cases h5:(1000000:Int)<=(u:Nat)
   ·have hn:(if u<1000 then 3 else if u<10000 then 4 else if u<100000 then 5 else if u<1000000 then 6 else 7)=7:=by
     repeat' split
     all_goals omega
    rw[hn];simp only[go_sem,Q0,Q1,Q2,Q3,Q4,Q5,Q6,Q7,Q8,Q9,Qa,Qb,Qc,Qd,Qe,Qf,Qg,Qh,Qi,Qj,Qk,reduceCtorEq,reduceIte,g1,jR,g2,kW,iT,h5,gt,kV,kw0,kw1]
   ·have hn:(if u<1000 then 3 else if u<10000 then 4 else if u<100000 then 5 else if u<1000000 then 6 else 7)=6:=by
     repeat' split
     all_goals omega
    rw[hn];simp only[go_sem,Q0,Q1,Q2,Q3,Q4,Q5,Q6,Q7,Q8,Q9,Qa,Qb,Qc,Qd,Qe,Qf,Qg,Qh,Qi,Qj,Qk,reduceCtorEq,reduceIte,g1,jR,g2,kW,iT,h5,gf,kV,kw0,kw1]
  ·have kw0:ac.wrap 7=7:=rfl
   have kw1:ac.wrap 8=8:=rfl;simp only[cr]at g2
   by_cases h5:(10000000:Int)<=(u:Nat)
   ·have hn:(if u<1000 then 3 else if u<10000 then 4 else if u<100000 then 5 else if u<1000000 then 6 else 7)=8:=by
     repeat' split
     all_goals omega
    rw[hn];simp only[go_sem,Q0,Q1,Q2,Q3,Q4,Q5,Q6,Q7,Q8,Q9,Qa,Qb,Qc,Qd,Qe,Qf,Qg,Qh,Qi,Qj,Qk,reduceCtorEq,reduceIte,g1,jR,g2,kW,iT,h5,gt,kV,kw0,kw1]
   ·have hn:(if u<1000 then 3 else if u<10000 then 4 else if u<100000 then 5 else if u<1000000 then 6 else 7)=7:=by
     repeat' split
     all_goals omega
    rw[hn];simp only[go_sem,Q0,Q1,Q2,Q3,Q4,Q5,Q6,Q7,Q8,Q9,Qa,Qb,Qc,Qd,Qe,Qf,Qg,Qh,Qi,Qj,Qk,reduceCtorEq,reduceIte,g1,jR,g2,kW,iT,h5,gf,kV,kw0,kw1]
 have hk:∀k,7<=k->k<=24->2^(k-1)<10000000->10^(k*78913/262144)<=2^(k-1)*10/\2^k<=10^(k*78913/262144+1)/\2<=k*78913/262144/\k*78913/262144<=7:=by
  intro k h1 h2 h3;have hd:∀k,k<25->7<=k->10^(k*78913/262144)<=2^(k-1)*10/\2^k<=10^(k*78913/262144+1)/\2<=k*78913/262144/\k*78913/262144<=7:=by decide
  exact hd k (by omega) h1
 obtain⟨c1,c2,c3,c4⟩:=hk (pu u) k7 b2 (by omega);exact key _ rfl (by omega) (by omega) c3 c4
theorem fm(k:Nat)(h:k<4294967296):ax.wrap (k:Int)=(k:Int):=by rw[IntKind.wrap_u32];omega
theorem xe4(u:Nat)(h1:100<=u)(h2:u<1000):call T 173 [.psl 0 1 1 3 (some 23),.int .u64 u] [.bar (am 24 0)] 0=some ⟨.tup [],[(0,.bar (0::(dec u++am 20 0)))],[]⟩:=by
 have hl:cs2.length=200:=by exact lv
 have q0:ax.wrap (u:Int)=(u:Int):=by exact fm u (by omega)
 have a1:(u:Int).tmod 100=((u % 100:Nat):Int):=by rfl
 have a2:(u:Int).tdiv 100=((u/100:Nat):Int):=by rfl
 have b2:ax.wrap ((u/100:Nat):Int)=((u/100:Nat):Int):=by exact fm _ (by omega)
 have c3:ax.wrap ((((u % 100):Nat):Int)*2)=((2*(u % 100):Nat):Int):=by rw[show(((u % 100):Nat):Int)*2=((2*(u % 100):Nat):Int)from by omega];exact fm _ (by omega)
 have d3:ax.wrap (((2*(u % 100):Nat):Int)+1)=((2*(u % 100)+1:Nat):Int):=by rw[show((2*(u % 100):Nat):Int)+1=((2*(u % 100)+1:Nat):Int)from by omega];exact fm _ (by omega)
 have e3:cs2.getD (2*(u % 100)) 0=dg ((u % 100)/10)/\cs2.getD (2*(u % 100)+1) 0=dg ((u % 100) % 10):=by exact iB _ (by omega)
 have ff3:((2*(u % 100):Nat):Int)<200/\((2*(u % 100)+1:Nat):Int)<200:=by omega
 have z1:ax.wrap (48+(((u/100):Nat):Int))=((48+(u/100):Nat):Int):=by rw[show 48+(((u/100):Nat):Int)=((48+(u/100):Nat):Int)from by omega];exact fm _ (by omega)
 have z2:bO ((48+(u/100):Nat):Int)=dg (u/100):=by rfl
 have hd:dec u=[dg ((u/100)),dg ((u % 100)/10),dg ((u % 100) % 10)]:=by rw[cm (n:=u) (by omega),cm (n:=u/10) (by omega),eh (n:=u/10/10) (by omega)];simp only[aF,aJ,iv.injEq,and_true];exact⟨congrArg dg (by omega),congrArg dg (by omega),congrArg dg (by omega)⟩
 have w0:ac.wrap 0=0:=rfl;have w1:ac.wrap 1=1:=rfl;have w2:ac.wrap 2=2:=rfl;have w3:ac.wrap 3=3:=rfl;have w4:ac.wrap 4=4:=rfl;have w5:ac.wrap 5=5:=rfl;have w6:ac.wrap 6=6:=rfl;have w7:ac.wrap 7=7:=rfl;have hr:am 24 (0:UInt8)=[0,0,0,0,0,0,0,0,0,0,0,0,0,0,0,0,0,0,0,0,0,0,0,0]:=rfl;have hr2:am 20 (0:UInt8)=[0,0,0,0,0,0,0,0,0,0,0,0,0,0,0,0,0,0,0,0]:=rfl;rw[hd,hr,hr2,ao xU];simp only[go_sem,Q0,Q1,Q2,Q3,Q4,Q5,Q6,Q7,Q8,Q9,Qa,Qb,Qc,Qd,Qe,Qf,Qg,Qh,Qi,Qj,Qk,reduceCtorEq,reduceIte];rw[ai];simp only[go_sem,Q0,Q1,Q2,Q3,Q4,Q5,Q6,Q7,Q8,Q9,Qa,Qb,Qc,Qd,Qe,Qf,Qg,Qh,Qi,Qj,Qk,reduceCtorEq,reduceIte,hl,q0,a1,a2,b2,c3,d3,e3.1,e3.2,ff3.1,ff3.2,z1,z2,w0,w1,w2,w3,w4,w5,w6,w7]
theorem xe3(u:Nat)(h1:1000<=u)(h2:u<10000):call T 173 [.psl 0 1 1 4 (some 23),.int .u64 u] [.bar (am 24 0)] 0=some ⟨.tup [],[(0,.bar (0::(dec u++am 19 0)))],[]⟩:=by
 have hl:cs2.length=200:=by exact lv
 have q0:ax.wrap (u:Int)=(u:Int):=by exact fm u (by omega)
 have a1:(u:Int).tmod 10000=((u % 10000:Nat):Int):=by rfl
 have a2:(u:Int).tdiv 10000=((u/10000:Nat):Int):=by rfl
 have b2:ax.wrap ((u/10000:Nat):Int)=((u/10000:Nat):Int):=by exact fm _ (by omega)
 have a3:(((u % 10000):Nat):Int).tdiv 100=(((u % 10000)/100:Nat):Int):=by rfl
 have b3:ax.wrap (((u % 10000)/100:Nat):Int)=(((u % 10000)/100:Nat):Int):=by exact fm _ (by omega)
 have a4:(((u % 10000):Nat):Int).tmod 100=(((u % 10000) % 100:Nat):Int):=by rfl
 have c5:ax.wrap (((((u % 10000)/100):Nat):Int)*2)=((2*((u % 10000)/100):Nat):Int):=by rw[show((((u % 10000)/100):Nat):Int)*2=((2*((u % 10000)/100):Nat):Int)from by omega];exact fm _ (by omega)
 have d5:ax.wrap (((2*((u % 10000)/100):Nat):Int)+1)=((2*((u % 10000)/100)+1:Nat):Int):=by rw[show((2*((u % 10000)/100):Nat):Int)+1=((2*((u % 10000)/100)+1:Nat):Int)from by omega];exact fm _ (by omega)
 have e5:cs2.getD (2*((u % 10000)/100)) 0=dg (((u % 10000)/100)/10)/\cs2.getD (2*((u % 10000)/100)+1) 0=dg (((u % 10000)/100) % 10):=by exact iB _ (by omega)
 have f5:((2*((u % 10000)/100):Nat):Int)<200/\((2*((u % 10000)/100)+1:Nat):Int)<200:=by omega
 have c6:ax.wrap (((((u % 10000) % 100):Nat):Int)*2)=((2*((u % 10000) % 100):Nat):Int):=by rw[show((((u % 10000) % 100):Nat):Int)*2=((2*((u % 10000) % 100):Nat):Int)from by omega];exact fm _ (by omega)
 have d6:ax.wrap (((2*((u % 10000) % 100):Nat):Int)+1)=((2*((u % 10000) % 100)+1:Nat):Int):=by rw[show((2*((u % 10000) % 100):Nat):Int)+1=((2*((u % 10000) % 100)+1:Nat):Int)from by omega];exact fm _ (by omega)
 have e6:cs2.getD (2*((u % 10000) % 100)) 0=dg (((u % 10000) % 100)/10)/\cs2.getD (2*((u % 10000) % 100)+1) 0=dg (((u % 10000) % 100) % 10):=by exact iB _ (by omega)
 have f6:((2*((u % 10000) % 100):Nat):Int)<200/\((2*((u % 10000) % 100)+1:Nat):Int)<200:=by omega
 have hd:dec u=[dg (((u % 10000)/100)/10),dg (((u % 10000)/100) % 10),dg (((u % 10000) % 100)/10),dg (((u % 10000) % 100) % 10)]:=by rw[cm (n:=u) (by omega),cm (n:=u/10) (by omega),cm (n:=u/10/10) (by omega),eh (n:=u/10/10/10) (by omega)];simp only[aF,aJ,iv.injEq,and_true];exact⟨congrArg dg (by omega),congrArg dg (by omega),congrArg dg (by omega),congrArg dg (by omega)⟩
 have w0:ac.wrap 0=0:=rfl;have w1:ac.wrap 1=1:=rfl;have w2:ac.wrap 2=2:=rfl;have w3:ac.wrap 3=3:=rfl;have w4:ac.wrap 4=4:=rfl;have w5:ac.wrap 5=5:=rfl;have w6:ac.wrap 6=6:=rfl;have w7:ac.wrap 7=7:=rfl;have hr:am 24 (0:UInt8)=[0,0,0,0,0,0,0,0,0,0,0,0,0,0,0,0,0,0,0,0,0,0,0,0]:=rfl;have hr2:am 19 (0:UInt8)=[0,0,0,0,0,0,0,0,0,0,0,0,0,0,0,0,0,0,0]:=rfl;rw[hd,hr,hr2,ao xU];simp only[go_sem,Q0,Q1,Q2,Q3,Q4,Q5,Q6,Q7,Q8,Q9,Qa,Qb,Qc,Qd,Qe,Qf,Qg,Qh,Qi,Qj,Qk,reduceCtorEq,reduceIte];rw[ai];simp only[go_sem,Q0,Q1,Q2,Q3,Q4,Q5,Q6,Q7,Q8,Q9,Qa,Qb,Qc,Qd,Qe,Qf,Qg,Qh,Qi,Qj,Qk,reduceCtorEq,reduceIte,hl,q0,a1,a2,b2,a3,b3,a4,c5,d5,e5.1,e5.2,f5.1,f5.2,c6,d6,e6.1,e6.2,f6.1,f6.2,w0,w1,w2,w3,w4,w5,w6,w7]
theorem xe2(u:Nat)(h1:10000<=u)(h2:u<100000):call T 173 [.psl 0 1 1 5 (some 23),.int .u64 u] [.bar (am 24 0)] 0=some ⟨.tup [],[(0,.bar (0::(dec u++am 18 0)))],[]⟩:=by
 have hl:cs2.length=200:=by exact lv
 have q0:ax.wrap (u:Int)=(u:Int):=by exact fm u (by omega)
 have a1:(u:Int).tmod 10000=((u % 10000:Nat):Int):=by rfl
 have a2:(u:Int).tdiv 10000=((u/10000:Nat):Int):=by rfl
 have b2:ax.wrap ((u/10000:Nat):Int)=((u/10000:Nat):Int):=by exact fm _ (by omega)
 have a3:(((u % 10000):Nat):Int).tdiv 100=(((u % 10000)/100:Nat):Int):=by rfl
 have b3:ax.wrap (((u % 10000)/100:Nat):Int)=(((u % 10000)/100:Nat):Int):=by exact fm _ (by omega)
 have a4:(((u % 10000):Nat):Int).tmod 100=(((u % 10000) % 100:Nat):Int):=by rfl
 have c5:ax.wrap (((((u % 10000)/100):Nat):Int)*2)=((2*((u % 10000)/100):Nat):Int):=by rw[show((((u % 10000)/100):Nat):Int)*2=((2*((u % 10000)/100):Nat):Int)from by omega];exact fm _ (by omega)
 have d5:ax.wrap (((2*((u % 10000)/100):Nat):Int)+1)=((2*((u % 10000)/100)+1:Nat):Int):=by rw[show((2*((u % 10000)/100):Nat):Int)+1=((2*((u % 10000)/100)+1:Nat):Int)from by omega];exact fm _ (by omega)
 have e5:cs2.getD (2*((u % 10000)/100)) 0=dg (((u % 10000)/100)/10)/\cs2.getD (2*((u % 10000)/100)+1) 0=dg (((u % 10000)/100) % 10):=by exact iB _ (by omega)
 have f5:((2*((u % 10000)/100):Nat):Int)<200/\((2*((u % 10000)/100)+1:Nat):Int)<200:=by omega
 have c6:ax.wrap (((((u % 10000) % 100):Nat):Int)*2)=((2*((u % 10000) % 100):Nat):Int):=by rw[show((((u % 10000) % 100):Nat):Int)*2=((2*((u % 10000) % 100):Nat):Int)from by omega];exact fm _ (by omega)
 have d6:ax.wrap (((2*((u % 10000) % 100):Nat):Int)+1)=((2*((u % 10000) % 100)+1:Nat):Int):=by rw[show((2*((u % 10000) % 100):Nat):Int)+1=((2*((u % 10000) % 100)+1:Nat):Int)from by omega];exact fm _ (by omega)
 have e6:cs2.getD (2*((u % 10000) % 100)) 0=dg (((u % 10000) % 100)/10)/\cs2.getD (2*((u % 10000) % 100)+1) 0=dg (((u % 10000) % 100) % 10):=by exact iB _ (by omega)
 have f6:((2*((u % 10000) % 100):Nat):Int)<200/\((2*((u % 10000) % 100)+1:Nat):Int)<200:=by omega
 have z1:ax.wrap (48+(((u/10000):Nat):Int))=((48+(u/10000):Nat):Int):=by rw[show 48+(((u/10000):Nat):Int)=((48+(u/10000):Nat):Int)from by omega];exact fm _ (by omega)
 have z2:bO ((48+(u/10000):Nat):Int)=dg (u/10000):=by rfl
 have hd:dec u=[dg ((u/10000)),dg (((u % 10000)/100)/10),dg (((u % 10000)/100) % 10),dg (((u % 10000) % 100)/10),dg (((u % 10000) % 100) % 10)]:=by rw[cm (n:=u) (by omega),cm (n:=u/10) (by omega),cm (n:=u/10/10) (by omega),cm (n:=u/10/10/10) (by omega),eh (n:=u/10/10/10/10) (by omega)];simp only[aF,aJ,iv.injEq,and_true];exact⟨congrArg dg (by omega),congrArg dg (by omega),congrArg dg (by omega),congrArg dg (by omega),congrArg dg (by omega)⟩
 have w0:ac.wrap 0=0:=rfl;have w1:ac.wrap 1=1:=rfl;have w2:ac.wrap 2=2:=rfl;have w3:ac.wrap 3=3:=rfl;have w4:ac.wrap 4=4:=rfl;have w5:ac.wrap 5=5:=rfl;have w6:ac.wrap 6=6:=rfl;have w7:ac.wrap 7=7:=rfl;have hr:am 24 (0:UInt8)=[0,0,0,0,0,0,0,0,0,0,0,0,0,0,0,0,0,0,0,0,0,0,0,0]:=rfl;have hr2:am 18 (0:UInt8)=[0,0,0,0,0,0,0,0,0,0,0,0,0,0,0,0,0,0]:=rfl;rw[hd,hr,hr2,ao xU];simp only[go_sem,Q0,Q1,Q2,Q3,Q4,Q5,Q6,Q7,Q8,Q9,Qa,Qb,Qc,Qd,Qe,Qf,Qg,Qh,Qi,Qj,Qk,reduceCtorEq,reduceIte];rw[ai];simp only[go_sem,Q0,Q1,Q2,Q3,Q4,Q5,Q6,Q7,Q8,Q9,Qa,Qb,Qc,Qd,Qe,Qf,Qg,Qh,Qi,Qj,Qk,reduceCtorEq,reduceIte,hl,q0,a1,a2,b2,a3,b3,a4,c5,d5,e5.1,e5.2,f5.1,f5.2,c6,d6,e6.1,e6.2,f6.1,f6.2,z1,z2,w0,w1,w2,w3,w4,w5,w6,w7]
theorem xe1(u:Nat)(h1:100000<=u)(h2:u<1000000):call T 173 [.psl 0 1 1 6 (some 23),.int .u64 u] [.bar (am 24 0)] 0=some ⟨.tup [],[(0,.bar (0::(dec u++am 17 0)))],[]⟩:=by
 have hl:cs2.length=200:=by exact lv
 have q0:ax.wrap (u:Int)=(u:Int):=by exact fm u (by omega)
 have a1:(u:Int).tmod 10000=((u % 10000:Nat):Int):=by rfl
 have a2:(u:Int).tdiv 10000=((u/10000:Nat):Int):=by rfl
 have b2:ax.wrap ((u/10000:Nat):Int)=((u/10000:Nat):Int):=by exact fm _ (by omega)
 have a3:(((u % 10000):Nat):Int).tdiv 100=(((u % 10000)/100:Nat):Int):=by rfl
 have b3:ax.wrap (((u % 10000)/100:Nat):Int)=(((u % 10000)/100:Nat):Int):=by exact fm _ (by omega)
 have a4:(((u % 10000):Nat):Int).tmod 100=(((u % 10000) % 100:Nat):Int):=by rfl
 have c5:ax.wrap (((((u % 10000)/100):Nat):Int)*2)=((2*((u % 10000)/100):Nat):Int):=by rw[show((((u % 10000)/100):Nat):Int)*2=((2*((u % 10000)/100):Nat):Int)from by omega];exact fm _ (by omega)
 have d5:ax.wrap (((2*((u % 10000)/100):Nat):Int)+1)=((2*((u % 10000)/100)+1:Nat):Int):=by rw[show((2*((u % 10000)/100):Nat):Int)+1=((2*((u % 10000)/100)+1:Nat):Int)from by omega];exact fm _ (by omega)
 have e5:cs2.getD (2*((u % 10000)/100)) 0=dg (((u % 10000)/100)/10)/\cs2.getD (2*((u % 10000)/100)+1) 0=dg (((u % 10000)/100) % 10):=by exact iB _ (by omega)
 have f5:((2*((u % 10000)/100):Nat):Int)<200/\((2*((u % 10000)/100)+1:Nat):Int)<200:=by omega
 have c6:ax.wrap (((((u % 10000) % 100):Nat):Int)*2)=((2*((u % 10000) % 100):Nat):Int):=by rw[show((((u % 10000) % 100):Nat):Int)*2=((2*((u % 10000) % 100):Nat):Int)from by omega];exact fm _ (by omega)
 have d6:ax.wrap (((2*((u % 10000) % 100):Nat):Int)+1)=((2*((u % 10000) % 100)+1:Nat):Int):=by rw[show((2*((u % 10000) % 100):Nat):Int)+1=((2*((u % 10000) % 100)+1:Nat):Int)from by omega];exact fm _ (by omega)
 have e6:cs2.getD (2*((u % 10000) % 100)) 0=dg (((u % 10000) % 100)/10)/\cs2.getD (2*((u % 10000) % 100)+1) 0=dg (((u % 10000) % 100) % 10):=by exact iB _ (by omega)
 have f6:((2*((u % 10000) % 100):Nat):Int)<200/\((2*((u % 10000) % 100)+1:Nat):Int)<200:=by omega
 have a7:(((u/10000):Nat):Int).tmod 100=(((u/10000) % 100:Nat):Int):=by rfl
 have a8:(((u/10000):Nat):Int).tdiv 100=(((u/10000)/100:Nat):Int):=by rfl
 have b8:ax.wrap (((u/10000)/100:Nat):Int)=(((u/10000)/100:Nat):Int):=by exact fm _ (by omega)
 have c9:ax.wrap (((((u/10000) % 100):Nat):Int)*2)=((2*((u/10000) % 100):Nat):Int):=by rw[show((((u/10000) % 100):Nat):Int)*2=((2*((u/10000) % 100):Nat):Int)from by omega];exact fm _ (by omega)
 have d9:ax.wrap (((2*((u/10000) % 100):Nat):Int)+1)=((2*((u/10000) % 100)+1:Nat):Int):=by rw[show((2*((u/10000) % 100):Nat):Int)+1=((2*((u/10000) % 100)+1:Nat):Int)from by omega];exact fm _ (by omega)
 have e9:cs2.getD (2*((u/10000) % 100)) 0=dg (((u/10000) % 100)/10)/\cs2.getD (2*((u/10000) % 100)+1) 0=dg (((u/10000) % 100) % 10):=by exact iB _ (by omega)
 have f9:((2*((u/10000) % 100):Nat):Int)<200/\((2*((u/10000) % 100)+1:Nat):Int)<200:=by omega
 have hd:dec u=[dg (((u/10000) % 100)/10),dg (((u/10000) % 100) % 10),dg (((u % 10000)/100)/10),dg (((u % 10000)/100) % 10),dg (((u % 10000) % 100)/10),dg (((u % 10000) % 100) % 10)]:=by rw[cm (n:=u) (by omega),cm (n:=u/10) (by omega),cm (n:=u/10/10) (by omega),cm (n:=u/10/10/10) (by omega),cm (n:=u/10/10/10/10) (by omega),eh (n:=u/10/10/10/10/10) (by omega)];simp only[aF,aJ,iv.injEq,and_true];exact⟨congrArg dg (by omega),congrArg dg (by omega),congrArg dg (by omega),congrArg dg (by omega),congrArg dg (by omega),congrArg dg (by omega)⟩
 have w0:ac.wrap 0=0:=rfl;have w1:ac.wrap 1=1:=rfl;have w2:ac.wrap 2=2:=rfl;have w3:ac.wrap 3=3:=rfl;have w4:ac.wrap 4=4:=rfl;have w5:ac.wrap 5=5:=rfl;have w6:ac.wrap 6=6:=rfl;have w7:ac.wrap 7=7:=rfl;have hr:am 24 (0:UInt8)=[0,0,0,0,0,0,0,0,0,0,0,0,0,0,0,0,0,0,0,0,0,0,0,0]:=rfl;have hr2:am 17 (0:UInt8)=[0,0,0,0,0,0,0,0,0,0,0,0,0,0,0,0,0]:=rfl;rw[hd,hr,hr2,ao xU];simp only[go_sem,Q0,Q1,Q2,Q3,Q4,Q5,Q6,Q7,Q8,Q9,Qa,Qb,Qc,Qd,Qe,Qf,Qg,Qh,Qi,Qj,Qk,reduceCtorEq,reduceIte];rw[ai];simp only[go_sem,Q0,Q1,Q2,Q3,Q4,Q5,Q6,Q7,Q8,Q9,Qa,Qb,Qc,Qd,Qe,Qf,Qg,Qh,Qi,Qj,Qk,reduceCtorEq,reduceIte,hl,q0,a1,a2,b2,a3,b3,a4,c5,d5,e5.1,e5.2,f5.1,f5.2,c6,d6,e6.1,e6.2,f6.1,f6.2,a7,a8,b8,c9,d9,e9.1,e9.2,f9.1,f9.2,w0,w1,w2,w3,w4,w5,w6,w7]
theorem xe0(u:Nat)(h1:1000000<=u)(h2:u<10000000):call T 173 [.psl 0 1 1 7 (some 23),.int .u64 u] [.bar (am 24 0)] 0=some ⟨.tup [],[(0,.bar (0::(dec u++am 16 0)))],[]⟩:=by
 have hl:cs2.length=200:=by exact lv
 have q0:ax.wrap (u:Int)=(u:Int):=by exact fm u (by omega)
 have a1:(u:Int).tmod 10000=((u % 10000:Nat):Int):=by rfl
 have a2:(u:Int).tdiv 10000=((u/10000:Nat):Int):=by rfl
 have b2:ax.wrap ((u/10000:Nat):Int)=((u/10000:Nat):Int):=by exact fm _ (by omega)
 have a3:(((u % 10000):Nat):Int).tdiv 100=(((u % 10000)/100:Nat):Int):=by rfl
 have b3:ax.wrap (((u % 10000)/100:Nat):Int)=(((u % 10000)/100:Nat):Int):=by exact fm _ (by omega)
 have a4:(((u % 10000):Nat):Int).tmod 100=(((u % 10000) % 100:Nat):Int):=by rfl
 have c5:ax.wrap (((((u % 10000)/100):Nat):Int)*2)=((2*((u % 10000)/100):Nat):Int):=by rw[show((((u % 10000)/100):Nat):Int)*2=((2*((u % 10000)/100):Nat):Int)from by omega];exact fm _ (by omega)
 have d5:ax.wrap (((2*((u % 10000)/100):Nat):Int)+1)=((2*((u % 10000)/100)+1:Nat):Int):=by rw[show((2*((u % 10000)/100):Nat):Int)+1=((2*((u % 10000)/100)+1:Nat):Int)from by omega];exact fm _ (by omega)
 have e5:cs2.getD (2*((u % 10000)/100)) 0=dg (((u % 10000)/100)/10)/\cs2.getD (2*((u % 10000)/100)+1) 0=dg (((u % 10000)/100) % 10):=by exact iB _ (by omega)
 have f5:((2*((u % 10000)/100):Nat):Int)<200/\((2*((u % 10000)/100)+1:Nat):Int)<200:=by omega
 have c6:ax.wrap (((((u % 10000) % 100):Nat):Int)*2)=((2*((u % 10000) % 100):Nat):Int):=by rw[show((((u % 10000) % 100):Nat):Int)*2=((2*((u % 10000) % 100):Nat):Int)from by omega];exact fm _ (by omega)
 have d6:ax.wrap (((2*((u % 10000) % 100):Nat):Int)+1)=((2*((u % 10000) % 100)+1:Nat):Int):=by rw[show((2*((u % 10000) % 100):Nat):Int)+1=((2*((u % 10000) % 100)+1:Nat):Int)from by omega];exact fm _ (by omega)
 have e6:cs2.getD (2*((u % 10000) % 100)) 0=dg (((u % 10000) % 100)/10)/\cs2.getD (2*((u % 10000) % 100)+1) 0=dg (((u % 10000) % 100) % 10):=by exact iB _ (by omega)
 have f6:((2*((u % 10000) % 100):Nat):Int)<200/\((2*((u % 10000) % 100)+1:Nat):Int)<200:=by omega
 have a7:(((u/10000):Nat):Int).tmod 100=(((u/10000) % 100:Nat):Int):=by rfl
 have a8:(((u/10000):Nat):Int).tdiv 100=(((u/10000)/100:Nat):Int):=by rfl
 have b8:ax.wrap (((u/10000)/100:Nat):Int)=(((u/10000)/100:Nat):Int):=by exact fm _ (by omega)
 have c9:ax.wrap (((((u/10000) % 100):Nat):Int)*2)=((2*((u/10000) % 100):Nat):Int):=by rw[show((((u/10000) % 100):Nat):Int)*2=((2*((u/10000) % 100):Nat):Int)from by omega];exact fm _ (by omega)
 have d9:ax.wrap (((2*((u/10000) % 100):Nat):Int)+1)=((2*((u/10000) % 100)+1:Nat):Int):=by rw[show((2*((u/10000) % 100):Nat):Int)+1=((2*((u/10000) % 100)+1:Nat):Int)from by omega];exact fm _ (by omega)
 have e9:cs2.getD (2*((u/10000) % 100)) 0=dg (((u/10000) % 100)/10)/\cs2.getD (2*((u/10000) % 100)+1) 0=dg (((u/10000) % 100) % 10):=by exact iB _ (by omega)
 have f9:((2*((u/10000) % 100):Nat):Int)<200/\((2*((u/10000) % 100)+1:Nat):Int)<200:=by omega
 have z1:ax.wrap (48+((((u/10000)/100):Nat):Int))=((48+((u/10000)/100):Nat):Int):=by rw[show 48+((((u/10000)/100):Nat):Int)=((48+((u/10000)/100):Nat):Int)from by omega];exact fm _ (by omega)
 have z2:bO ((48+((u/10000)/100):Nat):Int)=dg ((u/10000)/100):=by rfl
 have hd:dec u=[dg (((u/10000)/100)),dg (((u/10000) % 100)/10),dg (((u/10000) % 100) % 10),dg (((u % 10000)/100)/10),dg (((u % 10000)/100) % 10),dg (((u % 10000) % 100)/10),dg (((u % 10000) % 100) % 10)]:=by rw[cm (n:=u) (by omega),cm (n:=u/10) (by omega),cm (n:=u/10/10) (by omega),cm (n:=u/10/10/10) (by omega),cm (n:=u/10/10/10/10) (by omega),cm (n:=u/10/10/10/10/10) (by omega),eh (n:=u/10/10/10/10/10/10) (by omega)];simp only[aF,aJ,iv.injEq,and_true];exact⟨congrArg dg (by omega),congrArg dg (by omega),congrArg dg (by omega),congrArg dg (by omega),congrArg dg (by omega),congrArg dg (by omega),congrArg dg (by omega)⟩
 have w0:ac.wrap 0=0:=rfl;have w1:ac.wrap 1=1:=rfl;have w2:ac.wrap 2=2:=rfl;have w3:ac.wrap 3=3:=rfl;have w4:ac.wrap 4=4:=rfl;have w5:ac.wrap 5=5:=rfl;have w6:ac.wrap 6=6:=rfl;have w7:ac.wrap 7=7:=rfl;have hr:am 24 (0:UInt8)=[0,0,0,0,0,0,0,0,0,0,0,0,0,0,0,0,0,0,0,0,0,0,0,0]:=rfl;have hr2:am 16 (0:UInt8)=[0,0,0,0,0,0,0,0,0,0,0,0,0,0,0,0]:=rfl;rw[hd,hr,hr2,ao xU];simp only[go_sem,Q0,Q1,Q2,Q3,Q4,Q5,Q6,Q7,Q8,Q9,Qa,Qb,Qc,Qd,Qe,Qf,Qg,Qh,Qi,Qj,Qk,reduceCtorEq,reduceIte];rw[ai];simp only[go_sem,Q0,Q1,Q2,Q3,Q4,Q5,Q6,Q7,Q8,Q9,Qa,Qb,Qc,Qd,Qe,Qf,Qg,Qh,Qi,Qj,Qk,reduceCtorEq,reduceIte,hl,q0,a1,a2,b2,a3,b3,a4,c5,d5,e5.1,e5.2,f5.1,f5.2,c6,d6,e6.1,e6.2,f6.1,f6.2,a7,a8,b8,c9,d9,e9.1,e9.2,f9.1,f9.2,z1,z2,w0,w1,w2,w3,w4,w5,w6,w7]
theorem xmI(n:Nat)(h:n<10000000):call T 145 [.int .i64 n,.int .i64 10] [] 0=some ⟨.str (dec n),[],[]⟩:=by
 rw[ao xiM]
 by_cases h1:n<100
 ·have h1':(n:Int)<100:=by omega
  have g:=xmC n h1;simp only[go_sem,Q0,Q1,Q2,Q3,Q4,Q5,Q6,Q7,Q8,Q9,Qa,Qb,Qc,Qd,Qe,Qf,Qg,Qh,Qi,Qj,Qk,reduceCtorEq,reduceIte,h1',g,xjn]
 ·have h1':¬(n:Int)<100:=by omega
  have g1:=xmB n (by omega) h;have e1:aZ.wrap (n:Int)=(n:Int):=by rw[cB];omega
  have n0:¬(n:Int)<0:=by omega
  have hk:(nd n=3/\n<1000)\/(nd n=4/\1000<=n/\n<10000)\/(nd n=5/\10000<=n/\n<100000)\/(nd n=6/\100000<=n/\n<1000000)\/(nd n=7/\1000000<=n):=by
   unfold nd
   repeat' split
   all_goals omega
  rcases hk with⟨hk,h3⟩|⟨hk,h3,h4⟩|⟨hk,h3,h4⟩|⟨hk,h3,h4⟩|⟨hk,h3⟩
  ·have g2:=xe4 n (by omega) (by omega)
   have hl:(dec n).length=3:=by rw[cm (n:=n) (by omega),cm (n:=n/10) (by omega),eh (n:=n/10/10) (by omega)];rfl
   have ht:du 3 (dec n++am 20 0)=dec n:=by rw[<-hl];exact List.take_left
   have w1:ac.wrap (1+3)=4:=rfl;have w2:ac.wrap 4=4:=rfl;have hb:3<=(dec n).length+20:=by omega
   rw[hk]at g1;simp only[cr]at g1;simp only[go_sem,Q0,Q1,Q2,Q3,Q4,Q5,Q6,Q7,Q8,Q9,Qa,Qb,Qc,Qd,Qe,Qf,Qg,Qh,Qi,Qj,Qk,reduceCtorEq,reduceIte,h1',n0,e1,g1,xZ,g2,xY,w1,w2,ht,hl,hb,aC,af,ca]
  ·have g2:=xe3 n (by omega) (by omega)
   have hl:(dec n).length=4:=by rw[cm (n:=n) (by omega),cm (n:=n/10) (by omega),cm (n:=n/10/10) (by omega),eh (n:=n/10/10/10) (by omega)];rfl
   have ht:du 4 (dec n++am 19 0)=dec n:=by rw[<-hl];exact List.take_left
   have w1:ac.wrap (1+4)=5:=rfl;have w2:ac.wrap 5=5:=rfl;have hb:4<=(dec n).length+19:=by omega
   rw[hk]at g1;simp only[cr]at g1;simp only[go_sem,Q0,Q1,Q2,Q3,Q4,Q5,Q6,Q7,Q8,Q9,Qa,Qb,Qc,Qd,Qe,Qf,Qg,Qh,Qi,Qj,Qk,reduceCtorEq,reduceIte,h1',n0,e1,g1,xZ,g2,xY,w1,w2,ht,hl,hb,aC,af,ca]
  ·have g2:=xe2 n (by omega) (by omega)
   have hl:(dec n).length=5:=by rw[cm (n:=n) (by omega),cm (n:=n/10) (by omega),cm (n:=n/10/10) (by omega),cm (n:=n/10/10/10) (by omega),eh (n:=n/10/10/10/10) (by omega)];rfl
   have ht:du 5 (dec n++am 18 0)=dec n:=by rw[<-hl];exact List.take_left
   have w1:ac.wrap (1+5)=6:=rfl;have w2:ac.wrap 6=6:=rfl;have hb:5<=(dec n).length+18:=by omega
   rw[hk]at g1;simp only[cr]at g1;simp only[go_sem,Q0,Q1,Q2,Q3,Q4,Q5,Q6,Q7,Q8,Q9,Qa,Qb,Qc,Qd,Qe,Qf,Qg,Qh,Qi,Qj,Qk,reduceCtorEq,reduceIte,h1',n0,e1,g1,xZ,g2,xY,w1,w2,ht,hl,hb,aC,af,ca]
  ·have g2:=xe1 n (by omega) (by omega)
   have hl:(dec n).length=6:=by rw[cm (n:=n) (by omega),cm (n:=n/10) (by omega),cm (n:=n/10/10) (by omega),cm (n:=n/10/10/10) (by omega),cm (n:=n/10/10/10/10) (by omega),eh (n:=n/10/10/10/10/10) (by omega)];rfl
   have ht:du 6 (dec n++am 17 0)=dec n:=by rw[<-hl];exact List.take_left
   have w1:ac.wrap (1+6)=7:=rfl;have w2:ac.wrap 7=7:=rfl;have hb:6<=(dec n).length+17:=by omega
   rw[hk]at g1;simp only[cr]at g1;simp only[go_sem,Q0,Q1,Q2,Q3,Q4,Q5,Q6,Q7,Q8,Q9,Qa,Qb,Qc,Qd,Qe,Qf,Qg,Qh,Qi,Qj,Qk,reduceCtorEq,reduceIte,h1',n0,e1,g1,xZ,g2,xY,w1,w2,ht,hl,hb,aC,af,ca]
  ·have g2:=xe0 n (by omega) (by omega)
   have hl:(dec n).length=7:=by rw[cm (n:=n) (by omega),cm (n:=n/10) (by omega),cm (n:=n/10/10) (by omega),cm (n:=n/10/10/10) (by omega),cm (n:=n/10/10/10/10) (by omega),cm (n:=n/10/10/10/10/10) (by omega),eh (n:=n/10/10/10/10/10/10) (by omega)];rfl
   have ht:du 7 (dec n++am 16 0)=dec n:=by rw[<-hl];exact List.take_left
   have w1:ac.wrap (1+7)=8:=rfl;have w2:ac.wrap 8=8:=rfl;have hb:7<=(dec n).length+16:=by omega
   rw[hk]at g1;simp only[cr]at g1;simp only[go_sem,Q0,Q1,Q2,Q3,Q4,Q5,Q6,Q7,Q8,Q9,Qa,Qb,Qc,Qd,Qe,Qf,Qg,Qh,Qi,Qj,Qk,reduceCtorEq,reduceIte,h1',n0,e1,g1,xZ,g2,xY,w1,w2,ht,hl,hb,aC,af,ca]
theorem xmT(n:Nat)(h:n<10000000):call T 124 [.int .i64 n] [] 0=some ⟨.str (dec n),[],[]⟩:=by have g:=xmI n h;rw[ao xi3];simp only[go_sem,Q0,Q1,Q2,Q3,Q4,Q5,Q6,Q7,Q8,Q9,Qa,Qb,Qc,Qd,Qe,Qf,Qg,Qh,Qi,Qj,Qk,reduceCtorEq,reduceIte,g,xjr]
theorem f78(n:Nat)(h:n<10000000):call T 78 [.int .i64 n] [] 0=some ⟨.str (dec n),[],[]⟩:=by have g:=xmT n h;rw[ao xns];simp only[go_sem,Q0,Q1,Q2,Q3,Q4,Q5,Q6,Q7,Q8,Q9,Qa,Qb,Qc,Qd,Qe,Qf,Qg,Qh,Qi,Qj,Qk,reduceCtorEq,reduceIte,g,xjy]
end Go.Proofs.YtkcjdeofknkndaaGreatDoor
