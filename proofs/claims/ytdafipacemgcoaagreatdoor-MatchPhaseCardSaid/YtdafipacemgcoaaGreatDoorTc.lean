/- What the functions come to. No condition. -/
import Derived.Test.YtdafipacemgcoaaGreatDoorTb
set_option maxRecDepth 100000
set_option linter.unusedSimpArgs false
set_option linter.unusedVariables false
namespace Go.Proofs.YtdafipacemgcoaaGreatDoor
open Go.Sy
open UInt8 renaming reduceLT → Q0, reduceLE → Q1
open Int renaming reduceToNat → Q2, reduceLE → Q3, reduceLT → Q4, reduceEq → Q5, reduceNe → Q6, reduceNeg → Q7, reduceAdd → Q8, reduceSub → Q9, reduceMul → Qa
open Nat renaming reducePow → Qb, reduceDiv → Qc, reduceMod → Qd, reduceAdd → Qe, reduceSub → Qf, reduceMul → Qg, reduceLT → Qh, reduceLeDiff → Qi, reduceEqDiff → Qj, reduceBEq → Qk
theorem sm_get:∀v,v<100→cs2.getD (2*v) 0=dg (v/10)∧cs2.getD (2*v+1) 0=dg (v % 10):=by decide
theorem sm_slc:∀v,v<100→(cs2.take (2*v+2)).drop (2*v)=[dg (v/10),dg (v % 10)]:=by decide
theorem dg_slc:∀v,v<10→(cs1.take (v+1)).drop v=[dg v]:=by decide
theorem cs2_len:cs2.length=200:=rfl
theorem cs1_len:cs1.length=36:=rfl
theorem cs0_len:cs0.length=256:=rfl
theorem dec2 {n:Nat} (h1:10≤n) (h2:n<100):dec n=[dg (n/10),dg (n % 10)]:=by rw [dec_ge (by omega),dec_lt (by omega)];rfl
theorem f155 (n:Nat) (h:n<100):call T 155 [.int .i64 n] [] 0=some ⟨.str (dec n),[],[]⟩:=by
 have e1:IntKind.i64.wrap ((n:Int)+1)=((n+1:Nat):Int):=wsucc n (by omega);have e2:IntKind.i64.wrap ((n:Int)*2)=((2*n:Nat):Int):=by rw [w64 (by omega) (by omega)];omega
 have e3:IntKind.i64.wrap (((2*n:Nat):Int)+2)=((2*n+2:Nat):Int):=by rw [w64 (by omega) (by omega)];omega
 have l1:=cs1_len;have l2:=cs2_len;rw [call_code T_155]
 by_cases h1:n<10
 ·have h1':(n:Int)<10:=by omega
  have hs:=dg_slc n h1;have k1:n≤n+1:=by omega
  have k2:((n+1:Nat):Int)≤36:=by omega
  rw [dec_lt h1];simp only [go_sem,Qh,Qi,Qj,Qk,reduceCtorEq,reduceIte,h1',e1,l1,k1,k2,hs]
 ·have h1':¬(n:Int)<10:=by omega
  have hs:=sm_slc n h;have k1:2*n≤2*n+2:=by omega
  have k2:((2*n+2:Nat):Int)≤200:=by omega
  rw [dec2 (by omega) h];simp only [go_sem,Qh,Qi,Qj,Qk,reduceCtorEq,reduceIte,h1',e2,e3,l2,k1,k2,hs]
def bl8 (v:Nat):Nat:=(cs0.getD v 0).toNat
theorem bl8_le:∀v,v<256→bl8 v≤8∧(v=0∨(1≤bl8 v∧2^(bl8 v-1)≤v))∧v<2^bl8 v:=by unfold bl8;decide
def blen (u:Nat):Nat:=if u<256 then bl8 u else if u<65536 then 8+bl8 (u/256)else 16+bl8 (u/65536)
theorem f152 (u:Nat) (h:u<16777216):call T 152 [.int .u64 u] [] 0=some ⟨.int .i64 (blen u:Nat),[],[]⟩:=by
 have h1:¬(4294967296:Int)≤(u:Nat):=by omega
 have l0:=cs0_len;have b0:∀v,v<256→bl8 v≤8:=fun v hv=>(bl8_le v hv).1
 have kw:∀a b:Nat,a≤100→b≤8→IntKind.i64.wrap ((a:Int)+(b:Int))=((a+b:Nat):Int):=fun a b ha hb=>by rw [w64 (by omega) (by omega)];omega
 have u8:∀v,v<256→(UInt8.ofInt ((v:Nat):Int)).toNat=v:=fun v hv=>by show(UInt8.ofNat ((v:Int) % 256).toNat).toNat=v;rw [show((v:Int) % 256).toNat=v from by omega];simp;omega
 rw [call_code T_152];unfold blen;have d8:Int.fdiv (u:Int) (2^8)=((u/256:Nat):Int):=by rw [Int.fdiv_eq_ediv_of_nonneg _ (by decide)];rfl
 have d16:Int.fdiv (u:Int) (2^16)=((u/65536:Nat):Int):=by rw [Int.fdiv_eq_ediv_of_nonneg _ (by decide)];rfl
 have m8:min 8 64=8:=rfl;have m16:min 16 64=16:=rfl
 by_cases h2:u<256
 ·have a1:¬(65536:Int)≤(u:Nat):=by omega
  have a2:¬(256:Int)≤(u:Nat):=by omega
  have q:=u8 u h2;have hi:((u:Nat):Int)<256:=by omega
  have z:=kw 0 (bl8 u) (by omega) (b0 u h2);rw [Nat.zero_add,Int.natCast_zero]at z;unfold bl8 at z ⊢;simp only [go_sem,Q2,Q3,Q8,Qh,Qi,Qj,Qk,reduceCtorEq,reduceIte,h1,a1,a2,h2,q,l0,hi,z]
 ·by_cases h3:u<65536
  ·have a1:¬(65536:Int)≤(u:Nat):=by omega
   have a2:(256:Int)≤(u:Nat):=by omega
   have h4:u/256<256:=by omega
   have q:=u8 (u/256) h4;have hi:((u/256:Nat):Int)<256:=by omega
   have w8:IntKind.i64.wrap 8=8:=rfl;have z:=kw 8 (bl8 (u/256)) (by omega) (b0 _ h4);simp only [Int.cast_ofNat_Int]at z;unfold bl8 at z ⊢;simp only [go_sem,Q2,Q3,Q8,Qh,Qi,Qj,Qk,reduceCtorEq,reduceIte,h1,a1,a2,h2,h3,q,l0,hi,w8,z,d8,m8]
  ·have a1:(65536:Int)≤(u:Nat):=by omega
   have h4:u/65536<256:=by omega
   have a2:¬(256:Int)≤((u/65536:Nat):Int):=by omega
   have q:=u8 (u/65536) h4;have hi:((u/65536:Nat):Int)<256:=by omega
   have w16:IntKind.i64.wrap 16=16:=rfl;have z:=kw 16 (bl8 (u/65536)) (by omega) (b0 _ h4);simp only [Int.cast_ofNat_Int]at z;unfold bl8 at z ⊢;simp only [go_sem,Q2,Q3,Q8,Qh,Qi,Qj,Qk,reduceCtorEq,reduceIte,h1,a1,a2,h2,h3,q,l0,hi,w16,z,d16,m16]
theorem blen_ok (u:Nat) (h:u<16777216) (h1:1≤u):1≤blen u∧blen u≤24∧2^(blen u-1)≤u∧u<2^blen u:=by
 unfold blen
 by_cases h2:u<256
 ·rw [if_pos h2]
  obtain⟨a,b,c⟩:=bl8_le u h2;omega
 ·rw [if_neg h2]
  by_cases h3:u<65536
  ·rw [if_pos h3]
   obtain⟨a,b,c⟩:=bl8_le (u/256) (by omega);have d:1≤bl8 (u/256)∧2^(bl8 (u/256)-1)≤u/256:=by omega
   obtain⟨d1,d2⟩:=d;generalize bl8 (u/256)=k at*;have e1:2^(8+k-1)=256*2^(k-1):=by rw [show 8+k-1=8+(k-1)from by omega,Nat.pow_add]
   have e2:2^(8+k)=256*2^k:=by rw [Nat.pow_add]
   rw [e1,e2];omega
  ·rw [if_neg h3]
   obtain⟨a,b,c⟩:=bl8_le (u/65536) (by omega);have d:1≤bl8 (u/65536)∧2^(bl8 (u/65536)-1)≤u/65536:=by omega
   obtain⟨d1,d2⟩:=d;generalize bl8 (u/65536)=k at*;have e1:2^(16+k-1)=65536*2^(k-1):=by rw [show 16+k-1=16+(k-1)from by omega,Nat.pow_add]
   have e2:2^(16+k)=65536*2^k:=by rw [Nat.pow_add]
   rw [e1,e2];omega
def nd (u:Nat):Nat:=if u<1000 then 3 else if u<10000 then 4 else if u<100000 then 5 else if u<1000000 then 6 else 7
theorem f178 (k:Nat) (h:k≤24):call T 178 [.int .i64 k] [] 0=some ⟨.int .i64 (k*78913/262144:Nat),[],[]⟩:=by
 have e1:IntKind.i64.wrap ((k:Int)*78913)=((k*78913:Nat):Int):=by rw [w64 (by omega) (by omega)];omega
 have e2:Int.fdiv ((k*78913:Nat):Int) (2^18)=((k*78913/262144:Nat):Int):=by rw [Int.fdiv_eq_ediv_of_nonneg _ (by decide)];rfl
 have m:min 18 64=18:=rfl;rw [call_code T_178];simp only [go_sem,Q2,Q3,Qh,Qi,Qj,Qk,reduceCtorEq,reduceIte,e1,e2,m]
theorem f179 (b:Bool):call T 179 [.bool b] [] 0=some ⟨.int .i64 (if b=true then 1 else 0),[],[]⟩:=by rw [call_code T_179];cases b<;>simp only [go_sem,Qi,Qk,reduceCtorEq,reduceIte]
set_option maxHeartbeats 4000000 in
theorem f156 (u:Nat) (h0:100≤u) (h:u<10000000):call T 156 [.int .u64 u] [] 0=some ⟨.int .i64 (nd u:Nat),[],[]⟩:=by
 obtain⟨b1,b2,b3,b4⟩:=blen_ok u (by omega) (by omega);have g1:=f152 u (by omega);have g2:=f178 (blen u) b2;have gt:=f179 true;have gf:=f179 false
 have k7:7≤blen u:=by
  rcases Nat.lt_or_ge (blen u) 7 with h5|h5
  ·have:2^blen u≤2^6:=Nat.pow_le_pow_right (by omega) (by omega)
   omega
  ·exact h5
 have key:∀v,blen u*78913/262144=v→10^v≤u*10→u<10^(v+1)→2≤v→v≤7→call T 156 [.int .u64 u] [] 0=some ⟨.int .i64 (nd u:Nat),[],[]⟩:=by
  intro v hv h1 h2 h3 h4;rw [hv]at g2;have hc:v=2∨v=3∨v=4∨v=5∨v=6∨v=7:=by omega
  rw [call_code T_156];generalize blen u=bb at*;unfold nd;rcases hc with rfl|rfl|rfl|rfl|rfl|rfl
  ·have kw0:IntKind.i64.wrap 2=2:=rfl
   have kw1:IntKind.i64.wrap 3=3:=rfl;simp only [Int.cast_ofNat_Int]at g2
   by_cases h5:(100:Int)≤(u:Nat)
   ·have hn:(if u<1000 then 3 else if u<10000 then 4 else if u<100000 then 5 else if u<1000000 then 6 else 7)=3:=by
     repeat' split
     all_goals omega
    rw [hn];simp only [go_sem,Q2,Q3,Q4,Q8,Qe,Qg,Qh,Qi,Qj,Qk,reduceCtorEq,reduceIte,g1,S_152,g2,S_178,gtab3,h5,gt,S_179,kw1]
   ·have hn:(if u<1000 then 3 else if u<10000 then 4 else if u<100000 then 5 else if u<1000000 then 6 else 7)=2:=by
     repeat' split
     all_goals omega
    rw [hn];simp only [go_sem,Q2,Q3,Q4,Q8,Qe,Qg,Qh,Qi,Qj,Qk,reduceCtorEq,reduceIte,g1,S_152,g2,S_178,gtab3,h5,gf,S_179,kw0]
  ·have kw0:IntKind.i64.wrap 3=3:=rfl
   have kw1:IntKind.i64.wrap 4=4:=rfl;simp only [Int.cast_ofNat_Int]at g2
   by_cases h5:(1000:Int)≤(u:Nat)
   ·have hn:(if u<1000 then 3 else if u<10000 then 4 else if u<100000 then 5 else if u<1000000 then 6 else 7)=4:=by
     repeat' split
     all_goals omega
    rw [hn];simp only [go_sem,Q2,Q3,Q4,Q8,Qe,Qg,Qh,Qi,Qj,Qk,reduceCtorEq,reduceIte,g1,S_152,g2,S_178,gtab3,h5,gt,S_179,kw1]
   ·have hn:(if u<1000 then 3 else if u<10000 then 4 else if u<100000 then 5 else if u<1000000 then 6 else 7)=3:=by
     repeat' split
     all_goals omega
    rw [hn];simp only [go_sem,Q2,Q3,Q4,Q8,Qe,Qg,Qh,Qi,Qj,Qk,reduceCtorEq,reduceIte,g1,S_152,g2,S_178,gtab3,h5,gf,S_179,kw0]
  ·have kw0:IntKind.i64.wrap 4=4:=rfl
   have kw1:IntKind.i64.wrap 5=5:=rfl;simp only [Int.cast_ofNat_Int]at g2
   by_cases h5:(10000:Int)≤(u:Nat)
   ·have hn:(if u<1000 then 3 else if u<10000 then 4 else if u<100000 then 5 else if u<1000000 then 6 else 7)=5:=by
     repeat' split
     all_goals omega
    rw [hn];simp only [go_sem,Q2,Q3,Q4,Q8,Qe,Qg,Qh,Qi,Qj,Qk,reduceCtorEq,reduceIte,g1,S_152,g2,S_178,gtab3,h5,gt,S_179,kw1]
   ·have hn:(if u<1000 then 3 else if u<10000 then 4 else if u<100000 then 5 else if u<1000000 then 6 else 7)=4:=by
     repeat' split
     all_goals omega
    rw [hn];simp only [go_sem,Q2,Q3,Q4,Q8,Qe,Qg,Qh,Qi,Qj,Qk,reduceCtorEq,reduceIte,g1,S_152,g2,S_178,gtab3,h5,gf,S_179,kw0]
  ·have kw0:IntKind.i64.wrap 5=5:=rfl
   have kw1:IntKind.i64.wrap 6=6:=rfl;simp only [Int.cast_ofNat_Int]at g2
   by_cases h5:(100000:Int)≤(u:Nat)
   ·have hn:(if u<1000 then 3 else if u<10000 then 4 else if u<100000 then 5 else if u<1000000 then 6 else 7)=6:=by
     repeat' split
     all_goals omega
    rw [hn];simp only [go_sem,Q2,Q3,Q4,Q8,Qe,Qg,Qh,Qi,Qj,Qk,reduceCtorEq,reduceIte,g1,S_152,g2,S_178,gtab3,h5,gt,S_179,kw1]
   ·have hn:(if u<1000 then 3 else if u<10000 then 4 else if u<100000 then 5 else if u<1000000 then 6 else 7)=5:=by
     repeat' split
     all_goals omega
    rw [hn];simp only [go_sem,Q2,Q3,Q4,Q8,Qe,Qg,Qh,Qi,Qj,Qk,reduceCtorEq,reduceIte,g1,S_152,g2,S_178,gtab3,h5,gf,S_179,kw0]
  ·have kw0:IntKind.i64.wrap 6=6:=rfl
   have kw1:IntKind.i64.wrap 7=7:=rfl;simp only [Int.cast_ofNat_Int]at g2
   by_cases h5:(1000000:Int)≤(u:Nat)
   ·have hn:(if u<1000 then 3 else if u<10000 then 4 else if u<100000 then 5 else if u<1000000 then 6 else 7)=7:=by
     repeat' split
     all_goals omega
    rw [hn];simp only [go_sem,Q2,Q3,Q4,Q8,Qe,Qg,Qh,Qi,Qj,Qk,reduceCtorEq,reduceIte,g1,S_152,g2,S_178,gtab3,h5,gt,S_179,kw1]
   ·have hn:(if u<1000 then 3 else if u<10000 then 4 else if u<100000 then 5 else if u<1000000 then 6 else 7)=6:=by
     repeat' split
     all_goals omega
    rw [hn];simp only [go_sem,Q2,Q3,Q4,Q8,Qe,Qg,Qh,Qi,Qj,Qk,reduceCtorEq,reduceIte,g1,S_152,g2,S_178,gtab3,h5,gf,S_179,kw0]
  ·have kw0:IntKind.i64.wrap 7=7:=rfl
   have kw1:IntKind.i64.wrap 8=8:=rfl;simp only [Int.cast_ofNat_Int]at g2
   by_cases h5:(10000000:Int)≤(u:Nat)
   ·have hn:(if u<1000 then 3 else if u<10000 then 4 else if u<100000 then 5 else if u<1000000 then 6 else 7)=8:=by
     repeat' split
     all_goals omega
    rw [hn];simp only [go_sem,Q2,Q3,Q4,Q8,Qe,Qg,Qh,Qi,Qj,Qk,reduceCtorEq,reduceIte,g1,S_152,g2,S_178,gtab3,h5,gt,S_179,kw1]
   ·have hn:(if u<1000 then 3 else if u<10000 then 4 else if u<100000 then 5 else if u<1000000 then 6 else 7)=7:=by
     repeat' split
     all_goals omega
    rw [hn];simp only [go_sem,Q2,Q3,Q4,Q8,Qe,Qg,Qh,Qi,Qj,Qk,reduceCtorEq,reduceIte,g1,S_152,g2,S_178,gtab3,h5,gf,S_179,kw0]
 have hk:∀k,7≤k→k≤24→2^(k-1)<10000000→10^(k*78913/262144)≤2^(k-1)*10∧2^k≤10^(k*78913/262144+1)∧2≤k*78913/262144∧k*78913/262144≤7:=by
  intro k h1 h2 h3;have hd:∀k,k<25→7≤k→10^(k*78913/262144)≤2^(k-1)*10∧2^k≤10^(k*78913/262144+1)∧2≤k*78913/262144∧k*78913/262144≤7:=by decide
  exact hd k (by omega) h1
 obtain⟨c1,c2,c3,c4⟩:=hk (blen u) k7 b2 (by omega);exact key _ rfl (by omega) (by omega) c3 c4
theorem u32c (k:Nat) (h:k<4294967296):IntKind.u32.wrap (k:Int)=(k:Int):=by rw [IntKind.wrap_u32];omega
set_option maxHeartbeats 8000000 in
theorem f157_3 (u:Nat) (h1:100≤u) (h2:u<1000):call T 157 [.psl 0 1 1 3 (some 23),.int .u64 u] [.bar (List.replicate 24 0)] 0=some ⟨.tup [],[(0,.bar (0::(dec u++List.replicate 20 0)))],[]⟩:=by
 have hl:cs2.length=200:=by exact cs2_len
 have q0:IntKind.u32.wrap ((u:Nat):Int)=((u:Nat):Int):=by exact u32c u (by omega)
 have a1:((u:Nat):Int).tmod 100=((u % 100:Nat):Int):=by rfl
 have a2:((u:Nat):Int).tdiv 100=((u/100:Nat):Int):=by rfl
 have b2:IntKind.u32.wrap ((u/100:Nat):Int)=((u/100:Nat):Int):=by exact u32c _ (by omega)
 have c3:IntKind.u32.wrap ((((u % 100):Nat):Int)*2)=((2*(u % 100):Nat):Int):=by rw [show(((u % 100):Nat):Int)*2=((2*(u % 100):Nat):Int)from by omega];exact u32c _ (by omega)
 have d3:IntKind.u32.wrap (((2*(u % 100):Nat):Int)+1)=((2*(u % 100)+1:Nat):Int):=by rw [show((2*(u % 100):Nat):Int)+1=((2*(u % 100)+1:Nat):Int)from by omega];exact u32c _ (by omega)
 have e3:cs2.getD (2*(u % 100)) 0=dg ((u % 100)/10)∧cs2.getD (2*(u % 100)+1) 0=dg ((u % 100) % 10):=by exact sm_get _ (by omega)
 have f3:((2*(u % 100):Nat):Int)<200∧((2*(u % 100)+1:Nat):Int)<200:=by omega
 have z1:IntKind.u32.wrap (48+(((u/100):Nat):Int))=((48+(u/100):Nat):Int):=by rw [show 48+(((u/100):Nat):Int)=((48+(u/100):Nat):Int)from by omega];exact u32c _ (by omega)
 have z2:UInt8.ofInt ((48+(u/100):Nat):Int)=dg (u/100):=by rfl
 have hd:dec u=[dg ((u/100)),dg ((u % 100)/10),dg ((u % 100) % 10)]:=by rw [dec_ge (n:=u) (by omega),dec_ge (n:=u/10) (by omega),dec_lt (n:=u/10/10) (by omega)];simp only [List.nil_append,List.cons_append,List.cons.injEq,and_true];exact⟨congrArg dg (by omega),congrArg dg (by omega),congrArg dg (by omega)⟩
 have w0:IntKind.i64.wrap 0=0:=rfl;have w1:IntKind.i64.wrap 1=1:=rfl;have w2:IntKind.i64.wrap 2=2:=rfl;have w3:IntKind.i64.wrap 3=3:=rfl;have w4:IntKind.i64.wrap 4=4:=rfl;have w5:IntKind.i64.wrap 5=5:=rfl;have w6:IntKind.i64.wrap 6=6:=rfl;have w7:IntKind.i64.wrap 7=7:=rfl;have hr:List.replicate 24 (0:UInt8)=[0,0,0,0,0,0,0,0,0,0,0,0,0,0,0,0,0,0,0,0,0,0,0,0]:=rfl;have hr2:List.replicate 20 (0:UInt8)=[0,0,0,0,0,0,0,0,0,0,0,0,0,0,0,0,0,0,0,0]:=rfl;rw [hd,hr,hr2,call_code T_157];simp only [go_sem,Qe,Qh,Qi,Qj,Qk,reduceCtorEq,reduceIte];rw [run_loop];simp only [go_sem,Q2,Q3,Q4,Q5,Q9,Qb,Qc,Qd,Qe,Qh,Qj,Qk,reduceCtorEq,reduceIte,hl,q0,a1,a2,b2,c3,d3,e3.1,e3.2,f3.1,f3.2,z1,z2,w1,w2]
set_option maxHeartbeats 8000000 in
theorem f157_4 (u:Nat) (h1:1000≤u) (h2:u<10000):call T 157 [.psl 0 1 1 4 (some 23),.int .u64 u] [.bar (List.replicate 24 0)] 0=some ⟨.tup [],[(0,.bar (0::(dec u++List.replicate 19 0)))],[]⟩:=by
 have hl:cs2.length=200:=by exact cs2_len
 have q0:IntKind.u32.wrap ((u:Nat):Int)=((u:Nat):Int):=by exact u32c u (by omega)
 have a1:((u:Nat):Int).tmod 10000=((u % 10000:Nat):Int):=by rfl
 have a2:((u:Nat):Int).tdiv 10000=((u/10000:Nat):Int):=by rfl
 have b2:IntKind.u32.wrap ((u/10000:Nat):Int)=((u/10000:Nat):Int):=by exact u32c _ (by omega)
 have a3:(((u % 10000):Nat):Int).tdiv 100=(((u % 10000)/100:Nat):Int):=by rfl
 have b3:IntKind.u32.wrap (((u % 10000)/100:Nat):Int)=(((u % 10000)/100:Nat):Int):=by exact u32c _ (by omega)
 have a4:(((u % 10000):Nat):Int).tmod 100=(((u % 10000) % 100:Nat):Int):=by rfl
 have c5:IntKind.u32.wrap (((((u % 10000)/100):Nat):Int)*2)=((2*((u % 10000)/100):Nat):Int):=by rw [show((((u % 10000)/100):Nat):Int)*2=((2*((u % 10000)/100):Nat):Int)from by omega];exact u32c _ (by omega)
 have d5:IntKind.u32.wrap (((2*((u % 10000)/100):Nat):Int)+1)=((2*((u % 10000)/100)+1:Nat):Int):=by rw [show((2*((u % 10000)/100):Nat):Int)+1=((2*((u % 10000)/100)+1:Nat):Int)from by omega];exact u32c _ (by omega)
 have e5:cs2.getD (2*((u % 10000)/100)) 0=dg (((u % 10000)/100)/10)∧cs2.getD (2*((u % 10000)/100)+1) 0=dg (((u % 10000)/100) % 10):=by exact sm_get _ (by omega)
 have f5:((2*((u % 10000)/100):Nat):Int)<200∧((2*((u % 10000)/100)+1:Nat):Int)<200:=by omega
 have c6:IntKind.u32.wrap (((((u % 10000) % 100):Nat):Int)*2)=((2*((u % 10000) % 100):Nat):Int):=by rw [show((((u % 10000) % 100):Nat):Int)*2=((2*((u % 10000) % 100):Nat):Int)from by omega];exact u32c _ (by omega)
 have d6:IntKind.u32.wrap (((2*((u % 10000) % 100):Nat):Int)+1)=((2*((u % 10000) % 100)+1:Nat):Int):=by rw [show((2*((u % 10000) % 100):Nat):Int)+1=((2*((u % 10000) % 100)+1:Nat):Int)from by omega];exact u32c _ (by omega)
 have e6:cs2.getD (2*((u % 10000) % 100)) 0=dg (((u % 10000) % 100)/10)∧cs2.getD (2*((u % 10000) % 100)+1) 0=dg (((u % 10000) % 100) % 10):=by exact sm_get _ (by omega)
 have f6:((2*((u % 10000) % 100):Nat):Int)<200∧((2*((u % 10000) % 100)+1:Nat):Int)<200:=by omega
 have hd:dec u=[dg (((u % 10000)/100)/10),dg (((u % 10000)/100) % 10),dg (((u % 10000) % 100)/10),dg (((u % 10000) % 100) % 10)]:=by rw [dec_ge (n:=u) (by omega),dec_ge (n:=u/10) (by omega),dec_ge (n:=u/10/10) (by omega),dec_lt (n:=u/10/10/10) (by omega)];simp only [List.nil_append,List.cons_append,List.cons.injEq,and_true];exact⟨congrArg dg (by omega),congrArg dg (by omega),congrArg dg (by omega),congrArg dg (by omega)⟩
 have w0:IntKind.i64.wrap 0=0:=rfl;have w1:IntKind.i64.wrap 1=1:=rfl;have w2:IntKind.i64.wrap 2=2:=rfl;have w3:IntKind.i64.wrap 3=3:=rfl;have w4:IntKind.i64.wrap 4=4:=rfl;have w5:IntKind.i64.wrap 5=5:=rfl;have w6:IntKind.i64.wrap 6=6:=rfl;have w7:IntKind.i64.wrap 7=7:=rfl;have hr:List.replicate 24 (0:UInt8)=[0,0,0,0,0,0,0,0,0,0,0,0,0,0,0,0,0,0,0,0,0,0,0,0]:=rfl;have hr2:List.replicate 19 (0:UInt8)=[0,0,0,0,0,0,0,0,0,0,0,0,0,0,0,0,0,0,0]:=rfl;rw [hd,hr,hr2,call_code T_157];simp only [go_sem,Qe,Qh,Qi,Qj,Qk,reduceCtorEq,reduceIte];rw [run_loop];simp only [go_sem,Q2,Q3,Q4,Q5,Q7,Q9,Qb,Qc,Qd,Qe,Qh,Qj,Qk,reduceCtorEq,reduceIte,hl,q0,a1,a2,b2,a3,b3,a4,c5,d5,e5.1,e5.2,f5.1,f5.2,c6,d6,e6.1,e6.2,f6.1,f6.2,w0,w1,w2,w3]
set_option maxHeartbeats 8000000 in
theorem f157_5 (u:Nat) (h1:10000≤u) (h2:u<100000):call T 157 [.psl 0 1 1 5 (some 23),.int .u64 u] [.bar (List.replicate 24 0)] 0=some ⟨.tup [],[(0,.bar (0::(dec u++List.replicate 18 0)))],[]⟩:=by
 have hl:cs2.length=200:=by exact cs2_len
 have q0:IntKind.u32.wrap ((u:Nat):Int)=((u:Nat):Int):=by exact u32c u (by omega)
 have a1:((u:Nat):Int).tmod 10000=((u % 10000:Nat):Int):=by rfl
 have a2:((u:Nat):Int).tdiv 10000=((u/10000:Nat):Int):=by rfl
 have b2:IntKind.u32.wrap ((u/10000:Nat):Int)=((u/10000:Nat):Int):=by exact u32c _ (by omega)
 have a3:(((u % 10000):Nat):Int).tdiv 100=(((u % 10000)/100:Nat):Int):=by rfl
 have b3:IntKind.u32.wrap (((u % 10000)/100:Nat):Int)=(((u % 10000)/100:Nat):Int):=by exact u32c _ (by omega)
 have a4:(((u % 10000):Nat):Int).tmod 100=(((u % 10000) % 100:Nat):Int):=by rfl
 have c5:IntKind.u32.wrap (((((u % 10000)/100):Nat):Int)*2)=((2*((u % 10000)/100):Nat):Int):=by rw [show((((u % 10000)/100):Nat):Int)*2=((2*((u % 10000)/100):Nat):Int)from by omega];exact u32c _ (by omega)
 have d5:IntKind.u32.wrap (((2*((u % 10000)/100):Nat):Int)+1)=((2*((u % 10000)/100)+1:Nat):Int):=by rw [show((2*((u % 10000)/100):Nat):Int)+1=((2*((u % 10000)/100)+1:Nat):Int)from by omega];exact u32c _ (by omega)
 have e5:cs2.getD (2*((u % 10000)/100)) 0=dg (((u % 10000)/100)/10)∧cs2.getD (2*((u % 10000)/100)+1) 0=dg (((u % 10000)/100) % 10):=by exact sm_get _ (by omega)
 have f5:((2*((u % 10000)/100):Nat):Int)<200∧((2*((u % 10000)/100)+1:Nat):Int)<200:=by omega
 have c6:IntKind.u32.wrap (((((u % 10000) % 100):Nat):Int)*2)=((2*((u % 10000) % 100):Nat):Int):=by rw [show((((u % 10000) % 100):Nat):Int)*2=((2*((u % 10000) % 100):Nat):Int)from by omega];exact u32c _ (by omega)
 have d6:IntKind.u32.wrap (((2*((u % 10000) % 100):Nat):Int)+1)=((2*((u % 10000) % 100)+1:Nat):Int):=by rw [show((2*((u % 10000) % 100):Nat):Int)+1=((2*((u % 10000) % 100)+1:Nat):Int)from by omega];exact u32c _ (by omega)
 have e6:cs2.getD (2*((u % 10000) % 100)) 0=dg (((u % 10000) % 100)/10)∧cs2.getD (2*((u % 10000) % 100)+1) 0=dg (((u % 10000) % 100) % 10):=by exact sm_get _ (by omega)
 have f6:((2*((u % 10000) % 100):Nat):Int)<200∧((2*((u % 10000) % 100)+1:Nat):Int)<200:=by omega
 have z1:IntKind.u32.wrap (48+(((u/10000):Nat):Int))=((48+(u/10000):Nat):Int):=by rw [show 48+(((u/10000):Nat):Int)=((48+(u/10000):Nat):Int)from by omega];exact u32c _ (by omega)
 have z2:UInt8.ofInt ((48+(u/10000):Nat):Int)=dg (u/10000):=by rfl
 have hd:dec u=[dg ((u/10000)),dg (((u % 10000)/100)/10),dg (((u % 10000)/100) % 10),dg (((u % 10000) % 100)/10),dg (((u % 10000) % 100) % 10)]:=by rw [dec_ge (n:=u) (by omega),dec_ge (n:=u/10) (by omega),dec_ge (n:=u/10/10) (by omega),dec_ge (n:=u/10/10/10) (by omega),dec_lt (n:=u/10/10/10/10) (by omega)];simp only [List.nil_append,List.cons_append,List.cons.injEq,and_true];exact⟨congrArg dg (by omega),congrArg dg (by omega),congrArg dg (by omega),congrArg dg (by omega),congrArg dg (by omega)⟩
 have w0:IntKind.i64.wrap 0=0:=rfl;have w1:IntKind.i64.wrap 1=1:=rfl;have w2:IntKind.i64.wrap 2=2:=rfl;have w3:IntKind.i64.wrap 3=3:=rfl;have w4:IntKind.i64.wrap 4=4:=rfl;have w5:IntKind.i64.wrap 5=5:=rfl;have w6:IntKind.i64.wrap 6=6:=rfl;have w7:IntKind.i64.wrap 7=7:=rfl;have hr:List.replicate 24 (0:UInt8)=[0,0,0,0,0,0,0,0,0,0,0,0,0,0,0,0,0,0,0,0,0,0,0,0]:=rfl;have hr2:List.replicate 18 (0:UInt8)=[0,0,0,0,0,0,0,0,0,0,0,0,0,0,0,0,0,0]:=rfl;rw [hd,hr,hr2,call_code T_157];simp only [go_sem,Qe,Qh,Qi,Qj,Qk,reduceCtorEq,reduceIte];rw [run_loop];simp only [go_sem,Q2,Q3,Q4,Q5,Q7,Q9,Qb,Qc,Qd,Qe,Qh,Qj,Qk,reduceCtorEq,reduceIte,hl,q0,a1,a2,b2,a3,b3,a4,c5,d5,e5.1,e5.2,f5.1,f5.2,c6,d6,e6.1,e6.2,f6.1,f6.2,z1,z2,w0,w1,w2,w3,w4]
set_option maxHeartbeats 8000000 in
theorem f157_6 (u:Nat) (h1:100000≤u) (h2:u<1000000):call T 157 [.psl 0 1 1 6 (some 23),.int .u64 u] [.bar (List.replicate 24 0)] 0=some ⟨.tup [],[(0,.bar (0::(dec u++List.replicate 17 0)))],[]⟩:=by
 have hl:cs2.length=200:=by exact cs2_len
 have q0:IntKind.u32.wrap ((u:Nat):Int)=((u:Nat):Int):=by exact u32c u (by omega)
 have a1:((u:Nat):Int).tmod 10000=((u % 10000:Nat):Int):=by rfl
 have a2:((u:Nat):Int).tdiv 10000=((u/10000:Nat):Int):=by rfl
 have b2:IntKind.u32.wrap ((u/10000:Nat):Int)=((u/10000:Nat):Int):=by exact u32c _ (by omega)
 have a3:(((u % 10000):Nat):Int).tdiv 100=(((u % 10000)/100:Nat):Int):=by rfl
 have b3:IntKind.u32.wrap (((u % 10000)/100:Nat):Int)=(((u % 10000)/100:Nat):Int):=by exact u32c _ (by omega)
 have a4:(((u % 10000):Nat):Int).tmod 100=(((u % 10000) % 100:Nat):Int):=by rfl
 have c5:IntKind.u32.wrap (((((u % 10000)/100):Nat):Int)*2)=((2*((u % 10000)/100):Nat):Int):=by rw [show((((u % 10000)/100):Nat):Int)*2=((2*((u % 10000)/100):Nat):Int)from by omega];exact u32c _ (by omega)
 have d5:IntKind.u32.wrap (((2*((u % 10000)/100):Nat):Int)+1)=((2*((u % 10000)/100)+1:Nat):Int):=by rw [show((2*((u % 10000)/100):Nat):Int)+1=((2*((u % 10000)/100)+1:Nat):Int)from by omega];exact u32c _ (by omega)
 have e5:cs2.getD (2*((u % 10000)/100)) 0=dg (((u % 10000)/100)/10)∧cs2.getD (2*((u % 10000)/100)+1) 0=dg (((u % 10000)/100) % 10):=by exact sm_get _ (by omega)
 have f5:((2*((u % 10000)/100):Nat):Int)<200∧((2*((u % 10000)/100)+1:Nat):Int)<200:=by omega
 have c6:IntKind.u32.wrap (((((u % 10000) % 100):Nat):Int)*2)=((2*((u % 10000) % 100):Nat):Int):=by rw [show((((u % 10000) % 100):Nat):Int)*2=((2*((u % 10000) % 100):Nat):Int)from by omega];exact u32c _ (by omega)
 have d6:IntKind.u32.wrap (((2*((u % 10000) % 100):Nat):Int)+1)=((2*((u % 10000) % 100)+1:Nat):Int):=by rw [show((2*((u % 10000) % 100):Nat):Int)+1=((2*((u % 10000) % 100)+1:Nat):Int)from by omega];exact u32c _ (by omega)
 have e6:cs2.getD (2*((u % 10000) % 100)) 0=dg (((u % 10000) % 100)/10)∧cs2.getD (2*((u % 10000) % 100)+1) 0=dg (((u % 10000) % 100) % 10):=by exact sm_get _ (by omega)
 have f6:((2*((u % 10000) % 100):Nat):Int)<200∧((2*((u % 10000) % 100)+1:Nat):Int)<200:=by omega
 have a7:(((u/10000):Nat):Int).tmod 100=(((u/10000) % 100:Nat):Int):=by rfl
 have a8:(((u/10000):Nat):Int).tdiv 100=(((u/10000)/100:Nat):Int):=by rfl
 have b8:IntKind.u32.wrap (((u/10000)/100:Nat):Int)=(((u/10000)/100:Nat):Int):=by exact u32c _ (by omega)
 have c9:IntKind.u32.wrap (((((u/10000) % 100):Nat):Int)*2)=((2*((u/10000) % 100):Nat):Int):=by rw [show((((u/10000) % 100):Nat):Int)*2=((2*((u/10000) % 100):Nat):Int)from by omega];exact u32c _ (by omega)
 have d9:IntKind.u32.wrap (((2*((u/10000) % 100):Nat):Int)+1)=((2*((u/10000) % 100)+1:Nat):Int):=by rw [show((2*((u/10000) % 100):Nat):Int)+1=((2*((u/10000) % 100)+1:Nat):Int)from by omega];exact u32c _ (by omega)
 have e9:cs2.getD (2*((u/10000) % 100)) 0=dg (((u/10000) % 100)/10)∧cs2.getD (2*((u/10000) % 100)+1) 0=dg (((u/10000) % 100) % 10):=by exact sm_get _ (by omega)
 have f9:((2*((u/10000) % 100):Nat):Int)<200∧((2*((u/10000) % 100)+1:Nat):Int)<200:=by omega
 have hd:dec u=[dg (((u/10000) % 100)/10),dg (((u/10000) % 100) % 10),dg (((u % 10000)/100)/10),dg (((u % 10000)/100) % 10),dg (((u % 10000) % 100)/10),dg (((u % 10000) % 100) % 10)]:=by rw [dec_ge (n:=u) (by omega),dec_ge (n:=u/10) (by omega),dec_ge (n:=u/10/10) (by omega),dec_ge (n:=u/10/10/10) (by omega),dec_ge (n:=u/10/10/10/10) (by omega),dec_lt (n:=u/10/10/10/10/10) (by omega)];simp only [List.nil_append,List.cons_append,List.cons.injEq,and_true];exact⟨congrArg dg (by omega),congrArg dg (by omega),congrArg dg (by omega),congrArg dg (by omega),congrArg dg (by omega),congrArg dg (by omega)⟩
 have w0:IntKind.i64.wrap 0=0:=rfl;have w1:IntKind.i64.wrap 1=1:=rfl;have w2:IntKind.i64.wrap 2=2:=rfl;have w3:IntKind.i64.wrap 3=3:=rfl;have w4:IntKind.i64.wrap 4=4:=rfl;have w5:IntKind.i64.wrap 5=5:=rfl;have w6:IntKind.i64.wrap 6=6:=rfl;have w7:IntKind.i64.wrap 7=7:=rfl;have hr:List.replicate 24 (0:UInt8)=[0,0,0,0,0,0,0,0,0,0,0,0,0,0,0,0,0,0,0,0,0,0,0,0]:=rfl;have hr2:List.replicate 17 (0:UInt8)=[0,0,0,0,0,0,0,0,0,0,0,0,0,0,0,0,0]:=rfl;rw [hd,hr,hr2,call_code T_157];simp only [go_sem,Qe,Qh,Qi,Qj,Qk,reduceCtorEq,reduceIte];rw [run_loop];simp only [go_sem,Q2,Q3,Q4,Q5,Q9,Qb,Qc,Qd,Qe,Qh,Qj,Qk,reduceCtorEq,reduceIte,hl,q0,a1,a2,b2,a3,b3,a4,c5,d5,e5.1,e5.2,f5.1,f5.2,c6,d6,e6.1,e6.2,f6.1,f6.2,a7,a8,b8,c9,d9,e9.1,e9.2,f9.1,f9.2,w0,w1,w2,w3,w4,w5]
set_option maxHeartbeats 8000000 in
theorem f157_7 (u:Nat) (h1:1000000≤u) (h2:u<10000000):call T 157 [.psl 0 1 1 7 (some 23),.int .u64 u] [.bar (List.replicate 24 0)] 0=some ⟨.tup [],[(0,.bar (0::(dec u++List.replicate 16 0)))],[]⟩:=by
 have hl:cs2.length=200:=by exact cs2_len
 have q0:IntKind.u32.wrap ((u:Nat):Int)=((u:Nat):Int):=by exact u32c u (by omega)
 have a1:((u:Nat):Int).tmod 10000=((u % 10000:Nat):Int):=by rfl
 have a2:((u:Nat):Int).tdiv 10000=((u/10000:Nat):Int):=by rfl
 have b2:IntKind.u32.wrap ((u/10000:Nat):Int)=((u/10000:Nat):Int):=by exact u32c _ (by omega)
 have a3:(((u % 10000):Nat):Int).tdiv 100=(((u % 10000)/100:Nat):Int):=by rfl
 have b3:IntKind.u32.wrap (((u % 10000)/100:Nat):Int)=(((u % 10000)/100:Nat):Int):=by exact u32c _ (by omega)
 have a4:(((u % 10000):Nat):Int).tmod 100=(((u % 10000) % 100:Nat):Int):=by rfl
 have c5:IntKind.u32.wrap (((((u % 10000)/100):Nat):Int)*2)=((2*((u % 10000)/100):Nat):Int):=by rw [show((((u % 10000)/100):Nat):Int)*2=((2*((u % 10000)/100):Nat):Int)from by omega];exact u32c _ (by omega)
 have d5:IntKind.u32.wrap (((2*((u % 10000)/100):Nat):Int)+1)=((2*((u % 10000)/100)+1:Nat):Int):=by rw [show((2*((u % 10000)/100):Nat):Int)+1=((2*((u % 10000)/100)+1:Nat):Int)from by omega];exact u32c _ (by omega)
 have e5:cs2.getD (2*((u % 10000)/100)) 0=dg (((u % 10000)/100)/10)∧cs2.getD (2*((u % 10000)/100)+1) 0=dg (((u % 10000)/100) % 10):=by exact sm_get _ (by omega)
 have f5:((2*((u % 10000)/100):Nat):Int)<200∧((2*((u % 10000)/100)+1:Nat):Int)<200:=by omega
 have c6:IntKind.u32.wrap (((((u % 10000) % 100):Nat):Int)*2)=((2*((u % 10000) % 100):Nat):Int):=by rw [show((((u % 10000) % 100):Nat):Int)*2=((2*((u % 10000) % 100):Nat):Int)from by omega];exact u32c _ (by omega)
 have d6:IntKind.u32.wrap (((2*((u % 10000) % 100):Nat):Int)+1)=((2*((u % 10000) % 100)+1:Nat):Int):=by rw [show((2*((u % 10000) % 100):Nat):Int)+1=((2*((u % 10000) % 100)+1:Nat):Int)from by omega];exact u32c _ (by omega)
 have e6:cs2.getD (2*((u % 10000) % 100)) 0=dg (((u % 10000) % 100)/10)∧cs2.getD (2*((u % 10000) % 100)+1) 0=dg (((u % 10000) % 100) % 10):=by exact sm_get _ (by omega)
 have f6:((2*((u % 10000) % 100):Nat):Int)<200∧((2*((u % 10000) % 100)+1:Nat):Int)<200:=by omega
 have a7:(((u/10000):Nat):Int).tmod 100=(((u/10000) % 100:Nat):Int):=by rfl
 have a8:(((u/10000):Nat):Int).tdiv 100=(((u/10000)/100:Nat):Int):=by rfl
 have b8:IntKind.u32.wrap (((u/10000)/100:Nat):Int)=(((u/10000)/100:Nat):Int):=by exact u32c _ (by omega)
 have c9:IntKind.u32.wrap (((((u/10000) % 100):Nat):Int)*2)=((2*((u/10000) % 100):Nat):Int):=by rw [show((((u/10000) % 100):Nat):Int)*2=((2*((u/10000) % 100):Nat):Int)from by omega];exact u32c _ (by omega)
 have d9:IntKind.u32.wrap (((2*((u/10000) % 100):Nat):Int)+1)=((2*((u/10000) % 100)+1:Nat):Int):=by rw [show((2*((u/10000) % 100):Nat):Int)+1=((2*((u/10000) % 100)+1:Nat):Int)from by omega];exact u32c _ (by omega)
 have e9:cs2.getD (2*((u/10000) % 100)) 0=dg (((u/10000) % 100)/10)∧cs2.getD (2*((u/10000) % 100)+1) 0=dg (((u/10000) % 100) % 10):=by exact sm_get _ (by omega)
 have f9:((2*((u/10000) % 100):Nat):Int)<200∧((2*((u/10000) % 100)+1:Nat):Int)<200:=by omega
 have z1:IntKind.u32.wrap (48+((((u/10000)/100):Nat):Int))=((48+((u/10000)/100):Nat):Int):=by rw [show 48+((((u/10000)/100):Nat):Int)=((48+((u/10000)/100):Nat):Int)from by omega];exact u32c _ (by omega)
 have z2:UInt8.ofInt ((48+((u/10000)/100):Nat):Int)=dg ((u/10000)/100):=by rfl
 have hd:dec u=[dg (((u/10000)/100)),dg (((u/10000) % 100)/10),dg (((u/10000) % 100) % 10),dg (((u % 10000)/100)/10),dg (((u % 10000)/100) % 10),dg (((u % 10000) % 100)/10),dg (((u % 10000) % 100) % 10)]:=by rw [dec_ge (n:=u) (by omega),dec_ge (n:=u/10) (by omega),dec_ge (n:=u/10/10) (by omega),dec_ge (n:=u/10/10/10) (by omega),dec_ge (n:=u/10/10/10/10) (by omega),dec_ge (n:=u/10/10/10/10/10) (by omega),dec_lt (n:=u/10/10/10/10/10/10) (by omega)];simp only [List.nil_append,List.cons_append,List.cons.injEq,and_true];exact⟨congrArg dg (by omega),congrArg dg (by omega),congrArg dg (by omega),congrArg dg (by omega),congrArg dg (by omega),congrArg dg (by omega),congrArg dg (by omega)⟩
 have w0:IntKind.i64.wrap 0=0:=rfl;have w1:IntKind.i64.wrap 1=1:=rfl;have w2:IntKind.i64.wrap 2=2:=rfl;have w3:IntKind.i64.wrap 3=3:=rfl;have w4:IntKind.i64.wrap 4=4:=rfl;have w5:IntKind.i64.wrap 5=5:=rfl;have w6:IntKind.i64.wrap 6=6:=rfl;have w7:IntKind.i64.wrap 7=7:=rfl;have hr:List.replicate 24 (0:UInt8)=[0,0,0,0,0,0,0,0,0,0,0,0,0,0,0,0,0,0,0,0,0,0,0,0]:=rfl;have hr2:List.replicate 16 (0:UInt8)=[0,0,0,0,0,0,0,0,0,0,0,0,0,0,0,0]:=rfl;rw [hd,hr,hr2,call_code T_157];simp only [go_sem,Qe,Qh,Qi,Qj,Qk,reduceCtorEq,reduceIte];rw [run_loop];simp only [go_sem,Q2,Q3,Q4,Q5,Q9,Qb,Qc,Qd,Qe,Qh,Qj,Qk,reduceCtorEq,reduceIte,hl,q0,a1,a2,b2,a3,b3,a4,c5,d5,e5.1,e5.2,f5.1,f5.2,c6,d6,e6.1,e6.2,f6.1,f6.2,a7,a8,b8,c9,d9,e9.1,e9.2,f9.1,f9.2,z1,z2,w1,w2,w3,w4,w5,w6]
set_option maxHeartbeats 4000000 in
theorem f132 (n:Nat) (h:n<10000000):call T 132 [.int .i64 n,.int .i64 10] [] 0=some ⟨.str (dec n),[],[]⟩:=by
 rw [call_code T_132]
 by_cases h1:n<100
 ·have h1':(n:Int)<100:=by omega
  have g:=f155 n h1;simp only [go_sem,Qe,Qh,Qi,Qj,Qk,reduceCtorEq,reduceIte,h1',g,S_155]
 ·have h1':¬(n:Int)<100:=by omega
  have g1:=f156 n (by omega) h;have e1:IntKind.u64.wrap (n:Int)=(n:Int):=by rw [IntKind.wrap_u64];omega
  have n0:¬(n:Int)<0:=by omega
  have hk:(nd n=3∧n<1000)∨(nd n=4∧1000≤n∧n<10000)∨(nd n=5∧10000≤n∧n<100000)∨(nd n=6∧100000≤n∧n<1000000)∨(nd n=7∧1000000≤n):=by
   unfold nd
   repeat' split
   all_goals omega
  rcases hk with⟨hk,h3⟩|⟨hk,h3,h4⟩|⟨hk,h3,h4⟩|⟨hk,h3,h4⟩|⟨hk,h3⟩
  ·have g2:=f157_3 n (by omega) (by omega)
   have hl:(dec n).length=3:=by rw [dec_ge (n:=n) (by omega),dec_ge (n:=n/10) (by omega),dec_lt (n:=n/10/10) (by omega)];rfl
   have ht:List.take 3 (dec n++List.replicate 20 0)=dec n:=by rw [←hl];exact List.take_left
   have w1:IntKind.i64.wrap (1+3)=4:=rfl;have w2:IntKind.i64.wrap 4=4:=rfl;have hb:3≤(dec n).length+20:=by omega
   rw [hk]at g1;simp only [Int.cast_ofNat_Int]at g1;simp only [go_sem,Q2,Q3,Q4,Q8,Qe,Qf,Qg,Qh,Qi,Qj,Qk,reduceCtorEq,reduceIte,h1',n0,e1,g1,S_156,g2,S_157,w2,ht,hl,List.length_cons,List.length_append,List.length_replicate]
  ·have g2:=f157_4 n (by omega) (by omega)
   have hl:(dec n).length=4:=by rw [dec_ge (n:=n) (by omega),dec_ge (n:=n/10) (by omega),dec_ge (n:=n/10/10) (by omega),dec_lt (n:=n/10/10/10) (by omega)];rfl
   have ht:List.take 4 (dec n++List.replicate 19 0)=dec n:=by rw [←hl];exact List.take_left
   have w1:IntKind.i64.wrap (1+4)=5:=rfl;have w2:IntKind.i64.wrap 5=5:=rfl;have hb:4≤(dec n).length+19:=by omega
   rw [hk]at g1;simp only [Int.cast_ofNat_Int]at g1;simp only [go_sem,Q2,Q3,Q4,Q8,Qe,Qf,Qg,Qh,Qi,Qj,Qk,reduceCtorEq,reduceIte,h1',n0,e1,g1,S_156,g2,S_157,w2,ht,hl,List.length_cons,List.length_append,List.length_replicate]
  ·have g2:=f157_5 n (by omega) (by omega)
   have hl:(dec n).length=5:=by rw [dec_ge (n:=n) (by omega),dec_ge (n:=n/10) (by omega),dec_ge (n:=n/10/10) (by omega),dec_ge (n:=n/10/10/10) (by omega),dec_lt (n:=n/10/10/10/10) (by omega)];rfl
   have ht:List.take 5 (dec n++List.replicate 18 0)=dec n:=by rw [←hl];exact List.take_left
   have w1:IntKind.i64.wrap (1+5)=6:=rfl;have w2:IntKind.i64.wrap 6=6:=rfl;have hb:5≤(dec n).length+18:=by omega
   rw [hk]at g1;simp only [Int.cast_ofNat_Int]at g1;simp only [go_sem,Q2,Q3,Q4,Q8,Qe,Qf,Qg,Qh,Qi,Qj,Qk,reduceCtorEq,reduceIte,h1',n0,e1,g1,S_156,g2,S_157,w2,ht,hl,List.length_cons,List.length_append,List.length_replicate]
  ·have g2:=f157_6 n (by omega) (by omega)
   have hl:(dec n).length=6:=by rw [dec_ge (n:=n) (by omega),dec_ge (n:=n/10) (by omega),dec_ge (n:=n/10/10) (by omega),dec_ge (n:=n/10/10/10) (by omega),dec_ge (n:=n/10/10/10/10) (by omega),dec_lt (n:=n/10/10/10/10/10) (by omega)];rfl
   have ht:List.take 6 (dec n++List.replicate 17 0)=dec n:=by rw [←hl];exact List.take_left
   have w1:IntKind.i64.wrap (1+6)=7:=rfl;have w2:IntKind.i64.wrap 7=7:=rfl;have hb:6≤(dec n).length+17:=by omega
   rw [hk]at g1;simp only [Int.cast_ofNat_Int]at g1;simp only [go_sem,Q2,Q3,Q4,Q8,Qe,Qf,Qg,Qh,Qi,Qj,Qk,reduceCtorEq,reduceIte,h1',n0,e1,g1,S_156,g2,S_157,w2,ht,hl,List.length_cons,List.length_append,List.length_replicate]
  ·have g2:=f157_7 n (by omega) (by omega)
   have hl:(dec n).length=7:=by rw [dec_ge (n:=n) (by omega),dec_ge (n:=n/10) (by omega),dec_ge (n:=n/10/10) (by omega),dec_ge (n:=n/10/10/10) (by omega),dec_ge (n:=n/10/10/10/10) (by omega),dec_ge (n:=n/10/10/10/10/10) (by omega),dec_lt (n:=n/10/10/10/10/10/10) (by omega)];rfl
   have ht:List.take 7 (dec n++List.replicate 16 0)=dec n:=by rw [←hl];exact List.take_left
   have w1:IntKind.i64.wrap (1+7)=8:=rfl;have w2:IntKind.i64.wrap 8=8:=rfl;have hb:7≤(dec n).length+16:=by omega
   rw [hk]at g1;simp only [Int.cast_ofNat_Int]at g1;simp only [go_sem,Q2,Q3,Q4,Q8,Qe,Qf,Qg,Qh,Qi,Qj,Qk,reduceCtorEq,reduceIte,h1',n0,e1,g1,S_156,g2,S_157,w2,ht,hl,List.length_cons,List.length_append,List.length_replicate]
theorem f91 (n:Nat) (h:n<10000000):call T 91 [.int .i64 n] [] 0=some ⟨.str (dec n),[],[]⟩:=by have g:=f132 n h;rw [call_code T_91];simp only [go_sem,Qh,Qi,Qj,Qk,reduceCtorEq,reduceIte,g,S_132]
theorem f49 (n:Nat) (h:n<10000000):call T 49 [.int .i64 n] [] 0=some ⟨.str (dec n),[],[]⟩:=by have g:=f91 n h;rw [call_code T_49];simp only [go_sem,Qh,Qi,Qj,Qk,reduceCtorEq,reduceIte,g,S_91]
def encI (x:Img):List UInt8:=if imgE x=0 then blob (blob (be 1 (IntKind.u64.wrap x.role)++be 4 (IntKind.u64.wrap x.ver)) x.name) x.pay else []
theorem blob_len (B X:List UInt8):(blob B X).length=B.length+2+min 65535 X.length:=by unfold blob;rw [List.length_append,List.length_append,be_len,List.length_take]
theorem encI_len (x:Img) (hn:x.name.length≤1000000) (hp:x.pay.length≤1000000):(encI x).length≤10000000:=by
 unfold encI;split
 ·rw [blob_len,blob_len,List.length_append,be_len,be_len];omega
 ·simp
theorem f33 (x:Img) (hn:x.name.length≤1000000) (hp:x.pay.length≤1000000):call T 33 [.agg x.sv] [] 0=some ⟨.byt (encI x) .no,[],[]⟩:=by
 have g0:=f81 x (by omega) (by omega);have g1:=f82 [] 1 x.role (by omega) (by omega) (by simp);have g2:=f82 (be 1 (IntKind.u64.wrap x.role)) 4 x.ver (by omega) (by omega) (by rw [be_len];omega);have g3:=f83 (be 1 (IntKind.u64.wrap x.role)++be 4 (IntKind.u64.wrap x.ver)) x.name (by rw [List.length_append,be_len,be_len];omega) (by omega);have g4:=f83 (blob (be 1 (IntKind.u64.wrap x.role)++be 4 (IntKind.u64.wrap x.ver)) x.name) x.pay (by rw [blob_len,List.length_append,be_len,be_len];omega) (by omega);simp only [Int.cast_ofNat_Int,List.nil_append]at g1 g2;obtain⟨ro,na,ve,p⟩:=x;simp only [Img.sv]at*;rw [call_code T_33];unfold encI
 by_cases h:imgE ⟨ro,na,ve,p⟩=0
 ·rw [h]at g0
  simp only [go_sem,Qe,Qg,Qh,Qi,Qj,Qk,reduceCtorEq,reduceIte,g0,S_81,g1,S_82,g2,g3,S_83,g4,h]
 ·simp only [go_sem,Qe,Qh,Qi,Qj,Qk,reduceCtorEq,reduceIte,g0,S_81,h]
def regR (role:Int):Int:=if role=1 then 0 else if role=2 then 4 else if role=3 then 8 else if role=4 then 9 else-1
theorem f55 (role:Int):call T 55 [.int .i64 role] [] 0=some ⟨.int .i64 (regR role),[],[]⟩:=by
 rw [call_code T_55];unfold regR
 by_cases h1:role=1
 ·subst h1;simp only [go_sem,Q5,Q7,Qh,Qi,Qj,Qk,reduceCtorEq,reduceIte]
 by_cases h2:role=2
 ·subst h2;simp only [go_sem,Q5,Q7,Qh,Qi,Qj,Qk,reduceCtorEq,reduceIte]
 by_cases h3:role=3
 ·subst h3;simp only [go_sem,Q5,Q7,Qh,Qi,Qj,Qk,reduceCtorEq,reduceIte]
 by_cases h4:role=4
 ·subst h4;simp only [go_sem,Q5,Q7,Qh,Qi,Qj,Qk,reduceCtorEq,reduceIte]
 simp only [go_sem,Q7,Qh,Qi,Qj,Qk,reduceCtorEq,reduceIte,h1,h2,h3,h4]
def hasA (a:Int) (b:Nat):Bool:=if b=0 then decide (a=1∨a=3)else decide (a=2∨a=3)
def actv (a:Int):Prop:=a=1∨a=2∨a=3
theorem f124a (a:Int) (h:actv a):call T 124 [.int .i64 a,.int .i64 0] [] 0=some ⟨.bool (hasA a 0),[],[]⟩:=by rcases h with rfl|rfl|rfl<;>(rw [call_code T_124];simp only [go_sem,Qe,Qh,Qi,Qj,Qk,reduceCtorEq,reduceIte];rfl)
theorem f124b (a:Int) (h:actv a):call T 124 [.int .i64 a,.int .i64 1] [] 0=some ⟨.bool (hasA a 1),[],[]⟩:=by rcases h with rfl|rfl|rfl<;>(rw [call_code T_124];simp only [go_sem,Qe,Qh,Qi,Qj,Qk,reduceCtorEq,reduceIte];rfl)
def digV (b:List UInt8) (a:Int):List (List UInt8):=if b=[]then [[],[]]else [if hasA a 0 then sha1 b else [],if hasA a 1 then sha b else []]
theorem digV_len (b:List UInt8) (a:Int):(digV b a).length=2:=by unfold digV;split<;>rfl
set_option maxHeartbeats 4000000 in
theorem f125 (x:Img) (a:Int) (ha:actv a) (hn:x.name.length≤1000000) (hp:x.pay.length≤1000000):call T 125 [.agg x.sv,.int .i64 a] [] 0=some ⟨.lst 1 (bls (digV (encI x) a)) .no,[],[]⟩:=by
 have g0:=f33 x hn hp;have hl:=encI_len x hn hp;have g1:=f124a a ha;have g2:=f124b a ha;have g3:=f99a (encI x) (by omega);have g4:=f99b (encI x) (by omega);have k1:IntKind.i64.wrap 1=1:=rfl;have k2:IntKind.i64.wrap 2=2:=rfl;obtain⟨ro,na,ve,p⟩:=x;simp only [Img.sv]at*;generalize encI ⟨ro,na,ve,p⟩=b at*;rw [call_code T_125];unfold digV bls
 by_cases hb:b=[]
 ·subst hb
  simp only [go_sem,Q2,Q3,Qa,Qe,Qh,Qi,Qj,Qk,reduceCtorEq,reduceIte,g0,S_33,List.replicate]
  iterate 3
   rw [run_loop];simp only [go_sem,Q4,Q8,Qe,Qh,Qj,Qk,reduceIte,k1,k2]
 ·have hb':(0:Int)<b.length:=by
   have:b.length≠0:=fun e=>hb (List.length_eq_zero_iff.1 e)
   omega
  cases q1:hasA a 0<;>cases q2:hasA a 1<;>rw [q1]at g1<;>rw [q2]at g2<;>
  ·simp only [go_sem,Q2,Q3,Qa,Qe,Qh,Qi,Qj,Qk,reduceCtorEq,reduceIte,g0,S_33,List.replicate]
   iterate 3
    rw [run_loop];simp only [go_sem,Q2,Q3,Q4,Q8,Qe,Qh,Qj,Qk,reduceIte,k1,k2,hb,hb',g1,g2,g3,g4,S_124,S_99,setRow]
def labV (name:List UInt8) (ver:Int):List UInt8:=name++32::dec ver.toNat
theorem f56 (name:List UInt8) (ver:Int) (hn:name.length≤1000000) (h0:0≤ver) (h1:ver≤1000000):call T 56 [.str name,.int .i64 ver] [] 0=some ⟨.byt (labV name ver) .no,[],[]⟩:=by
 obtain⟨v,rfl⟩:=Int.eq_ofNat_of_zero_le h0;have g:=f97 v (by omega);have hl:=dec_lenk 6 v (by omega);rw [call_code T_56];unfold labV;have c1:name.length+1≤140737488355328:=by omega
 have c2:name.length+1+(dec v).length≤140737488355328:=by omega
 simp only [go_sem,Qe,Qg,Qh,Qi,Qj,Qk,reduceCtorEq,reduceIte,g,S_97,c1,c2]
theorem nameB_len {s:List UInt8} (h:Pr.nameB s=true):1≤s.length∧s.length≤12:=by
 unfold Pr.nameB at h;split at h
 ·cases h
 ·omega
theorem imgE_ok {x:Img} (h:imgE x=0):1≤x.role∧x.role≤4∧0≤x.ver∧x.ver≤1000000∧Pr.nameB x.name=true∧x.pay.length≤64:=by
 unfold imgE at h
 repeat' split at h
 all_goals first|omega|skip
 all_goals (cases hq:Pr.nameB x.name with
  |true=>exact⟨by omega,by omega,by omega,by omega,rfl,by omega⟩
  |false=>simp_all)
theorem img_bd {x:Img} (h:imgE x=0):x.name.length≤1000000∧x.pay.length≤1000000:=by obtain⟨_,_,_,_,h1,h2⟩:=imgE_ok h;have:=nameB_len h1;omega
def ofI (x:Img) (a:Int):Ev:=⟨regR x.role,1,digV (encI x) a,labV x.name x.ver⟩
set_option maxHeartbeats 4000000 in
theorem f78 (x:Img) (a:Int) (ha:actv a) (h:imgE x=0) (h4:x.role≠4):call T 78 [.agg x.sv,.int .i64 a] [] 0=some ⟨.agg (ofI x a).sv,[],[]⟩:=by obtain⟨q1,q2,q3,q4,q5,q6⟩:=imgE_ok h;obtain⟨b1,b2⟩:=img_bd h;have g0:=f81 x (by omega) (by omega);have g1:=f55 x.role;have g2:=f125 x a ha b1 b2;have g3:=f56 x.name x.ver b1 q3 q4;rw [h]at g0;obtain⟨ro,na,ve,p⟩:=x;simp only [Img.sv,Ev.sv,ofI]at*;rw [call_code T_78];simp only [go_sem,Qb,Qc,Qd,Qe,Qh,Qi,Qj,Qk,reduceCtorEq,reduceIte,g0,S_81,h4,g1,S_55,g2,S_125,g3,S_56]
def mkV (reg kind a:Int) (data:List UInt8):Ev:=⟨reg,kind,if kind=5 then [[],[]]else [if hasA a 0 then sha1 data else [],if hasA a 1 then sha data else []],data⟩
set_option maxHeartbeats 4000000 in
theorem f76 (reg kind a:Int) (data:List UInt8) (ha:actv a) (hd:data.length≤1000000):call T 76 [.int .i64 reg,.int .i64 kind,.int .i64 a,.byt data .no] [] 0=some ⟨.agg (mkV reg kind a data).sv,[],[]⟩:=by
 have g1:=f124a a ha;have g2:=f124b a ha;have g3:=f99a data (by omega);have g4:=f99b data (by omega);have k1:IntKind.i64.wrap 1=1:=rfl;have k2:IntKind.i64.wrap 2=2:=rfl;rw [call_code T_76];unfold mkV Ev.sv bls
 by_cases hk:kind=5
 ·subst hk
  cases q1:hasA a 0<;>cases q2:hasA a 1<;>rw [q1]at g1<;>rw [q2]at g2<;>
  ·simp only [go_sem,Q2,Q3,Qa,Qe,Qh,Qi,Qj,Qk,reduceCtorEq,reduceIte,List.replicate]
   iterate 3
    rw [run_loop];simp only [go_sem,Q4,Q8,Qe,Qh,Qi,Qj,Qk,reduceIte,k1,k2,g1,g2,S_124]
 ·cases q1:hasA a 0<;>cases q2:hasA a 1<;>rw [q1]at g1<;>rw [q2]at g2<;>
  ·simp only [go_sem,Q2,Q3,Qa,Qe,Qh,Qi,Qj,Qk,reduceCtorEq,reduceIte,List.replicate]
   iterate 3
    rw [run_loop];simp only [go_sem,Q2,Q3,Q4,Q8,Qb,Qc,Qd,Qe,Qh,Qi,Qj,Qk,reduceCtorEq,reduceIte,k1,k2,hk,g1,g2,g3,g4,S_124,S_99,setRow]
theorem f77:call T 77 [] [] 0=some ⟨.byt [0,0,0,0] .no,[],[]⟩:=by rw [call_code T_77];simp only [go_sem,Qh,Qk,reduceCtorEq,reduceIte]
def imsv (l:List Img):List (List SV):=l.map Img.sv
def im0:Img:=⟨0,[],0,[]⟩
theorem imsv_len (l:List Img):(imsv l).length=l.length:=List.length_map ..
theorem imsv_get (l:List Img) (i:Nat) (h:i<l.length):(imsv l).getD i []=(l.getD i im0).sv:=by simp [imsv,List.getD_eq_getElem?_getD,h]
structure ChainOK (l:List Img):Prop where
 n1:1≤l.length
 n8:l.length≤8
 ok:∀i,i<l.length→imgE (l.getD i im0)=0
 ord:∀i,i+1<l.length→(l.getD i im0).role≤(l.getD (i+1) im0).role
 dup:∀i,i<l.length→∀k,k<i→(l.getD k im0).role=(l.getD i im0).role→(l.getD k im0).name≠(l.getD i im0).name
 fw:∃i,i<l.length∧(l.getD i im0).role=1
 kn:∃i,i<l.length∧(l.getD i im0).role=3
theorem l75a (l:List Img) (h:ChainOK l) (f k:Bool) (i:Nat) (hi:i<l.length):∀(n j:Nat),i-j=n→j≤i→
 run T (.loop r75_16) ⟨[(0,.lst 4 (imsv l) .no),(3,.bool f),(4,.bool k),(5,.int .i64 i),(7,.int .i64 j)],[],[]⟩=some (.x 2,⟨[(0,.lst 4 (imsv l) .no),(3,.bool f),(4,.bool k),(5,.int .i64 i)],[],[]⟩):=by
 intro n;induction n with
 |zero=>
  intro j h0 h1;have:j=i:=by omega
  subst this;rw [run_loop];simp only [go_sem,Qh,Qj,Qk,reduceCtorEq,reduceIte]
 | succ n ih=>
  intro j h0 h1;have hj:j<i:=by omega
  have hj2:j<l.length:=by omega
  have e1:=wsucc j (by have:=h.n8;omega);have ih':=ih (j+1) (by omega) (by omega);have hv:=imsv_len l;have hg:=imsv_get l i hi;have hg2:=imsv_get l j hj2;have hd:=h.dup i hi j hj;rw [run_loop];generalize l.getD i im0=x at*;generalize l.getD j im0=y at*;obtain⟨ro,na,ve,p⟩:=x;obtain⟨ro2,na2,ve2,p2⟩:=y;simp only [Img.sv]at*
  by_cases hr:ro2=ro
  ·have hn:¬na2=na:=hd hr
   simp only [go_sem,Qe,Qh,Qi,Qj,Qk,reduceCtorEq,reduceIte,hj,hj2,hi,e1,hv,hg,hg2,hr,hn,ih']
  ·simp only [go_sem,Qe,Qh,Qi,Qj,Qk,reduceCtorEq,reduceIte,hj,hj2,hi,e1,hv,hg,hg2,hr,ih']
def anyR (l:List Img) (r:Int) (i:Nat):Bool:=(l.take i).any fun x=>decide (x.role=r)
theorem anyR_succ (l:List Img) (r:Int) (i:Nat) (hi:i<l.length):anyR l r (i+1)=(anyR l r i||decide ((l.getD i im0).role=r)):=by unfold anyR;rw [List.take_succ_eq_append_getElem hi,List.any_append,List.any_cons,List.any_nil,Bool.or_false,List.getD_eq_getElem?_getD,List.getElem?_eq_getElem hi];rfl
theorem anyR_all {l:List Img} {r:Int} (h:∃i,i<l.length∧(l.getD i im0).role=r):anyR l r l.length=true:=by obtain⟨i,hi,hr⟩:=h;unfold anyR;rw [List.take_length,List.any_eq_true];refine⟨l[i],List.getElem_mem _, ?_⟩;rw [List.getD_eq_getElem?_getD,List.getElem?_eq_getElem hi]at hr;simpa using hr
set_option maxHeartbeats 4000000 in
theorem l75 (l:List Img) (h:ChainOK l):∀(n i:Nat),l.length-i=n→i≤l.length→
 run T (.loop r75_20) ⟨[(0,.lst 4 (imsv l) .no),(3,.bool (anyR l 1 i)),(4,.bool (anyR l 3 i)),(5,.int .i64 i)],[],[]⟩=some (.x 0,⟨[(3,.bool true),(4,.bool true)],[],[]⟩):=by
 intro n;induction n with
 |zero=>
  intro i h0 h1;have:i=l.length:=by omega
  subst this;have hv:=imsv_len l;have a1:=anyR_all h.fw;have a2:=anyR_all h.kn;rw [run_loop];simp only [go_sem,Qh,Qj,Qk,reduceCtorEq,reduceIte,hv,a1,a2]
 | succ n ih=>
  intro i h0 h1;have hi:i<l.length:=by omega
  have e1:=wsucc i (by have:=h.n8;omega);have ih':=ih (i+1) (by omega) (by omega);have hv:=imsv_len l;have hg:=imsv_get l i hi;have hok:=h.ok i hi;obtain⟨b1,b2⟩:=img_bd hok;have g:=f81 (l.getD i im0) (by omega) (by omega);have g2:=l75a l h (anyR l 1 i) (anyR l 3 i) i hi _ 0 rfl (by omega);simp only [Int.natCast_zero]at g2;rw [hok]at g;rw [anyR_succ l 1 i hi,anyR_succ l 3 i hi]at ih';rw [run_loop]
  have key:∀q1 q2:Bool,anyR l 1 i=q1→anyR l 3 i=q2→run T (.loop r75_20) ⟨[(0,.lst 4 (imsv l) .no),(3,.bool q1),(4,.bool q2),(5,.int .i64 i)],[],[]⟩=some (.x 0,⟨[(3,.bool true),(4,.bool true)],[],[]⟩):=by
   intro q1 q2 hq1 hq2;rw [hq1,hq2]at ih' g2;rw [run_loop]
   by_cases h00:i=0
   ·subst h00
    generalize l.getD 0 im0=x at*;obtain⟨ro,na,ve,p⟩:=x;simp only [Img.sv]at*;have hi':(0:Int)<l.length:=by omega
    have c1:((0+1:Nat):Int)=1:=rfl;have kw:IntKind.i64.wrap 1=1:=rfl;rw [c1]at ih';simp only [Int.natCast_zero]at g2
    by_cases p1:ro=1
    ·subst p1
     cases q1<;>cases q2<;>simp only [Bool.true_or,Bool.false_or,decide_true,decide_false,Int.reduceEq,eq_self]at ih'<;>simp only [go_sem,Q2,Q3,Q4,Q5,Q8,Qe,Qh,Qi,Qj,Qk,reduceCtorEq,reduceIte,hi',kw,hv,hg,g,S_81,g2,ih']
    ·by_cases p3:ro=3
     ·subst p3
      cases q1<;>cases q2<;>simp only [Bool.true_or,Bool.false_or,decide_true,decide_false,Int.reduceEq,eq_self]at ih'<;>simp only [go_sem,Q2,Q3,Q4,Q5,Q8,Qe,Qh,Qi,Qj,Qk,reduceCtorEq,reduceIte,hi',kw,hv,hg,g,S_81,g2,ih']
     ·cases q1<;>cases q2<;>simp only [Bool.true_or,Bool.false_or,decide_false,p1,p3]at ih'<;>simp only [go_sem,Q2,Q3,Q4,Q8,Qe,Qh,Qi,Qj,Qk,reduceCtorEq,reduceIte,hi',kw,hv,hg,g,S_81,g2,p1,p3,ih']
   ·have hp:0<i:=by omega
    have hp':(0:Int)<(i:Nat):=by omega
    have es:IntKind.i64.wrap ((i:Int)-1)=((i-1:Nat):Int):=by rw [w64 (by omega) (by have:=h.n8;omega)];omega
    have hi1:i-1<l.length:=by omega
    have hg1:=imsv_get l (i-1) hi1;have ho:=h.ord (i-1) (by omega);rw [show i-1+1=i from by omega]at ho;generalize l.getD i im0=x at*;generalize l.getD (i-1) im0=y at*;obtain⟨ro,na,ve,p⟩:=x;obtain⟨ro2,na2,ve2,p2⟩:=y;simp only [Img.sv]at*;have ho':¬ro<ro2:=by omega
    by_cases p1:ro=1
    ·subst p1
     cases q1<;>cases q2<;>simp only [Bool.true_or,Bool.false_or,decide_true,decide_false,Int.reduceEq,eq_self]at ih'<;>simp only [go_sem,Q5,Qe,Qh,Qi,Qj,Qk,reduceCtorEq,reduceIte,hi,hp',hi1,es,e1,hv,hg,hg1,g,S_81,g2,ho',ih']
    ·by_cases p3:ro=3
     ·subst p3
      cases q1<;>cases q2<;>simp only [Bool.true_or,Bool.false_or,decide_true,decide_false,Int.reduceEq,eq_self]at ih'<;>simp only [go_sem,Q5,Qe,Qh,Qi,Qj,Qk,reduceCtorEq,reduceIte,hi,hp',hi1,es,e1,hv,hg,hg1,g,S_81,g2,ho',ih']
     ·cases q1<;>cases q2<;>simp only [Bool.true_or,Bool.false_or,decide_false,p1,p3]at ih'<;>simp only [go_sem,Qe,Qh,Qi,Qj,Qk,reduceCtorEq,reduceIte,hi,hp',hi1,es,e1,hv,hg,hg1,g,S_81,g2,ho',p1,p3,ih']
  have:=key _ _ rfl rfl;rw [run_loop]at this;exact this
theorem f75 (l:List Img) (h:ChainOK l):call T 75 [.lst 4 (imsv l) .no] [] 0=some ⟨.int .i64 0,[],[]⟩:=by
 have g:=l75 l h _ 0 rfl (by omega);have z1:anyR l 1 0=false:=rfl;have z3:anyR l 3 0=false:=rfl;rw [z1,z3]at g;simp only [Int.natCast_zero]at g;have hv:=imsv_len l;have n1:=h.n1;have n8:=h.n8;have k1:¬(l.length:Int)=0:=by omega
 have k2:¬(8:Int)<l.length:=by omega
 rw [call_code T_75];simp only [go_sem,Qh,Qi,Qj,Qk,reduceCtorEq,reduceIte,hv,k1,k2,g]
theorem f47 (role:Int):call T 47 [.int .i64 role] [] 0=some ⟨.int .i64 (regR role),[],[]⟩:=by
 rw [call_code T_47];unfold regR
 by_cases h1:role=1
 ·subst h1;simp only [go_sem,Q2,Q3,Q4,Q5,Q7,Qe,Qg,Qh,Qi,Qj,Qk,reduceCtorEq,reduceIte,gtab0]
 by_cases h2:role=2
 ·subst h2;simp only [go_sem,Q2,Q3,Q4,Q5,Q7,Qe,Qg,Qh,Qi,Qj,Qk,reduceCtorEq,reduceIte,gtab0]
 by_cases h3:role=3
 ·subst h3;simp only [go_sem,Q2,Q3,Q4,Q5,Q7,Qe,Qg,Qh,Qi,Qj,Qk,reduceCtorEq,reduceIte,gtab0]
 by_cases h4:role=4
 ·subst h4;simp only [go_sem,Q2,Q3,Q4,Q5,Q7,Qe,Qg,Qh,Qi,Qj,Qk,reduceCtorEq,reduceIte,gtab0]
 by_cases h0:role=0
 ·subst h0;simp only [go_sem,Q2,Q3,Q4,Q5,Q7,Qe,Qg,Qh,Qi,Qj,Qk,reduceCtorEq,reduceIte,gtab0]
 by_cases h5:role<0
 ·simp only [go_sem,Q7,Qh,Qi,Qj,Qk,reduceCtorEq,reduceIte,h1,h2,h3,h4,h5]
 ·have h6:5≤role:=by omega
  simp only [go_sem,Q7,Qh,Qi,Qj,Qk,reduceCtorEq,reduceIte,h1,h2,h3,h4,h5,h6]
theorem f48 (a b:List UInt8):call T 48 [.byt a .no,.byt b .no] [] 0=some ⟨.bool (decide (a=b)),[],[]⟩:=by rw [call_code T_48];simp only [go_sem,Qe,Qh,Qi,Qj,Qk,reduceCtorEq,reduceIte]
def prn2 (b:List UInt8):Bool:=b.all fun c=> !(decide (c<32)||decide (126<c))
def dgOK (m:Bool) (d s:List UInt8):Bool:=if(0:Int)<d.length then(m&&decide (d=s))else true
def conV (e:Ev):Bool:=
 if e.kind=1 then true
 else if e.kind=2 then(if e.data=[0,0,0,0]then dgOK true (e.dg.getD 0 []) (sha1 e.data)&&dgOK true (e.dg.getD 1 []) (sha e.data)else false)
 else if e.kind=3 then(if(e.data.length:Int)=0 then false else if prn2 e.data=true then dgOK true (e.dg.getD 0 []) (sha1 e.data)&&dgOK true (e.dg.getD 1 []) (sha e.data)else false)
 else if e.kind=4 then dgOK true (e.dg.getD 0 []) (sha1 e.data)&&dgOK true (e.dg.getD 1 []) (sha e.data)
 else if e.kind=5 then dgOK false (e.dg.getD 0 []) []&&dgOK false (e.dg.getD 1 []) []
 else false
theorem l50a (O:SV) (m:Bool) (ob:List (Nat×SObj)) (b:List UInt8) (hb:b.length≤1000000000000):∀(n i:Nat),b.length-i=n→i≤b.length→
 run T (.loop r50_17) ⟨[(1,O),(3,.bool m),(34,.byt b .no),(35,.int .i64 b.length),(36,.int .i64 i)],ob,[]⟩=
 if prn2 (b.drop i)=true then some (.x 1,⟨[(1,O),(3,.bool m)],ob,[]⟩)else some (.r,⟨[(2,.bool false)],ob,[]⟩):=by
 intro n;induction n with
 |zero=>
  intro i h0 h1;have hi:i=b.length:=by omega
  subst hi;rw [run_loop,List.drop_length];simp only [go_sem,Qh,Qj,Qk,reduceIte,prn2]
 | succ n ih=>
  intro i h0 h1;have hi:i<b.length:=by omega
  have e1:=wsucc i (by omega);have ih':=ih (i+1) (by omega) (by omega);rw [run_loop,drop_cons0 b i hi];unfold prn2 at ih' ⊢;rw [List.all_cons];generalize hc:b.getD i 0=c at*;generalize (List.drop (i+1) b).all _=q at*
  by_cases a1:c<32
  ·simp only [go_sem,Qh,Qj,Qk,reduceIte,hi,hc,a1]
  ·by_cases a2:126<c
   ·simp only [go_sem,Qh,Qj,Qk,reduceIte,hi,hc,a1,a2]
   ·simp only [go_sem,Qh,Qj,Qk,reduceIte,hi,hc,e1,a1,a2,ih']
set_option maxHeartbeats 4000000 in
theorem l50b (m:Bool) (g k:Int) (d0 d1 b s0 s1:List UInt8) (hb:b.length≤1000000) (h0:m=true→s0=sha1 b) (h1:m=true→s1=sha b):
 run T (.loop r50_28) ⟨[(1,.ptr 101 0),(3,.bool m),(53,.int .i64 2),(54,.int .i64 0)],[(101,.rc [.int .i64 g,.int .i64 k,.lst 1 [[.byt d0 .no],[.byt d1 .no]] .no,.byt b .no])],[]⟩=
 if(dgOK m d0 s0&&dgOK m d1 s1)=true then some (.x 3,⟨[],[(101,.rc [.int .i64 g,.int .i64 k,.lst 1 [[.byt d0 .no],[.byt d1 .no]] .no,.byt b .no])],[]⟩)
 else some (.r,⟨[(2,.bool false)],[(101,.rc [.int .i64 g,.int .i64 k,.lst 1 [[.byt d0 .no],[.byt d1 .no]] .no,.byt b .no])],[]⟩):=by
 have g0:=f69z b (by omega);have g1:=f69 b (by omega);have g2:=f48 d0 (sha1 b);have g3:=f48 d1 (sha b);have k1:IntKind.i64.wrap 1=1:=rfl;have k2:IntKind.i64.wrap 2=2:=rfl;unfold dgOK;cases m with
 | false=>
  by_cases a1:(0:Int)<d0.length
  ·rw [run_loop];simp only [go_sem,Q2,Q3,Q4,Qe,Qh,Qi,Qj,Qk,reduceIte,a1]
  ·by_cases a2:(0:Int)<d1.length
   ·iterate 2
    rw [run_loop];simp only [go_sem,Q2,Q3,Q4,Q8,Qe,Qh,Qi,Qj,Qk,reduceIte,a1,a2,k1]
   ·iterate 3
    rw [run_loop];simp only [go_sem,Q2,Q3,Q4,Q8,Qe,Qh,Qi,Qj,Qk,reduceIte,a1,a2,k1,k2]
 | true=>
  rw [h0 rfl,h1 rfl]
  by_cases a1:(0:Int)<d0.length
  ·by_cases b1:d0=sha1 b
   ·have g2':call T 48 [.byt d0 .no,.byt (sha1 b) .no] [] 0=some ⟨.bool true,[],[]⟩:=by rw [g2,decide_eq_true b1]
    by_cases a2:(0:Int)<d1.length
    ·by_cases b2:d1=sha b
     ·have g3':call T 48 [.byt d1 .no,.byt (sha b) .no] [] 0=some ⟨.bool true,[],[]⟩:=by rw [g3,decide_eq_true b2]
      rw [decide_eq_true b1,decide_eq_true b2]
      iterate 3
       rw [run_loop];simp only [go_sem,Q2,Q3,Q4,Q8,Qe,Qh,Qi,Qj,Qk,reduceIte,a1,a2,k1,k2,g0,g1,g2',g3',S_69,S_48]
     ·have g3':call T 48 [.byt d1 .no,.byt (sha b) .no] [] 0=some ⟨.bool false,[],[]⟩:=by rw [g3,decide_eq_false b2]
      rw [decide_eq_true b1,decide_eq_false b2]
      iterate 2
       rw [run_loop];simp only [go_sem,Q2,Q3,Q4,Q8,Qe,Qh,Qi,Qj,Qk,reduceIte,a1,a2,k1,g0,g1,g2',g3',S_69,S_48]
    ·rw [decide_eq_true b1]
     iterate 3
      rw [run_loop];simp only [go_sem,Q2,Q3,Q4,Q8,Qe,Qh,Qi,Qj,Qk,reduceIte,a1,a2,k1,k2,g0,g2',S_69,S_48]
   ·have g2':call T 48 [.byt d0 .no,.byt (sha1 b) .no] [] 0=some ⟨.bool false,[],[]⟩:=by rw [g2,decide_eq_false b1]
    rw [decide_eq_false b1];rw [run_loop];simp only [go_sem,Q2,Q3,Q4,Qe,Qh,Qi,Qj,Qk,reduceIte,a1,g0,g2',S_69,S_48]
  ·by_cases a2:(0:Int)<d1.length
   ·by_cases b2:d1=sha b
    ·have g3':call T 48 [.byt d1 .no,.byt (sha b) .no] [] 0=some ⟨.bool true,[],[]⟩:=by rw [g3,decide_eq_true b2]
     rw [decide_eq_true b2]
     iterate 3
      rw [run_loop];simp only [go_sem,Q2,Q3,Q4,Q8,Qe,Qh,Qi,Qj,Qk,reduceIte,a1,a2,k1,k2,g1,g3',S_69,S_48]
    ·have g3':call T 48 [.byt d1 .no,.byt (sha b) .no] [] 0=some ⟨.bool false,[],[]⟩:=by rw [g3,decide_eq_false b2]
     rw [decide_eq_false b2]
     iterate 2
      rw [run_loop];simp only [go_sem,Q2,Q3,Q4,Q8,Qe,Qh,Qi,Qj,Qk,reduceIte,a1,a2,k1,g1,g3',S_69,S_48]
   ·iterate 3
    rw [run_loop];simp only [go_sem,Q2,Q3,Q4,Q8,Qe,Qh,Qi,Qj,Qk,reduceIte,a1,a2,k1,k2]
theorem two {α:Type} (l:List α) (d:α) (h:l.length=2):l=[l.getD 0 d,l.getD 1 d]:=by
 match l,h with
 |[a,b],_=>rfl
set_option maxHeartbeats 4000000 in
theorem f50 (e:Ev) (hd:e.dg.length=2) (hb:e.data.length≤1000000):call T 50 [.agg e.sv] [] 0=some ⟨.bool (conV e),[],[]⟩:=by
 obtain⟨g,k,ds,b⟩:=e;simp only at hd hb;rw [two ds [] hd];generalize ds.getD 0 []=d0;generalize ds.getD 1 []=d1;clear hd;have q0:=l50b false g k d0 d1 b [] [] hb (fun h=>by cases h) (fun h=>by cases h);have q1:=l50b true g k d0 d1 b (sha1 b) (sha b) hb (fun _=>rfl) (fun _=>rfl);have p:=l50a (.ptr 101 0) true [(101,.rc [.int .i64 g,.int .i64 k,.lst 1 [[.byt d0 .no],[.byt d1 .no]] .no,.byt b .no])] b (by omega) _ 0 rfl (by omega);have p4:=f48 b [0,0,0,0];simp only [Int.natCast_zero,List.drop_zero]at p;have hbl:bls [d0,d1]=[[.byt d0 .no],[.byt d1 .no]]:=rfl;rw [call_code T_50];unfold conV Ev.sv;simp only [hbl,List.getD_cons_zero,List.getD_cons_succ];generalize (dgOK false d0 []&&dgOK false d1 [])=z0 at*;generalize (dgOK true d0 (sha1 b)&&dgOK true d1 (sha b))=z1 at*
 by_cases h1:k=1
 ·subst h1;simp only [go_sem,Q2,Q3,Q5,Qb,Qc,Qd,Qe,Qh,Qi,Qj,Qk,reduceCtorEq,reduceIte]
 by_cases h2:k=2
 ·subst h2
  by_cases h3:b=[0,0,0,0]
  ·rw [decide_eq_true h3]at p4
   cases z1<;>simp only [go_sem,Q2,Q3,Q5,Qb,Qc,Qd,Qe,Qh,Qi,Qj,Qk,reduceCtorEq,reduceIte,h3,List.replicate]at p4 q1 ⊢ <;>simp only [go_sem,Q4,Qb,Qc,Qd,Qe,Qg,Qh,Qi,Qj,Qk,reduceIte,p4,S_48,q1]
  ·rw [decide_eq_false h3]at p4
   simp only [go_sem,Q2,Q3,Q5,Qb,Qc,Qd,Qe,Qg,Qh,Qi,Qj,Qk,reduceCtorEq,reduceIte,h3,p4,S_48,List.replicate]
 by_cases h3:k=3
 ·subst h3
  by_cases h4:(b.length:Int)=0
  ·simp only [go_sem,Q2,Q3,Q5,Qb,Qc,Qd,Qe,Qh,Qi,Qj,Qk,reduceCtorEq,reduceIte,h4]
  ·cases hp:prn2 b with
   |true=>rw [if_pos hp]at p;cases z1<;>simp only [go_sem,reduceIte]at q1<;>simp only [go_sem,Q2,Q3,Q4,Q5,Qb,Qc,Qd,Qe,Qh,Qi,Qj,Qk,reduceCtorEq,reduceIte,h4,p,q1]
   |false=>rw [if_neg (by rw [hp];simp)]at p;simp only [go_sem,Q2,Q3,Q5,Qb,Qc,Qd,Qe,Qh,Qi,Qj,Qk,reduceCtorEq,reduceIte,h4,p]
 by_cases h4:k=4
 ·subst h4
  cases z1<;>simp only [go_sem,reduceIte]at q1<;>simp only [go_sem,Q2,Q3,Q4,Q5,Qb,Qc,Qd,Qe,Qh,Qi,Qj,Qk,reduceCtorEq,reduceIte,q1]
 by_cases h5:k=5
 ·subst h5
  cases z0<;>simp only [go_sem,reduceIte]at q0<;>simp only [go_sem,Q2,Q3,Q4,Q5,Qb,Qc,Qd,Qe,Qh,Qi,Qj,Qk,reduceCtorEq,reduceIte,q0]
 simp only [go_sem,Q2,Q3,Qb,Qc,Qd,Qe,Qh,Qi,Qj,Qk,reduceCtorEq,reduceIte,h1,h2,h3,h4,h5]

theorem modI2 (n:Int):modI n 2=0∨modI n 2=1:=by
 unfold modI;rw [if_neg (by omega)]
 have:n.tmod 2=0∨n.tmod 2=1∨n.tmod 2= -1:=by have h1:=Int.tmod_lt_of_pos n (show(0:Int)<2 by decide);have h2:=Int.lt_tmod_of_pos n (show(0:Int)<2 by decide);omega
 rcases this with h|h|h<;>rw [h]<;>simp
theorem f29 (n:Int) (h1: -9223372036854775808≤n) (h2:n≤9223372036854775807):call T 29 [.int .i64 n] [] 0=some ⟨.int .i64 (2+modI n 2),[],[]⟩:=by
 have g:=f18 n 2 h1 h2 (by omega);have e:IntKind.i64.wrap (2+modI n 2)=2+modI n 2:=by rcases modI2 n with h|h<;>rw [h]<;>rfl
 rw [call_code T_29];simp only [go_sem,Qh,Qi,Qj,Qk,reduceCtorEq,reduceIte,g,S_18,e]
def payV (ts:List Nat):List UInt8:=ts.flatMap fun t=>lineT t++ [10]
theorem payV_snoc (ts:List Nat) (t:Nat):payV (ts++ [t])=payV ts++(lineT t++ [10]):=by simp [payV]
theorem lineT_len (t:Nat):(lineT t).length≤8:=by unfold lineT;split<;>simp
theorem payV_len (ts:List Nat):(payV ts).length≤9*ts.length:=by
 induction ts with
 |nil=>simp [payV]
 |cons t r ih=>rw [payV,List.flatMap_cons,List.length_append,List.length_append,List.length_cons,List.length_cons,List.length_nil];have:=lineT_len t;unfold payV at ih;omega
theorem lnF_line (t:Nat) (r:List UInt8) (o:List (List UInt8)) (ho:o.length<4):lnF (lineT t++10::r) o []=lnF r (o++ [lineT t]) []:=by
 have h:¬(4:Int)≤o.length:=by omega
 unfold lineT;split<;>simp [lnF,h]
theorem lnF_pay:∀(ts:List Nat) (o:List (List UInt8)),o.length+ts.length≤4→lnF (payV ts) o []=some (o++ts.map lineT,[])
 |[],o,_=>by simp [payV,lnF]
 |t::r,o,h=>by
  rw [List.length_cons]at h;have e:payV (t::r)=lineT t++10::payV r:=by simp [payV]
  rw [e,lnF_line t _ o (by omega),lnF_pay r _ (by rw [List.length_append,List.length_singleton];omega)];simp
theorem linesV_pay (ts:List Nat) (h:ts.length≤4):linesV (payV ts)=ts.map lineT:=by unfold linesV;rw [lnF_pay ts [] (by simpa using h)];simp
theorem l109 (B:List UInt8) (hB:B.length≤1000):∀(k:Nat) (ts:List Nat) (j:Nat),k≤4→ts.length+k≤100→∃us j',us.length=k∧
 run T (.loop r109_6) ⟨[(0,.ptr 0 0),(3,.byt (payV ts) (.id 103)),(4,.int .i64 k)],[(0,codesO B j)],[103]⟩=some (.x 0,⟨[(3,.byt (payV (ts++us)) (.id 103))],[(0,codesO B j')],[103]⟩):=by
 intro k;induction k with
 |zero=>intro ts j h1 h2;refine⟨[],j,rfl, ?_⟩;rw [run_loop,List.append_nil];simp only [go_sem,Q4,Qh,Qj,Qk,reduceCtorEq,reduceIte]
 |succ k ih=>
  intro ts j h1 h2;obtain⟨us,j',hu,ih'⟩:=ih (ts++ [nextV B j 6]) (nextA B j) (by omega) (by rw [List.length_append,List.length_singleton];omega);refine⟨nextV B j 6::us,j',by rw [List.length_cons,hu], ?_⟩;have g:=f86 B j hB;have hl:=payV_len ts;have hl2:=lineT_len (nextV B j 6);have e1:IntKind.i64.wrap (((k+1:Nat):Int)-1)=(k:Int):=by rw [w64 (by omega) (by omega)];omega
  have hp:(0:Int)<((k+1:Nat):Int):=by omega
  have c1:(payV ts).length+(lineT (nextV B j 6)).length≤140737488355328:=by omega
  have c2:(payV ts).length+(lineT (nextV B j 6)).length+1≤140737488355328:=by omega
  rw [payV_snoc]at ih';rw [show ts++nextV B j 6::us=ts++ [nextV B j 6]++us from by simp];rw [run_loop];simp only [codesO]at g ih' ⊢;simp only [go_sem,Qe,Qg,Qh,Qi,Qj,Qk,reduceCtorEq,reduceIte,hp,g,S_86,c1,c2,e1,ih']
theorem f109 (B:List UInt8) (i:Nat) (hB:B.length≤1000):∃ts j,1≤ts.length∧ts.length≤4∧call T 109 [.ptr 0 0] [codesO B i] 0=some ⟨.byt (payV ts) .no,[(0,codesO B j)],[]⟩:=by
 have g:=f37 B i 4 (by omega) (by omega);have hv:=nextV_lt B i 4 (by omega);obtain⟨us,j,hu,h⟩:=l109 B hB (1+nextV B i 4) [] (nextA B i) (by omega) (by simp only [List.length_nil];omega);have e:IntKind.i64.wrap (1+((nextV B i 4:Nat):Int))=((1+nextV B i 4:Nat):Int):=by rw [w64 (by omega) (by omega)];omega
 refine⟨us,j,by omega,by omega, ?_⟩;have hp:payV []=[]:=rfl;rw [hp,List.nil_append]at h;rw [cz4]at g;simp only [codesO]at g h ⊢;rw [call_code T_109];simp only [go_sem,Qe,Qg,Qh,Qi,Qj,Qk,reduceCtorEq,reduceIte,g,S_37,e,h]
def nameT:Nat→List UInt8
 |0=> [97]
 |1=> [103,114,117,98]
 |2=> [108,105,110,117,120]
 |3=> [110,101,116,45,48]
 |_=> [116,119,101,108,118,101,45,98,121,116,101,115]
theorem f108:call T 108 [] [] 0=some ⟨.agg [.str (nameT 0),.str (nameT 1),.str (nameT 2),.str (nameT 3),.str (nameT 4)],[],[]⟩:=by rw [call_code T_108];simp only [go_sem,Qe,Qg,Qi,Qj,Qk,reduceCtorEq,reduceIte,nameT]
theorem nameT_ok:∀v,v<5→Pr.nameB (nameT v)=true:=by decide
theorem l65 (B:List UInt8) (hB:B.length≤1000) (role ve:Int) (na:List UInt8):∀(n i:Nat) (l:List UInt8) (j:Nat),l.length-i=n→i≤l.length→l.length≤6→∃l' j',l'.length=l.length∧
 run T (.loop r65_12) ⟨[(0,.ptr 0 0),(4,.ptr 104 0),(5,.ptr 105 0),(6,.int .i64 i)],[(0,codesO B j),(104,.rc [.int .i64 0,.str [],.int .i64 0,.byt [] .clip]),(105,.rc [.int .i64 role,.str na,.int .i64 ve,.psl 130 1 0 l.length (some l.length)]),(130,.bar l)],[]⟩=
  some (.x 0,⟨[(4,.ptr 104 0),(5,.ptr 105 0)],[(0,codesO B j'),(104,.rc [.int .i64 0,.str [],.int .i64 0,.byt [] .clip]),(105,.rc [.int .i64 role,.str na,.int .i64 ve,.psl 130 1 0 l.length (some l.length)]),(130,.bar l')],[]⟩):=by
 intro n;induction n with
 |zero=>
  intro i l j h0 h1 h2;have:i=l.length:=by omega
  refine⟨l,j,rfl, ?_⟩;subst this;rw [run_loop];simp only [go_sem,Qe,Qh,Qj,Qk,reduceCtorEq,reduceIte]
 |succ n ih=>
  intro i l j h0 h1 h2;have hi:i<l.length:=by omega
  have e1:=wsucc i (by omega);have g:=f37 B j 256 (by omega) (by omega);have c256:((256:Nat):Int)=256:=rfl;rw [c256]at g;obtain⟨l',j',q1,q2⟩:=ih (i+1) (l.set i (UInt8.ofInt ((nextV B j 256:Nat):Int))) (nextA B j) (by rw [List.length_set];omega) (by rw [List.length_set];omega) (by rw [List.length_set];omega);rw [List.length_set]at q1 q2;refine⟨l',j',q1, ?_⟩;rw [run_loop];simp only [codesO]at g q2 ⊢;simp only [go_sem,Qb,Qc,Qd,Qe,Qg,Qh,Qi,Qj,Qk,reduceCtorEq,reduceIte,hi,e1,g,S_37,q2]
set_option maxHeartbeats 8000000 in
theorem f65 (B:List UInt8) (j:Nat) (hB:B.length≤1000) (role:Int) (h1:1≤role) (h4:role≤4):∃(x:Img) (j':Nat),imgE x=0∧x.role=role∧
 call T 65 [.ptr 0 0,.int .i64 role] [codesO B j] 0=some ⟨.agg x.sv,[(0,codesO B j')],[]⟩:=by
 have g1:=f108;have g2:=f37 B j 5 (by omega) (by omega);have v2:=nextV_lt B j 5 (by omega);have g3:=f37 B (nextA B j) 5 (by omega) (by omega);have v3:=nextV_lt B (nextA B j) 5 (by omega);have g4:=f37 B (nextA B (nextA B j)) 9 (by omega) (by omega);have g5:=f37 B (nextA B (nextA B (nextA B j))) 3 (by omega) (by omega);have v5:=nextV_lt B (nextA B (nextA B (nextA B j))) 3 (by omega);have c9:((9:Nat):Int)=9:=rfl;rw [cz5]at g2 g3;rw [c9]at g4;rw [cz3]at g5;generalize nextV B j 5=w2 at*;generalize nextV B (nextA B j) 5=w3 at*;generalize nextV B (nextA B (nextA B j)) 9=w4 at*;generalize nextV B (nextA B (nextA B (nextA B j))) 3=w5 at*;simp only [codesO]at g2 g3 g4 g5
 have hN:(List.drop w2 [SV.str (nameT 0),.str (nameT 1),.str (nameT 2),.str (nameT 3),.str (nameT 4)]).getD 0 .undef= .str (nameT w2):=by
  have hn:w2=0∨w2=1∨w2=2∨w2=3∨w2=4:=by omega
  rcases hn with rfl|rfl|rfl|rfl|rfl<;>rfl
 have hw2:((w2:Nat):Int)<5:=by omega
 have em:w2*1=w2:=Nat.mul_one _;have hnb:=nameT_ok w2 v2;have ew:IntKind.i64.wrap (1000000-(w5:Int))=1000000-(w5:Int):=w64 (by omega) (by omega)
 have key:∀(jj:Nat) (ve:Int),0≤ve→ve≤1000000→∃(x:Img) (j':Nat),imgE x=0∧x.role=role∧x.name=nameT w2∧x.ver=ve∧
  (role=4→call T 109 [.ptr 0 0] [codesO B jj] 0=some ⟨.byt x.pay .no,[(0,codesO B j')],[]⟩)∧
  (¬role=4→∃(j1 n:Nat),n<7∧call T 37 [.ptr 0 0,.int .i64 7] [codesO B jj] 0=some ⟨.int .i64 (n:Int),[(0,codesO B j1)],[]⟩∧x.pay.length=n∧
   run T (.loop r65_12) ⟨[(0,.ptr 0 0),(4,.ptr 104 0),(5,.ptr 105 0),(6,.int .i64 0)],[(0,codesO B j1),(104,.rc [.int .i64 0,.str [],.int .i64 0,.byt [] .clip]),(105,.rc [.int .i64 role,.str (nameT w2),.int .i64 ve,.psl 130 1 0 n (some n)]),(130,.bar (List.replicate n 0))],[]⟩=
    some (.x 0,⟨[(4,.ptr 104 0),(5,.ptr 105 0)],[(0,codesO B j'),(104,.rc [.int .i64 0,.str [],.int .i64 0,.byt [] .clip]),(105,.rc [.int .i64 role,.str (nameT w2),.int .i64 ve,.psl 130 1 0 n (some n)]),(130,.bar x.pay)],[]⟩)):=by
  intro jj ve hv0 hv1
  by_cases hr:role=4
  ·obtain⟨ts,j',t1,t2,t3⟩:=f109 B jj hB
   refine⟨⟨role,nameT w2,ve,payV ts⟩,j', ?_,rfl,rfl,rfl,fun _=>t3,fun h=>absurd hr h⟩;have hl:=payV_len ts;have hL:=linesV_pay ts t2;unfold imgE;rw [if_neg (by show ¬role<1;omega),if_neg (by show ¬4<role;omega),if_neg (by show ¬ve<0;omega),if_neg (by show ¬1000000<ve;omega),if_neg (by show ¬Pr.nameB (nameT w2)=false;rw [hnb];simp),if_neg (by show ¬(64:Int)<(payV ts).length;omega)];show(if role=4 then(if((linesV (payV ts)).length:Int)=0 then 40 else 0)else 0)=(0:Int);rw [if_pos hr,hL,if_neg];rw [List.length_map];omega
  ·have g7:=f37 B jj 7 (by omega) (by omega)
   have v7:=nextV_lt B jj 7 (by omega);rw [show((7:Nat):Int)=7 from rfl]at g7;obtain⟨l',j',q1,q2⟩:=l65 B hB role ve (nameT w2) (nextV B jj 7) 0 (List.replicate (nextV B jj 7) 0) (nextA B jj) (by rw [List.length_replicate];rfl) (Nat.zero_le _) (by rw [List.length_replicate];omega);rw [List.length_replicate]at q1 q2;refine⟨⟨role,nameT w2,ve,l'⟩,j', ?_,rfl,rfl,rfl,fun h=>absurd h hr,fun _=>⟨nextA B jj,nextV B jj 7,v7,g7,q1,q2⟩⟩;unfold imgE;rw [if_neg (by show ¬role<1;omega),if_neg (by show ¬4<role;omega),if_neg (by show ¬ve<0;omega),if_neg (by show ¬1000000<ve;omega),if_neg (by show ¬Pr.nameB (nameT w2)=false;rw [hnb];simp),if_neg (by show ¬(64:Int)<l'.length;omega)];show(if role=4 then(if((linesV l').length:Int)=0 then 40 else 0)else 0)=(0:Int);rw [if_neg hr]
 by_cases p4:w4=8
 ·have p4':(w4:Int)=8:=by omega
  obtain⟨⟨xr,xn,xv,xp⟩,j',e0,e1,e2,e3,e4,e5⟩:=key (nextA B (nextA B (nextA B (nextA B j)))) (1000000-(w5:Int)) (by omega) (by omega);simp only at e1 e2 e3 e4 e5;subst e1 e2 e3;refine⟨_,j',e0,rfl, ?_⟩;rw [call_code T_65]
  by_cases hr:xr=4
  ·have t:=e4 hr
   simp only [codesO,Img.sv]at t ⊢;simp only [go_sem,Qe,Qg,Qh,Qi,Qj,reduceCtorEq,reduceIte,g1,S_108,g2,S_37,g3,hN,hw2,em];simp+decide only [gd_pos];simp only [go_sem,Qe,Qg,Qh,Qi,Qj,Qk,reduceCtorEq,reduceIte,S_37,g4,g5,p4',ew,hr,t,S_109]
  ·obtain⟨j1,n,hn,t1,t2,t3⟩:=e5 hr
   have t2':xp.length=n:=t2;have hle:n≤xp.length:=by omega
   have hq:List.take n xp=xp:=by rw [←t2',List.take_length]
   have hn':(n:Int)<7:=by omega
   have hn2:(n:Int)≤140737488355328:=by omega
   simp only [codesO,Img.sv]at t1 t3 ⊢;simp only [go_sem,Qe,Qg,Qh,Qi,Qj,reduceCtorEq,reduceIte,g1,S_108,g2,S_37,g3,hN,hw2,em];simp+decide only [gd_pos];simp only [go_sem,Qe,Qg,Qh,Qi,Qj,Qk,reduceCtorEq,reduceIte,S_37,g4,g5,p4',ew,hr,t1,hn2,t3,hle,hq]
 ·have p4':¬(w4:Int)=8:=by omega
  obtain⟨⟨xr,xn,xv,xp⟩,j',e0,e1,e2,e3,e4,e5⟩:=key (nextA B (nextA B (nextA B j))) (w3:Int) (by omega) (by omega);simp only at e1 e2 e3 e4 e5;subst e1 e2 e3;refine⟨_,j',e0,rfl, ?_⟩;rw [call_code T_65]
  by_cases hr:xr=4
  ·have t:=e4 hr
   simp only [codesO,Img.sv]at t ⊢;simp only [go_sem,Qe,Qg,Qh,Qi,Qj,reduceCtorEq,reduceIte,g1,S_108,g2,S_37,g3,hN,hw2,em];simp+decide only [gd_pos];simp only [go_sem,Qe,Qg,Qh,Qi,Qj,Qk,reduceCtorEq,reduceIte,S_37,g4,p4',hr,t,S_109]
  ·obtain⟨j1,n,hn,t1,t2,t3⟩:=e5 hr
   have t2':xp.length=n:=t2;have hle:n≤xp.length:=by omega
   have hq:List.take n xp=xp:=by rw [←t2',List.take_length]
   have hn':(n:Int)<7:=by omega
   have hn2:(n:Int)≤140737488355328:=by omega
   simp only [codesO,Img.sv]at t1 t3 ⊢;simp only [go_sem,Qe,Qg,Qh,Qi,Qj,reduceCtorEq,reduceIte,g1,S_108,g2,S_37,g3,hN,hw2,em];simp+decide only [gd_pos];simp only [go_sem,Qe,Qg,Qh,Qi,Qj,Qk,reduceCtorEq,reduceIte,S_37,g4,p4',hr,t1,hn2,t3,hle,hq]
end Go.Proofs.YtdafipacemgcoaaGreatDoor
