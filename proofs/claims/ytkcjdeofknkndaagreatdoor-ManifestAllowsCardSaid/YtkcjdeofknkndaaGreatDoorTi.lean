/- What the functions come to. No condition. -/
import Derived.Test.YtkcjdeofknkndaaGreatDoorTe
import Derived.Test.YtkcjdeofknkndaaGreatDoorTg
open Go.IntKind renaming i64 -> ac, u64 -> aU
open List renaming Pairwise -> ey, cons_append -> bv, drop -> ig, drop_eq_getElem_cons -> aX, drop_length -> bl, drop_zero -> bh, getD_cons_succ -> b9, getD_cons_zero -> bO, getD_eq_getElem?_getD -> aa, getElem?_eq_getElem -> ab, getElem_of_mem -> bN, length_append -> af, length_cons -> ax, length_drop -> aF, length_nil -> aV, length_singleton -> aD, length_take -> av, map_append -> cV, map_cons -> aE, map_nil -> cQ, mem_append -> ak, mem_cons -> am, mem_cons_of_mem -> ao, mem_cons_self -> az, mem_map -> aS, mem_of_mem_drop -> kU, mem_of_mem_take -> bz, mem_singleton -> aN, nil_append -> aQ, replicate -> al, take -> dr, take_length -> bK
open Nat renaming add_zero -> fj, le_refl -> aL, le_trans -> cC, mul_one -> dq, zero_add -> bW, zero_le -> bM
open UInt8 renaming ofInt -> bF
set_option maxRecDepth 100000
set_option maxHeartbeats 16000000
set_option linter.unusedSimpArgs false
set_option linter.unusedVariables false
namespace Go.Proofs.YtkcjdeofknkndaaGreatDoor
open Go.Sy
open UInt8 renaming reduceLT -> Q0, reduceLE -> Q1
open Int renaming reduceToNat -> Q2, reduceLE -> Q3, reduceLT -> Q4, reduceEq -> Q5, reduceNe -> Q6, reduceNeg -> Q7, reduceAdd -> Q8, reduceSub -> Q9, reduceMul -> Qa
open Nat renaming reducePow -> Qb, reduceDiv -> Qc, reduceMod -> Qd, reduceAdd -> Qe, reduceSub -> Qf, reduceMul -> Qg, reduceLT -> Qh, reduceLeDiff -> Qi, reduceEqDiff -> Qj, reduceBEq -> Qk
theorem f74(a:Int)(ha:rG a)(b0 b1:UInt8):∃d0 d1:List UInt8,d0.length<=100/\d1.length<=100/\
 call T 74 [.int .i64 a,.byt [b0,b1] .no] [] 0=some ⟨.lst 1 (bls [d0,d1]) .no,[],[]⟩:=by
 have k1:ac.wrap 1=1:=rfl;have k2:ac.wrap 2=2:=rfl;have k12:ac.wrap 12=12:=rfl;have k20:ac.wrap 20=20:=rfl;have k32:ac.wrap 32=32:=rfl;have k31:ac.wrap 31=31:=rfl;have k19:ac.wrap 19=19:=rfl;have k0:ac.wrap 0=0:=rfl;have x0:(0:UInt8)^^^bF 0=0:=by decide
 have x1:(0:UInt8)^^^bF 1=1:=by decide
 have t0:aU.wrap 0=0:=rfl;have t1:aU.wrap 1=1:=rfl;have s10:bt .and .i64 (Int.fdiv 1 (2^min 0 64)) 1=1:=rfl;have s20:bt .and .i64 (Int.fdiv 2 (2^min 0 64)) 1=0:=rfl;have s30:bt .and .i64 (Int.fdiv 3 (2^min 0 64)) 1=1:=rfl;have s11:bt .and .i64 (Int.fdiv 1 (2^min 1 64)) 1=0:=rfl;have s21:bt .and .i64 (Int.fdiv 2 (2^min 1 64)) 1=1:=rfl;have s31:bt .and .i64 (Int.fdiv 3 (2^min 1 64)) 1=1:=rfl;have ha':=ha;unfold rG at ha';rcases ha' with rfl|rfl|rfl
 ·refine⟨[b0,b1,0,0,0,0,0,0,0,0,0,0,0,0,0,0,0,0,0,0],[],by simp,by simp, ?_⟩
  rw[an xc7];simp only[go_sem,Q0,Q1,Q2,Q3,Q4,Q5,Q6,Q7,Q8,Q9,Qa,Qb,Qc,Qd,Qe,Qf,Qg,Qh,Qi,Qj,Qk,reduceCtorEq,reduceIte,al]
  iterate 3
   rw[ai];simp only[go_sem,Q0,Q1,Q2,Q3,Q4,Q5,Q6,Q7,Q8,Q9,Qa,Qb,Qc,Qd,Qe,Qf,Qg,Qh,Qi,Qj,Qk,reduceCtorEq,reduceIte,k0,k1,k2,x0,x1,k12,k19,k31,k20,k32,t0,t1,s10,s20,s30,s11,s21,s31,fC,al,bls]
 ·refine⟨[],[b0,b1,0,0,0,0,0,0,0,0,0,0,0,0,0,0,0,0,0,0,0,0,0,0,0,0,0,0,0,0,0,1],by simp,by simp, ?_⟩
  rw[an xc7];simp only[go_sem,Q0,Q1,Q2,Q3,Q4,Q5,Q6,Q7,Q8,Q9,Qa,Qb,Qc,Qd,Qe,Qf,Qg,Qh,Qi,Qj,Qk,reduceCtorEq,reduceIte,al]
  iterate 3
   rw[ai];simp only[go_sem,Q0,Q1,Q2,Q3,Q4,Q5,Q6,Q7,Q8,Q9,Qa,Qb,Qc,Qd,Qe,Qf,Qg,Qh,Qi,Qj,Qk,reduceCtorEq,reduceIte,k0,k1,k2,x0,x1,k12,k19,k31,k20,k32,t0,t1,s10,s20,s30,s11,s21,s31,fC,al,bls]
 ·refine⟨[b0,b1,0,0,0,0,0,0,0,0,0,0,0,0,0,0,0,0,0,0],[b0,b1,0,0,0,0,0,0,0,0,0,0,0,0,0,0,0,0,0,0,0,0,0,0,0,0,0,0,0,0,0,1],by simp,by simp, ?_⟩
  rw[an xc7];simp only[go_sem,Q0,Q1,Q2,Q3,Q4,Q5,Q6,Q7,Q8,Q9,Qa,Qb,Qc,Qd,Qe,Qf,Qg,Qh,Qi,Qj,Qk,reduceCtorEq,reduceIte,al]
  iterate 3
   rw[ai];simp only[go_sem,Q0,Q1,Q2,Q3,Q4,Q5,Q6,Q7,Q8,Q9,Qa,Qb,Qc,Qd,Qe,Qf,Qg,Qh,Qi,Qj,Qk,reduceCtorEq,reduceIte,k0,k1,k2,x0,x1,k12,k19,k31,k20,k32,t0,t1,s10,s20,s30,s11,s21,s31,fC,al,bls]
theorem fG(B:List UInt8)(hB:B.length<=1000)(j n:Nat)(hn:0<n):∃v j':Nat,v<n/\call T 71 [.ptr 0 0,.int .i64 (n:Int)] [aM B j] 0=some ⟨.int .i64 (v:Int),[(0,aM B j')],[]⟩:=
 ⟨du B j n,cj B j,dL B j n hn,f71 B j n hn (by omega)⟩
theorem uN(v:Nat):1<=(fX v).length/\(fX v).length<=8:=by unfold fX;split<;>decide
theorem xjh(B:List UInt8)(hB:B.length<=1000)(j:Nat):∃(d:List UInt8)(j':Nat),1<=d.length/\d.length<=8/\call T 73 [.ptr 0 0] [aM B j] 0=some ⟨.byt d .no,[(0,aM B j')],[]⟩:=
 ⟨_,cj B j,(uN _).1,(uN _).2,f73 B j hB⟩
structure EvS(e:Ev):Prop where
 d2:e.dg.length=2
 b:e.data.length<=1000
 d0:(e.dg.getD 0 []).length<=1000
 d1:(e.dg.getD 1 []).length<=1000
theorem dY(r k a:Int)(d:List UInt8):(mkV r k a d).sv=[.int .i64 r,.int .i64 k,.lst 1 (bls (mkV r k a d).dg) .no,.byt d .no]:=rfl
theorem lI(r k a:Int)(d:List UInt8)(h:d.length<=1000):EvS (mkV r k a d):=by
 have e1:=up d;have e2:=gV d
 by_cases hk:k=5
 ·refine⟨?_,h, ?_, ?_⟩<;>simp only[mkV,hk,if_true]<;>decide
 ·refine⟨?_,h, ?_, ?_⟩<;>simp only[mkV,hk,if_false]
  ·rfl
  ·rw[bO]
   split
   ·omega
   ·exact bM _
  ·rw[b9,bO]
   split
   ·omega
   ·exact bM _
theorem GF:∀v,v<8->∃r:Int,([[SV.int ac 0],[SV.int ac 0],[SV.int ac 4],[SV.int ac 8],[SV.int ac 9],[SV.int ac 9],[SV.int ac 1],[SV.int ac 11]]:List (List SV)).getD v []=[.int .i64 r]
 |0,_=>⟨_,rfl⟩
 |1,_=>⟨_,rfl⟩
 |2,_=>⟨_,rfl⟩
 |3,_=>⟨_,rfl⟩
 |4,_=>⟨_,rfl⟩
 |5,_=>⟨_,rfl⟩
 |6,_=>⟨_,rfl⟩
 |7,_=>⟨_,rfl⟩
 |n+8,h=>absurd h (by omega)
theorem f30(B:List UInt8)(hB:B.length<=1000)(j:Nat)(a:Int)(ha:rG a):∃(e:Ev)(j':Nat),EvS e/\call T 30 [.ptr 0 0,.int .i64 a] [aM B j] 0=some ⟨.agg e.sv,[(0,aM B j')],[]⟩:=by
 obtain⟨d,j1,hd1,hd8,g1⟩:=xjh B hB j;obtain⟨v2,j2,h2,g2⟩:=fG B hB j1 4 (by omega);rw[cz4]at g2;simp only[aM]at g1 g2
 by_cases p2:v2=3
 ·have n2:(v2:Int)=3:=by omega
  obtain⟨v9,j9,h9,g0⟩:=fG B hB j2 2 (by omega);rw[c2]at g0;have l9:v9<=d.length:=by omega
  simp only[aM]at g0;obtain⟨v3,j3,h3,g3⟩:=fG B hB j9 5 (by omega);rw[cz5]at g3;obtain⟨v4,j4,h4,g4⟩:=fG B hB j3 8 (by omega);rw[c8]at g4;obtain⟨r,hr⟩:=GF v4 h4;obtain⟨k,hk⟩:∃k:Int,k=1+(v3:Int):=⟨_,rfl⟩;have e1:ac.wrap (1+(v3:Int))=k:=by rw[hk,w64 (by omega) (by omega)]
  have hv4:(v4:Int)<8:=by omega
  simp only[aM]at g3 g4
  by_cases p3:k=2
  ·subst p3
   obtain⟨v5,j5,h5,g5⟩:=fG B hB j4 4 (by omega);rw[cz4]at g5;simp only[aM]at g5
   by_cases p5:0<v5
   ·have p5':(0:Int)<(v5:Int):=by omega
    obtain⟨v6,j6,h6,g6⟩:=fG B hB j5 8 (by omega);rw[c8]at g6;simp only[aM]at g6;have gm:=f68 (v6:Int) 2 a [0,0,0,0] ha (by decide);obtain⟨v7,j7,h7,g7⟩:=fG B hB j6 4 (by omega);rw[cz4]at g7;simp only[aM]at g7
    by_cases p7:v7=3
    ·have p7':(v7:Int)=3:=by omega
     obtain⟨v8,j8,h8,g8⟩:=fG B hB j7 4 (by omega);rw[cz4]at g8;simp only[aM]at g8;obtain⟨d0,d1,m0,m1,g9⟩:=f74 a ha (bF (v8:Int)) (bF 2);refine⟨⟨(v6:Int),2,[d0,d1],[0,0,0,0]⟩,j8,⟨rfl,Nat.le_of_ble_eq_true rfl,cC m0 (by decide),cC m1 (by decide)⟩, ?_⟩;rw[an oY];rw[dY]at gm;simp only[Ev.sv];simp only[aM]at gm ⊢;simp only[go_sem,Q0,Q1,Q2,Q3,Q4,Q5,Q6,Q7,Q8,Q9,Qa,Qb,Qc,Qd,Qe,Qf,Qg,Qh,Qi,Qj,Qk,reduceCtorEq,reduceIte,mU,fB,mV,o0,g1,g2,n2,g0,l9,g3,e1,g4,hv4,h4,hr,g5,p5',g6,g7,p7',g8,g9,gm]
    ·have p7':¬(v7:Int)=3:=by omega
     refine⟨mkV (v6:Int) 2 a [0,0,0,0],j7,lI _ _ _ _ (Nat.le_of_ble_eq_true rfl), ?_⟩;rw[an oY];rw[dY]at gm;rw[dY];simp only[aM]at gm ⊢;simp only[go_sem,Q0,Q1,Q2,Q3,Q4,Q5,Q6,Q7,Q8,Q9,Qa,Qb,Qc,Qd,Qe,Qf,Qg,Qh,Qi,Qj,Qk,reduceCtorEq,reduceIte,mU,fB,mV,o0,g1,g2,n2,g0,l9,g3,e1,g4,hv4,h4,hr,g5,p5',g6,g7,p7',gm]
   ·have p5':¬(0:Int)<(v5:Int):=by omega
    have gm:=f68 r 2 a (d.take v9) ha (by rw[av];omega);obtain⟨v7,j7,h7,g7⟩:=fG B hB j5 4 (by omega);rw[cz4]at g7;simp only[aM]at g7
    by_cases p7:v7=3
    ·have p7':(v7:Int)=3:=by omega
     obtain⟨v8,j8,h8,g8⟩:=fG B hB j7 4 (by omega);rw[cz4]at g8;simp only[aM]at g8;obtain⟨d0,d1,m0,m1,g9⟩:=f74 a ha (bF (v8:Int)) (bF 2);refine⟨⟨r,2,[d0,d1],(d.take v9)⟩,j8,⟨rfl,by rw[av];omega,cC m0 (by decide),cC m1 (by decide)⟩, ?_⟩;rw[an oY];rw[dY]at gm;simp only[Ev.sv];simp only[aM]at gm ⊢;simp only[go_sem,Q0,Q1,Q2,Q3,Q4,Q5,Q6,Q7,Q8,Q9,Qa,Qb,Qc,Qd,Qe,Qf,Qg,Qh,Qi,Qj,Qk,reduceCtorEq,reduceIte,mU,fB,mV,o0,g1,g2,n2,g0,l9,g3,e1,g4,hv4,h4,hr,g5,p5',g7,p7',g8,g9,gm]
    ·have p7':¬(v7:Int)=3:=by omega
     refine⟨mkV r 2 a (d.take v9),j7,lI _ _ _ _ (by rw[av];omega), ?_⟩;rw[an oY];rw[dY]at gm;rw[dY];simp only[aM]at gm ⊢;simp only[go_sem,Q0,Q1,Q2,Q3,Q4,Q5,Q6,Q7,Q8,Q9,Qa,Qb,Qc,Qd,Qe,Qf,Qg,Qh,Qi,Qj,Qk,reduceCtorEq,reduceIte,mU,fB,mV,o0,g1,g2,n2,g0,l9,g3,e1,g4,hv4,h4,hr,g5,p5',g7,p7',gm]
  ·have gm:=f68 r k a (d.take v9) ha (by rw[av];omega)
   by_cases p5:k=5
   ·subst p5
    refine⟨mkV r 5 a (d.take v9),j4,lI _ _ _ _ (by rw[av];omega), ?_⟩;rw[an oY];rw[dY]at gm;rw[dY];simp only[aM]at gm ⊢;simp only[go_sem,Q0,Q1,Q2,Q3,Q4,Q5,Q6,Q7,Q8,Q9,Qa,Qb,Qc,Qd,Qe,Qf,Qg,Qh,Qi,Qj,Qk,reduceCtorEq,reduceIte,mU,fB,mV,o0,g1,g2,n2,g0,l9,g3,e1,g4,hv4,h4,hr,gm]
   ·skip
    obtain⟨v7,j7,h7,g7⟩:=fG B hB j4 4 (by omega);rw[cz4]at g7;simp only[aM]at g7
    by_cases p7:v7=3
    ·have p7':(v7:Int)=3:=by omega
     obtain⟨v8,j8,h8,g8⟩:=fG B hB j7 4 (by omega);rw[cz4]at g8;simp only[aM]at g8;obtain⟨d0,d1,m0,m1,g9⟩:=f74 a ha (bF (v8:Int)) (bF k);refine⟨⟨r,k,[d0,d1],(d.take v9)⟩,j8,⟨rfl,by rw[av];omega,cC m0 (by decide),cC m1 (by decide)⟩, ?_⟩;rw[an oY];rw[dY]at gm;simp only[Ev.sv];simp only[aM]at gm ⊢;simp only[go_sem,Q0,Q1,Q2,Q3,Q4,Q5,Q6,Q7,Q8,Q9,Qa,Qb,Qc,Qd,Qe,Qf,Qg,Qh,Qi,Qj,Qk,reduceCtorEq,reduceIte,mU,fB,mV,o0,g1,g2,n2,g0,l9,g3,e1,g4,hv4,h4,hr,p3,p5,g7,p7',g8,g9,gm]
    ·have p7':¬(v7:Int)=3:=by omega
     refine⟨mkV r k a (d.take v9),j7,lI _ _ _ _ (by rw[av];omega), ?_⟩;rw[an oY];rw[dY]at gm;rw[dY];simp only[aM]at gm ⊢;simp only[go_sem,Q0,Q1,Q2,Q3,Q4,Q5,Q6,Q7,Q8,Q9,Qa,Qb,Qc,Qd,Qe,Qf,Qg,Qh,Qi,Qj,Qk,reduceCtorEq,reduceIte,mU,fB,mV,o0,g1,g2,n2,g0,l9,g3,e1,g4,hv4,h4,hr,p3,p5,g7,p7',gm]
 ·have n2:¬(v2:Int)=3:=by omega
  obtain⟨v3,j3,h3,g3⟩:=fG B hB j2 5 (by omega);rw[cz5]at g3;obtain⟨v4,j4,h4,g4⟩:=fG B hB j3 8 (by omega);rw[c8]at g4;obtain⟨r,hr⟩:=GF v4 h4;obtain⟨k,hk⟩:∃k:Int,k=1+(v3:Int):=⟨_,rfl⟩;have e1:ac.wrap (1+(v3:Int))=k:=by rw[hk,w64 (by omega) (by omega)]
  have hv4:(v4:Int)<8:=by omega
  simp only[aM]at g3 g4
  by_cases p3:k=2
  ·subst p3
   obtain⟨v5,j5,h5,g5⟩:=fG B hB j4 4 (by omega);rw[cz4]at g5;simp only[aM]at g5
   by_cases p5:0<v5
   ·have p5':(0:Int)<(v5:Int):=by omega
    obtain⟨v6,j6,h6,g6⟩:=fG B hB j5 8 (by omega);rw[c8]at g6;simp only[aM]at g6;have gm:=f68 (v6:Int) 2 a [0,0,0,0] ha (by decide);obtain⟨v7,j7,h7,g7⟩:=fG B hB j6 4 (by omega);rw[cz4]at g7;simp only[aM]at g7
    by_cases p7:v7=3
    ·have p7':(v7:Int)=3:=by omega
     obtain⟨v8,j8,h8,g8⟩:=fG B hB j7 4 (by omega);rw[cz4]at g8;simp only[aM]at g8;obtain⟨d0,d1,m0,m1,g9⟩:=f74 a ha (bF (v8:Int)) (bF 2);refine⟨⟨(v6:Int),2,[d0,d1],[0,0,0,0]⟩,j8,⟨rfl,Nat.le_of_ble_eq_true rfl,cC m0 (by decide),cC m1 (by decide)⟩, ?_⟩;rw[an oY];rw[dY]at gm;simp only[Ev.sv];simp only[aM]at gm ⊢;simp only[go_sem,Q0,Q1,Q2,Q3,Q4,Q5,Q6,Q7,Q8,Q9,Qa,Qb,Qc,Qd,Qe,Qf,Qg,Qh,Qi,Qj,Qk,reduceCtorEq,reduceIte,mU,fB,mV,o0,g1,g2,n2,g3,e1,g4,hv4,h4,hr,g5,p5',g6,g7,p7',g8,g9,gm]
    ·have p7':¬(v7:Int)=3:=by omega
     refine⟨mkV (v6:Int) 2 a [0,0,0,0],j7,lI _ _ _ _ (Nat.le_of_ble_eq_true rfl), ?_⟩;rw[an oY];rw[dY]at gm;rw[dY];simp only[aM]at gm ⊢;simp only[go_sem,Q0,Q1,Q2,Q3,Q4,Q5,Q6,Q7,Q8,Q9,Qa,Qb,Qc,Qd,Qe,Qf,Qg,Qh,Qi,Qj,Qk,reduceCtorEq,reduceIte,mU,fB,mV,o0,g1,g2,n2,g3,e1,g4,hv4,h4,hr,g5,p5',g6,g7,p7',gm]
   ·have p5':¬(0:Int)<(v5:Int):=by omega
    have gm:=f68 r 2 a d ha (by show d.length<=_;omega);obtain⟨v7,j7,h7,g7⟩:=fG B hB j5 4 (by omega);rw[cz4]at g7;simp only[aM]at g7
    by_cases p7:v7=3
    ·have p7':(v7:Int)=3:=by omega
     obtain⟨v8,j8,h8,g8⟩:=fG B hB j7 4 (by omega);rw[cz4]at g8;simp only[aM]at g8;obtain⟨d0,d1,m0,m1,g9⟩:=f74 a ha (bF (v8:Int)) (bF 2);refine⟨⟨r,2,[d0,d1],d⟩,j8,⟨rfl,by show d.length<=_;omega,cC m0 (by decide),cC m1 (by decide)⟩, ?_⟩;rw[an oY];rw[dY]at gm;simp only[Ev.sv];simp only[aM]at gm ⊢;simp only[go_sem,Q0,Q1,Q2,Q3,Q4,Q5,Q6,Q7,Q8,Q9,Qa,Qb,Qc,Qd,Qe,Qf,Qg,Qh,Qi,Qj,Qk,reduceCtorEq,reduceIte,mU,fB,mV,o0,g1,g2,n2,g3,e1,g4,hv4,h4,hr,g5,p5',g7,p7',g8,g9,gm]
    ·have p7':¬(v7:Int)=3:=by omega
     refine⟨mkV r 2 a d,j7,lI _ _ _ _ (by show d.length<=_;omega), ?_⟩;rw[an oY];rw[dY]at gm;rw[dY];simp only[aM]at gm ⊢;simp only[go_sem,Q0,Q1,Q2,Q3,Q4,Q5,Q6,Q7,Q8,Q9,Qa,Qb,Qc,Qd,Qe,Qf,Qg,Qh,Qi,Qj,Qk,reduceCtorEq,reduceIte,mU,fB,mV,o0,g1,g2,n2,g3,e1,g4,hv4,h4,hr,g5,p5',g7,p7',gm]
  ·have gm:=f68 r k a d ha (by show d.length<=_;omega)
   by_cases p5:k=5
   ·subst p5
    refine⟨mkV r 5 a d,j4,lI _ _ _ _ (by show d.length<=_;omega), ?_⟩;rw[an oY];rw[dY]at gm;rw[dY];simp only[aM]at gm ⊢;simp only[go_sem,Q0,Q1,Q2,Q3,Q4,Q5,Q6,Q7,Q8,Q9,Qa,Qb,Qc,Qd,Qe,Qf,Qg,Qh,Qi,Qj,Qk,reduceCtorEq,reduceIte,mU,fB,mV,o0,g1,g2,n2,g3,e1,g4,hv4,h4,hr,gm]
   ·skip
    obtain⟨v7,j7,h7,g7⟩:=fG B hB j4 4 (by omega);rw[cz4]at g7;simp only[aM]at g7
    by_cases p7:v7=3
    ·have p7':(v7:Int)=3:=by omega
     obtain⟨v8,j8,h8,g8⟩:=fG B hB j7 4 (by omega);rw[cz4]at g8;simp only[aM]at g8;obtain⟨d0,d1,m0,m1,g9⟩:=f74 a ha (bF (v8:Int)) (bF k);refine⟨⟨r,k,[d0,d1],d⟩,j8,⟨rfl,by show d.length<=_;omega,cC m0 (by decide),cC m1 (by decide)⟩, ?_⟩;rw[an oY];rw[dY]at gm;simp only[Ev.sv];simp only[aM]at gm ⊢;simp only[go_sem,Q0,Q1,Q2,Q3,Q4,Q5,Q6,Q7,Q8,Q9,Qa,Qb,Qc,Qd,Qe,Qf,Qg,Qh,Qi,Qj,Qk,reduceCtorEq,reduceIte,mU,fB,mV,o0,g1,g2,n2,g3,e1,g4,hv4,h4,hr,p3,p5,g7,p7',g8,g9,gm]
    ·have p7':¬(v7:Int)=3:=by omega
     refine⟨mkV r k a d,j7,lI _ _ _ _ (by show d.length<=_;omega), ?_⟩;rw[an oY];rw[dY]at gm;rw[dY];simp only[aM]at gm ⊢;simp only[go_sem,Q0,Q1,Q2,Q3,Q4,Q5,Q6,Q7,Q8,Q9,Qa,Qb,Qc,Qd,Qe,Qf,Qg,Qh,Qi,Qj,Qk,reduceCtorEq,reduceIte,mU,fB,mV,o0,g1,g2,n2,g3,e1,g4,hv4,h4,hr,p3,p5,g7,p7',gm]
def fV(x:Ent):List Ent->Nat
 |[]=>0
 |y::r=>if eX y x=true then fV x r+1 else 0
theorem sd(x:Ent):∀l,fV x l<=l.length
 |[]=>aL _
 |y::r=>by have:=sd x r;rw[fV,ax];split<;>omega
def mO(v:List UInt8)(ve:Int)(l:List Ent)(tk:Tok):aB:= .rc [.str v,.int .i64 ve,.int .i64 0,.int .i64 0,.int .i64 1099511627776,.lst 4 (bX l) tk,.lst 4 [] .clip]
def mZ:aB:= .rc [.str [],.int .i64 0,.int .i64 0,.int .i64 0,.int .i64 0,.lst 4 [] .clip,.lst 4 [] .clip]
theorem xjt(I:List (List SV))(v:List UInt8)(ve i:Int)(l:List Ent)(x:Ent)(hl:l.length<=1000)(hd:∀y∈l,y.dig.length<=1000):∀(n k:Nat),l.length-k=n->k<=l.length->
 run T (.loop xY) ⟨[(2,.lst 4 I .no),(6,.ptr 106 0),(7,.ptr 107 0),(8,.int .i64 i),(10,.ptr 110 0),(11,.int .i64 k)],[(106,mZ),(107,mO v ve l .no),(110,.rc x.sv)],[]⟩=
  some (.x 2,⟨[(2,.lst 4 I .no),(6,.ptr 106 0),(7,.ptr 107 0),(8,.int .i64 i),(10,.ptr 110 0),(11,.int .i64 ((k+fV x (l.drop k):Nat):Int))],[(106,mZ),(107,mO v ve l .no),(110,.rc x.sv)],[]⟩):=by
 intro n;induction n with
 |zero=>
  intro k h0 h1;have:k=l.length:=by omega
  subst this;have hv:=cm l;rw[bl,ai];simp only[fV,fj,mO,mZ];simp only[go_sem,Q0,Q1,Q2,Q3,Q4,Q5,Q6,Q7,Q8,Q9,Qa,Qb,Qc,Qd,Qe,Qf,Qg,Qh,Qi,Qj,Qk,reduceCtorEq,reduceIte,hv]
 |succ n ih=>
  intro k h0 h1;have hk:k<l.length:=by omega
  have e1:=cy k (by omega);have ih':=ih (k+1) (by omega) (by omega);have hv:=cm l;have hg:=dB l k hk;have hdr:l.drop k=l.getD k en0::l.drop (k+1):=by rw[aX hk,aa,ab hk];rfl
  have hm:=dv l en0 k hk;have gb:=f46 (l.getD k en0) x (by have:=hd _ hm;omega);have hki:(k:Int)<(l.length:Int):=by omega
  rw[hdr,fV,ai];generalize l.getD k en0=y at*;obtain⟨x1,x2,x3,x4⟩:=x;obtain⟨y1,y2,y3,y4⟩:=y
  by_cases hb:eX ⟨y1,y2,y3,y4⟩ ⟨x1,x2,x3,x4⟩=true
  ·rw[if_pos hb]
   rw[hb]at gb;rw[show k+(fV ⟨x1,x2,x3,x4⟩ (l.drop (k+1))+1)=k+1+fV ⟨x1,x2,x3,x4⟩ (l.drop (k+1))from by omega];simp only[mO,mZ,Ent.sv]at ih' gb hg ⊢;simp only[go_sem,Q0,Q1,Q2,Q3,Q4,Q5,Q6,Q7,Q8,Q9,Qa,Qb,Qc,Qd,Qe,Qf,Qg,Qh,Qi,Qj,Qk,reduceCtorEq,reduceIte,hk,hki,e1,hv,hg,gb,Yi,ih']
  ·rw[if_neg hb]
   rw[eq_false_of_ne_true hb]at gb;rw[fj];simp only[mO,mZ,Ent.sv]at gb hg ⊢;simp only[go_sem,Q0,Q1,Q2,Q3,Q4,Q5,Q6,Q7,Q8,Q9,Qa,Qb,Qc,Qd,Qe,Qf,Qg,Qh,Qi,Qj,Qk,reduceCtorEq,reduceIte,hk,hki,e1,hv,hg,gb,Yi]
theorem sI{x:Img}(h:fe x=0):¬(fZ x).length=0:=by unfold fZ;rw[if_pos h,eC];omega
def jf(y:Img):Ent:=⟨y.role,y.name,y.ver,sha (fZ y)⟩
def sA(x:Ent)(l:List Ent):List Ent:=if fV x l<l.length/\eX x (l.getD (fV x l) en0)=false then l else l.take (fV x l)++x::l.drop (fV x l)
def mT(y:Img)(l:List Ent):List Ent:=if y.role=4 then l else sA (jf y) l
theorem s34(ch:List Img)(hc:∀i,i<ch.length->fe (ch.getD i im0)=0)(hcl:ch.length<=1000)(v:List UInt8)(ve:Int)(l:List Ent)(hl:l.length<=900)(hd:∀y∈l,y.dig.length<=1000)(i:Nat)(hi:i<ch.length):
 run T (.loop lw) ⟨[(2,.lst 4 (fo ch) .no),(6,.ptr 106 0),(7,.ptr 107 0),(8,.int .i64 i)],[(106,mZ),(107,mO v ve l .no)],[]⟩=
 run T (.loop lw) ⟨[(2,.lst 4 (fo ch) .no),(6,.ptr 106 0),(7,.ptr 107 0),(8,.int .i64 ((i+1:Nat):Int))],[(106,mZ),(107,mO v ve (mT (ch.getD i im0) l) .no)],[]⟩:=by
 have hii:(i:Int)<(ch.length:Int):=by omega
 have hv:=dS ch;have hg:=fK ch i hi;have h0:=hc i hi;have e1:=cy i (by omega);generalize ch.getD i im0=y at*;obtain⟨u1,u2⟩:=nC h0;have g1:=f95 y u1 u2;have hel:=lT y u1 u2;have g2:=f65 (fZ y) (by omega);have hne:¬(fZ y).length=0:=sI h0;have hne':¬((fZ y).length:Int)=0:=by omega
 have hsl:=gV (fZ y);have hla:=xjt (fo ch) v ve i l (jf y) (by omega) hd l.length 0 (by omega) (bM _);rw[bW,bh,show((0:Nat):Int)=0 from rfl]at hla;have hpl:=sd (jf y) l;have nv:=cm l;unfold mT sA;generalize hE:fZ y=E at*
 by_cases h4:y.role=4
 ·rw[if_pos h4]
  obtain⟨y1,y2,y3,y4⟩:=y;simp only at h4;subst h4;rw[ai];simp only[mO,mZ,Img.sv]at g1 hg ⊢;simp only[go_sem,Q0,Q1,Q2,Q3,Q4,Q5,Q6,Q7,Q8,Q9,Qa,Qb,Qc,Qd,Qe,Qf,Qg,Qh,Qi,Qj,Qk,reduceCtorEq,reduceIte,hii,hi,hv,hg,g1,Cv,hne,hne',e1]
 ·rw[if_neg h4]
  have hent:jf y=⟨y.role,y.name,y.ver,sha E⟩:=by rw[<-hE];rfl
  rw[hent]at hla hpl ⊢
  by_cases hk:fV ⟨y.role,y.name,y.ver,sha E⟩ l<l.length
  ·have gb:=f46 ⟨y.role,y.name,y.ver,sha E⟩ (l.getD (fV ⟨y.role,y.name,y.ver,sha E⟩ l) en0) (by show(sha E).length<=_;omega)
   have hg2:=dB l _ hk;have hki:(fV ⟨y.role,y.name,y.ver,sha E⟩ l:Int)<(l.length:Int):=by omega
   have e2:bX (l.take (fV ⟨y.role,y.name,y.ver,sha E⟩ l)++⟨y.role,y.name,y.ver,sha E⟩::l.drop (fV ⟨y.role,y.name,y.ver,sha E⟩ l))=dr (fV ⟨y.role,y.name,y.ver,sha E⟩ l) (bX l)++(Ent.sv ⟨y.role,y.name,y.ver,sha E⟩::ig (fV ⟨y.role,y.name,y.ver,sha E⟩ l) (bX l)):=by rw[bX,bX,cV,aE,List.map_take,List.map_drop]
   generalize fV ⟨y.role,y.name,y.ver,sha E⟩ l=k at*;generalize l.getD k en0=z at*;have hkl:k<=l.length:=by omega
   have tf:dr l.length (bX l)=bX l:=by rw[<-nv,bK]
   have vA:(dr k (bX l)).length=k:=by rw[av,nv];omega
   have vD:(ig k (bX l)).length=l.length-k:=by rw[aF,nv]
   have b1:k*56<=140737488355328:=by omega
   have b3:(k+1)*56<=140737488355328:=by omega
   have b2:(k+(1+(l.length-k)))*56<=140737488355328:=by omega
   have b4:(k+1+(l.length-k))*56<=140737488355328:=by omega
   obtain⟨y1,y2,y3,y4⟩:=y;obtain⟨z1,z2,z3,z4⟩:=z
   by_cases hb:eX ⟨y1,y2,y3,sha E⟩ ⟨z1,z2,z3,z4⟩=false
   ·rw[if_pos ⟨hk,hb⟩]
    simp only at gb;rw[hb]at gb;rw[ai];simp only[mO,mZ,Img.sv,Ent.sv]at g1 hg hla gb hg2 ⊢;simp only[go_sem,Q0,Q1,Q2,Q3,Q4,Q5,Q6,Q7,Q8,Q9,Qa,Qb,Qc,Qd,Qe,Qf,Qg,Qh,Qi,Qj,Qk,reduceCtorEq,reduceIte,hii,hi,hv,hg,g1,Cv,hne,hne',h4,g2,Eo,hla,nv,hk,hki,hg2,gb,Yi,e1]
   ·rw[if_neg (fun h=>hb h.2)]
    simp only at gb;rw[eq_true_of_ne_false hb]at gb;rw[ai];simp only[mO,e2];simp only[mO,mZ,Img.sv,Ent.sv]at g1 hg hla gb hg2 ⊢;simp only[go_sem,Q0,Q1,Q2,Q3,Q4,Q5,Q6,Q7,Q8,Q9,Qa,Qb,Qc,Qd,Qe,Qf,Qg,Qh,Qi,Qj,Qk,reduceCtorEq,reduceIte,hii,hi,hv,hg,g1,Cv,hne,hne',h4,g2,Eo,hla,nv,hk,hki,hkl,hg2,gb,Yi,e1,tf,vA,vD,b1,b2,b3,b4]
  ·have hki:¬(fV ⟨y.role,y.name,y.ver,sha E⟩ l:Int)<(l.length:Int):=by omega
   rw[if_neg (fun h=>hk h.1)]
   have e2:bX (l.take (fV ⟨y.role,y.name,y.ver,sha E⟩ l)++⟨y.role,y.name,y.ver,sha E⟩::l.drop (fV ⟨y.role,y.name,y.ver,sha E⟩ l))=dr (fV ⟨y.role,y.name,y.ver,sha E⟩ l) (bX l)++(Ent.sv ⟨y.role,y.name,y.ver,sha E⟩::ig (fV ⟨y.role,y.name,y.ver,sha E⟩ l) (bX l)):=by rw[bX,bX,cV,aE,List.map_take,List.map_drop]
   generalize fV ⟨y.role,y.name,y.ver,sha E⟩ l=k at*;have hkl:k<=l.length:=by omega
   have tf:dr l.length (bX l)=bX l:=by rw[<-nv,bK]
   have vA:(dr k (bX l)).length=k:=by rw[av,nv];omega
   have vD:(ig k (bX l)).length=l.length-k:=by rw[aF,nv]
   have b1:k*56<=140737488355328:=by omega
   have b3:(k+1)*56<=140737488355328:=by omega
   have b2:(k+(1+(l.length-k)))*56<=140737488355328:=by omega
   have b4:(k+1+(l.length-k))*56<=140737488355328:=by omega
   obtain⟨y1,y2,y3,y4⟩:=y;rw[ai];simp only[mO,e2];simp only[mO,mZ,Img.sv,Ent.sv]at g1 hg hla ⊢;simp only[go_sem,Q0,Q1,Q2,Q3,Q4,Q5,Q6,Q7,Q8,Q9,Qa,Qb,Qc,Qd,Qe,Qf,Qg,Qh,Qi,Qj,Qk,reduceCtorEq,reduceIte,hii,hi,hv,hg,g1,Cv,hne,hne',h4,g2,Eo,hla,nv,hk,hki,hkl,e1,tf,vA,vD,b1,b2,b3,b4]
structure lA(l:List Ent)(n:Nat):Prop where
 len:l.length<=n
 e:∀x∈l,x.name.length<=1000000/\x.dig.length=32
theorem FE{x z:Ent}{l:List Ent}(h:z∈sA x l):z=x\/z∈l:=by
 unfold sA at h;split at h
 ·exact .inr h
 ·rw[ak,am]at h
  rcases h with h|h|h
  ·exact .inr (bz h)
  ·exact .inl h
  ·exact .inr (kU h)
theorem FM(x:Ent)(l:List Ent):(sA x l).length<=l.length+1:=by
 unfold sA;have:=sd x l;split
 ·omega
 ·rw[af,ax,av,aF];omega
theorem FS{y:Img}(h:fe y=0):y.name.length<=1000000:=(nC h).1
theorem s9{y:Img}(hy:fe y=0){l:List Ent}{n:Nat}(h:lA l n):lA (mT y l) (n+1):=by
 unfold mT;split
 ·exact⟨Nat.le_succ_of_le h.len,h.e⟩
 ·refine⟨?_,fun x hx=> ?_⟩
  ·have:=FM (jf y) l
   have:=h.len;omega
  ·rcases FE hx with rfl|hx
   ·exact⟨FS hy,gV _⟩
   ·exact h.e x hx
def mN(l:List Img)(es:List Ent):List Ent:=l.foldl (fun a y=>mT y a) es
theorem Cq:∀(l:List Img)(es:List Ent)(n:Nat),(∀y∈l,fe y=0)->lA es n->lA (mN l es) (n+l.length)
 |[],es,n,_,h=>h
 |y::r,es,n,hl,h=>by have:=Cq r (mT y es) (n+1) (fun z hz=>hl z (ao _ hz)) (s9 (hl y az) h);rw[ax,show n+(r.length+1)=n+1+r.length from by omega];exact this
theorem xiX(ch:List Img)(hcl:ch.length<=1000)(hi:0<ch.length)(h0:fe (ch.getD 0 im0)=0)(h1:(ch.getD 0 im0).role=1)(v:List UInt8)(ve:Int):
 run T (.loop lw) ⟨[(2,.lst 4 (fo ch) .no),(6,.ptr 106 0),(7,.ptr 107 0),(8,.int .i64 0)],[(106,mZ),(107,mO v ve [] .clip)],[]⟩=
 run T (.loop lw) ⟨[(2,.lst 4 (fo ch) .no),(6,.ptr 106 0),(7,.ptr 107 0),(8,.int .i64 1)],[(106,mZ),(107,mO v ve [jf (ch.getD 0 im0)] .no)],[]⟩:=by
 have hii:(0:Int)<(ch.length:Int):=by omega
 have hv:=dS ch;have hg:=fK ch 0 hi;have e1:ac.wrap 1=1:=rfl;generalize ch.getD 0 im0=y at*;obtain⟨u1,u2⟩:=nC h0;have g1:=f95 y u1 u2;have hel:=lT y u1 u2;have g2:=f65 (fZ y) (by omega);have hne:¬(fZ y).length=0:=sI h0;have hne':¬((fZ y).length:Int)=0:=by omega
 have hent:jf y=⟨y.role,y.name,y.ver,sha (fZ y)⟩:=rfl;rw[hent];generalize fZ y=E at*;obtain⟨y1,y2,y3,y4⟩:=y;simp only at h1;subst h1;rw[ai];simp only[mO,mZ,Img.sv,bX,cQ,aE,Ent.sv]at g1 hg ⊢;simp only[go_sem,Q0,Q1,Q2,Q3,Q4,Q5,Q6,Q7,Q8,Q9,Qa,Qb,Qc,Qd,Qe,Qf,Qg,Qh,Qi,Qj,Qk,reduceCtorEq,reduceIte,hii,hi,hv,hg,g1,Cv,hne,hne',g2,Eo];rw[ai];simp only[go_sem,Q0,Q1,Q2,Q3,Q4,Q5,Q6,Q7,Q8,Q9,Qa,Qb,Qc,Qd,Qe,Qf,Qg,Qh,Qi,Qj,Qk,reduceCtorEq,reduceIte,hii,hi,hv,hg,g1,Cv,hne,hne',g2,Eo,e1]
theorem l38(ch:List Img)(hc:∀i,i<ch.length->fe (ch.getD i im0)=0)(hcl:ch.length<=800)(v:List UInt8)(ve:Int):∀(n i:Nat)(es:List Ent),ch.length-i=n->i<=ch.length->lA es i->
 run T (.loop lw) ⟨[(2,.lst 4 (fo ch) .no),(6,.ptr 106 0),(7,.ptr 107 0),(8,.int .i64 i)],[(106,mZ),(107,mO v ve es .no)],[]⟩=
 some (.x 0,⟨[(6,.ptr 106 0),(7,.ptr 107 0)],[(106,mZ),(107,mO v ve (mN (ch.drop i) es) .no)],[]⟩):=by
 intro n;induction n with
 |zero=>
  intro i es h0 h1 h2;have:i=ch.length:=by omega
  subst this;have hv:=dS ch;rw[bl,ai];simp only[mO,mZ,mN,List.foldl_nil];simp only[go_sem,Q0,Q1,Q2,Q3,Q4,Q5,Q6,Q7,Q8,Q9,Qa,Qb,Qc,Qd,Qe,Qf,Qg,Qh,Qi,Qj,Qk,reduceCtorEq,reduceIte,hv]
 |succ n ih=>
  intro i es h0 h1 h2;have hi:i<ch.length:=by omega
  have hd:ch.drop i=ch.getD i im0::ch.drop (i+1):=by rw[aX hi,aa,ab hi];rfl
  have hl:=h2.len;rw[s34 ch hc (by omega) v ve es (by omega) (fun y hy=>by have:=(h2.e y hy).2;omega) i hi,ih (i+1) _ (by omega) (by omega) (s9 (hc i hi) h2),hd];rfl
theorem ue{ch:List Img}(hc:eH ch):(ch.getD 0 im0).role=1:=by
 obtain⟨i,hi,h1⟩:=hc.fw
 have key:∀k,k<ch.length->(ch.getD 0 im0).role<=(ch.getD k im0).role:=by
  intro k;induction k with
  |zero=>intro _;exact Int.le_refl _
  |succ k ih=>intro h;exact Int.le_trans (ih (by omega)) (hc.ord k h)
 have h2:=key i hi;have h3:=(kO (hc.ok 0 (by have:=hc.n1;omega))).1;omega
theorem f38(ch:List Img)(hc:eH ch)(v:List UInt8)(ve:Int):call T 38 [.str v,.int .i64 ve,.lst 4 (fo ch) .no] [] 0=some ⟨.agg [.str v,.int .i64 ve,.int .i64 0,.int .i64 0,.int .i64 1099511627776,.lst 4 (bX (mN ch [])) .no,.lst 4 [] .clip],[],[]⟩:=by
 have n1:=hc.n1;have n8:=hc.n8;have hf:=ue hc;have h0:=hc.ok 0 (by omega);have z:=xiX ch (by omega) (by omega) h0 hf v ve
 have ha:mT (ch.getD 0 im0) []=[jf (ch.getD 0 im0)]:=by unfold mT sA;rw[if_neg (by rw[hf];decide),if_neg (by simp)];rfl
 have hb:lA [jf (ch.getD 0 im0)] 1:=by rw[<-ha];exact s9 h0 ⟨aL _,fun x hx=>by cases hx⟩
 have l:=l38 ch hc.ok (by omega) v ve _ 1 [jf (ch.getD 0 im0)] rfl (by omega) hb
 have hd:mN (ch.drop 1) [jf (ch.getD 0 im0)]=mN ch []:=by
  have:ch=ch.getD 0 im0::ch.drop 1:=by
   rw[aa,ab (by omega:0<ch.length)];cases ch with
   |nil=>simp at n1
   |cons x r=>rfl
  conv=>rhs;rw[this]
  rw[<-ha];rfl
 rw[hd]at l;rw[show((1:Nat):Int)=1 from rfl]at l;rw[l]at z;rw[an xlg];simp only[mO,mZ,bX,cQ]at z;simp only[bX];simp only[go_sem,Q0,Q1,Q2,Q3,Q4,Q5,Q6,Q7,Q8,Q9,Qa,Qb,Qc,Qd,Qe,Qf,Qg,Qh,Qi,Qj,Qk,reduceCtorEq,reduceIte,z]
theorem Re{ch:List Img}(hc:eH ch):lA (mN ch []) 8:=by
 have:=Cq ch [] 0 (fun y hy=>by obtain⟨i,hi,rfl⟩:=bN hy;have:=hc.ok i hi;rwa[aa,ab hi]at this) ⟨aL _,fun x hx=>by cases hx⟩
 have n8:=hc.n8;exact⟨by have:=this.len;omega,this.e⟩
section
open SortT
theorem xkp:call T 102 [] [] 0=some ⟨.agg [.str [97,99,109,101],.str [118,50],.str [120,45,121]],[],[]⟩:=by rw[an xgG];simp only[go_sem,Q0,Q1,Q2,Q3,Q4,Q5,Q6,Q7,Q8,Q9,Qa,Qb,Qc,Qd,Qe,Qf,Qg,Qh,Qi,Qj,Qk,reduceCtorEq,reduceIte]
theorem xiR(v:Nat)(h:v<3):∃n:List UInt8,(n.length<=10/\Pr.nameB n=true)/\(ig v [SV.str [97,99,109,101],.str [118,50],.str [120,45,121]]).getD 0 .undef= .str n:=by
 have:v=0\/v=1\/v=2:=by omega
 rcases this with rfl|rfl|rfl
 ·exact⟨[97,99,109,101],⟨by decide,by decide⟩,rfl⟩
 ·exact⟨[118,50],⟨by decide,by decide⟩,rfl⟩
 ·exact⟨[120,45,121],⟨by decide,by decide⟩,rfl⟩
theorem C5(l:List Rul)(x:Rul):dZ l++ [x.sv]=dZ (l++ [x]):=by rw[dZ,dZ,cV];rfl
theorem l41(B:List UInt8)(hB:B.length<=1000)(v:List UInt8)(m1 m2 m3 m4:Int)(es:List (List SV)):∀(n:Nat)(rs:List Rul)(j:Nat),rs.length+n<=8->(∀x∈rs,x.text.length<=20/\rU x=0)->∀(t:Tok)(tk:List Nat),(t= .clip/\tk=[]/\rs=[])\/(t= .id 160/\tk=[160])->
 ∃(rs':List Rul)(t':Tok)(tk':List Nat)(j':Nat),rs'.length<=8/\(∀x∈rs',x.text.length<=20/\rU x=0)/\((t'= .clip/\tk'=[]/\rs'=[])\/(t'= .id 160/\tk'=[160]))/\
 run T (.loop xX) ⟨[(0,.ptr 0 0),(4,.ptr 104 0),(6,.ptr 106 0),(7,.int .i64 (n:Int))],[(0,aM B j),(104,mZ),(106,.rc [.str v,.int .i64 m1,.int .i64 m2,.int .i64 m3,.int .i64 m4,.lst 4 es .no,.lst 4 (dZ rs) t])],tk⟩=
 some (.x 0,⟨[(4,.ptr 104 0),(6,.ptr 106 0)],[(0,aM B j'),(104,mZ),(106,.rc [.str v,.int .i64 m1,.int .i64 m2,.int .i64 m3,.int .i64 m4,.lst 4 es .no,.lst 4 (dZ rs') t'])],tk'⟩):=by
 intro n;induction n with
 |zero=>
  intro rs j h1 h2 t tk ht;refine⟨rs,t,tk,j,by omega,h2,ht, ?_⟩;rw[ai];rcases ht with⟨rfl,rfl,rfl⟩|⟨rfl,rfl⟩
  ·simp only[aM,mZ]
   simp only[go_sem,Q0,Q1,Q2,Q3,Q4,Q5,Q6,Q7,Q8,Q9,Qa,Qb,Qc,Qd,Qe,Qf,Qg,Qh,Qi,Qj,Qk,reduceCtorEq,reduceIte]
  ·simp only[aM,mZ]
   simp only[go_sem,Q0,Q1,Q2,Q3,Q4,Q5,Q6,Q7,Q8,Q9,Qa,Qb,Qc,Qd,Qe,Qf,Qg,Qh,Qi,Qj,Qk,reduceCtorEq,reduceIte]
 |succ n ih=>
  intro rs j h1 h2 t tk ht;obtain⟨k,t1,lo,hi,j1,hk,ht1,g⟩:=xko B j hB;have hp:(0:Int)<((n+1:Nat):Int):=by omega
  have e1:ac.wrap (((n+1:Nat):Int)-1)=(n:Int):=wZ (by omega)
  obtain⟨rs',t',tk',j',q1,q2,q3,q4⟩:=ih (rs++ [⟨k,t1,lo,hi⟩]) j1 (by rw[af,aD];omega) (fun x hx=>by
   rw[ak,aN]at hx;rcases hx with hx|rfl
   ·exact h2 x hx
   ·exact⟨ht1,hk⟩) (.id 160) [160] (.inr ⟨rfl,rfl⟩)
  refine⟨rs',t',tk',j',q1,q2,q3, ?_⟩;have hv:=dR rs;have b1:(rs.length+1)*40<=140737488355328:=by omega
  rw[<-C5]at q4;rw[ai];rcases ht with⟨rfl,rfl,rfl⟩|⟨rfl,rfl⟩
  ·have hnil:dZ []=[]:=rfl
   simp only[aM,mZ,Rul.sv,hnil,aQ]at g q4 ⊢;simp only[go_sem,Q0,Q1,Q2,Q3,Q4,Q5,Q6,Q7,Q8,Q9,Qa,Qb,Qc,Qd,Qe,Qf,Qg,Qh,Qi,Qj,Qk,reduceCtorEq,reduceIte,hp,g,YB,e1,q4]
  ·simp only[aM,mZ,Rul.sv]at g q4 ⊢
   simp only[go_sem,Q0,Q1,Q2,Q3,Q4,Q5,Q6,Q7,Q8,Q9,Qa,Qb,Qc,Qd,Qe,Qf,Qg,Qh,Qi,Qj,Qk,reduceCtorEq,reduceIte,hp,g,YB,hv,b1,e1,q4]
theorem sx(x:Ent):∀l:List Ent,sA x l=oF eX x l
 |[]=>by simp[sA,oF,fV]
 |y::r=>by
  have ih:=sx x r;unfold oF;rw[<-ih];unfold sA
  by_cases h:eX y x=true
  ·have hp:fV x (y::r)=fV x r+1:=by rw[fV,if_pos h]
   rw[hp,if_pos h,b9,List.take_succ_cons,List.drop_succ_cons,ax]
   by_cases hc:fV x r<r.length/\eX x (r.getD (fV x r) en0)=false
   ·rw[if_pos hc,if_pos ⟨by omega,hc.2⟩]
   ·rw[if_neg hc,if_neg (fun k=>hc ⟨by omega,k.2⟩),bv]
  ·have hp:fV x (y::r)=0:=by rw[fV,if_neg h]
   rw[hp,if_neg h,bO,List.take_zero,bh,aQ]
   by_cases hb:eX x y=true
   ·rw[if_pos hb,if_neg (fun k=>by rw[hb]at k;exact absurd k.2 (by simp))]
   ·rw[if_neg hb,if_pos ⟨by simp,by simpa using hb⟩]
theorem QQ{y:Img}(h:fe y=0)(h4:¬y.role=4):o8 (jf y):=by obtain⟨a1,a2,a3,a4,a5,a6⟩:=kO h;exact⟨a1,by show y.role<=3;omega,a3,a4,gV _,a5⟩
theorem sJ:∀(l:List Img)(es:List Ent),(∀y∈l,fe y=0)->(∀x∈es,o8 x)->Str eX es->(∀x∈mN l es,o8 x)/\Str eX (mN l es)
 |[],es,_,h1,h2=>⟨h1,h2⟩
 |y::r,es,h0,h1,h2=>by
  have hy:=h0 y az
  have key:(∀x∈mT y es,o8 x)/\Str eX (mT y es):=by
   unfold mT
   by_cases h4:y.role=4
   ·rw[if_pos h4];exact⟨h1,h2⟩
   ·rw[if_neg h4,sx]
    refine⟨fun x hx=> ?_,po ql _ _ h2⟩;rcases (lN ql _ _ _).1 hx with rfl|hx
    ·exact QQ hy h4
    ·exact h1 x hx
  exact sJ r (mT y es) (fun z hz=>h0 z (ao _ hz)) key.1 key.2
theorem DJ{ch:List Img}(hc:eH ch):∀y∈ch,fe y=0:=by intro y hy;obtain⟨i,hi,rfl⟩:=bN hy;have:=hc.ok i hi;rwa[aa,ab hi]at this
theorem xcM{ch:List Img}(hc:eH ch):(∀x∈mN ch [],o8 x)/\Str eX (mN ch []):=sJ ch [] (DJ hc) (fun x hx=>by cases hx) ey.nil
structure RM(m:Man):Prop where
 v:m.vendor.length<=100
 en:m.ents.length<=8
 rn:m.ruls.length<=8
 e:∀x∈m.ents,x.name.length<=1000000/\x.dig.length=32
 r:∀x∈m.ruls,x.text.length<=20
 ok:gJ m=0
theorem RM.bd{m:Man}(h:RM m):hC m:=⟨by have:=h.v;omega,by have:=h.en;omega,by have:=h.rn;omega,fun x hx=>by have:=h.e x hx;omega,fun x hx=>by have:=h.r x hx;omega⟩
theorem f41(B:List UInt8)(hB:B.length<=1000)(j:Nat)(ch:List Img)(hc:eH ch):∃(m:Man)(j':Nat),RM m/\call T 41 [.ptr 0 0,.lst 4 (fo ch) .no] [aM B j] 0=some ⟨.agg m.sv,[(0,aM B j')],[]⟩:=by
 have gv:=xkp;obtain⟨v1,j1,h1,g1⟩:=fG B hB j 4 (by omega);rw[cz4]at g1;obtain⟨v2,j2,h2,g2⟩:=fG B hB j1 3 (by omega);rw[cz3]at g2;obtain⟨nv,⟨hnv,hnB⟩,hve⟩:=xiR v2 h2;have h2i:(v2:Int)<3:=by omega
 have gd:=f38 ch hc nv (v1:Int);have hb:=Re hc;obtain⟨ho1,ho2⟩:=xcM hc;generalize mN ch []=es at*;obtain⟨v3,j3,h3,g3⟩:=fG B hB j2 3 (by omega);rw[cz3]at g3;have hel:=cm es;have hbl:=hb.len;have e4:=cy es.length (by omega)
 by_cases p3:v3=1
 ·have n3:(v3:Int)=1:=by omega
  obtain⟨v4,j4,h4,g4⟩:=fG B hB j3 (es.length+1) (by omega);have l4:v4<=es.length:=by omega
  have l4i:(v4:Int)<=(es.length:Int):=by omega
  have tA:dr v4 (bX es)=bX (es.take v4):=by rw[bX,bX,List.map_take]
  obtain⟨v5,j5,h5,g5⟩:=fG B hB j4 (v1+1) (by omega);have e5:=cy v1 (by omega);obtain⟨v6,j6,h6,g6⟩:=fG B hB j5 12 (by omega);rw[c12]at g6;obtain⟨v7,j7,h7,g7⟩:=fG B hB j6 30 (by omega);rw[c30]at g7;obtain⟨v8,j8,h8,g8⟩:=fG B hB j7 2 (by omega);rw[c2]at g8;obtain⟨v9,j9,h9,g9⟩:=fG B hB j8 4 (by omega);rw[cz4]at g9;have hUv:ac.wrap (ac.wrap ((v6:Int)+1)+(v7:Int))=(v6:Int)+1+v7:=by rw[w64 (n:=(v6:Int)+1) (by omega) (by omega),w64 (by omega) (by omega)]
  obtain⟨U,hU⟩:∃U,U=ac.wrap (ac.wrap ((v6:Int)+1)+(v7:Int)):=⟨_,rfl⟩;have hU2:U=(v6:Int)+1+v7:=hU.trans hUv
  by_cases p8:v8=0
  ·have p8':(v8:Int)=0:=by omega
   obtain⟨rs',t',tk',j',q1,q2,q3,q4⟩:=l41 B hB nv (v1:Int) (v5:Int) (v6:Int) 1099511627776 (bX (es.take v4)) v9 [] j9 (by simp only[aV];omega) (fun x hx=>by cases hx) .clip [] (.inl ⟨rfl,rfl,rfl⟩);refine⟨⟨nv,v1,v5,v6,1099511627776,es.take v4,rs'⟩,j',⟨by show nv.length<=100;omega,by show(es.take v4).length<=8;rw[av];omega,q1,fun x hx=>hb.e x (bz hx),fun x hx=>(q2 x hx).1,iQ hnB (by show(0:Int)<=v5;omega) (by show(v5:Int)<=v1;omega) (by show(v1:Int)<=1000000;omega) (by show(0:Int)<=v6;omega) (by show(v6:Int)<1099511627776;omega) (by show(1099511627776:Int)<=1099511627776;omega) (by show(es.take v4).length<=16;rw[av];omega) q1 (fun x hx=>ho1 x (bz hx)) (ey.sublist (List.take_sublist _ _) ho2) (fun x hx=>(q2 x hx).2)⟩, ?_⟩;rw[an Yb];rcases q3 with⟨rfl,rfl,rfl⟩|⟨rfl,rfl⟩
   ·simp only[aM,mZ,Man.sv,dZ,cQ]at g1 g2 g3 g5 g6 g7 g8 g9 q4 gd g4 ⊢
    simp only[go_sem,Q0,Q1,Q2,Q3,Q4,Q5,Q6,Q7,Q8,Q9,Qa,Qb,Qc,Qd,Qe,Qf,Qg,Qh,Qi,Qj,Qk,reduceCtorEq,reduceIte,g1,g2,g3,g5,g6,g7,g8,g9,fB,gv,o6,h2,h2i,dq,hve,gd,Cw,n3,e5,p8',<-hU,q4,g4,e4,hel,l4,l4i,tA]
   ·simp only[aM,mZ,Man.sv,dZ,cQ]at g1 g2 g3 g5 g6 g7 g8 g9 q4 gd g4 ⊢
    simp only[go_sem,Q0,Q1,Q2,Q3,Q4,Q5,Q6,Q7,Q8,Q9,Qa,Qb,Qc,Qd,Qe,Qf,Qg,Qh,Qi,Qj,Qk,reduceCtorEq,reduceIte,g1,g2,g3,g5,g6,g7,g8,g9,fB,gv,o6,h2,h2i,dq,hve,gd,Cw,n3,e5,p8',<-hU,q4,g4,e4,hel,l4,l4i,tA]
  ·have p8':¬(v8:Int)=0:=by omega
   obtain⟨rs',t',tk',j',q1,q2,q3,q4⟩:=l41 B hB nv (v1:Int) (v5:Int) (v6:Int) U (bX (es.take v4)) v9 [] j9 (by simp only[aV];omega) (fun x hx=>by cases hx) .clip [] (.inl ⟨rfl,rfl,rfl⟩);refine⟨⟨nv,v1,v5,v6,U,es.take v4,rs'⟩,j',⟨by show nv.length<=100;omega,by show(es.take v4).length<=8;rw[av];omega,q1,fun x hx=>hb.e x (bz hx),fun x hx=>(q2 x hx).1,iQ hnB (by show(0:Int)<=v5;omega) (by show(v5:Int)<=v1;omega) (by show(v1:Int)<=1000000;omega) (by show(0:Int)<=v6;omega) (by show(v6:Int)<U;omega) (by show(U:Int)<=1099511627776;omega) (by show(es.take v4).length<=16;rw[av];omega) q1 (fun x hx=>ho1 x (bz hx)) (ey.sublist (List.take_sublist _ _) ho2) (fun x hx=>(q2 x hx).2)⟩, ?_⟩;rw[an Yb];rcases q3 with⟨rfl,rfl,rfl⟩|⟨rfl,rfl⟩
   ·simp only[aM,mZ,Man.sv,dZ,cQ]at g1 g2 g3 g5 g6 g7 g8 g9 q4 gd g4 ⊢
    simp only[go_sem,Q0,Q1,Q2,Q3,Q4,Q5,Q6,Q7,Q8,Q9,Qa,Qb,Qc,Qd,Qe,Qf,Qg,Qh,Qi,Qj,Qk,reduceCtorEq,reduceIte,g1,g2,g3,g5,g6,g7,g8,g9,fB,gv,o6,h2,h2i,dq,hve,gd,Cw,n3,e5,p8',<-hU,q4,g4,e4,hel,l4,l4i,tA]
   ·simp only[aM,mZ,Man.sv,dZ,cQ]at g1 g2 g3 g5 g6 g7 g8 g9 q4 gd g4 ⊢
    simp only[go_sem,Q0,Q1,Q2,Q3,Q4,Q5,Q6,Q7,Q8,Q9,Qa,Qb,Qc,Qd,Qe,Qf,Qg,Qh,Qi,Qj,Qk,reduceCtorEq,reduceIte,g1,g2,g3,g5,g6,g7,g8,g9,fB,gv,o6,h2,h2i,dq,hve,gd,Cw,n3,e5,p8',<-hU,q4,g4,e4,hel,l4,l4i,tA]
 ·have n3:¬(v3:Int)=1:=by omega
  obtain⟨v5,j5,h5,g5⟩:=fG B hB j3 (v1+1) (by omega);have e5:=cy v1 (by omega);obtain⟨v6,j6,h6,g6⟩:=fG B hB j5 12 (by omega);rw[c12]at g6;obtain⟨v7,j7,h7,g7⟩:=fG B hB j6 30 (by omega);rw[c30]at g7;obtain⟨v8,j8,h8,g8⟩:=fG B hB j7 2 (by omega);rw[c2]at g8;obtain⟨v9,j9,h9,g9⟩:=fG B hB j8 4 (by omega);rw[cz4]at g9;have hUv:ac.wrap (ac.wrap ((v6:Int)+1)+(v7:Int))=(v6:Int)+1+v7:=by rw[w64 (n:=(v6:Int)+1) (by omega) (by omega),w64 (by omega) (by omega)]
  obtain⟨U,hU⟩:∃U,U=ac.wrap (ac.wrap ((v6:Int)+1)+(v7:Int)):=⟨_,rfl⟩;have hU2:U=(v6:Int)+1+v7:=hU.trans hUv
  by_cases p8:v8=0
  ·have p8':(v8:Int)=0:=by omega
   obtain⟨rs',t',tk',j',q1,q2,q3,q4⟩:=l41 B hB nv (v1:Int) (v5:Int) (v6:Int) 1099511627776 (bX es) v9 [] j9 (by simp only[aV];omega) (fun x hx=>by cases hx) .clip [] (.inl ⟨rfl,rfl,rfl⟩);refine⟨⟨nv,v1,v5,v6,1099511627776,es,rs'⟩,j',⟨by show nv.length<=100;omega,hbl,q1,hb.e,fun x hx=>(q2 x hx).1,iQ hnB (by show(0:Int)<=v5;omega) (by show(v5:Int)<=v1;omega) (by show(v1:Int)<=1000000;omega) (by show(0:Int)<=v6;omega) (by show(v6:Int)<1099511627776;omega) (by show(1099511627776:Int)<=1099511627776;omega) (by show es.length<=16;omega) q1 (ho1) (ho2) (fun x hx=>(q2 x hx).2)⟩, ?_⟩;rw[an Yb];rcases q3 with⟨rfl,rfl,rfl⟩|⟨rfl,rfl⟩
   ·simp only[aM,mZ,Man.sv,dZ,cQ]at g1 g2 g3 g5 g6 g7 g8 g9 q4 gd ⊢
    simp only[go_sem,Q0,Q1,Q2,Q3,Q4,Q5,Q6,Q7,Q8,Q9,Qa,Qb,Qc,Qd,Qe,Qf,Qg,Qh,Qi,Qj,Qk,reduceCtorEq,reduceIte,g1,g2,g3,g5,g6,g7,g8,g9,fB,gv,o6,h2,h2i,dq,hve,gd,Cw,n3,e5,p8',<-hU,q4]
   ·simp only[aM,mZ,Man.sv,dZ,cQ]at g1 g2 g3 g5 g6 g7 g8 g9 q4 gd ⊢
    simp only[go_sem,Q0,Q1,Q2,Q3,Q4,Q5,Q6,Q7,Q8,Q9,Qa,Qb,Qc,Qd,Qe,Qf,Qg,Qh,Qi,Qj,Qk,reduceCtorEq,reduceIte,g1,g2,g3,g5,g6,g7,g8,g9,fB,gv,o6,h2,h2i,dq,hve,gd,Cw,n3,e5,p8',<-hU,q4]
  ·have p8':¬(v8:Int)=0:=by omega
   obtain⟨rs',t',tk',j',q1,q2,q3,q4⟩:=l41 B hB nv (v1:Int) (v5:Int) (v6:Int) U (bX es) v9 [] j9 (by simp only[aV];omega) (fun x hx=>by cases hx) .clip [] (.inl ⟨rfl,rfl,rfl⟩);refine⟨⟨nv,v1,v5,v6,U,es,rs'⟩,j',⟨by show nv.length<=100;omega,hbl,q1,hb.e,fun x hx=>(q2 x hx).1,iQ hnB (by show(0:Int)<=v5;omega) (by show(v5:Int)<=v1;omega) (by show(v1:Int)<=1000000;omega) (by show(0:Int)<=v6;omega) (by show(v6:Int)<U;omega) (by show(U:Int)<=1099511627776;omega) (by show es.length<=16;omega) q1 (ho1) (ho2) (fun x hx=>(q2 x hx).2)⟩, ?_⟩;rw[an Yb];rcases q3 with⟨rfl,rfl,rfl⟩|⟨rfl,rfl⟩
   ·simp only[aM,mZ,Man.sv,dZ,cQ]at g1 g2 g3 g5 g6 g7 g8 g9 q4 gd ⊢
    simp only[go_sem,Q0,Q1,Q2,Q3,Q4,Q5,Q6,Q7,Q8,Q9,Qa,Qb,Qc,Qd,Qe,Qf,Qg,Qh,Qi,Qj,Qk,reduceCtorEq,reduceIte,g1,g2,g3,g5,g6,g7,g8,g9,fB,gv,o6,h2,h2i,dq,hve,gd,Cw,n3,e5,p8',<-hU,q4]
   ·simp only[aM,mZ,Man.sv,dZ,cQ]at g1 g2 g3 g5 g6 g7 g8 g9 q4 gd ⊢
    simp only[go_sem,Q0,Q1,Q2,Q3,Q4,Q5,Q6,Q7,Q8,Q9,Qa,Qb,Qc,Qd,Qe,Qf,Qg,Qh,Qi,Qj,Qk,reduceCtorEq,reduceIte,g1,g2,g3,g5,g6,g7,g8,g9,fB,gv,o6,h2,h2i,dq,hve,gd,Cw,n3,e5,p8',<-hU,q4]
end
theorem oU{α:Type}{P:α->Prop}{l r:List α}(h:∀e,e∈l->P e)(hr:∀e,e∈r->P e):∀e,e∈l++r->P e:=by
 intro e he;rcases ak.mp he with h1|h1
 ·exact h e h1
 ·exact hr e h1
theorem xcO(x:Img)(a:Int):((sK (fZ x) a).getD 0 []).length<=1000/\((sK (fZ x) a).getD 1 []).length<=1000:=by
 have e1:=up (fZ x);have e2:=gV (fZ x);unfold sK;split
 ·exact⟨bM _,bM _⟩
 ·constructor
  ·rw[bO]
   split
   ·omega
   ·exact bM _
  ·rw[b9,bO]
   split
   ·omega
   ·exact bM _
theorem XA{x:Img}(a:Int)(h:fe x=0):EvS (ofI x a):=by obtain⟨q1,q2,q3,q4,q5,q6⟩:=kO h;have hn:=iK q5;obtain⟨v,hv⟩:=Int.eq_ofNat_of_zero_le q3;have hl:=lV 6 v (by omega);obtain⟨h0,h1⟩:=xcO x a;refine⟨Gd _ _, ?_,h0,h1⟩;show(uS x.name x.ver).length<=1000;unfold uS;rw[hv,af,ax];show x.name.length+((dec v).length+1)<=1000;omega
theorem xcC{x:Img}(a role:Int)(h:fe x=0):∀e,e∈jF a role x->EvS e:=by
 intro e he;obtain⟨q1,q2,q3,q4,q5,q6⟩:=kO h;unfold jF at he;split at he
 ·split at he
  ·obtain⟨y,hy,rfl⟩:=aS.1 he
   have:=(mq x.pay).2 y hy;exact lI _ _ _ _ (by omega)
  ·rw[aN.1 he];exact XA a h
 ·cases he
theorem GA(a:Int):∀n i e,e∈rR a i n->EvS e
 |0,i,e,he=>by cases he
 |n+1,i,e,he=>by
  rw[rR]at he;rcases am.1 he with rfl|he
  ·exact lI _ _ _ _ (by decide)
  ·exact GA a n _ e he
theorem xji{l:List Img}{x:Img}(h:x∈l)(hc:∀i,i<l.length->fe (l.getD i im0)=0):fe x=0:=by obtain⟨i,hi,rfl⟩:=bN h;have:=hc i hi;rwa[aa,ab hi]at this
theorem xfQ{l:List Img}(hc:eH l)(a:Int):∀e,e∈evF l a->EvS e:=by
 have hf:∀role e,e∈l.flatMap (jF a role)->EvS e:=by intro role e he;obtain⟨x,hx,h⟩:=List.mem_flatMap.1 he;exact xcC a role (xji hx hc.ok) e h
 unfold evF;exact oU (hf 1) (oU (hf 2) (oU (GA a 8 0) (oU (hf 3) (hf 4))))
theorem QJ{l:List Img}(hc:eH l)(a:Int):8<=(evF l a).length/\(evF l a).length<=150:=by have n8:=hc.n8;have b1:=hZ l a 1;have b2:=hZ l a 2;have b3:=hZ l a 3;have b4:=hZ l a 4;have b0:=pe a 8 0;unfold evF;simp only[af];omega
end Go.Proofs.YtkcjdeofknkndaaGreatDoor
