/- What the functions come to. No condition. -/
import Derived.Test.YtkcjdeofknkndaaGreatDoorTeIt
import Derived.Test.YtkcjdeofknkndaaGreatDoorTgIt
open Go.IntKind renaming i64 -> ac, u64 -> aZ
open List renaming Pairwise -> eD, cons_append -> aJ, drop -> iu, drop_eq_getElem_cons -> aS, drop_length -> aX, drop_zero -> bh, getD_cons_succ -> bY, getD_cons_zero -> bL, getD_eq_getElem?_getD -> aa, getElem?_eq_getElem -> ab, getElem_of_mem -> cf, length_append -> af, length_cons -> aC, length_drop -> aH, length_nil -> aB, length_singleton -> aM, length_take -> aj, map_append -> cn, map_cons -> aI, map_nil -> bn, map_take -> eC, mem_append -> al, mem_cons -> an, mem_cons_of_mem -> aq, mem_cons_self -> aD, mem_map -> aV, mem_of_mem_drop -> ED, mem_of_mem_take -> bM, mem_singleton -> ba, nil_append -> aF, replicate -> am, take -> du, take_length -> bv, take_succ_cons -> mz
open Nat renaming add_zero -> eK, le_refl -> aQ, le_trans -> cM, mul_one -> dt, zero_add -> cK, zero_le -> bU
open UInt8 renaming ofInt -> bO
set_option maxRecDepth 100000
set_option maxHeartbeats 16000000
set_option linter.unusedSimpArgs false
set_option linter.unusedVariables false
namespace Go.Proofs.YtkcjdeofknkndaaGreatDoor
open Go.Sy
open UInt8 renaming reduceLT -> Q0, reduceLE -> Q1
open Int renaming reduceToNat -> Q2, reduceLE -> Q3, reduceLT -> Q4, reduceEq -> Q5, reduceNe -> Q6, reduceNeg -> Q7, reduceAdd -> Q8, reduceSub -> Q9, reduceMul -> Qa
open Nat renaming reducePow -> Qb, reduceDiv -> Qc, reduceMod -> Qd, reduceAdd -> Qe, reduceSub -> Qf, reduceMul -> Qg, reduceLT -> Qh, reduceLeDiff -> Qi, reduceEqDiff -> Qj, reduceBEq -> Qk
theorem f74(a:Int)(ha:sx a)(b0 b1:UInt8):∃d0 d1:List UInt8,d0.length<=100/\d1.length<=100/\
 call T 74 [.int .i64 a,.byt [b0,b1] .no] [] 0=some ⟨.lst 1 (bls [d0,d1]) .no,[],[]⟩:=by
 have k1:ac.wrap 1=1:=rfl;have k2:ac.wrap 2=2:=rfl;have k12:ac.wrap 12=12:=rfl;have k20:ac.wrap 20=20:=rfl;have k32:ac.wrap 32=32:=rfl;have k31:ac.wrap 31=31:=rfl;have k19:ac.wrap 19=19:=rfl;have k0:ac.wrap 0=0:=rfl;have x0:(0:UInt8)^^^bO 0=0:=by decide
 have x1:(0:UInt8)^^^bO 1=1:=by decide
 have t0:aZ.wrap 0=0:=rfl;have t1:aZ.wrap 1=1:=rfl;have s10:bC .and .i64 (Int.fdiv 1 (2^min 0 64)) 1=1:=rfl;have s20:bC .and .i64 (Int.fdiv 2 (2^min 0 64)) 1=0:=rfl;have s30:bC .and .i64 (Int.fdiv 3 (2^min 0 64)) 1=1:=rfl;have s11:bC .and .i64 (Int.fdiv 1 (2^min 1 64)) 1=0:=rfl;have s21:bC .and .i64 (Int.fdiv 2 (2^min 1 64)) 1=1:=rfl;have s31:bC .and .i64 (Int.fdiv 3 (2^min 1 64)) 1=1:=rfl;have ha':=ha;unfold sx at ha';rcases ha' with rfl|rfl|rfl
 ·refine⟨[b0,b1,0,0,0,0,0,0,0,0,0,0,0,0,0,0,0,0,0,0],[],by simp,by simp, ?_⟩
  rw[ao xfz];simp only[go_sem,Q0,Q1,Q2,Q3,Q4,Q5,Q6,Q7,Q8,Q9,Qa,Qb,Qc,Qd,Qe,Qf,Qg,Qh,Qi,Qj,Qk,reduceCtorEq,reduceIte,am]
  iterate 3
   rw[ai];simp only[go_sem,Q0,Q1,Q2,Q3,Q4,Q5,Q6,Q7,Q8,Q9,Qa,Qb,Qc,Qd,Qe,Qf,Qg,Qh,Qi,Qj,Qk,reduceCtorEq,reduceIte,k0,k1,k2,x0,x1,k12,k19,k31,k20,k32,t0,t1,s10,s20,s30,s11,s21,s31,fI,am,bls]
 ·refine⟨[],[b0,b1,0,0,0,0,0,0,0,0,0,0,0,0,0,0,0,0,0,0,0,0,0,0,0,0,0,0,0,0,0,1],by simp,by simp, ?_⟩
  rw[ao xfz];simp only[go_sem,Q0,Q1,Q2,Q3,Q4,Q5,Q6,Q7,Q8,Q9,Qa,Qb,Qc,Qd,Qe,Qf,Qg,Qh,Qi,Qj,Qk,reduceCtorEq,reduceIte,am]
  iterate 3
   rw[ai];simp only[go_sem,Q0,Q1,Q2,Q3,Q4,Q5,Q6,Q7,Q8,Q9,Qa,Qb,Qc,Qd,Qe,Qf,Qg,Qh,Qi,Qj,Qk,reduceCtorEq,reduceIte,k0,k1,k2,x0,x1,k12,k19,k31,k20,k32,t0,t1,s10,s20,s30,s11,s21,s31,fI,am,bls]
 ·refine⟨[b0,b1,0,0,0,0,0,0,0,0,0,0,0,0,0,0,0,0,0,0],[b0,b1,0,0,0,0,0,0,0,0,0,0,0,0,0,0,0,0,0,0,0,0,0,0,0,0,0,0,0,0,0,1],by simp,by simp, ?_⟩
  rw[ao xfz];simp only[go_sem,Q0,Q1,Q2,Q3,Q4,Q5,Q6,Q7,Q8,Q9,Qa,Qb,Qc,Qd,Qe,Qf,Qg,Qh,Qi,Qj,Qk,reduceCtorEq,reduceIte,am]
  iterate 3
   rw[ai];simp only[go_sem,Q0,Q1,Q2,Q3,Q4,Q5,Q6,Q7,Q8,Q9,Qa,Qb,Qc,Qd,Qe,Qf,Qg,Qh,Qi,Qj,Qk,reduceCtorEq,reduceIte,k0,k1,k2,x0,x1,k12,k19,k31,k20,k32,t0,t1,s10,s20,s30,s11,s21,s31,fI,am,bls]
theorem fM(B:List UInt8)(hB:B.length<=1000)(j n:Nat)(hn:0<n):∃v j':Nat,v<n/\call T 71 [.ptr 0 0,.int .i64 (n:Int)] [aR B j] 0=some ⟨.int .i64 (v:Int),[(0,aR B j')],[]⟩:=
 ⟨dw B j n,cy B j,dO B j n hn,f71 B j n hn (by omega)⟩
theorem vJ(v:Nat):1<=(gh v).length/\(gh v).length<=8:=by unfold gh;split<;>decide
theorem xlQ(B:List UInt8)(hB:B.length<=1000)(j:Nat):∃(d:List UInt8)(j':Nat),1<=d.length/\d.length<=8/\call T 73 [.ptr 0 0] [aR B j] 0=some ⟨.byt d .no,[(0,aR B j')],[]⟩:=
 ⟨_,cy B j,(vJ _).1,(vJ _).2,f73 B j hB⟩
structure EvS(e:Ev):Prop where
 d2:e.dg.length=2
 b:e.data.length<=1000
 d0:(e.dg.getD 0 []).length<=1000
 d1:(e.dg.getD 1 []).length<=1000
theorem ec(r k a:Int)(d:List UInt8):(mkV r k a d).sv=[.int .i64 r,.int .i64 k,.lst 1 (bls (mkV r k a d).dg) .no,.byt d .no]:=rfl
theorem mi(r k a:Int)(d:List UInt8)(h:d.length<=1000):EvS (mkV r k a d):=by
 have e1:=vi d;have e2:=jw d
 by_cases hk:k=5
 ·refine⟨?_,h, ?_, ?_⟩<;>simp only[mkV,hk,if_true]<;>decide
 ·refine⟨?_,h, ?_, ?_⟩<;>simp only[mkV,hk,if_false]
  ·rfl
  ·rw[bL]
   split
   ·omega
   ·exact bU _
  ·rw[bY,bL]
   split
   ·omega
   ·exact bU _
theorem HB:∀v,v<8->∃r:Int,([[SV.int ac 0],[SV.int ac 0],[SV.int ac 4],[SV.int ac 8],[SV.int ac 9],[SV.int ac 9],[SV.int ac 1],[SV.int ac 11]]:List (List SV)).getD v []=[.int .i64 r]
 |0,_=>⟨_,rfl⟩
 |1,_=>⟨_,rfl⟩
 |2,_=>⟨_,rfl⟩
 |3,_=>⟨_,rfl⟩
 |4,_=>⟨_,rfl⟩
 |5,_=>⟨_,rfl⟩
 |6,_=>⟨_,rfl⟩
 |7,_=>⟨_,rfl⟩
 |n+8,h=>absurd h (by omega)
theorem f30(B:List UInt8)(hB:B.length<=1000)(j:Nat)(a:Int)(ha:sx a):∃(e:Ev)(j':Nat),EvS e/\call T 30 [.ptr 0 0,.int .i64 a] [aR B j] 0=some ⟨.agg e.sv,[(0,aR B j')],[]⟩:=by
 obtain⟨d,j1,hd1,hd8,g1⟩:=xlQ B hB j;obtain⟨v2,j2,h2,g2⟩:=fM B hB j1 4 (by omega);rw[cz4]at g2;simp only[aR]at g1 g2
 by_cases p2:v2=3
 ·have n2:(v2:Int)=3:=by omega
  obtain⟨v9,j9,h9,g0⟩:=fM B hB j2 2 (by omega);rw[c2]at g0;have l9:v9<=d.length:=by omega
  simp only[aR]at g0;obtain⟨v3,j3,h3,g3⟩:=fM B hB j9 5 (by omega);rw[cz5]at g3;obtain⟨v4,j4,h4,g4⟩:=fM B hB j3 8 (by omega);rw[c8]at g4;obtain⟨r,hr⟩:=HB v4 h4;obtain⟨k,hk⟩:∃k:Int,k=1+(v3:Int):=⟨_,rfl⟩;have e1:ac.wrap (1+(v3:Int))=k:=by rw[hk,w64 (by omega) (by omega)]
  have hv4:(v4:Int)<8:=by omega
  simp only[aR]at g3 g4
  by_cases p3:k=2
  ·subst p3
   obtain⟨v5,j5,h5,g5⟩:=fM B hB j4 4 (by omega);rw[cz4]at g5;simp only[aR]at g5
   by_cases p5:0<v5
   ·have p5':(0:Int)<(v5:Int):=by omega
    obtain⟨v6,j6,h6,g6⟩:=fM B hB j5 8 (by omega);rw[c8]at g6;simp only[aR]at g6;have gm:=f68 (v6:Int) 2 a [0,0,0,0] ha (by decide);obtain⟨v7,j7,h7,g7⟩:=fM B hB j6 4 (by omega);rw[cz4]at g7;simp only[aR]at g7
    by_cases p7:v7=3
    ·have p7':(v7:Int)=3:=by omega
     obtain⟨v8,j8,h8,g8⟩:=fM B hB j7 4 (by omega);rw[cz4]at g8;simp only[aR]at g8;obtain⟨d0,d1,m0,m1,g9⟩:=f74 a ha (bO (v8:Int)) (bO 2);refine⟨⟨(v6:Int),2,[d0,d1],[0,0,0,0]⟩,j8,⟨rfl,Nat.le_of_ble_eq_true rfl,cM m0 (by decide),cM m1 (by decide)⟩, ?_⟩;rw[ao pD];rw[ec]at gm;simp only[Ev.sv];simp only[aR]at gm ⊢;simp only[go_sem,Q0,Q1,Q2,Q3,Q4,Q5,Q6,Q7,Q8,Q9,Qa,Qb,Qc,Qd,Qe,Qf,Qg,Qh,Qi,Qj,Qk,reduceCtorEq,reduceIte,nG,fH,nH,pF,g1,g2,n2,g0,l9,g3,e1,g4,hv4,h4,hr,g5,p5',g6,g7,p7',g8,g9,gm]
    ·have p7':¬(v7:Int)=3:=by omega
     refine⟨mkV (v6:Int) 2 a [0,0,0,0],j7,mi _ _ _ _ (Nat.le_of_ble_eq_true rfl), ?_⟩;rw[ao pD];rw[ec]at gm;rw[ec];simp only[aR]at gm ⊢;simp only[go_sem,Q0,Q1,Q2,Q3,Q4,Q5,Q6,Q7,Q8,Q9,Qa,Qb,Qc,Qd,Qe,Qf,Qg,Qh,Qi,Qj,Qk,reduceCtorEq,reduceIte,nG,fH,nH,pF,g1,g2,n2,g0,l9,g3,e1,g4,hv4,h4,hr,g5,p5',g6,g7,p7',gm]
   ·have p5':¬(0:Int)<(v5:Int):=by omega
    have gm:=f68 r 2 a (d.take v9) ha (by rw[aj];omega);obtain⟨v7,j7,h7,g7⟩:=fM B hB j5 4 (by omega);rw[cz4]at g7;simp only[aR]at g7
    by_cases p7:v7=3
    ·have p7':(v7:Int)=3:=by omega
     obtain⟨v8,j8,h8,g8⟩:=fM B hB j7 4 (by omega);rw[cz4]at g8;simp only[aR]at g8;obtain⟨d0,d1,m0,m1,g9⟩:=f74 a ha (bO (v8:Int)) (bO 2);refine⟨⟨r,2,[d0,d1],(d.take v9)⟩,j8,⟨rfl,by rw[aj];omega,cM m0 (by decide),cM m1 (by decide)⟩, ?_⟩;rw[ao pD];rw[ec]at gm;simp only[Ev.sv];simp only[aR]at gm ⊢;simp only[go_sem,Q0,Q1,Q2,Q3,Q4,Q5,Q6,Q7,Q8,Q9,Qa,Qb,Qc,Qd,Qe,Qf,Qg,Qh,Qi,Qj,Qk,reduceCtorEq,reduceIte,nG,fH,nH,pF,g1,g2,n2,g0,l9,g3,e1,g4,hv4,h4,hr,g5,p5',g7,p7',g8,g9,gm]
    ·have p7':¬(v7:Int)=3:=by omega
     refine⟨mkV r 2 a (d.take v9),j7,mi _ _ _ _ (by rw[aj];omega), ?_⟩;rw[ao pD];rw[ec]at gm;rw[ec];simp only[aR]at gm ⊢;simp only[go_sem,Q0,Q1,Q2,Q3,Q4,Q5,Q6,Q7,Q8,Q9,Qa,Qb,Qc,Qd,Qe,Qf,Qg,Qh,Qi,Qj,Qk,reduceCtorEq,reduceIte,nG,fH,nH,pF,g1,g2,n2,g0,l9,g3,e1,g4,hv4,h4,hr,g5,p5',g7,p7',gm]
  ·have gm:=f68 r k a (d.take v9) ha (by rw[aj];omega)
   by_cases p5:k=5
   ·subst p5
    refine⟨mkV r 5 a (d.take v9),j4,mi _ _ _ _ (by rw[aj];omega), ?_⟩;rw[ao pD];rw[ec]at gm;rw[ec];simp only[aR]at gm ⊢;simp only[go_sem,Q0,Q1,Q2,Q3,Q4,Q5,Q6,Q7,Q8,Q9,Qa,Qb,Qc,Qd,Qe,Qf,Qg,Qh,Qi,Qj,Qk,reduceCtorEq,reduceIte,nG,fH,nH,pF,g1,g2,n2,g0,l9,g3,e1,g4,hv4,h4,hr,gm]
   ·skip
    obtain⟨v7,j7,h7,g7⟩:=fM B hB j4 4 (by omega);rw[cz4]at g7;simp only[aR]at g7
    by_cases p7:v7=3
    ·have p7':(v7:Int)=3:=by omega
     obtain⟨v8,j8,h8,g8⟩:=fM B hB j7 4 (by omega);rw[cz4]at g8;simp only[aR]at g8;obtain⟨d0,d1,m0,m1,g9⟩:=f74 a ha (bO (v8:Int)) (bO k);refine⟨⟨r,k,[d0,d1],(d.take v9)⟩,j8,⟨rfl,by rw[aj];omega,cM m0 (by decide),cM m1 (by decide)⟩, ?_⟩;rw[ao pD];rw[ec]at gm;simp only[Ev.sv];simp only[aR]at gm ⊢;simp only[go_sem,Q0,Q1,Q2,Q3,Q4,Q5,Q6,Q7,Q8,Q9,Qa,Qb,Qc,Qd,Qe,Qf,Qg,Qh,Qi,Qj,Qk,reduceCtorEq,reduceIte,nG,fH,nH,pF,g1,g2,n2,g0,l9,g3,e1,g4,hv4,h4,hr,p3,p5,g7,p7',g8,g9,gm]
    ·have p7':¬(v7:Int)=3:=by omega
     refine⟨mkV r k a (d.take v9),j7,mi _ _ _ _ (by rw[aj];omega), ?_⟩;rw[ao pD];rw[ec]at gm;rw[ec];simp only[aR]at gm ⊢;simp only[go_sem,Q0,Q1,Q2,Q3,Q4,Q5,Q6,Q7,Q8,Q9,Qa,Qb,Qc,Qd,Qe,Qf,Qg,Qh,Qi,Qj,Qk,reduceCtorEq,reduceIte,nG,fH,nH,pF,g1,g2,n2,g0,l9,g3,e1,g4,hv4,h4,hr,p3,p5,g7,p7',gm]
 ·have n2:¬(v2:Int)=3:=by omega
  obtain⟨v3,j3,h3,g3⟩:=fM B hB j2 5 (by omega);rw[cz5]at g3;obtain⟨v4,j4,h4,g4⟩:=fM B hB j3 8 (by omega);rw[c8]at g4;obtain⟨r,hr⟩:=HB v4 h4;obtain⟨k,hk⟩:∃k:Int,k=1+(v3:Int):=⟨_,rfl⟩;have e1:ac.wrap (1+(v3:Int))=k:=by rw[hk,w64 (by omega) (by omega)]
  have hv4:(v4:Int)<8:=by omega
  simp only[aR]at g3 g4
  by_cases p3:k=2
  ·subst p3
   obtain⟨v5,j5,h5,g5⟩:=fM B hB j4 4 (by omega);rw[cz4]at g5;simp only[aR]at g5
   by_cases p5:0<v5
   ·have p5':(0:Int)<(v5:Int):=by omega
    obtain⟨v6,j6,h6,g6⟩:=fM B hB j5 8 (by omega);rw[c8]at g6;simp only[aR]at g6;have gm:=f68 (v6:Int) 2 a [0,0,0,0] ha (by decide);obtain⟨v7,j7,h7,g7⟩:=fM B hB j6 4 (by omega);rw[cz4]at g7;simp only[aR]at g7
    by_cases p7:v7=3
    ·have p7':(v7:Int)=3:=by omega
     obtain⟨v8,j8,h8,g8⟩:=fM B hB j7 4 (by omega);rw[cz4]at g8;simp only[aR]at g8;obtain⟨d0,d1,m0,m1,g9⟩:=f74 a ha (bO (v8:Int)) (bO 2);refine⟨⟨(v6:Int),2,[d0,d1],[0,0,0,0]⟩,j8,⟨rfl,Nat.le_of_ble_eq_true rfl,cM m0 (by decide),cM m1 (by decide)⟩, ?_⟩;rw[ao pD];rw[ec]at gm;simp only[Ev.sv];simp only[aR]at gm ⊢;simp only[go_sem,Q0,Q1,Q2,Q3,Q4,Q5,Q6,Q7,Q8,Q9,Qa,Qb,Qc,Qd,Qe,Qf,Qg,Qh,Qi,Qj,Qk,reduceCtorEq,reduceIte,nG,fH,nH,pF,g1,g2,n2,g3,e1,g4,hv4,h4,hr,g5,p5',g6,g7,p7',g8,g9,gm]
    ·have p7':¬(v7:Int)=3:=by omega
     refine⟨mkV (v6:Int) 2 a [0,0,0,0],j7,mi _ _ _ _ (Nat.le_of_ble_eq_true rfl), ?_⟩;rw[ao pD];rw[ec]at gm;rw[ec];simp only[aR]at gm ⊢;simp only[go_sem,Q0,Q1,Q2,Q3,Q4,Q5,Q6,Q7,Q8,Q9,Qa,Qb,Qc,Qd,Qe,Qf,Qg,Qh,Qi,Qj,Qk,reduceCtorEq,reduceIte,nG,fH,nH,pF,g1,g2,n2,g3,e1,g4,hv4,h4,hr,g5,p5',g6,g7,p7',gm]
   ·have p5':¬(0:Int)<(v5:Int):=by omega
    have gm:=f68 r 2 a d ha (by show d.length<=_;omega);obtain⟨v7,j7,h7,g7⟩:=fM B hB j5 4 (by omega);rw[cz4]at g7;simp only[aR]at g7
    by_cases p7:v7=3
    ·have p7':(v7:Int)=3:=by omega
     obtain⟨v8,j8,h8,g8⟩:=fM B hB j7 4 (by omega);rw[cz4]at g8;simp only[aR]at g8;obtain⟨d0,d1,m0,m1,g9⟩:=f74 a ha (bO (v8:Int)) (bO 2);refine⟨⟨r,2,[d0,d1],d⟩,j8,⟨rfl,by show d.length<=_;omega,cM m0 (by decide),cM m1 (by decide)⟩, ?_⟩;rw[ao pD];rw[ec]at gm;simp only[Ev.sv];simp only[aR]at gm ⊢;simp only[go_sem,Q0,Q1,Q2,Q3,Q4,Q5,Q6,Q7,Q8,Q9,Qa,Qb,Qc,Qd,Qe,Qf,Qg,Qh,Qi,Qj,Qk,reduceCtorEq,reduceIte,nG,fH,nH,pF,g1,g2,n2,g3,e1,g4,hv4,h4,hr,g5,p5',g7,p7',g8,g9,gm]
    ·have p7':¬(v7:Int)=3:=by omega
     refine⟨mkV r 2 a d,j7,mi _ _ _ _ (by show d.length<=_;omega), ?_⟩;rw[ao pD];rw[ec]at gm;rw[ec];simp only[aR]at gm ⊢;simp only[go_sem,Q0,Q1,Q2,Q3,Q4,Q5,Q6,Q7,Q8,Q9,Qa,Qb,Qc,Qd,Qe,Qf,Qg,Qh,Qi,Qj,Qk,reduceCtorEq,reduceIte,nG,fH,nH,pF,g1,g2,n2,g3,e1,g4,hv4,h4,hr,g5,p5',g7,p7',gm]
  ·have gm:=f68 r k a d ha (by show d.length<=_;omega)
   by_cases p5:k=5
   ·subst p5
    refine⟨mkV r 5 a d,j4,mi _ _ _ _ (by show d.length<=_;omega), ?_⟩;rw[ao pD];rw[ec]at gm;rw[ec];simp only[aR]at gm ⊢;simp only[go_sem,Q0,Q1,Q2,Q3,Q4,Q5,Q6,Q7,Q8,Q9,Qa,Qb,Qc,Qd,Qe,Qf,Qg,Qh,Qi,Qj,Qk,reduceCtorEq,reduceIte,nG,fH,nH,pF,g1,g2,n2,g3,e1,g4,hv4,h4,hr,gm]
   ·skip
    obtain⟨v7,j7,h7,g7⟩:=fM B hB j4 4 (by omega);rw[cz4]at g7;simp only[aR]at g7
    by_cases p7:v7=3
    ·have p7':(v7:Int)=3:=by omega
     obtain⟨v8,j8,h8,g8⟩:=fM B hB j7 4 (by omega);rw[cz4]at g8;simp only[aR]at g8;obtain⟨d0,d1,m0,m1,g9⟩:=f74 a ha (bO (v8:Int)) (bO k);refine⟨⟨r,k,[d0,d1],d⟩,j8,⟨rfl,by show d.length<=_;omega,cM m0 (by decide),cM m1 (by decide)⟩, ?_⟩;rw[ao pD];rw[ec]at gm;simp only[Ev.sv];simp only[aR]at gm ⊢;simp only[go_sem,Q0,Q1,Q2,Q3,Q4,Q5,Q6,Q7,Q8,Q9,Qa,Qb,Qc,Qd,Qe,Qf,Qg,Qh,Qi,Qj,Qk,reduceCtorEq,reduceIte,nG,fH,nH,pF,g1,g2,n2,g3,e1,g4,hv4,h4,hr,p3,p5,g7,p7',g8,g9,gm]
    ·have p7':¬(v7:Int)=3:=by omega
     refine⟨mkV r k a d,j7,mi _ _ _ _ (by show d.length<=_;omega), ?_⟩;rw[ao pD];rw[ec]at gm;rw[ec];simp only[aR]at gm ⊢;simp only[go_sem,Q0,Q1,Q2,Q3,Q4,Q5,Q6,Q7,Q8,Q9,Qa,Qb,Qc,Qd,Qe,Qf,Qg,Qh,Qi,Qj,Qk,reduceCtorEq,reduceIte,nG,fH,nH,pF,g1,g2,n2,g3,e1,g4,hv4,h4,hr,p3,p5,g7,p7',gm]
def ge(x:Ent):List Ent->Nat
 |[]=>0
 |y::r=>if eV y x=true then ge x r+1 else 0
theorem s5(x:Ent):∀l,ge x l<=l.length
 |[]=>aQ _
 |y::r=>by have:=s5 x r;rw[ge,aC];split<;>omega
def mO(v:List UInt8)(ve:Int)(l:List Ent)(tk:Tok):aG:= .rc [.str v,.int .i64 ve,.int .i64 0,.int .i64 0,.int .i64 1099511627776,.lst 4 (bD l) tk,.lst 4 [] .clip]
def mZ:aG:= .rc [.str [],.int .i64 0,.int .i64 0,.int .i64 0,.int .i64 0,.lst 4 [] .clip,.lst 4 [] .clip]
theorem xl4(I:List (List SV))(v:List UInt8)(ve i:Int)(l:List Ent)(x:Ent)(hl:l.length<=1000)(hd:∀y∈l,y.dig.length<=1000):∀(n k:Nat),l.length-k=n->k<=l.length->
 run T (.loop yy) ⟨[(2,.lst 4 I .no),(6,.ptr 106 0),(7,.ptr 107 0),(8,.int .i64 i),(10,.ptr 110 0),(11,.int .i64 k)],[(106,mZ),(107,mO v ve l .no),(110,.rc x.sv)],[]⟩=
  some (.x 2,⟨[(2,.lst 4 I .no),(6,.ptr 106 0),(7,.ptr 107 0),(8,.int .i64 i),(10,.ptr 110 0),(11,.int .i64 ((k+ge x (l.drop k):Nat):Int))],[(106,mZ),(107,mO v ve l .no),(110,.rc x.sv)],[]⟩):=by
 intro n;induction n with
 |zero=>
  intro k h0 h1;have:k=l.length:=by omega
  subst this;have hv:=bf l;rw[aX,ai];simp only[ge,eK,mO,mZ];simp only[go_sem,Q0,Q1,Q2,Q3,Q4,Q5,Q6,Q7,Q8,Q9,Qa,Qb,Qc,Qd,Qe,Qf,Qg,Qh,Qi,Qj,Qk,reduceCtorEq,reduceIte,hv]
 |succ n ih=>
  intro k h0 h1;have hk:k<l.length:=by omega
  have e1:=cg k (by omega);have ih':=ih (k+1) (by omega) (by omega);have hv:=bf l;have hg:=dm l k hk;have hdr:l.drop k=l.getD k en0::l.drop (k+1):=by rw[aS hk,aa,ab hk];rfl
  have hm:=cY l en0 k hk;have gb:=f46 (l.getD k en0) x (by have:=hd _ hm;omega);have hki:(k:Int)<(l.length:Int):=by omega
  rw[hdr,ge,ai];generalize l.getD k en0=y at*;obtain⟨x1,x2,x3,x4⟩:=x;obtain⟨y1,y2,y3,y4⟩:=y
  by_cases hb:eV ⟨y1,y2,y3,y4⟩ ⟨x1,x2,x3,x4⟩=true
  ·rw[if_pos hb]
   rw[hb]at gb;rw[show k+(ge ⟨x1,x2,x3,x4⟩ (l.drop (k+1))+1)=k+1+ge ⟨x1,x2,x3,x4⟩ (l.drop (k+1))from by omega];simp only[mO,mZ,Ent.sv]at ih' gb hg ⊢;simp only[go_sem,Q0,Q1,Q2,Q3,Q4,Q5,Q6,Q7,Q8,Q9,Qa,Qb,Qc,Qd,Qe,Qf,Qg,Qh,Qi,Qj,Qk,reduceCtorEq,reduceIte,hk,hki,e1,hv,hg,gb,Px,ih']
  ·rw[if_neg hb]
   rw[eq_false_of_ne_true hb]at gb;rw[eK];simp only[mO,mZ,Ent.sv]at gb hg ⊢;simp only[go_sem,Q0,Q1,Q2,Q3,Q4,Q5,Q6,Q7,Q8,Q9,Qa,Qb,Qc,Qd,Qe,Qf,Qg,Qh,Qi,Qj,Qk,reduceCtorEq,reduceIte,hk,hki,e1,hv,hg,gb,Px]
theorem tu{x:Img}(h:fv x=0):¬(gk x).length=0:=by unfold gk;rw[if_pos h,eG];omega
def js(y:Img):Ent:=⟨y.role,y.name,y.ver,sha (gk y)⟩
def tn(x:Ent)(l:List Ent):List Ent:=if ge x l<l.length/\eV x (l.getD (ge x l) en0)=false then l else l.take (ge x l)++x::l.drop (ge x l)
def nE(y:Img)(l:List Ent):List Ent:=if y.role=4 then l else tn (js y) l
theorem s34(ch:List Img)(hc:∀i,i<ch.length->fv (ch.getD i im0)=0)(hcl:ch.length<=1000)(v:List UInt8)(ve:Int)(l:List Ent)(hl:l.length<=900)(hd:∀y∈l,y.dig.length<=1000)(i:Nat)(hi:i<ch.length):
 run T (.loop lV) ⟨[(2,.lst 4 (fy ch) .no),(6,.ptr 106 0),(7,.ptr 107 0),(8,.int .i64 i)],[(106,mZ),(107,mO v ve l .no)],[]⟩=
 run T (.loop lV) ⟨[(2,.lst 4 (fy ch) .no),(6,.ptr 106 0),(7,.ptr 107 0),(8,.int .i64 ((i+1:Nat):Int))],[(106,mZ),(107,mO v ve (nE (ch.getD i im0) l) .no)],[]⟩:=by
 have hii:(i:Int)<(ch.length:Int):=by omega
 have hv:=dU ch;have hg:=fQ ch i hi;have h0:=hc i hi;have e1:=cg i (by omega);generalize ch.getD i im0=y at*;obtain⟨u1,u2⟩:=og h0;have g1:=f95 y u1 u2;have hel:=mu y u1 u2;have g2:=f65 (gk y) (by omega);have hne:¬(gk y).length=0:=tu h0;have hne':¬((gk y).length:Int)=0:=by omega
 have hsl:=jw (gk y);have hla:=xl4 (fy ch) v ve i l (js y) (by omega) hd l.length 0 (by omega) (bU _);rw[cK,bh,show((0:Nat):Int)=0 from rfl]at hla;have hpl:=s5 (js y) l;have nv:=bf l;unfold nE tn;generalize hE:gk y=E at*
 by_cases h4:y.role=4
 ·rw[if_pos h4]
  obtain⟨y1,y2,y3,y4⟩:=y;simp only at h4;subst h4;rw[ai];simp only[mO,mZ,Img.sv]at g1 hg ⊢;simp only[go_sem,Q0,Q1,Q2,Q3,Q4,Q5,Q6,Q7,Q8,Q9,Qa,Qb,Qc,Qd,Qe,Qf,Qg,Qh,Qi,Qj,Qk,reduceCtorEq,reduceIte,hii,hi,hv,hg,g1,Df,hne,hne',e1]
 ·rw[if_neg h4]
  have hent:js y=⟨y.role,y.name,y.ver,sha E⟩:=by rw[<-hE];rfl
  rw[hent]at hla hpl ⊢
  by_cases hk:ge ⟨y.role,y.name,y.ver,sha E⟩ l<l.length
  ·have gb:=f46 ⟨y.role,y.name,y.ver,sha E⟩ (l.getD (ge ⟨y.role,y.name,y.ver,sha E⟩ l) en0) (by show(sha E).length<=_;omega)
   have hg2:=dm l _ hk;have hki:(ge ⟨y.role,y.name,y.ver,sha E⟩ l:Int)<(l.length:Int):=by omega
   have e2:bD (l.take (ge ⟨y.role,y.name,y.ver,sha E⟩ l)++⟨y.role,y.name,y.ver,sha E⟩::l.drop (ge ⟨y.role,y.name,y.ver,sha E⟩ l))=du (ge ⟨y.role,y.name,y.ver,sha E⟩ l) (bD l)++(Ent.sv ⟨y.role,y.name,y.ver,sha E⟩::iu (ge ⟨y.role,y.name,y.ver,sha E⟩ l) (bD l)):=by rw[bD,bD,cn,aI,eC,List.map_drop]
   generalize ge ⟨y.role,y.name,y.ver,sha E⟩ l=k at*;generalize l.getD k en0=z at*;have hkl:k<=l.length:=by omega
   have tf:du l.length (bD l)=bD l:=by rw[<-nv,bv]
   have vA:(du k (bD l)).length=k:=by rw[aj,nv];omega
   have vD:(iu k (bD l)).length=l.length-k:=by rw[aH,nv]
   have b1:k*56<=140737488355328:=by omega
   have b3:(k+1)*56<=140737488355328:=by omega
   have b2:(k+(1+(l.length-k)))*56<=140737488355328:=by omega
   have b4:(k+1+(l.length-k))*56<=140737488355328:=by omega
   obtain⟨y1,y2,y3,y4⟩:=y;obtain⟨z1,z2,z3,z4⟩:=z
   by_cases hb:eV ⟨y1,y2,y3,sha E⟩ ⟨z1,z2,z3,z4⟩=false
   ·rw[if_pos ⟨hk,hb⟩]
    simp only at gb;rw[hb]at gb;rw[ai];simp only[mO,mZ,Img.sv,Ent.sv]at g1 hg hla gb hg2 ⊢;simp only[go_sem,Q0,Q1,Q2,Q3,Q4,Q5,Q6,Q7,Q8,Q9,Qa,Qb,Qc,Qd,Qe,Qf,Qg,Qh,Qi,Qj,Qk,reduceCtorEq,reduceIte,hii,hi,hv,hg,g1,Df,hne,hne',h4,g2,Pw,hla,nv,hk,hki,hg2,gb,Px,e1]
   ·rw[if_neg (fun h=>hb h.2)]
    simp only at gb;rw[eq_true_of_ne_false hb]at gb;rw[ai];simp only[mO,e2];simp only[mO,mZ,Img.sv,Ent.sv]at g1 hg hla gb hg2 ⊢;simp only[go_sem,Q0,Q1,Q2,Q3,Q4,Q5,Q6,Q7,Q8,Q9,Qa,Qb,Qc,Qd,Qe,Qf,Qg,Qh,Qi,Qj,Qk,reduceCtorEq,reduceIte,hii,hi,hv,hg,g1,Df,hne,hne',h4,g2,Pw,hla,nv,hk,hki,hkl,hg2,gb,Px,e1,tf,vA,vD,b1,b2,b3,b4]
  ·have hki:¬(ge ⟨y.role,y.name,y.ver,sha E⟩ l:Int)<(l.length:Int):=by omega
   rw[if_neg (fun h=>hk h.1)]
   have e2:bD (l.take (ge ⟨y.role,y.name,y.ver,sha E⟩ l)++⟨y.role,y.name,y.ver,sha E⟩::l.drop (ge ⟨y.role,y.name,y.ver,sha E⟩ l))=du (ge ⟨y.role,y.name,y.ver,sha E⟩ l) (bD l)++(Ent.sv ⟨y.role,y.name,y.ver,sha E⟩::iu (ge ⟨y.role,y.name,y.ver,sha E⟩ l) (bD l)):=by rw[bD,bD,cn,aI,eC,List.map_drop]
   generalize ge ⟨y.role,y.name,y.ver,sha E⟩ l=k at*;have hkl:k<=l.length:=by omega
   have tf:du l.length (bD l)=bD l:=by rw[<-nv,bv]
   have vA:(du k (bD l)).length=k:=by rw[aj,nv];omega
   have vD:(iu k (bD l)).length=l.length-k:=by rw[aH,nv]
   have b1:k*56<=140737488355328:=by omega
   have b3:(k+1)*56<=140737488355328:=by omega
   have b2:(k+(1+(l.length-k)))*56<=140737488355328:=by omega
   have b4:(k+1+(l.length-k))*56<=140737488355328:=by omega
   obtain⟨y1,y2,y3,y4⟩:=y;rw[ai];simp only[mO,e2];simp only[mO,mZ,Img.sv,Ent.sv]at g1 hg hla ⊢;simp only[go_sem,Q0,Q1,Q2,Q3,Q4,Q5,Q6,Q7,Q8,Q9,Qa,Qb,Qc,Qd,Qe,Qf,Qg,Qh,Qi,Qj,Qk,reduceCtorEq,reduceIte,hii,hi,hv,hg,g1,Df,hne,hne',h4,g2,Pw,hla,nv,hk,hki,hkl,e1,tf,vA,vD,b1,b2,b3,b4]
structure l6(l:List Ent)(n:Nat):Prop where
 len:l.length<=n
 e:∀x∈l,x.name.length<=1000000/\x.dig.length=32
theorem Gy{x z:Ent}{l:List Ent}(h:z∈tn x l):z=x\/z∈l:=by
 unfold tn at h;split at h
 ·exact .inr h
 ·rw[al,an]at h
  rcases h with h|h|h
  ·exact .inr (bM h)
  ·exact .inl h
  ·exact .inr (ED h)
theorem GE(x:Ent)(l:List Ent):(tn x l).length<=l.length+1:=by
 unfold tn;have:=s5 x l;split
 ·omega
 ·rw[af,aC,aj,aH];omega
theorem GK{y:Img}(h:fv y=0):y.name.length<=1000000:=(og h).1
theorem tU{y:Img}(hy:fv y=0){l:List Ent}{n:Nat}(h:l6 l n):l6 (nE y l) (n+1):=by
 unfold nE;split
 ·exact⟨Nat.le_succ_of_le h.len,h.e⟩
 ·refine⟨?_,fun x hx=> ?_⟩
  ·have:=GE (js y) l
   have:=h.len;omega
  ·rcases Gy hx with rfl|hx
   ·exact⟨GK hy,jw _⟩
   ·exact h.e x hx
def nA(l:List Img)(es:List Ent):List Ent:=l.foldl (fun a y=>nE y a) es
theorem C9:∀(l:List Img)(es:List Ent)(n:Nat),(∀y∈l,fv y=0)->l6 es n->l6 (nA l es) (n+l.length)
 |[],es,n,_,h=>h
 |y::r,es,n,hl,h=>by have:=C9 r (nE y es) (n+1) (fun z hz=>hl z (aq _ hz)) (tU (hl y aD) h);rw[aC,show n+(r.length+1)=n+1+r.length from by omega];exact this
theorem xlw(ch:List Img)(hcl:ch.length<=1000)(hi:0<ch.length)(h0:fv (ch.getD 0 im0)=0)(h1:(ch.getD 0 im0).role=1)(v:List UInt8)(ve:Int):
 run T (.loop lV) ⟨[(2,.lst 4 (fy ch) .no),(6,.ptr 106 0),(7,.ptr 107 0),(8,.int .i64 0)],[(106,mZ),(107,mO v ve [] .clip)],[]⟩=
 run T (.loop lV) ⟨[(2,.lst 4 (fy ch) .no),(6,.ptr 106 0),(7,.ptr 107 0),(8,.int .i64 1)],[(106,mZ),(107,mO v ve [js (ch.getD 0 im0)] .no)],[]⟩:=by
 have hii:(0:Int)<(ch.length:Int):=by omega
 have hv:=dU ch;have hg:=fQ ch 0 hi;have e1:ac.wrap 1=1:=rfl;generalize ch.getD 0 im0=y at*;obtain⟨u1,u2⟩:=og h0;have g1:=f95 y u1 u2;have hel:=mu y u1 u2;have g2:=f65 (gk y) (by omega);have hne:¬(gk y).length=0:=tu h0;have hne':¬((gk y).length:Int)=0:=by omega
 have hent:js y=⟨y.role,y.name,y.ver,sha (gk y)⟩:=rfl;rw[hent];generalize gk y=E at*;obtain⟨y1,y2,y3,y4⟩:=y;simp only at h1;subst h1;rw[ai];simp only[mO,mZ,Img.sv,bD,bn,aI,Ent.sv]at g1 hg ⊢;simp only[go_sem,Q0,Q1,Q2,Q3,Q4,Q5,Q6,Q7,Q8,Q9,Qa,Qb,Qc,Qd,Qe,Qf,Qg,Qh,Qi,Qj,Qk,reduceCtorEq,reduceIte,hii,hi,hv,hg,g1,Df,hne,hne',g2,Pw];rw[ai];simp only[go_sem,Q0,Q1,Q2,Q3,Q4,Q5,Q6,Q7,Q8,Q9,Qa,Qb,Qc,Qd,Qe,Qf,Qg,Qh,Qi,Qj,Qk,reduceCtorEq,reduceIte,hii,hi,hv,hg,g1,Df,hne,hne',g2,Pw,e1]
theorem l38(ch:List Img)(hc:∀i,i<ch.length->fv (ch.getD i im0)=0)(hcl:ch.length<=800)(v:List UInt8)(ve:Int):∀(n i:Nat)(es:List Ent),ch.length-i=n->i<=ch.length->l6 es i->
 run T (.loop lV) ⟨[(2,.lst 4 (fy ch) .no),(6,.ptr 106 0),(7,.ptr 107 0),(8,.int .i64 i)],[(106,mZ),(107,mO v ve es .no)],[]⟩=
 some (.x 0,⟨[(6,.ptr 106 0),(7,.ptr 107 0)],[(106,mZ),(107,mO v ve (nA (ch.drop i) es) .no)],[]⟩):=by
 intro n;induction n with
 |zero=>
  intro i es h0 h1 h2;have:i=ch.length:=by omega
  subst this;have hv:=dU ch;rw[aX,ai];simp only[mO,mZ,nA,List.foldl_nil];simp only[go_sem,Q0,Q1,Q2,Q3,Q4,Q5,Q6,Q7,Q8,Q9,Qa,Qb,Qc,Qd,Qe,Qf,Qg,Qh,Qi,Qj,Qk,reduceCtorEq,reduceIte,hv]
 |succ n ih=>
  intro i es h0 h1 h2;have hi:i<ch.length:=by omega
  have hd:ch.drop i=ch.getD i im0::ch.drop (i+1):=by rw[aS hi,aa,ab hi];rfl
  have hl:=h2.len;rw[s34 ch hc (by omega) v ve es (by omega) (fun y hy=>by have:=(h2.e y hy).2;omega) i hi,ih (i+1) _ (by omega) (by omega) (tU (hc i hi) h2),hd];rfl
theorem uZ{ch:List Img}(hc:eO ch):(ch.getD 0 im0).role=1:=by
 obtain⟨i,hi,h1⟩:=hc.fw
 have key:∀k,k<ch.length->(ch.getD 0 im0).role<=(ch.getD k im0).role:=by
  intro k;induction k with
  |zero=>intro _;exact Int.le_refl _
  |succ k ih=>intro h;exact Int.le_trans (ih (by omega)) (hc.ord k h)
 have h2:=key i hi;have h3:=(lm (hc.ok 0 (by have:=hc.n1;omega))).1;omega
theorem f38(ch:List Img)(hc:eO ch)(v:List UInt8)(ve:Int):call T 38 [.str v,.int .i64 ve,.lst 4 (fy ch) .no] [] 0=some ⟨.agg [.str v,.int .i64 ve,.int .i64 0,.int .i64 0,.int .i64 1099511627776,.lst 4 (bD (nA ch [])) .no,.lst 4 [] .clip],[],[]⟩:=by
 have n1:=hc.n1;have n8:=hc.n8;have hf:=uZ hc;have h0:=hc.ok 0 (by omega);have z:=xlw ch (by omega) (by omega) h0 hf v ve
 have ha:nE (ch.getD 0 im0) []=[js (ch.getD 0 im0)]:=by unfold nE tn;rw[if_neg (by rw[hf];decide),if_neg (by simp)];rfl
 have hb:l6 [js (ch.getD 0 im0)] 1:=by rw[<-ha];exact tU h0 ⟨aQ _,fun x hx=>by cases hx⟩
 have l:=l38 ch hc.ok (by omega) v ve _ 1 [js (ch.getD 0 im0)] rfl (by omega) hb
 have hd:nA (ch.drop 1) [js (ch.getD 0 im0)]=nA ch []:=by
  have:ch=ch.getD 0 im0::ch.drop 1:=by
   rw[aa,ab (by omega:0<ch.length)];cases ch with
   |nil=>simp at n1
   |cons x r=>rfl
  conv=>rhs;rw[this]
  rw[<-ha];rfl
 rw[hd]at l;rw[show((1:Nat):Int)=1 from rfl]at l;rw[l]at z;rw[ao xnV];simp only[mO,mZ,bD,bn]at z;simp only[bD];simp only[go_sem,Q0,Q1,Q2,Q3,Q4,Q5,Q6,Q7,Q8,Q9,Qa,Qb,Qc,Qd,Qe,Qf,Qg,Qh,Qi,Qj,Qk,reduceCtorEq,reduceIte,z]
theorem Tx{ch:List Img}(hc:eO ch):l6 (nA ch []) 8:=by
 have:=C9 ch [] 0 (fun y hy=>by obtain⟨i,hi,rfl⟩:=cf hy;have:=hc.ok i hi;rwa[aa,ab hi]at this) ⟨aQ _,fun x hx=>by cases hx⟩
 have n8:=hc.n8;exact⟨by have:=this.len;omega,this.e⟩
section
open SortT
theorem xm4:call T 102 [] [] 0=some ⟨.agg [.str [97,99,109,101],.str [118,50],.str [120,45,121]],[],[]⟩:=by rw[ao xjk];simp only[go_sem,Q0,Q1,Q2,Q3,Q4,Q5,Q6,Q7,Q8,Q9,Qa,Qb,Qc,Qd,Qe,Qf,Qg,Qh,Qi,Qj,Qk,reduceCtorEq,reduceIte]
theorem xlq(v:Nat)(h:v<3):∃n:List UInt8,(n.length<=10/\Pr.nameB n=true)/\(iu v [SV.str [97,99,109,101],.str [118,50],.str [120,45,121]]).getD 0 .undef= .str n:=by
 have:v=0\/v=1\/v=2:=by omega
 rcases this with rfl|rfl|rfl
 ·exact⟨[97,99,109,101],⟨by decide,by decide⟩,rfl⟩
 ·exact⟨[118,50],⟨by decide,by decide⟩,rfl⟩
 ·exact⟨[120,45,121],⟨by decide,by decide⟩,rfl⟩
theorem DS(l:List Rul)(x:Rul):bT l++ [x.sv]=bT (l++ [x]):=by rw[bT,bT,cn];rfl
theorem l41(B:List UInt8)(hB:B.length<=1000)(v:List UInt8)(m1 m2 m3 m4:Int)(es:List (List SV)):∀(n:Nat)(rs:List Rul)(j:Nat),rs.length+n<=8->(∀x∈rs,x.text.length<=20/\oM x=0)->∀(t:Tok)(tk:List Nat),(t= .clip/\tk=[]/\rs=[])\/(t= .id 160/\tk=[160])->
 ∃(rs':List Rul)(t':Tok)(tk':List Nat)(j':Nat),rs'.length<=8/\(∀x∈rs',x.text.length<=20/\oM x=0)/\((t'= .clip/\tk'=[]/\rs'=[])\/(t'= .id 160/\tk'=[160]))/\
 run T (.loop yx) ⟨[(0,.ptr 0 0),(4,.ptr 104 0),(6,.ptr 106 0),(7,.int .i64 (n:Int))],[(0,aR B j),(104,mZ),(106,.rc [.str v,.int .i64 m1,.int .i64 m2,.int .i64 m3,.int .i64 m4,.lst 4 es .no,.lst 4 (bT rs) t])],tk⟩=
 some (.x 0,⟨[(4,.ptr 104 0),(6,.ptr 106 0)],[(0,aR B j'),(104,mZ),(106,.rc [.str v,.int .i64 m1,.int .i64 m2,.int .i64 m3,.int .i64 m4,.lst 4 es .no,.lst 4 (bT rs') t'])],tk'⟩):=by
 intro n;induction n with
 |zero=>
  intro rs j h1 h2 t tk ht;refine⟨rs,t,tk,j,by omega,h2,ht, ?_⟩;rw[ai];rcases ht with⟨rfl,rfl,rfl⟩|⟨rfl,rfl⟩
  ·simp only[aR,mZ]
   simp only[go_sem,Q0,Q1,Q2,Q3,Q4,Q5,Q6,Q7,Q8,Q9,Qa,Qb,Qc,Qd,Qe,Qf,Qg,Qh,Qi,Qj,Qk,reduceCtorEq,reduceIte]
  ·simp only[aR,mZ]
   simp only[go_sem,Q0,Q1,Q2,Q3,Q4,Q5,Q6,Q7,Q8,Q9,Qa,Qb,Qc,Qd,Qe,Qf,Qg,Qh,Qi,Qj,Qk,reduceCtorEq,reduceIte]
 |succ n ih=>
  intro rs j h1 h2 t tk ht;obtain⟨k,t1,lo,hi,j1,hk,ht1,g⟩:=xm3 B j hB;have hp:(0:Int)<((n+1:Nat):Int):=by omega
  have e1:ac.wrap (((n+1:Nat):Int)-1)=(n:Int):=wZ (by omega)
  obtain⟨rs',t',tk',j',q1,q2,q3,q4⟩:=ih (rs++ [⟨k,t1,lo,hi⟩]) j1 (by rw[af,aM];omega) (fun x hx=>by
   rw[al,ba]at hx;rcases hx with hx|rfl
   ·exact h2 x hx
   ·exact⟨ht1,hk⟩) (.id 160) [160] (.inr ⟨rfl,rfl⟩)
  refine⟨rs',t',tk',j',q1,q2,q3, ?_⟩;have hv:=bj rs;have b1:(rs.length+1)*40<=140737488355328:=by omega
  rw[<-DS]at q4;rw[ai];rcases ht with⟨rfl,rfl,rfl⟩|⟨rfl,rfl⟩
  ·have hnil:bT []=[]:=rfl
   simp only[aR,mZ,Rul.sv,hnil,aF]at g q4 ⊢;simp only[go_sem,Q0,Q1,Q2,Q3,Q4,Q5,Q6,Q7,Q8,Q9,Qa,Qb,Qc,Qd,Qe,Qf,Qg,Qh,Qi,Qj,Qk,reduceCtorEq,reduceIte,hp,g,xaP,e1,q4]
  ·simp only[aR,mZ,Rul.sv]at g q4 ⊢
   simp only[go_sem,Q0,Q1,Q2,Q3,Q4,Q5,Q6,Q7,Q8,Q9,Qa,Qb,Qc,Qd,Qe,Qf,Qg,Qh,Qi,Qj,Qk,reduceCtorEq,reduceIte,hp,g,xaP,hv,b1,e1,q4]
theorem tj(x:Ent):∀l:List Ent,tn x l=pf eV x l
 |[]=>by simp[tn,pf,ge]
 |y::r=>by
  have ih:=tj x r;unfold pf;rw[<-ih];unfold tn
  by_cases h:eV y x=true
  ·have hp:ge x (y::r)=ge x r+1:=by rw[ge,if_pos h]
   rw[hp,if_pos h,bY,mz,List.drop_succ_cons,aC]
   by_cases hc:ge x r<r.length/\eV x (r.getD (ge x r) en0)=false
   ·rw[if_pos hc,if_pos ⟨by omega,hc.2⟩]
   ·rw[if_neg hc,if_neg (fun k=>hc ⟨by omega,k.2⟩),aJ]
  ·have hp:ge x (y::r)=0:=by rw[ge,if_neg h]
   rw[hp,if_neg h,bL,List.take_zero,bh,aF]
   by_cases hb:eV x y=true
   ·rw[if_pos hb,if_neg (fun k=>by rw[hb]at k;exact absurd k.2 (by simp))]
   ·rw[if_neg hb,if_pos ⟨by simp,by simpa using hb⟩]
theorem Ti{y:Img}(h:fv y=0)(h4:¬y.role=4):pK (js y):=by obtain⟨a1,a2,a3,a4,a5,a6⟩:=lm h;exact⟨a1,by show y.role<=3;omega,a3,a4,jw _,a5⟩
theorem tv:∀(l:List Img)(es:List Ent),(∀y∈l,fv y=0)->(∀x∈es,pK x)->Str eV es->(∀x∈nA l es,pK x)/\Str eV (nA l es)
 |[],es,_,h1,h2=>⟨h1,h2⟩
 |y::r,es,h0,h1,h2=>by
  have hy:=h0 y aD
  have key:(∀x∈nE y es,pK x)/\Str eV (nE y es):=by
   unfold nE
   by_cases h4:y.role=4
   ·rw[if_pos h4];exact⟨h1,h2⟩
   ·rw[if_neg h4,tj]
    refine⟨fun x hx=> ?_,pW qS _ _ h2⟩;rcases (mn qS _ _ _).1 hx with rfl|hx
    ·exact Ti hy h4
    ·exact h1 x hx
  exact tv r (nE y es) (fun z hz=>h0 z (aq _ hz)) key.1 key.2
theorem Ez{ch:List Img}(hc:eO ch):∀y∈ch,fv y=0:=by intro y hy;obtain⟨i,hi,rfl⟩:=cf hy;have:=hc.ok i hi;rwa[aa,ab hi]at this
theorem xff{ch:List Img}(hc:eO ch):(∀x∈nA ch [],pK x)/\Str eV (nA ch []):=tv ch [] (Ez hc) (fun x hx=>by cases hx) eD.nil
structure xaR(m:Man):Prop where
 v:m.vendor.length<=100
 en:m.ents.length<=8
 rn:m.ruls.length<=8
 e:∀x∈m.ents,x.name.length<=1000000/\x.dig.length=32
 r:∀x∈m.ruls,x.text.length<=20
 ok:gA m=0
theorem xaR.bd{m:Man}(h:xaR m):eI m:=⟨by have:=h.v;omega,by have:=h.en;omega,by have:=h.rn;omega,fun x hx=>by have:=h.e x hx;omega,fun x hx=>by have:=h.r x hx;omega⟩
theorem f41(B:List UInt8)(hB:B.length<=1000)(j:Nat)(ch:List Img)(hc:eO ch):∃(m:Man)(j':Nat),xaR m/\call T 41 [.ptr 0 0,.lst 4 (fy ch) .no] [aR B j] 0=some ⟨.agg m.sv,[(0,aR B j')],[]⟩:=by
 have gv:=xm4;obtain⟨v1,j1,h1,g1⟩:=fM B hB j 4 (by omega);rw[cz4]at g1;obtain⟨v2,j2,h2,g2⟩:=fM B hB j1 3 (by omega);rw[cz3]at g2;obtain⟨nv,⟨hnv,hnB⟩,hve⟩:=xlq v2 h2;have h2i:(v2:Int)<3:=by omega
 have gd:=f38 ch hc nv (v1:Int);have hb:=Tx hc;obtain⟨ho1,ho2⟩:=xff hc;generalize nA ch []=es at*;obtain⟨v3,j3,h3,g3⟩:=fM B hB j2 3 (by omega);rw[cz3]at g3;have hel:=bf es;have hbl:=hb.len;have e4:=cg es.length (by omega)
 by_cases p3:v3=1
 ·have n3:(v3:Int)=1:=by omega
  obtain⟨v4,j4,h4,g4⟩:=fM B hB j3 (es.length+1) (by omega);have l4:v4<=es.length:=by omega
  have l4i:(v4:Int)<=(es.length:Int):=by omega
  have tA:du v4 (bD es)=bD (es.take v4):=by rw[bD,bD,eC]
  obtain⟨v5,j5,h5,g5⟩:=fM B hB j4 (v1+1) (by omega);have e5:=cg v1 (by omega);obtain⟨v6,j6,h6,g6⟩:=fM B hB j5 12 (by omega);rw[c12]at g6;obtain⟨v7,j7,h7,g7⟩:=fM B hB j6 30 (by omega);rw[c30]at g7;obtain⟨v8,j8,h8,g8⟩:=fM B hB j7 2 (by omega);rw[c2]at g8;obtain⟨v9,j9,h9,g9⟩:=fM B hB j8 4 (by omega);rw[cz4]at g9;have hUv:ac.wrap (ac.wrap ((v6:Int)+1)+(v7:Int))=(v6:Int)+1+v7:=by rw[w64 (n:=(v6:Int)+1) (by omega) (by omega),w64 (by omega) (by omega)]
  obtain⟨U,hU⟩:∃U,U=ac.wrap (ac.wrap ((v6:Int)+1)+(v7:Int)):=⟨_,rfl⟩;have hU2:U=(v6:Int)+1+v7:=hU.trans hUv
  by_cases p8:v8=0
  ·have p8':(v8:Int)=0:=by omega
   obtain⟨rs',t',tk',j',q1,q2,q3,q4⟩:=l41 B hB nv (v1:Int) (v5:Int) (v6:Int) 1099511627776 (bD (es.take v4)) v9 [] j9 (by simp only[aB];omega) (fun x hx=>by cases hx) .clip [] (.inl ⟨rfl,rfl,rfl⟩);refine⟨⟨nv,v1,v5,v6,1099511627776,es.take v4,rs'⟩,j',⟨by show nv.length<=100;omega,by show(es.take v4).length<=8;rw[aj];omega,q1,fun x hx=>hb.e x (bM hx),fun x hx=>(q2 x hx).1,i6 hnB (by show(0:Int)<=v5;omega) (by show(v5:Int)<=v1;omega) (by show(v1:Int)<=1000000;omega) (by show(0:Int)<=v6;omega) (by show(v6:Int)<1099511627776;omega) (by show(1099511627776:Int)<=1099511627776;omega) (by show(es.take v4).length<=16;rw[aj];omega) q1 (fun x hx=>ho1 x (bM hx)) (eD.sublist (List.take_sublist _ _) ho2) (fun x hx=>(q2 x hx).2)⟩, ?_⟩;rw[ao xas];rcases q3 with⟨rfl,rfl,rfl⟩|⟨rfl,rfl⟩
   ·simp only[aR,mZ,Man.sv,bT,bn]at g1 g2 g3 g5 g6 g7 g8 g9 q4 gd g4 ⊢
    simp only[go_sem,Q0,Q1,Q2,Q3,Q4,Q5,Q6,Q7,Q8,Q9,Qa,Qb,Qc,Qd,Qe,Qf,Qg,Qh,Qi,Qj,Qk,reduceCtorEq,reduceIte,g1,g2,g3,g5,g6,g7,g8,g9,fH,gv,pJ,h2,h2i,dt,hve,gd,Dh,n3,e5,p8',<-hU,q4,g4,e4,hel,l4,l4i,tA]
   ·simp only[aR,mZ,Man.sv,bT,bn]at g1 g2 g3 g5 g6 g7 g8 g9 q4 gd g4 ⊢
    simp only[go_sem,Q0,Q1,Q2,Q3,Q4,Q5,Q6,Q7,Q8,Q9,Qa,Qb,Qc,Qd,Qe,Qf,Qg,Qh,Qi,Qj,Qk,reduceCtorEq,reduceIte,g1,g2,g3,g5,g6,g7,g8,g9,fH,gv,pJ,h2,h2i,dt,hve,gd,Dh,n3,e5,p8',<-hU,q4,g4,e4,hel,l4,l4i,tA]
  ·have p8':¬(v8:Int)=0:=by omega
   obtain⟨rs',t',tk',j',q1,q2,q3,q4⟩:=l41 B hB nv (v1:Int) (v5:Int) (v6:Int) U (bD (es.take v4)) v9 [] j9 (by simp only[aB];omega) (fun x hx=>by cases hx) .clip [] (.inl ⟨rfl,rfl,rfl⟩);refine⟨⟨nv,v1,v5,v6,U,es.take v4,rs'⟩,j',⟨by show nv.length<=100;omega,by show(es.take v4).length<=8;rw[aj];omega,q1,fun x hx=>hb.e x (bM hx),fun x hx=>(q2 x hx).1,i6 hnB (by show(0:Int)<=v5;omega) (by show(v5:Int)<=v1;omega) (by show(v1:Int)<=1000000;omega) (by show(0:Int)<=v6;omega) (by show(v6:Int)<U;omega) (by show(U:Int)<=1099511627776;omega) (by show(es.take v4).length<=16;rw[aj];omega) q1 (fun x hx=>ho1 x (bM hx)) (eD.sublist (List.take_sublist _ _) ho2) (fun x hx=>(q2 x hx).2)⟩, ?_⟩;rw[ao xas];rcases q3 with⟨rfl,rfl,rfl⟩|⟨rfl,rfl⟩
   ·simp only[aR,mZ,Man.sv,bT,bn]at g1 g2 g3 g5 g6 g7 g8 g9 q4 gd g4 ⊢
    simp only[go_sem,Q0,Q1,Q2,Q3,Q4,Q5,Q6,Q7,Q8,Q9,Qa,Qb,Qc,Qd,Qe,Qf,Qg,Qh,Qi,Qj,Qk,reduceCtorEq,reduceIte,g1,g2,g3,g5,g6,g7,g8,g9,fH,gv,pJ,h2,h2i,dt,hve,gd,Dh,n3,e5,p8',<-hU,q4,g4,e4,hel,l4,l4i,tA]
   ·simp only[aR,mZ,Man.sv,bT,bn]at g1 g2 g3 g5 g6 g7 g8 g9 q4 gd g4 ⊢
    simp only[go_sem,Q0,Q1,Q2,Q3,Q4,Q5,Q6,Q7,Q8,Q9,Qa,Qb,Qc,Qd,Qe,Qf,Qg,Qh,Qi,Qj,Qk,reduceCtorEq,reduceIte,g1,g2,g3,g5,g6,g7,g8,g9,fH,gv,pJ,h2,h2i,dt,hve,gd,Dh,n3,e5,p8',<-hU,q4,g4,e4,hel,l4,l4i,tA]
 ·have n3:¬(v3:Int)=1:=by omega
  obtain⟨v5,j5,h5,g5⟩:=fM B hB j3 (v1+1) (by omega);have e5:=cg v1 (by omega);obtain⟨v6,j6,h6,g6⟩:=fM B hB j5 12 (by omega);rw[c12]at g6;obtain⟨v7,j7,h7,g7⟩:=fM B hB j6 30 (by omega);rw[c30]at g7;obtain⟨v8,j8,h8,g8⟩:=fM B hB j7 2 (by omega);rw[c2]at g8;obtain⟨v9,j9,h9,g9⟩:=fM B hB j8 4 (by omega);rw[cz4]at g9;have hUv:ac.wrap (ac.wrap ((v6:Int)+1)+(v7:Int))=(v6:Int)+1+v7:=by rw[w64 (n:=(v6:Int)+1) (by omega) (by omega),w64 (by omega) (by omega)]
  obtain⟨U,hU⟩:∃U,U=ac.wrap (ac.wrap ((v6:Int)+1)+(v7:Int)):=⟨_,rfl⟩;have hU2:U=(v6:Int)+1+v7:=hU.trans hUv
  by_cases p8:v8=0
  ·have p8':(v8:Int)=0:=by omega
   obtain⟨rs',t',tk',j',q1,q2,q3,q4⟩:=l41 B hB nv (v1:Int) (v5:Int) (v6:Int) 1099511627776 (bD es) v9 [] j9 (by simp only[aB];omega) (fun x hx=>by cases hx) .clip [] (.inl ⟨rfl,rfl,rfl⟩);refine⟨⟨nv,v1,v5,v6,1099511627776,es,rs'⟩,j',⟨by show nv.length<=100;omega,hbl,q1,hb.e,fun x hx=>(q2 x hx).1,i6 hnB (by show(0:Int)<=v5;omega) (by show(v5:Int)<=v1;omega) (by show(v1:Int)<=1000000;omega) (by show(0:Int)<=v6;omega) (by show(v6:Int)<1099511627776;omega) (by show(1099511627776:Int)<=1099511627776;omega) (by show es.length<=16;omega) q1 (ho1) (ho2) (fun x hx=>(q2 x hx).2)⟩, ?_⟩;rw[ao xas];rcases q3 with⟨rfl,rfl,rfl⟩|⟨rfl,rfl⟩
   ·simp only[aR,mZ,Man.sv,bT,bn]at g1 g2 g3 g5 g6 g7 g8 g9 q4 gd ⊢
    simp only[go_sem,Q0,Q1,Q2,Q3,Q4,Q5,Q6,Q7,Q8,Q9,Qa,Qb,Qc,Qd,Qe,Qf,Qg,Qh,Qi,Qj,Qk,reduceCtorEq,reduceIte,g1,g2,g3,g5,g6,g7,g8,g9,fH,gv,pJ,h2,h2i,dt,hve,gd,Dh,n3,e5,p8',<-hU,q4]
   ·simp only[aR,mZ,Man.sv,bT,bn]at g1 g2 g3 g5 g6 g7 g8 g9 q4 gd ⊢
    simp only[go_sem,Q0,Q1,Q2,Q3,Q4,Q5,Q6,Q7,Q8,Q9,Qa,Qb,Qc,Qd,Qe,Qf,Qg,Qh,Qi,Qj,Qk,reduceCtorEq,reduceIte,g1,g2,g3,g5,g6,g7,g8,g9,fH,gv,pJ,h2,h2i,dt,hve,gd,Dh,n3,e5,p8',<-hU,q4]
  ·have p8':¬(v8:Int)=0:=by omega
   obtain⟨rs',t',tk',j',q1,q2,q3,q4⟩:=l41 B hB nv (v1:Int) (v5:Int) (v6:Int) U (bD es) v9 [] j9 (by simp only[aB];omega) (fun x hx=>by cases hx) .clip [] (.inl ⟨rfl,rfl,rfl⟩);refine⟨⟨nv,v1,v5,v6,U,es,rs'⟩,j',⟨by show nv.length<=100;omega,hbl,q1,hb.e,fun x hx=>(q2 x hx).1,i6 hnB (by show(0:Int)<=v5;omega) (by show(v5:Int)<=v1;omega) (by show(v1:Int)<=1000000;omega) (by show(0:Int)<=v6;omega) (by show(v6:Int)<U;omega) (by show(U:Int)<=1099511627776;omega) (by show es.length<=16;omega) q1 (ho1) (ho2) (fun x hx=>(q2 x hx).2)⟩, ?_⟩;rw[ao xas];rcases q3 with⟨rfl,rfl,rfl⟩|⟨rfl,rfl⟩
   ·simp only[aR,mZ,Man.sv,bT,bn]at g1 g2 g3 g5 g6 g7 g8 g9 q4 gd ⊢
    simp only[go_sem,Q0,Q1,Q2,Q3,Q4,Q5,Q6,Q7,Q8,Q9,Qa,Qb,Qc,Qd,Qe,Qf,Qg,Qh,Qi,Qj,Qk,reduceCtorEq,reduceIte,g1,g2,g3,g5,g6,g7,g8,g9,fH,gv,pJ,h2,h2i,dt,hve,gd,Dh,n3,e5,p8',<-hU,q4]
   ·simp only[aR,mZ,Man.sv,bT,bn]at g1 g2 g3 g5 g6 g7 g8 g9 q4 gd ⊢
    simp only[go_sem,Q0,Q1,Q2,Q3,Q4,Q5,Q6,Q7,Q8,Q9,Qa,Qb,Qc,Qd,Qe,Qf,Qg,Qh,Qi,Qj,Qk,reduceCtorEq,reduceIte,g1,g2,g3,g5,g6,g7,g8,g9,fH,gv,pJ,h2,h2i,dt,hve,gd,Dh,n3,e5,p8',<-hU,q4]
end
theorem pz{α:Type}{P:α->Prop}{l r:List α}(h:∀e,e∈l->P e)(hr:∀e,e∈r->P e):∀e,e∈l++r->P e:=by
 intro e he;rcases al.mp he with h1|h1
 ·exact h e h1
 ·exact hr e h1
theorem xfg(x:Img)(a:Int):((tx (gk x) a).getD 0 []).length<=1000/\((tx (gk x) a).getD 1 []).length<=1000:=by
 have e1:=vi (gk x);have e2:=jw (gk x);unfold tx;split
 ·exact⟨bU _,bU _⟩
 ·constructor
  ·rw[bL]
   split
   ·omega
   ·exact bU _
  ·rw[bY,bL]
   split
   ·omega
   ·exact bU _
theorem ZS{x:Img}(a:Int)(h:fv x=0):EvS (ofI x a):=by obtain⟨q1,q2,q3,q4,q5,q6⟩:=lm h;have hn:=iV q5;obtain⟨v,hv⟩:=Int.eq_ofNat_of_zero_le q3;have hl:=kB 6 v (by omega);obtain⟨h0,h1⟩:=xfg x a;refine⟨G7 _ _, ?_,h0,h1⟩;show(rQ x.name x.ver).length<=1000;unfold rQ;rw[hv,af,aC];show x.name.length+((dec v).length+1)<=1000;omega
theorem xe5{x:Img}(a role:Int)(h:fv x=0):∀e,e∈jV a role x->EvS e:=by
 intro e he;obtain⟨q1,q2,q3,q4,q5,q6⟩:=lm h;unfold jV at he;split at he
 ·split at he
  ·obtain⟨y,hy,rfl⟩:=aV.1 he
   have:=(m5 x.pay).2 y hy;exact mi _ _ _ _ (by omega)
  ·rw[ba.1 he];exact ZS a h
 ·cases he
theorem Hv(a:Int):∀n i e,e∈sM a i n->EvS e
 |0,i,e,he=>by cases he
 |n+1,i,e,he=>by
  rw[sM]at he;rcases an.1 he with rfl|he
  ·exact mi _ _ _ _ (by decide)
  ·exact Hv a n _ e he
theorem xlR{l:List Img}{x:Img}(h:x∈l)(hc:∀i,i<l.length->fv (l.getD i im0)=0):fv x=0:=by obtain⟨i,hi,rfl⟩:=cf h;have:=hc i hi;rwa[aa,ab hi]at this
theorem xis{l:List Img}(hc:eO l)(a:Int):∀e,e∈evF l a->EvS e:=by
 have hf:∀role e,e∈l.flatMap (jV a role)->EvS e:=by intro role e he;obtain⟨x,hx,h⟩:=List.mem_flatMap.1 he;exact xe5 a role (xlR hx hc.ok) e h
 unfold evF;exact pz (hf 1) (pz (hf 2) (pz (Hv a 8 0) (pz (hf 3) (hf 4))))
theorem Tb{l:List Img}(hc:eO l)(a:Int):8<=(evF l a).length/\(evF l a).length<=150:=by have n8:=hc.n8;have b1:=io l a 1;have b2:=io l a 2;have b3:=io l a 3;have b4:=io l a 4;have b0:=pO a 8 0;unfold evF;simp only[af];omega
end Go.Proofs.YtkcjdeofknkndaaGreatDoor
