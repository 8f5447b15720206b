/- What the functions come to. No condition. -/
import Derived.Test.YtkcjdeofknkndaaGreatDoorTmZ2
open Go.IntKind renaming i64 -> af
open List renaming append_assoc -> ay, cons_append -> aH, length_append -> ac, length_drop -> aK, length_pos_iff -> bT, length_set -> bI, length_singleton -> aS, length_take -> aj, map_append -> bU, map_take -> dU, mem_append -> al, mem_of_mem_drop -> lv, mem_of_mem_take -> bF, mem_singleton -> ba, nil_append -> aF, take_of_length_le -> aw
open Nat renaming le_refl -> aO
set_option maxRecDepth 100000
set_option maxHeartbeats 16000000
set_option linter.unusedSimpArgs false
set_option linter.unusedVariables false
namespace Go.Proofs.YtkcjdeofknkndaaGreatDoor
open Go.Sy
open UInt8 renaming reduceLT -> Q0, reduceLE -> Q1
open Int renaming reduceToNat -> Q2, reduceLE -> Q3, reduceLT -> Q4, reduceEq -> Q5, reduceNe -> Q6, reduceNeg -> Q7, reduceAdd -> Q8, reduceSub -> Q9, reduceMul -> Qa
open Nat renaming reducePow -> Qb, reduceDiv -> Qc, reduceMod -> Qd, reduceAdd -> Qe, reduceSub -> Qf, reduceMul -> Qg, reduceLT -> Qh, reduceLeDiff -> Qi, reduceEqDiff -> Qj, reduceBEq -> Qk
theorem mi(l:List Ent)(i:Nat)(y:Ent):(bf l).set i y.sv=bf (l.set i y):=by unfold bf;rw[List.map_set]
def jT(raw:Man)(codes chain:List UInt8)(which at' n:Int):Prop:=
 call T 3 [.agg raw.sv,.byt codes .no,.byt chain .no,.int .i64 which,.int .i64 at',.int .i64 n] [] 0=some ⟨.bool true,[],[]⟩
theorem xkM(raw w m:Man)(codes chain:List UInt8)(which at' n:Int)(a0: -9223372036854775808<=at')(a1:at'<=9223372036854775807)(n0: -9223372036854775808<=n)(n1:n<=9223372036854775807)
 (ga:call T 10 [] [] 0=some ⟨.bool true,[],[]⟩) (gf:call T 11 [.agg raw.sv] [] 0=some ⟨.agg w.sv,[],[]⟩) (gm:call T 12 [.byt codes .no,.byt chain .no] [] 0=some ⟨.agg m.sv,[],[]⟩)
 (bw:cQ w) (bm:cQ m) (h0:dn m=0) (h8:m.ents.length<=8) (gw:call T 15 [.int .i64 which,.int .i64 11] [] 0=some ⟨.int .i64 0,[],[]⟩):jT raw codes chain which at' n:=by
 have g1:=f13 w bw;have g2:=f14 w bw;have g3:=f13 m bm;rw[h0]at g3;unfold jT;have hEl:=aQ m.ents;have k1:=f13 (⟨w.vendor,m.ver,m.flr,m.frm,m.til,m.ents,m.ruls⟩:Man) ⟨bw.v,bm.en,bm.rn,bm.e,bm.r⟩;have k2:=f14 (⟨w.vendor,m.ver,m.flr,m.frm,m.til,m.ents,m.ruls⟩:Man) ⟨bw.v,bm.en,bm.rn,bm.e,bm.r⟩;generalize dn (⟨w.vendor,m.ver,m.flr,m.frm,m.til,m.ents,m.ruls⟩:Man)=q at*;generalize dn w=p at*;have gz:=f15 at' 0 a0 a1 (by decide);have gp:=f15 at' (m.ents.length:Int) a0 a1 (by omega);have mz:eY at' 0=0:=rfl;rw[mz]at gz;generalize eY at' (m.ents.length:Int)=kk at*;clear bw bm h0;obtain⟨v,b1,b2,b3,b4,es,rs⟩:=m;obtain⟨v',c1,c2,c3,c4,es',rs'⟩:=w;obtain⟨v'',d1,d2,d3,d4,es'',rs''⟩:=raw;simp only[Man.sv]at*;rw[ao T_3]
 by_cases hz:es=[]
 ·subst hz
  have z0:bf ([]:List Ent)=[]:=rfl;simp only[z0]at gm g3 k1 k2;simp only[go_sem,Q0,Q1,Q2,Q3,Q4,Q5,Q6,Q7,Q8,Q9,Qa,Qb,Qc,Qd,Qe,Qf,Qg,Qh,Qi,Qj,Qk,reduceCtorEq,reduceIte,z0,ga,jz,gf,jy,gm,jx,g1,fD,g2,jp,g3,gz,jU,gw,k1,k2]
 ·have hp:0<es.length:=bT.2 hz
  have ez:¬bf es=[]:=fun e=>by rw[e]at hEl;exact absurd hEl (by simp;omega)
  have eb:(0+es.length)*56<=140737488355328:=by omega
  have eb':es.length*56<=140737488355328:=by omega
  simp only[go_sem,Q0,Q1,Q2,Q3,Q4,Q5,Q6,Q7,Q8,Q9,Qa,Qb,Qc,Qd,Qe,Qf,Qg,Qh,Qi,Qj,Qk,reduceCtorEq,reduceIte,ga,jz,gf,jy,gm,jx,g1,fD,g2,jp,g3,gp,jU,gw,hEl,ez,eb,eb',k1,k2]
theorem xkL(raw w m:Man)(codes chain:List UInt8)(which at' n:Int)(a0: -9223372036854775808<=at')(a1:at'<=9223372036854775807)(n0: -9223372036854775808<=n)(n1:n<=9223372036854775807)
 (ga:call T 10 [] [] 0=some ⟨.bool true,[],[]⟩) (gf:call T 11 [.agg raw.sv] [] 0=some ⟨.agg w.sv,[],[]⟩) (gm:call T 12 [.byt codes .no,.byt chain .no] [] 0=some ⟨.agg m.sv,[],[]⟩)
 (bw:cQ w) (bm:cQ m) (h0:dn m=0) (h8:m.ents.length<=8) (gw:call T 15 [.int .i64 which,.int .i64 11] [] 0=some ⟨.int .i64 1,[],[]⟩):jT raw codes chain which at' n:=by
 have g1:=f13 w bw;have g2:=f14 w bw;have g3:=f13 m bm;rw[h0]at g3;unfold jT;have hEl:=aQ m.ents;have k1:=f13 (⟨m.vendor,n,m.flr,m.frm,m.til,m.ents,m.ruls⟩:Man) ⟨bm.v,bm.en,bm.rn,bm.e,bm.r⟩;have k2:=f14 (⟨m.vendor,n,m.flr,m.frm,m.til,m.ents,m.ruls⟩:Man) ⟨bm.v,bm.en,bm.rn,bm.e,bm.r⟩;generalize dn (⟨m.vendor,n,m.flr,m.frm,m.til,m.ents,m.ruls⟩:Man)=q at*;generalize dn w=p at*;have gz:=f15 at' 0 a0 a1 (by decide);have gp:=f15 at' (m.ents.length:Int) a0 a1 (by omega);have mz:eY at' 0=0:=rfl;rw[mz]at gz;generalize eY at' (m.ents.length:Int)=kk at*;clear bw bm h0;obtain⟨v,b1,b2,b3,b4,es,rs⟩:=m;obtain⟨v',c1,c2,c3,c4,es',rs'⟩:=w;obtain⟨v'',d1,d2,d3,d4,es'',rs''⟩:=raw;simp only[Man.sv]at*;rw[ao T_3]
 by_cases hz:es=[]
 ·subst hz
  have z0:bf ([]:List Ent)=[]:=rfl;simp only[z0]at gm g3 k1 k2;simp only[go_sem,Q0,Q1,Q2,Q3,Q4,Q5,Q6,Q7,Q8,Q9,Qa,Qb,Qc,Qd,Qe,Qf,Qg,Qh,Qi,Qj,Qk,reduceCtorEq,reduceIte,z0,ga,jz,gf,jy,gm,jx,g1,fD,g2,jp,g3,gz,jU,gw,k1,k2]
 ·have hp:0<es.length:=bT.2 hz
  have ez:¬bf es=[]:=fun e=>by rw[e]at hEl;exact absurd hEl (by simp;omega)
  have eb:(0+es.length)*56<=140737488355328:=by omega
  have eb':es.length*56<=140737488355328:=by omega
  simp only[go_sem,Q0,Q1,Q2,Q3,Q4,Q5,Q6,Q7,Q8,Q9,Qa,Qb,Qc,Qd,Qe,Qf,Qg,Qh,Qi,Qj,Qk,reduceCtorEq,reduceIte,ga,jz,gf,jy,gm,jx,g1,fD,g2,jp,g3,gp,jU,gw,hEl,ez,eb,eb',k1,k2]
theorem xkK(raw w m:Man)(codes chain:List UInt8)(which at' n:Int)(a0: -9223372036854775808<=at')(a1:at'<=9223372036854775807)(n0: -9223372036854775808<=n)(n1:n<=9223372036854775807)
 (ga:call T 10 [] [] 0=some ⟨.bool true,[],[]⟩) (gf:call T 11 [.agg raw.sv] [] 0=some ⟨.agg w.sv,[],[]⟩) (gm:call T 12 [.byt codes .no,.byt chain .no] [] 0=some ⟨.agg m.sv,[],[]⟩)
 (bw:cQ w) (bm:cQ m) (h0:dn m=0) (h8:m.ents.length<=8) (gw:call T 15 [.int .i64 which,.int .i64 11] [] 0=some ⟨.int .i64 2,[],[]⟩):jT raw codes chain which at' n:=by
 have g1:=f13 w bw;have g2:=f14 w bw;have g3:=f13 m bm;rw[h0]at g3;unfold jT;have hEl:=aQ m.ents;have gn:=f15 n 8 n0 n1 (by decide);have rn:=pA n 8 (by decide);have wn:af.wrap (eY n 8-1)=eY n 8-1:=w64 (by omega) (by omega);have k1:=f13 (⟨m.vendor,m.ver,eY n 8-1,m.frm,m.til,m.ents,m.ruls⟩:Man) ⟨bm.v,bm.en,bm.rn,bm.e,bm.r⟩;have k2:=f14 (⟨m.vendor,m.ver,eY n 8-1,m.frm,m.til,m.ents,m.ruls⟩:Man) ⟨bm.v,bm.en,bm.rn,bm.e,bm.r⟩;generalize dn (⟨m.vendor,m.ver,eY n 8-1,m.frm,m.til,m.ents,m.ruls⟩:Man)=q at*;generalize dn w=p at*;have gz:=f15 at' 0 a0 a1 (by decide);have gp:=f15 at' (m.ents.length:Int) a0 a1 (by omega);have mz:eY at' 0=0:=rfl;rw[mz]at gz;generalize eY at' (m.ents.length:Int)=kk at*;clear bw bm h0;obtain⟨v,b1,b2,b3,b4,es,rs⟩:=m;obtain⟨v',c1,c2,c3,c4,es',rs'⟩:=w;obtain⟨v'',d1,d2,d3,d4,es'',rs''⟩:=raw;simp only[Man.sv]at*;rw[ao T_3]
 by_cases hz:es=[]
 ·subst hz
  have z0:bf ([]:List Ent)=[]:=rfl;simp only[z0]at gm g3 k1 k2;simp only[go_sem,Q0,Q1,Q2,Q3,Q4,Q5,Q6,Q7,Q8,Q9,Qa,Qb,Qc,Qd,Qe,Qf,Qg,Qh,Qi,Qj,Qk,reduceCtorEq,reduceIte,z0,ga,jz,gf,jy,gm,jx,g1,fD,g2,jp,g3,gz,jU,gw,gn,wn,k1,k2]
 ·have hp:0<es.length:=bT.2 hz
  have ez:¬bf es=[]:=fun e=>by rw[e]at hEl;exact absurd hEl (by simp;omega)
  have eb:(0+es.length)*56<=140737488355328:=by omega
  have eb':es.length*56<=140737488355328:=by omega
  simp only[go_sem,Q0,Q1,Q2,Q3,Q4,Q5,Q6,Q7,Q8,Q9,Qa,Qb,Qc,Qd,Qe,Qf,Qg,Qh,Qi,Qj,Qk,reduceCtorEq,reduceIte,ga,jz,gf,jy,gm,jx,g1,fD,g2,jp,g3,gp,jU,gw,hEl,ez,eb,eb',gn,wn,k1,k2]
theorem xkJ(raw w m:Man)(codes chain:List UInt8)(which at' n:Int)(a0: -9223372036854775808<=at')(a1:at'<=9223372036854775807)(n0: -9223372036854775808<=n)(n1:n<=9223372036854775807)
 (ga:call T 10 [] [] 0=some ⟨.bool true,[],[]⟩) (gf:call T 11 [.agg raw.sv] [] 0=some ⟨.agg w.sv,[],[]⟩) (gm:call T 12 [.byt codes .no,.byt chain .no] [] 0=some ⟨.agg m.sv,[],[]⟩)
 (bw:cQ w) (bm:cQ m) (h0:dn m=0) (h8:m.ents.length<=8) (gw:call T 15 [.int .i64 which,.int .i64 11] [] 0=some ⟨.int .i64 3,[],[]⟩):jT raw codes chain which at' n:=by
 have g1:=f13 w bw;have g2:=f14 w bw;have g3:=f13 m bm;rw[h0]at g3;unfold jT;have hEl:=aQ m.ents;have gn:=f15 n 50 n0 n1 (by decide);have rn:=pA n 50 (by decide);have wn:af.wrap (eY n 50-1)=eY n 50-1:=w64 (by omega) (by omega);have k1:=f13 (⟨m.vendor,m.ver,m.flr,eY n 50-1,m.til,m.ents,m.ruls⟩:Man) ⟨bm.v,bm.en,bm.rn,bm.e,bm.r⟩;have k2:=f14 (⟨m.vendor,m.ver,m.flr,eY n 50-1,m.til,m.ents,m.ruls⟩:Man) ⟨bm.v,bm.en,bm.rn,bm.e,bm.r⟩;generalize dn (⟨m.vendor,m.ver,m.flr,eY n 50-1,m.til,m.ents,m.ruls⟩:Man)=q at*;generalize dn w=p at*;have gz:=f15 at' 0 a0 a1 (by decide);have gp:=f15 at' (m.ents.length:Int) a0 a1 (by omega);have mz:eY at' 0=0:=rfl;rw[mz]at gz;generalize eY at' (m.ents.length:Int)=kk at*;clear bw bm h0;obtain⟨v,b1,b2,b3,b4,es,rs⟩:=m;obtain⟨v',c1,c2,c3,c4,es',rs'⟩:=w;obtain⟨v'',d1,d2,d3,d4,es'',rs''⟩:=raw;simp only[Man.sv]at*;rw[ao T_3]
 by_cases hz:es=[]
 ·subst hz
  have z0:bf ([]:List Ent)=[]:=rfl;simp only[z0]at gm g3 k1 k2;simp only[go_sem,Q0,Q1,Q2,Q3,Q4,Q5,Q6,Q7,Q8,Q9,Qa,Qb,Qc,Qd,Qe,Qf,Qg,Qh,Qi,Qj,Qk,reduceCtorEq,reduceIte,z0,ga,jz,gf,jy,gm,jx,g1,fD,g2,jp,g3,gz,jU,gw,gn,wn,k1,k2]
 ·have hp:0<es.length:=bT.2 hz
  have ez:¬bf es=[]:=fun e=>by rw[e]at hEl;exact absurd hEl (by simp;omega)
  have eb:(0+es.length)*56<=140737488355328:=by omega
  have eb':es.length*56<=140737488355328:=by omega
  simp only[go_sem,Q0,Q1,Q2,Q3,Q4,Q5,Q6,Q7,Q8,Q9,Qa,Qb,Qc,Qd,Qe,Qf,Qg,Qh,Qi,Qj,Qk,reduceCtorEq,reduceIte,ga,jz,gf,jy,gm,jx,g1,fD,g2,jp,g3,gp,jU,gw,hEl,ez,eb,eb',gn,wn,k1,k2]
theorem xkI(raw w m:Man)(codes chain:List UInt8)(which at' n:Int)(a0: -9223372036854775808<=at')(a1:at'<=9223372036854775807)(n0: -9223372036854775808<=n)(n1:n<=9223372036854775807)
 (ga:call T 10 [] [] 0=some ⟨.bool true,[],[]⟩) (gf:call T 11 [.agg raw.sv] [] 0=some ⟨.agg w.sv,[],[]⟩) (gm:call T 12 [.byt codes .no,.byt chain .no] [] 0=some ⟨.agg m.sv,[],[]⟩)
 (bw:cQ w) (bm:cQ m) (h0:dn m=0) (h8:m.ents.length<=8) (gw:call T 15 [.int .i64 which,.int .i64 11] [] 0=some ⟨.int .i64 4,[],[]⟩):jT raw codes chain which at' n:=by
 have g1:=f13 w bw;have g2:=f14 w bw;have g3:=f13 m bm;rw[h0]at g3;unfold jT;have hEl:=aQ m.ents;have k1:=f13 (⟨m.vendor,m.ver,m.flr,m.frm,n,m.ents,m.ruls⟩:Man) ⟨bm.v,bm.en,bm.rn,bm.e,bm.r⟩;have k2:=f14 (⟨m.vendor,m.ver,m.flr,m.frm,n,m.ents,m.ruls⟩:Man) ⟨bm.v,bm.en,bm.rn,bm.e,bm.r⟩;generalize dn (⟨m.vendor,m.ver,m.flr,m.frm,n,m.ents,m.ruls⟩:Man)=q at*;generalize dn w=p at*;have gz:=f15 at' 0 a0 a1 (by decide);have gp:=f15 at' (m.ents.length:Int) a0 a1 (by omega);have mz:eY at' 0=0:=rfl;rw[mz]at gz;generalize eY at' (m.ents.length:Int)=kk at*;clear bw bm h0;obtain⟨v,b1,b2,b3,b4,es,rs⟩:=m;obtain⟨v',c1,c2,c3,c4,es',rs'⟩:=w;obtain⟨v'',d1,d2,d3,d4,es'',rs''⟩:=raw;simp only[Man.sv]at*;rw[ao T_3]
 by_cases hz:es=[]
 ·subst hz
  have z0:bf ([]:List Ent)=[]:=rfl;simp only[z0]at gm g3 k1 k2;simp only[go_sem,Q0,Q1,Q2,Q3,Q4,Q5,Q6,Q7,Q8,Q9,Qa,Qb,Qc,Qd,Qe,Qf,Qg,Qh,Qi,Qj,Qk,reduceCtorEq,reduceIte,z0,ga,jz,gf,jy,gm,jx,g1,fD,g2,jp,g3,gz,jU,gw,k1,k2]
 ·have hp:0<es.length:=bT.2 hz
  have ez:¬bf es=[]:=fun e=>by rw[e]at hEl;exact absurd hEl (by simp;omega)
  have eb:(0+es.length)*56<=140737488355328:=by omega
  have eb':es.length*56<=140737488355328:=by omega
  simp only[go_sem,Q0,Q1,Q2,Q3,Q4,Q5,Q6,Q7,Q8,Q9,Qa,Qb,Qc,Qd,Qe,Qf,Qg,Qh,Qi,Qj,Qk,reduceCtorEq,reduceIte,ga,jz,gf,jy,gm,jx,g1,fD,g2,jp,g3,gp,jU,gw,hEl,ez,eb,eb',k1,k2]
theorem xkH(raw w m:Man)(codes chain:List UInt8)(which at' n:Int)(a0: -9223372036854775808<=at')(a1:at'<=9223372036854775807)(n0: -9223372036854775808<=n)(n1:n<=9223372036854775807)
 (ga:call T 10 [] [] 0=some ⟨.bool true,[],[]⟩) (gf:call T 11 [.agg raw.sv] [] 0=some ⟨.agg w.sv,[],[]⟩) (gm:call T 12 [.byt codes .no,.byt chain .no] [] 0=some ⟨.agg m.sv,[],[]⟩)
 (bw:cQ w) (bm:cQ m) (h0:dn m=0) (h8:m.ents.length<=8) (gw:call T 15 [.int .i64 which,.int .i64 11] [] 0=some ⟨.int .i64 5,[],[]⟩):jT raw codes chain which at' n:=by
 have g1:=f13 w bw;have g2:=f14 w bw;have g3:=f13 m bm;rw[h0]at g3;unfold jT;have hEl:=aQ m.ents;have k1:=f13 (⟨m.vendor,m.ver,m.flr,m.frm,m.til,m.ents,w.ruls⟩:Man) ⟨bm.v,bm.en,bw.rn,bm.e,bw.r⟩;have k2:=f14 (⟨m.vendor,m.ver,m.flr,m.frm,m.til,m.ents,w.ruls⟩:Man) ⟨bm.v,bm.en,bw.rn,bm.e,bw.r⟩;generalize dn (⟨m.vendor,m.ver,m.flr,m.frm,m.til,m.ents,w.ruls⟩:Man)=q at*;generalize dn w=p at*;have gz:=f15 at' 0 a0 a1 (by decide);have gp:=f15 at' (m.ents.length:Int) a0 a1 (by omega);have mz:eY at' 0=0:=rfl;rw[mz]at gz;generalize eY at' (m.ents.length:Int)=kk at*;clear bw bm h0;obtain⟨v,b1,b2,b3,b4,es,rs⟩:=m;obtain⟨v',c1,c2,c3,c4,es',rs'⟩:=w;obtain⟨v'',d1,d2,d3,d4,es'',rs''⟩:=raw;simp only[Man.sv]at*;rw[ao T_3]
 by_cases hz:es=[]
 ·subst hz
  have z0:bf ([]:List Ent)=[]:=rfl;simp only[z0]at gm g3 k1 k2;simp only[go_sem,Q0,Q1,Q2,Q3,Q4,Q5,Q6,Q7,Q8,Q9,Qa,Qb,Qc,Qd,Qe,Qf,Qg,Qh,Qi,Qj,Qk,reduceCtorEq,reduceIte,z0,ga,jz,gf,jy,gm,jx,g1,fD,g2,jp,g3,gz,jU,gw,k1,k2]
 ·have hp:0<es.length:=bT.2 hz
  have ez:¬bf es=[]:=fun e=>by rw[e]at hEl;exact absurd hEl (by simp;omega)
  have eb:(0+es.length)*56<=140737488355328:=by omega
  have eb':es.length*56<=140737488355328:=by omega
  simp only[go_sem,Q0,Q1,Q2,Q3,Q4,Q5,Q6,Q7,Q8,Q9,Qa,Qb,Qc,Qd,Qe,Qf,Qg,Qh,Qi,Qj,Qk,reduceCtorEq,reduceIte,ga,jz,gf,jy,gm,jx,g1,fD,g2,jp,g3,gp,jU,gw,hEl,ez,eb,eb',k1,k2]
theorem xkG(raw w m:Man)(codes chain:List UInt8)(which at' n:Int)(a0: -9223372036854775808<=at')(a1:at'<=9223372036854775807)(n0: -9223372036854775808<=n)(n1:n<=9223372036854775807)
 (ga:call T 10 [] [] 0=some ⟨.bool true,[],[]⟩) (gf:call T 11 [.agg raw.sv] [] 0=some ⟨.agg w.sv,[],[]⟩) (gm:call T 12 [.byt codes .no,.byt chain .no] [] 0=some ⟨.agg m.sv,[],[]⟩)
 (bw:cQ w) (bm:cQ m) (h0:dn m=0) (h8:m.ents.length<=8) (gw:call T 15 [.int .i64 which,.int .i64 11] [] 0=some ⟨.int .i64 6,[],[]⟩):jT raw codes chain which at' n:=by
 have g1:=f13 w bw;have g2:=f14 w bw;have g3:=f13 m bm;rw[h0]at g3;unfold jT;have hEl:=aQ m.ents;have k1:=f13 (⟨m.vendor,m.ver,m.flr,m.frm,m.til,w.ents,m.ruls⟩:Man) ⟨bm.v,bw.en,bm.rn,bw.e,bm.r⟩;have k2:=f14 (⟨m.vendor,m.ver,m.flr,m.frm,m.til,w.ents,m.ruls⟩:Man) ⟨bm.v,bw.en,bm.rn,bw.e,bm.r⟩;generalize dn (⟨m.vendor,m.ver,m.flr,m.frm,m.til,w.ents,m.ruls⟩:Man)=q at*;generalize dn w=p at*;have gz:=f15 at' 0 a0 a1 (by decide);have gp:=f15 at' (m.ents.length:Int) a0 a1 (by omega);have mz:eY at' 0=0:=rfl;rw[mz]at gz;generalize eY at' (m.ents.length:Int)=kk at*;clear bw bm h0;obtain⟨v,b1,b2,b3,b4,es,rs⟩:=m;obtain⟨v',c1,c2,c3,c4,es',rs'⟩:=w;obtain⟨v'',d1,d2,d3,d4,es'',rs''⟩:=raw;simp only[Man.sv]at*;rw[ao T_3]
 by_cases hz:es=[]
 ·subst hz
  have z0:bf ([]:List Ent)=[]:=rfl;simp only[z0]at gm g3 k1 k2;simp only[go_sem,Q0,Q1,Q2,Q3,Q4,Q5,Q6,Q7,Q8,Q9,Qa,Qb,Qc,Qd,Qe,Qf,Qg,Qh,Qi,Qj,Qk,reduceCtorEq,reduceIte,z0,ga,jz,gf,jy,gm,jx,g1,fD,g2,jp,g3,gz,jU,gw,k1,k2]
 ·have hp:0<es.length:=bT.2 hz
  have ez:¬bf es=[]:=fun e=>by rw[e]at hEl;exact absurd hEl (by simp;omega)
  have eb:(0+es.length)*56<=140737488355328:=by omega
  have eb':es.length*56<=140737488355328:=by omega
  simp only[go_sem,Q0,Q1,Q2,Q3,Q4,Q5,Q6,Q7,Q8,Q9,Qa,Qb,Qc,Qd,Qe,Qf,Qg,Qh,Qi,Qj,Qk,reduceCtorEq,reduceIte,ga,jz,gf,jy,gm,jx,g1,fD,g2,jp,g3,gp,jU,gw,hEl,ez,eb,eb',k1,k2]
theorem NQ{m:Man}(bm:cQ m)(k:Nat)(hk:k<m.ents.length)(y:Ent)(h1:y.name=(m.ents.getD k en0).name)(h2:y.dig=(m.ents.getD k en0).dig):cQ ⟨m.vendor,m.ver,m.flr,m.frm,m.til,m.ents.set k y,m.ruls⟩:=
 ⟨bm.v,by show(m.ents.set k y).length<=_;rw[bI];exact bm.en,bm.rn,fun x hx=>by
  rcases List.mem_or_eq_of_mem_set hx with h|rfl
  ·exact bm.e x h
  ·rw[h1,h2];exact bm.e _ (cC m.ents en0 k hk),bm.r⟩
theorem Cz{m:Man}(bm:cQ m)(l:List Ent)(hl:l.length<=100)(h:∀x∈l,x∈m.ents):cQ ⟨m.vendor,m.ver,m.flr,m.frm,m.til,l,m.ruls⟩:=
 ⟨bm.v,by show l.length<=_;omega,bm.rn,fun x hx=>bm.e x (h x hx),bm.r⟩
theorem sk{l:List Ent}{i j:Nat}{x:Ent}(hj:j<l.length)(h:x∈l.set i (l.getD j en0)):x∈l:=by
 rcases List.mem_or_eq_of_mem_set h with h|rfl
 ·exact h
 ·exact cC l en0 j hj
theorem xkF(raw w m:Man)(codes chain:List UInt8)(which at' n:Int)(a0: -9223372036854775808<=at')(a1:at'<=9223372036854775807)(n0: -9223372036854775808<=n)(n1:n<=9223372036854775807)
 (ga:call T 10 [] [] 0=some ⟨.bool true,[],[]⟩) (gf:call T 11 [.agg raw.sv] [] 0=some ⟨.agg w.sv,[],[]⟩) (gm:call T 12 [.byt codes .no,.byt chain .no] [] 0=some ⟨.agg m.sv,[],[]⟩)
 (bw:cQ w) (bm:cQ m) (h0:dn m=0) (h8:m.ents.length<=8) (gw:call T 15 [.int .i64 which,.int .i64 11] [] 0=some ⟨.int .i64 7,[],[]⟩):jT raw codes chain which at' n:=by
 have g1:=f13 w bw;have g2:=f14 w bw;have g3:=f13 m bm;rw[h0]at g3;unfold jT;have hEl:=aQ m.ents
 by_cases hz:m.ents=[]
 ·generalize dn w=p at*
  have gz:=f15 at' 0 a0 a1 (by decide);have mz:eY at' 0=0:=rfl;rw[mz]at gz;have gE:=f14 m bm;rw[h0]at gE;clear bw bm h0 hEl;obtain⟨v,b1,b2,b3,b4,es,rs⟩:=m;obtain⟨v',c1,c2,c3,c4,es',rs'⟩:=w;obtain⟨v'',d1,d2,d3,d4,es'',rs''⟩:=raw;simp only[Man.sv]at*;subst hz;have z0:bf ([]:List Ent)=[]:=rfl;simp only[z0]at gm g3 gE;rw[ao T_3];simp only[go_sem,Q0,Q1,Q2,Q3,Q4,Q5,Q6,Q7,Q8,Q9,Qa,Qb,Qc,Qd,Qe,Qf,Qg,Qh,Qi,Qj,Qk,reduceCtorEq,reduceIte,z0,ga,jz,gf,jy,gm,jx,g1,fD,g2,jp,g3,gE,gz,jU,gw]
 have hp:0<m.ents.length:=bT.2 hz;have gp:=f15 at' (m.ents.length:Int) a0 a1 (by omega);obtain⟨k,ek,hk⟩:=iV at' m.ents.length hp;rw[ek]at gp;have hx:=cS m.ents k hk;have ez:¬bf m.ents=[]:=fun e=>by rw[e]at hEl;exact absurd hEl (by simp;omega)
 have eb:(0+m.ents.length)*56<=140737488355328:=by omega
 have eb':m.ents.length*56<=140737488355328:=by omega
 have hpI:(0:Int)<(m.ents.length:Int):=by omega
 have gn:=f15 n 6 n0 n1 (by decide);have bs:=NQ bm k hk ⟨eY n 6,(m.ents.getD k en0).name,(m.ents.getD k en0).ver,(m.ents.getD k en0).dig⟩ rfl rfl;have k1:=f13 _ bs;have k2:=f14 _ bs;have hs:=mi m.ents k ⟨eY n 6,(m.ents.getD k en0).name,(m.ents.getD k en0).ver,(m.ents.getD k en0).dig⟩;have hsl:=aQ (m.ents.set k ⟨eY n 6,(m.ents.getD k en0).name,(m.ents.getD k en0).ver,(m.ents.getD k en0).dig⟩);have tS:(bf (m.ents.set k ⟨eY n 6,(m.ents.getD k en0).name,(m.ents.getD k en0).ver,(m.ents.getD k en0).dig⟩)).take m.ents.length=bf (m.ents.set k ⟨eY n 6,(m.ents.getD k en0).name,(m.ents.getD k en0).ver,(m.ents.getD k en0).dig⟩):=aw (by rw[aQ,bI];exact aO _);rw[bI]at hsl;clear bs bw bm h0 ek;generalize m.ents.getD k en0=x at*;obtain⟨xr,xn,xv,xd⟩:=x;obtain⟨v,b1',b2',b3',b4',es,rs⟩:=m;obtain⟨v',c1,c2,c3,c4,es',rs'⟩:=w;obtain⟨v'',d1,d2,d3,d4,es'',rs''⟩:=raw;generalize hq:dn _=q at k1;simp only[hq]at k2;clear hq;generalize dn _=p at g1 g2;simp only[Man.sv,Ent.sv,aH,aF,ay]at*;rw[ao T_3];simp only[go_sem,Q0,Q1,Q2,Q3,Q4,Q5,Q6,Q7,Q8,Q9,Qa,Qb,Qc,Qd,Qe,Qf,Qg,Qh,Qi,Qj,Qk,reduceCtorEq,reduceIte,ga,jz,gf,jy,gm,jx,g1,fD,g2,jp,g3,gp,jU,gw,hEl,ez,eb,eb',hx,hk,hp,hpI,gn,hs,hsl,tS,k1,k2]
theorem xkE(raw w m:Man)(codes chain:List UInt8)(which at' n:Int)(a0: -9223372036854775808<=at')(a1:at'<=9223372036854775807)(n0: -9223372036854775808<=n)(n1:n<=9223372036854775807)
 (ga:call T 10 [] [] 0=some ⟨.bool true,[],[]⟩) (gf:call T 11 [.agg raw.sv] [] 0=some ⟨.agg w.sv,[],[]⟩) (gm:call T 12 [.byt codes .no,.byt chain .no] [] 0=some ⟨.agg m.sv,[],[]⟩)
 (bw:cQ w) (bm:cQ m) (h0:dn m=0) (h8:m.ents.length<=8) (gw:call T 15 [.int .i64 which,.int .i64 11] [] 0=some ⟨.int .i64 8,[],[]⟩):jT raw codes chain which at' n:=by
 have g1:=f13 w bw;have g2:=f14 w bw;have g3:=f13 m bm;rw[h0]at g3;unfold jT;have hEl:=aQ m.ents
 by_cases hz:m.ents=[]
 ·generalize dn w=p at*
  have gz:=f15 at' 0 a0 a1 (by decide);have mz:eY at' 0=0:=rfl;rw[mz]at gz;have gE:=f14 m bm;rw[h0]at gE;clear bw bm h0 hEl;obtain⟨v,b1,b2,b3,b4,es,rs⟩:=m;obtain⟨v',c1,c2,c3,c4,es',rs'⟩:=w;obtain⟨v'',d1,d2,d3,d4,es'',rs''⟩:=raw;simp only[Man.sv]at*;subst hz;have z0:bf ([]:List Ent)=[]:=rfl;simp only[z0]at gm g3 gE;rw[ao T_3];simp only[go_sem,Q0,Q1,Q2,Q3,Q4,Q5,Q6,Q7,Q8,Q9,Qa,Qb,Qc,Qd,Qe,Qf,Qg,Qh,Qi,Qj,Qk,reduceCtorEq,reduceIte,z0,ga,jz,gf,jy,gm,jx,g1,fD,g2,jp,g3,gE,gz,jU,gw]
 have hp:0<m.ents.length:=bT.2 hz;have gp:=f15 at' (m.ents.length:Int) a0 a1 (by omega);obtain⟨k,ek,hk⟩:=iV at' m.ents.length hp;rw[ek]at gp;have hx:=cS m.ents k hk;have ez:¬bf m.ents=[]:=fun e=>by rw[e]at hEl;exact absurd hEl (by simp;omega)
 have eb:(0+m.ents.length)*56<=140737488355328:=by omega
 have eb':m.ents.length*56<=140737488355328:=by omega
 have hpI:(0:Int)<(m.ents.length:Int):=by omega
 have gn:=f15 n (m.ents.length:Int) n0 n1 (by omega);obtain⟨j,ej,hj⟩:=iV n m.ents.length hp;rw[ej]at gn;have hy:=cS m.ents j hj
 have bs:=Cz bm ((m.ents.set k (m.ents.getD j en0)).set j (m.ents.getD k en0)) (by rw[bI,bI];omega) (fun x hx=>by
  rcases List.mem_or_eq_of_mem_set hx with h|rfl
  ·exact sk hj h
  ·exact cC m.ents en0 k hk)
 have k1:=f13 _ bs;have k2:=f14 _ bs;have hs:=mi m.ents k (m.ents.getD j en0);have hs2:=mi (m.ents.set k (m.ents.getD j en0)) j (m.ents.getD k en0);have hsl:(bf (m.ents.set k (m.ents.getD j en0))).length=m.ents.length:=by rw[aQ,bI]
 have hsl2:(bf ((m.ents.set k (m.ents.getD j en0)).set j (m.ents.getD k en0))).length=m.ents.length:=by rw[aQ,bI,bI]
 have tS:(bf ((m.ents.set k (m.ents.getD j en0)).set j (m.ents.getD k en0))).take m.ents.length=bf ((m.ents.set k (m.ents.getD j en0)).set j (m.ents.getD k en0)):=aw (by rw[hsl2];exact aO _);clear bs bw bm h0 ek ej;generalize m.ents.getD k en0=x at*;generalize m.ents.getD j en0=y at*;obtain⟨xr,xn,xv,xd⟩:=x;obtain⟨yr,yn,yv,yd⟩:=y;obtain⟨v,b1',b2',b3',b4',es,rs⟩:=m;obtain⟨v',c1,c2,c3,c4,es',rs'⟩:=w;obtain⟨v'',d1,d2,d3,d4,es'',rs''⟩:=raw;generalize hq:dn _=q at k1;simp only[hq]at k2;clear hq;generalize dn _=p at g1 g2;simp only[Man.sv,Ent.sv,aH,aF,ay]at*;rw[ao T_3];simp only[go_sem,Q0,Q1,Q2,Q3,Q4,Q5,Q6,Q7,Q8,Q9,Qa,Qb,Qc,Qd,Qe,Qf,Qg,Qh,Qi,Qj,Qk,reduceCtorEq,reduceIte,ga,jz,gf,jy,gm,jx,g1,fD,g2,jp,g3,gp,jU,gw,hEl,ez,eb,eb',hx,hk,hp,hpI,gn,hy,hj,hs,hs2,hsl,hsl2,tS,k1,k2]
theorem xkD(raw w m:Man)(codes chain:List UInt8)(which at' n:Int)(a0: -9223372036854775808<=at')(a1:at'<=9223372036854775807)(n0: -9223372036854775808<=n)(n1:n<=9223372036854775807)
 (ga:call T 10 [] [] 0=some ⟨.bool true,[],[]⟩) (gf:call T 11 [.agg raw.sv] [] 0=some ⟨.agg w.sv,[],[]⟩) (gm:call T 12 [.byt codes .no,.byt chain .no] [] 0=some ⟨.agg m.sv,[],[]⟩)
 (bw:cQ w) (bm:cQ m) (h0:dn m=0) (h8:m.ents.length<=8) (gw:call T 15 [.int .i64 which,.int .i64 11] [] 0=some ⟨.int .i64 9,[],[]⟩):jT raw codes chain which at' n:=by
 have g1:=f13 w bw;have g2:=f14 w bw;have g3:=f13 m bm;rw[h0]at g3;unfold jT;have hEl:=aQ m.ents
 by_cases hz:m.ents=[]
 ·generalize dn w=p at*
  have gz:=f15 at' 0 a0 a1 (by decide);have mz:eY at' 0=0:=rfl;rw[mz]at gz;have gE:=f14 m bm;rw[h0]at gE;clear bw bm h0 hEl;obtain⟨v,b1,b2,b3,b4,es,rs⟩:=m;obtain⟨v',c1,c2,c3,c4,es',rs'⟩:=w;obtain⟨v'',d1,d2,d3,d4,es'',rs''⟩:=raw;simp only[Man.sv]at*;subst hz;have z0:bf ([]:List Ent)=[]:=rfl;simp only[z0]at gm g3 gE;rw[ao T_3];simp only[go_sem,Q0,Q1,Q2,Q3,Q4,Q5,Q6,Q7,Q8,Q9,Qa,Qb,Qc,Qd,Qe,Qf,Qg,Qh,Qi,Qj,Qk,reduceCtorEq,reduceIte,z0,ga,jz,gf,jy,gm,jx,g1,fD,g2,jp,g3,gE,gz,jU,gw]
 have hp:0<m.ents.length:=bT.2 hz;have gp:=f15 at' (m.ents.length:Int) a0 a1 (by omega);obtain⟨k,ek,hk⟩:=iV at' m.ents.length hp;rw[ek]at gp;have hx:=cS m.ents k hk;have ez:¬bf m.ents=[]:=fun e=>by rw[e]at hEl;exact absurd hEl (by simp;omega)
 have eb:(0+m.ents.length)*56<=140737488355328:=by omega
 have eb':m.ents.length*56<=140737488355328:=by omega
 have hpI:(0:Int)<(m.ents.length:Int):=by omega
 have bs:=Cz bm (m.ents.take k++ [m.ents.getD k en0]++m.ents.drop k) (by simp only[ac,aS,aj,aK];omega) (fun x hx=>by
  rcases al.1 hx with h|h
  ·rcases al.1 h with h|h
   ·exact bF h
   ·rw[ba.1 h];exact cC m.ents en0 k hk
  ·exact lv h)
 have k1:=f13 _ bs;have k2:=f14 _ bs
 have eA:bf (m.ents.take k++ [m.ents.getD k en0]++m.ents.drop k)=(bf m.ents).take k++([(m.ents.getD k en0).sv]++(bf m.ents).drop k):=by unfold bf;rw[bU,bU,ay,dU,List.map_drop];rfl
 simp only[Man.sv,eA]at k1 k2;have b1:k*56<=140737488355328:=by omega
 have b2:(k+1)*56<=140737488355328:=by omega
 have b3:(k+1+(m.ents.length-k))*56<=140737488355328:=by omega
 have b4:(k+(1+(m.ents.length-k)))*56<=140737488355328:=by omega
 have tk:((bf m.ents).take k).length=k:=by rw[aj,hEl];omega
 have td:((bf m.ents).drop k).length=m.ents.length-k:=by rw[aK,hEl]
 have hk2:k<=m.ents.length:=by omega
 have hkk:k+(m.ents.length-k)=m.ents.length:=by omega
 have hkI:(k:Int)<=(m.ents.length:Int):=by omega
 have tt:((bf m.ents).drop k).take (m.ents.length-k)=(bf m.ents).drop k:=aw (by rw[td];exact aO _);clear bs bw bm h0 ek;generalize m.ents.getD k en0=x at*;obtain⟨xr,xn,xv,xd⟩:=x;obtain⟨v,b1',b2',b3',b4',es,rs⟩:=m;obtain⟨v',c1,c2,c3,c4,es',rs'⟩:=w;obtain⟨v'',d1,d2,d3,d4,es'',rs''⟩:=raw;generalize hq:dn _=q at k1;simp only[hq]at k2;clear hq;generalize dn _=p at g1 g2;simp only[Man.sv,Ent.sv,aH,aF,ay]at*;rw[ao T_3];simp only[go_sem,Q0,Q1,Q2,Q3,Q4,Q5,Q6,Q7,Q8,Q9,Qa,Qb,Qc,Qd,Qe,Qf,Qg,Qh,Qi,Qj,Qk,reduceCtorEq,reduceIte,ga,jz,gf,jy,gm,jx,g1,fD,g2,jp,g3,gp,jU,gw,hEl,ez,eb,eb',hx,hk,hp,hpI,Nat.sub_zero,hkk,b1,b2,b3,b4,tk,td,tt,hk2,hkI,k1,k2]
theorem xfS(raw w m:Man)(codes chain:List UInt8)(which at' n:Int)(a0: -9223372036854775808<=at')(a1:at'<=9223372036854775807)(n0: -9223372036854775808<=n)(n1:n<=9223372036854775807)
 (ga:call T 10 [] [] 0=some ⟨.bool true,[],[]⟩) (gf:call T 11 [.agg raw.sv] [] 0=some ⟨.agg w.sv,[],[]⟩) (gm:call T 12 [.byt codes .no,.byt chain .no] [] 0=some ⟨.agg m.sv,[],[]⟩)
 (bw:cQ w) (bm:cQ m) (h0:dn m=0) (h8:m.ents.length<=8) (gw:call T 15 [.int .i64 which,.int .i64 11] [] 0=some ⟨.int .i64 10,[],[]⟩):jT raw codes chain which at' n:=by
 have g1:=f13 w bw;have g2:=f14 w bw;have g3:=f13 m bm;rw[h0]at g3;unfold jT;have hEl:=aQ m.ents
 by_cases hz:m.ents=[]
 ·generalize dn w=p at*
  have gz:=f15 at' 0 a0 a1 (by decide);have mz:eY at' 0=0:=rfl;rw[mz]at gz;have gE:=f14 m bm;rw[h0]at gE;clear bw bm h0 hEl;obtain⟨v,b1,b2,b3,b4,es,rs⟩:=m;obtain⟨v',c1,c2,c3,c4,es',rs'⟩:=w;obtain⟨v'',d1,d2,d3,d4,es'',rs''⟩:=raw;simp only[Man.sv]at*;subst hz;have z0:bf ([]:List Ent)=[]:=rfl;simp only[z0]at gm g3 gE;rw[ao T_3];simp only[go_sem,Q0,Q1,Q2,Q3,Q4,Q5,Q6,Q7,Q8,Q9,Qa,Qb,Qc,Qd,Qe,Qf,Qg,Qh,Qi,Qj,Qk,reduceCtorEq,reduceIte,z0,ga,jz,gf,jy,gm,jx,g1,fD,g2,jp,g3,gE,gz,jU,gw]
 have hp:0<m.ents.length:=bT.2 hz;have gp:=f15 at' (m.ents.length:Int) a0 a1 (by omega);obtain⟨k,ek,hk⟩:=iV at' m.ents.length hp;rw[ek]at gp;have hx:=cS m.ents k hk;have ez:¬bf m.ents=[]:=fun e=>by rw[e]at hEl;exact absurd hEl (by simp;omega)
 have eb:(0+m.ents.length)*56<=140737488355328:=by omega
 have eb':m.ents.length*56<=140737488355328:=by omega
 have hpI:(0:Int)<(m.ents.length:Int):=by omega
 have bs:=NQ bm k hk ⟨(m.ents.getD k en0).role,(m.ents.getD k en0).name,n,(m.ents.getD k en0).dig⟩ rfl rfl;have k1:=f13 _ bs;have k2:=f14 _ bs;have hs:=mi m.ents k ⟨(m.ents.getD k en0).role,(m.ents.getD k en0).name,n,(m.ents.getD k en0).dig⟩;have hsl:=aQ (m.ents.set k ⟨(m.ents.getD k en0).role,(m.ents.getD k en0).name,n,(m.ents.getD k en0).dig⟩);have tS:(bf (m.ents.set k ⟨(m.ents.getD k en0).role,(m.ents.getD k en0).name,n,(m.ents.getD k en0).dig⟩)).take m.ents.length=bf (m.ents.set k ⟨(m.ents.getD k en0).role,(m.ents.getD k en0).name,n,(m.ents.getD k en0).dig⟩):=aw (by rw[aQ,bI];exact aO _);rw[bI]at hsl;clear bs bw bm h0 ek;generalize m.ents.getD k en0=x at*;obtain⟨xr,xn,xv,xd⟩:=x;obtain⟨v,b1',b2',b3',b4',es,rs⟩:=m;obtain⟨v',c1,c2,c3,c4,es',rs'⟩:=w;obtain⟨v'',d1,d2,d3,d4,es'',rs''⟩:=raw;generalize hq:dn _=q at k1;simp only[hq]at k2;clear hq;generalize dn _=p at g1 g2;simp only[Man.sv,Ent.sv,aH,aF,ay]at*;rw[ao T_3];simp only[go_sem,Q0,Q1,Q2,Q3,Q4,Q5,Q6,Q7,Q8,Q9,Qa,Qb,Qc,Qd,Qe,Qf,Qg,Qh,Qi,Qj,Qk,reduceCtorEq,reduceIte,ga,jz,gf,jy,gm,jx,g1,fD,g2,jp,g3,gp,jU,gw,hEl,ez,eb,eb',hx,hk,hp,hpI,hs,hsl,tS,k1,k2]
theorem f3(raw:Man)(codes chain:List UInt8)(which at' n:Int)(w0: -9223372036854775808<=which)(w1:which<=9223372036854775807)(a0: -9223372036854775808<=at')(a1:at'<=9223372036854775807)(n0: -9223372036854775808<=n)(n1:n<=9223372036854775807):
 call T 3 [.agg raw.sv,.byt codes .no,.byt chain .no,.int .i64 which,.int .i64 at',.int .i64 n] [] 0=some ⟨.bool true,[],[]⟩:=by
 obtain⟨m,hm,gm⟩:=f12 codes chain;have gw:=f15 which 11 w0 w1 (by decide);obtain⟨c,ec,hc⟩:=iV which 11 (by decide);rw[show((11:Nat):Int)=11 from rfl]at ec;rw[ec]at gw;have k:c=0\/c=1\/c=2\/c=3\/c=4\/c=5\/c=6\/c=7\/c=8\/c=9\/c=10:=by omega
 rcases k with rfl|rfl|rfl|rfl|rfl|rfl|rfl|rfl|rfl|rfl|rfl
 ·exact xkM raw (nU raw) m codes chain which at' n a0 a1 n0 n1 f10 (f11 raw) gm (gV raw) hm.bd hm.ok hm.en gw
 ·exact xkL raw (nU raw) m codes chain which at' n a0 a1 n0 n1 f10 (f11 raw) gm (gV raw) hm.bd hm.ok hm.en gw
 ·exact xkK raw (nU raw) m codes chain which at' n a0 a1 n0 n1 f10 (f11 raw) gm (gV raw) hm.bd hm.ok hm.en gw
 ·exact xkJ raw (nU raw) m codes chain which at' n a0 a1 n0 n1 f10 (f11 raw) gm (gV raw) hm.bd hm.ok hm.en gw
 ·exact xkI raw (nU raw) m codes chain which at' n a0 a1 n0 n1 f10 (f11 raw) gm (gV raw) hm.bd hm.ok hm.en gw
 ·exact xkH raw (nU raw) m codes chain which at' n a0 a1 n0 n1 f10 (f11 raw) gm (gV raw) hm.bd hm.ok hm.en gw
 ·exact xkG raw (nU raw) m codes chain which at' n a0 a1 n0 n1 f10 (f11 raw) gm (gV raw) hm.bd hm.ok hm.en gw
 ·exact xkF raw (nU raw) m codes chain which at' n a0 a1 n0 n1 f10 (f11 raw) gm (gV raw) hm.bd hm.ok hm.en gw
 ·exact xkE raw (nU raw) m codes chain which at' n a0 a1 n0 n1 f10 (f11 raw) gm (gV raw) hm.bd hm.ok hm.en gw
 ·exact xkD raw (nU raw) m codes chain which at' n a0 a1 n0 n1 f10 (f11 raw) gm (gV raw) hm.bd hm.ok hm.en gw
 ·exact xfS raw (nU raw) m codes chain which at' n a0 a1 n0 n1 f10 (f11 raw) gm (gV raw) hm.bd hm.ok hm.en gw
end Go.Proofs.YtkcjdeofknkndaaGreatDoor
