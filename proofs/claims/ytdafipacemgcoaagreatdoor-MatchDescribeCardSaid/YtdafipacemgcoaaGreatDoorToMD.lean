/- Contracts. No condition. -/
import Derived.Test.YtdafipacemgcoaaGreatDoorTaMD
open Go.IntKind renaming i64 -> aj
open List renaming take -> dj, take_length -> bt
set_option maxRecDepth 100000
set_option maxHeartbeats 16000000
set_option linter.unusedSimpArgs false
set_option linter.unusedVariables false
namespace Go.Proofs.YtdafipacemgcoaaGreatDoor
open Go.Sy
open UInt8 renaming reduceLT -> Q0, reduceLE -> Q1
open Int renaming reduceToNat -> Q2, reduceLE -> Q3, reduceLT -> Q4, reduceEq -> Q5, reduceNe -> Q6, reduceNeg -> Q7, reduceAdd -> Q8, reduceSub -> Q9, reduceMul -> Qa
open Nat renaming reducePow -> Qb, reduceDiv -> Qc, reduceMod -> Qd, reduceAdd -> Qe, reduceSub -> Qf, reduceMul -> Qg, reduceLT -> Qh, reduceLeDiff -> Qi, reduceEqDiff -> Qj, reduceBEq -> Qk
theorem f9k(z:t6)(ac a2:Int)(b:UInt8)(a:Int)(I W:f8)(nI:I.length<=8)(i:Nat)(hi:i<I.length)(h ve:Int)(na pa:t6)(a3:pa.length<=1000000)
 (hg:I.getD i []=[.int .i64 h,.str na,.int .i64 ve,.byt pa .no])
 (B:I.set i [.int .i64 h,.str na,.int .i64 ve,.byt (pa++ [b]) .no]=W) (O:W.getD i []=[.int .i64 h,.str na,.int .i64 ve,.byt (pa++ [b]) .no]) (L:W.length=I.length)
 (E V1 V2 Z1 Z2:f8) (A1 A2:Int) (B1 B2:t6) (C:Bool)
 (ga:call T 10 [] [] 0=some ⟨.bool true,[],[]⟩)
 (g:call T 24 [.byt z .no] [] 0=some ⟨.lst 4 I .no,[],[]⟩)
 (gs:call T 29 [.int .i64 ac] [] 0=some ⟨.int .i64 a,[],[]⟩)
 (gd:call T 30 [.str [97,99,109,101],.int .i64 1,.lst 4 I .no] [] 0=some ⟨.agg [.str [97,99,109,101],.int .i64 1,.int .i64 0,.int .i64 0,.int .i64 1099511627776,.lst 4 E .no,.lst 4 [] .clip],[],[]⟩)
 (ge:call T 31 [.lst 4 I .no,.int .i64 a] [] 0=some ⟨.lst 4 V1 .no,[],[]⟩)
 (gx:call T 12 [.agg [.int .i64 a,.int .i64 0,.lst 4 V1 .no],.lst 7 [[.str [97,99,109,101],.int .i64 1,.int .i64 0,.int .i64 0,.int .i64 1099511627776,.lst 4 E .no,.lst 4 [[.int .i64 1,.str [],.int .i64 0,.int .i64 0]] .no]] .no] [] 0=some ⟨.tup [.lst 2 Z1 .no,.int .i64 A1,.int .i64 0],[],[]⟩)
 (F:¬A1<10)
 (gm:call T 18 [.int .i64 a2,.int .i64 (I.length:Nat)] [] 0=some ⟨.int .i64 (i:Nat),[],[]⟩)
 (gi:call T 33 [.agg [.int .i64 h,.str na,.int .i64 ve,.byt pa .no]] [] 0=some ⟨.byt B1 .no,[],[]⟩)
 (gj:¬h=4->call T 33 [.agg [.int .i64 h,.str na,.int .i64 ve,.byt (pa++ [b]) .no]] [] 0=some ⟨.byt B2 .no,[],[]⟩)
 (gc:¬h=4->call T 32 [.byt B1 .no,.byt B2 .no,.int .i64 32] [] 0=some ⟨.bool C,[],[]⟩)
 (gy:¬h=4->C=false->call T 31 [.lst 4 W .no,.int .i64 a] [] 0=some ⟨.lst 4 V2 .no,[],[]⟩)
 (gz:¬h=4->C=false->call T 12 [.agg [.int .i64 a,.int .i64 0,.lst 4 V2 .no],.lst 7 [[.str [97,99,109,101],.int .i64 1,.int .i64 0,.int .i64 0,.int .i64 1099511627776,.lst 4 E .no,.lst 4 [[.int .i64 1,.str [],.int .i64 0,.int .i64 0]] .no]] .no] [] 0=some ⟨.tup [.lst 2 Z2 .no,.int .i64 A2,.int .i64 47],[],[]⟩)
 (a0:¬h=4->C=false->A2=if h=3 then((i+8:Nat):Int)else(i:Int)):
 call T 9 [.byt z .no,.int .i64 ac,.int .i64 a2,.u8 b] [] 0=some ⟨.bool true,[],[]⟩:=by
 have hb:I.length*56<=140737488355328:=by omega
 have hb0:(0+I.length)*56<=140737488355328:=by omega
 have J:¬I=[]:=fun e=>by rw[e]at hi;exact absurd hi (by simp)
 have tI:dj I.length I=I:=bt;have S:dj I.length W=W:=by rw[<-L,bt]
 have c1:pa.length<=140737488355328:=by omega
 have c2:pa.length+1<=140737488355328:=by omega
 have c3:(pa.length+1)*1<=140737488355328:=by omega
 have c4:(0+pa.length)*1<=140737488355328:=by omega
 have w8:aj.wrap ((i:Int)+8)=((i+8:Nat):Int):=wZ (by omega)
 rw[az T_9]
 by_cases H:h=4
 ·subst H
  simp only[go_sem,Q0,Q1,Q2,Q3,Q4,Q5,Q6,Q7,Q8,Q9,Qa,Qb,Qc,Qd,Qe,Qf,Qg,Qh,Qi,Qj,Qk,reduceCtorEq,reduceIte,ga,Y9,g,YT,gs,YS,gd,YR,ge,Rb,gx,wS,F,hb,hb0,J,tI,gm,Rc,hi,hg]
 ·have Q:=gj H
  have U:=gc H;clear gj gc;cases C with
  |true=>simp only[go_sem,Q0,Q1,Q2,Q3,Q4,Q5,Q6,Q7,Q8,Q9,Qa,Qb,Qc,Qd,Qe,Qf,Qg,Qh,Qi,Qj,Qk,reduceCtorEq,reduceIte,ga,Y9,g,YT,gs,YS,gd,YR,ge,Rb,gx,wS,F,hb,hb0,J,tI,gm,Rc,hi,hg,H,c1,c2,c3,c4,B,O,L,S,gi,sR,Q,U,xdC]
  |false=>
   have a1:=gy H rfl;have Z:=gz H rfl;clear gy gz;have hq:=a0 H rfl;clear a0
   by_cases h3:h=3
   ·rw[if_pos h3]at hq
    subst hq;subst h3;simp only[go_sem,Q0,Q1,Q2,Q3,Q4,Q5,Q6,Q7,Q8,Q9,Qa,Qb,Qc,Qd,Qe,Qf,Qg,Qh,Qi,Qj,Qk,reduceCtorEq,reduceIte,ga,Y9,g,YT,gs,YS,gd,YR,ge,Rb,gx,wS,F,hb,hb0,J,tI,gm,Rc,hi,hg,H,c1,c2,c3,c4,B,O,L,S,gi,sR,Q,U,xdC,a1,Z,w8]
   ·rw[if_neg h3]at hq
    subst hq;simp only[go_sem,Q0,Q1,Q2,Q3,Q4,Q5,Q6,Q7,Q8,Q9,Qa,Qb,Qc,Qd,Qe,Qf,Qg,Qh,Qi,Qj,Qk,reduceCtorEq,reduceIte,ga,Y9,g,YT,gs,YS,gd,YR,ge,Rb,gx,wS,F,hb,hb0,J,tI,gm,Rc,hi,hg,H,h3,c1,c2,c3,c4,B,O,L,S,gi,sR,Q,U,xdC,a1,Z]
end Go.Proofs.YtdafipacemgcoaaGreatDoor
