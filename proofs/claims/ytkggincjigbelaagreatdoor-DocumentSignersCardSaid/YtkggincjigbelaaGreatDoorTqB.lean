/- What the functions come to. No condition. -/
import Derived.Test.YtkggincjigbelaaGreatDoorTiB
import Derived.Test.YtkggincjigbelaaGreatDoorToB
open List renaming foldl_cons -> fM, length_append -> ac, length_cons -> aj, length_nil -> aq, mem_cons_of_mem -> ao, mem_cons_self -> aD
open Nat renaming add_mul -> bB, zero_le -> bt
set_option maxRecDepth 100000
set_option maxHeartbeats 16000000
set_option linter.unusedSimpArgs false
set_option linter.unusedVariables false
namespace Go.Proofs.YtkggincjigbelaaGreatDoor
open Go.Sy
open UInt8 renaming reduceLT -> Q0, reduceLE -> Q1
open Int renaming reduceToNat -> Q2, reduceLE -> Q3, reduceLT -> Q4, reduceEq -> Q5, reduceNe -> Q6, reduceNeg -> Q7, reduceAdd -> Q8, reduceSub -> Q9, reduceMul -> Qa
open Nat renaming reducePow -> Qb, reduceDiv -> Qc, reduceMod -> Qd, reduceAdd -> Qe, reduceSub -> Qf, reduceMul -> Qg, reduceLT -> Qh, reduceLeDiff -> Qi, reduceEqDiff -> Qj, reduceBEq -> Qk
def hdM(m:Man):List UInt8:=lF ([]++bu 1 21) m.vendor++bu 4 m.ver++bu 4 m.flr++bu 6 m.frm++bu 6 m.til++bu 1 (m.ents.length:Int)
theorem cZ(k:Nat)(v:Int):(bu k v).length=k:=hZ ..
def qC(B:List UInt8)(x:Ent):List UInt8:=lF (B++bu 1 x.role) x.name++bu 4 x.ver++x.dig
def nS(B:List UInt8)(r:Rul):List UInt8:=lF (B++bu 1 r.kind) r.text++bu 4 r.lo++bu 4 r.hi
theorem wi(B:List UInt8)(x:Ent)(hn:x.name.length<=1000000)(hd:x.dig.length<=1000000):(qC B x).length<=B.length+2000007:=by unfold qC;rw[ac,ac,gG,ac,cZ,cZ];omega
theorem vp(B:List UInt8)(x:Rul)(hn:x.text.length<=1000000):(nS B x).length<=B.length+2000007:=by unfold nS;rw[ac,ac,gG,ac,cZ,cZ,cZ];omega
def wh(m:Man):List UInt8:=if gS m=0 then m.ruls.foldl nS (m.ents.foldl qC (hdM m)++bu 1 (m.ruls.length:Int))else []
theorem mM:∀(l:List Ent)(B:List UInt8),(∀x∈l,x.name.length<=1000000/\x.dig.length<=1000000)->(l.foldl qC B).length<=B.length+l.length*2000007
 |[],B,_=>by simp
 |x::r,B,h=>by rw[fM,aj];have h1:=mM r (qC B x) (fun y hy=>h y (ao _ hy));obtain⟨a,c⟩:=h x aD;have h2:=wi B x a c;rw[bB];omega
theorem rM:∀(l:List Rul)(B:List UInt8),(∀x∈l,x.text.length<=1000000)->B.length<=(l.foldl nS B).length/\(l.foldl nS B).length<=B.length+l.length*2000007
 |[],B,_=>by simp
 |x::r,B,h=>by
  rw[fM,aj];have h1:=rM r (nS B x) (fun y hy=>h y (ao _ hy));have h2:=vp B x (h x aD)
  have h3:B.length<=(nS B x).length:=by unfold nS;rw[ac,ac,gG,ac];omega
  rw[bB];omega
theorem kL{m:Man}(h:gS m=0):m.ents.length<=16/\m.ruls.length<=8:=by
 unfold gS at h
 repeat' split at h
 all_goals first|(exfalso;omega)|skip
 exact⟨by omega,by omega⟩
theorem Gd(m:Man)(hm:iq m):(wh m).length<=100000000:=by
 unfold wh
 by_cases hv:gS m=0
 ·rw[if_pos hv]
  obtain⟨h16,h8⟩:=kL hv;have h1:=mM m.ents (hdM m) hm.e;have h2:=rM m.ruls (m.ents.foldl qC (hdM m)++bu 1 (m.ruls.length:Int)) hm.r
  have h3:(hdM m).length<=10000000:=by have:=hm.v;unfold hdM;simp only[ac,gG,cZ,aq];omega
  rw[ac,cZ]at h2;omega
 ·rw[if_neg hv];exact bt _
end Go.Proofs.YtkggincjigbelaaGreatDoor
