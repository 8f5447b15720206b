/- What the functions come to. No condition. -/
import Derived.Test.YtkggincjigbelaaGreatDoorTg
open Go.IntKind renaming i64 -> af, u64 -> aW, wrap_u64 -> bJ
open List renaming append_assoc -> aY, append_nil -> br, drop_take -> xM, length_append -> ai, length_cons -> aj, length_drop -> aS, length_singleton -> bR, length_take -> ax, mem_cons -> am, nil_append -> aQ, singleton_append -> di, take_length -> cf, take_of_length_le -> aT
set_option maxRecDepth 100000
set_option maxHeartbeats 16000000
set_option linter.unusedSimpArgs false
set_option linter.unusedVariables false
namespace Go.Proofs.YtkggincjigbelaaGreatDoor
open Go.Sy
open UInt8 renaming reduceLT -> Q0, reduceLE -> Q1
open Int renaming reduceToNat -> Q2, reduceLE -> Q3, reduceLT -> Q4, reduceEq -> Q5, reduceNe -> Q6, reduceNeg -> Q7, reduceAdd -> Q8, reduceSub -> Q9, reduceMul -> Qa
open Nat renaming reducePow -> Qb, reduceDiv -> Qc, reduceMod -> Qd, reduceAdd -> Qe, reduceSub -> Qf, reduceMul -> Qg, reduceLT -> Qh, reduceLeDiff -> Qi, reduceEqDiff -> Qj, reduceBEq -> Qk
theorem zD(P:List (List UInt8))(s:List UInt8):bys (P++ [s])=bys P++ [[.byt s .no]]:=by simp[bys]
theorem tR:∀(n:Nat)(l:List UInt8),(rws n l).length=n
 |0,_=>rfl
 |n+1,l=>by rw[rws,aj,tR n]
theorem zS:∀(n:Nat)(l:List UInt8),∀s∈rws n l,s.length<=1000000
 |0,_=>fun s h=>by cases h
 |n+1,l=>fun s h=>by
  rw[rws]at h;rcases am.1 h with rfl|h
  ·rw[ax];omega
  ·exact zS n _ s h
theorem l58(pub x:List UInt8)(leaf:Int):∀(n:Nat)(rest:List UInt8)(P:List (List UInt8)),rest.length=16*n->P.length+n<=3->
 run T (.loop sx) ⟨[(0,.byt pub .no),(6,.int .i64 leaf),(9,.byt x .no),(10,.lst 1 (bys P) (.id 110)),(11,.byt rest .no)],[],[110]⟩=
 some (.x 0,⟨[(0,.byt pub .no),(6,.int .i64 leaf),(9,.byt x .no),(10,.lst 1 (bys (P++rws n rest)) (.id 110))],[],[110]⟩):=by
 intro n;induction n with
 |zero=>
  intro rest P h0 h1;have hz:¬0<rest.length:=by omega
  have hzI:¬(0:Int)<(rest.length:Int):=by omega
  rw[aq,rws,br];simp only[go_sem,Q0,Q1,Q2,Q3,Q4,Q5,Q6,Q7,Q8,Q9,Qa,Qb,Qc,Qd,Qe,Qf,Qg,Qh,Qi,Qj,Qk,reduceCtorEq,reduceIte,hz,hzI]
 |succ n ih=>
  intro rest P h0 h1;have hz:0<rest.length:=by omega
  have hzI:(0:Int)<(rest.length:Int):=by omega
  have h16:16<=rest.length:=by omega
  have h16I:(16:Int)<=(rest.length:Int):=by omega
  have ih':=ih (rest.drop 16) (P++ [rest.take 16]) (by rw[aS];omega) (by rw[ai,bR];omega);rw[zD,aY,di]at ih';have hl:=im P;have c1:(P.length+1)*24<=140737488355328:=by omega
  have t2:rest.take rest.length=rest:=cf;rw[aq,rws];simp only[go_sem,Q0,Q1,Q2,Q3,Q4,Q5,Q6,Q7,Q8,Q9,Qa,Qb,Qc,Qd,Qe,Qf,Qg,Qh,Qi,Qj,Qk,reduceCtorEq,reduceIte,hz,hzI,h16,h16I,hl,c1,t2,ih']
def Ib(pub msg sig:List UInt8):SV:= .tup [.int .i64 (if jA pub msg sig=true then((sig.getD 0 0).toNat:Int)else 0),.bool (jA pub msg sig)]
theorem X4(n:Nat)(h:n<=3):af.wrap (1*2^min (aW.wrap (n:Int)).toNat 64)=((2^n:Nat):Int):=by rcases (by omega:n=0\/n=1\/n=2\/n=3)with rfl|rfl|rfl|rfl<;>decide
theorem lk{pub msg sig:List UInt8}(h:jA pub msg sig=false):Ib pub msg sig= .tup [.int .i64 0,.bool false]:=by unfold Ib;rw[h];rfl
theorem f58(pub msg sig:List UInt8)(hm:msg.length<=100000000):call T 58 [.byt pub .no,.byt msg .no,.byt sig .no] [] 0=some ⟨Ib pub msg sig,[],[]⟩:=by
 by_cases h1:pub.length=17
 ·have h1I:(pub.length:Int)=17:=by omega
  have h0:0<pub.length:=by omega
  by_cases h2:(pub.getD 0 0).toNat<=3
  ·have g1:=f86 _ h2
   by_cases h3:sig.length=561+16*(pub.getD 0 0).toNat
   ·have h4:0<sig.length:=by omega
    have hz0:(0:Int)<((561+16*(pub.getD 0 0).toNat:Nat):Int):=by omega
    have t3:sig.take (561+16*(pub.getD 0 0).toNat)=sig:=aT (by omega);have t4:pub.take 17=pub:=aT (by omega);have e2:=X4 _ h2;have m1:af.wrap (16*((pub.getD 0 0).toNat:Int))=((16*(pub.getD 0 0).toNat:Nat):Int):=wZ (by omega)
    have m2:af.wrap (561+((16*(pub.getD 0 0).toNat:Nat):Int))=((561+16*(pub.getD 0 0).toNat:Nat):Int):=wZ (by omega)
    have h5u:0<=aW.wrap ((pub.getD 0 0).toNat:Int):=by rw[bJ];omega
    by_cases h5:(sig.getD 0 0).toNat<2^(pub.getD 0 0).toNat
    ·have h5n:¬2^(pub.getD 0 0).toNat<=(sig.getD 0 0).toNat:=by omega
     have g2:=f94 (sig.getD 0 0).toNat msg ((sig.drop 1).take 560) (by have:=(sig.getD 0 0).toNat_lt;omega) (by rw[ax,aS];omega) hm;have g3:=l58 pub (pU (sig.getD 0 0).toNat msg ((sig.drop 1).take 560)) (sig.getD 0 0).toNat (pub.getD 0 0).toNat (sig.drop 561) [] (by rw[aS];omega) (by simpa using h2);have hrl:=tR (pub.getD 0 0).toNat (sig.drop 561);have g4:=f95 (pU (sig.getD 0 0).toNat msg ((sig.drop 1).take 560)) (sig.getD 0 0).toNat (rws (pub.getD 0 0).toNat (sig.drop 561)) (by rw[hrl];exact h2) (zS _ _) (by rw[hrl];exact h5) (by rw[pU,pF,dt];decide)
     have hv:jA pub msg sig=decide (mZ 0 (sig.getD 0 0).toNat (rws (pub.getD 0 0).toNat (sig.drop 561)) (pU (sig.getD 0 0).toNat msg ((sig.drop 1).take 560))=pub.drop 1):=by unfold jA;rw[if_pos ⟨h1,h2⟩,if_pos ⟨h3,h5⟩]
     have t1:(sig.take 561).drop 1=(sig.drop 1).take 560:=by rw[xM]
     have a1:561<=sig.length:=by omega
     have a2:1<=pub.length:=by omega
     have a3:561<=561+16*(pub.getD 0 0).toNat:=by omega
     have a4:1<=17:=by decide
     have a5:(561:Int)<=((561+16*(pub.getD 0 0).toNat:Nat):Int):=by omega
     unfold Ib;rw[hv];generalize pU (sig.getD 0 0).toNat msg ((sig.drop 1).take 560)=X at*;generalize rws (pub.getD 0 0).toNat (sig.drop 561)=R at*;generalize mZ 0 (sig.getD 0 0).toNat R X=Y at*;have b0:bys []=[]:=rfl;simp only[aQ,b0]at g3;generalize hp0:pub.getD 0 0=pb at*;generalize hs0:sig.getD 0 0=sb at*;rw[ao HX]
     by_cases hY:Y=pub.drop 1
     ·simp only[go_sem,Q0,Q1,Q2,Q3,Q4,Q5,Q6,Q7,Q8,Q9,Qa,Qb,Qc,Qd,Qe,Qf,Qg,Qh,Qi,Qj,Qk,reduceCtorEq,reduceIte,h1,h1I,h0,hp0,hs0,g1,nR,h3,h4,hz0,t3,t4,e2,m1,m2,h5,h5n,h5u,t1,g2,XH,a1,a3,a4,a5,g3,g4,XG,hY]
     ·simp only[go_sem,Q0,Q1,Q2,Q3,Q4,Q5,Q6,Q7,Q8,Q9,Qa,Qb,Qc,Qd,Qe,Qf,Qg,Qh,Qi,Qj,Qk,reduceCtorEq,reduceIte,h1,h1I,h0,hp0,hs0,g1,nR,h3,h4,hz0,t3,t4,e2,m1,m2,h5,h5n,h5u,t1,g2,XH,a1,a3,a4,a5,g3,g4,XG,hY]
    ·have h5n:2^(pub.getD 0 0).toNat<=(sig.getD 0 0).toNat:=by omega
     have hv:jA pub msg sig=false:=by unfold jA;rw[if_pos ⟨h1,h2⟩,if_neg (fun h=>h5 h.2)]
     rw[lk hv];generalize hp0:pub.getD 0 0=pb at*;generalize hs0:sig.getD 0 0=sb at*;rw[ao HX];simp only[go_sem,Q0,Q1,Q2,Q3,Q4,Q5,Q6,Q7,Q8,Q9,Qa,Qb,Qc,Qd,Qe,Qf,Qg,Qh,Qi,Qj,Qk,reduceCtorEq,reduceIte,h1,h1I,h0,hp0,hs0,g1,nR,h3,h4,hz0,t3,t4,e2,m1,m2,h5,h5n,h5u]
   ·have hv:jA pub msg sig=false:=by
     unfold jA;rw[if_pos ⟨h1,h2⟩,if_neg (fun h=>h3 h.1)]
    have m1:af.wrap (16*((pub.getD 0 0).toNat:Int))=((16*(pub.getD 0 0).toNat:Nat):Int):=wZ (by omega)
    have m2:af.wrap (561+((16*(pub.getD 0 0).toNat:Nat):Int))=((561+16*(pub.getD 0 0).toNat:Nat):Int):=wZ (by omega)
    have h3I:¬(sig.length:Int)=((561+16*(pub.getD 0 0).toNat:Nat):Int):=by omega
    rw[lk hv];generalize hp0:pub.getD 0 0=pb at*;rw[ao HX];simp only[go_sem,Q0,Q1,Q2,Q3,Q4,Q5,Q6,Q7,Q8,Q9,Qa,Qb,Qc,Qd,Qe,Qf,Qg,Qh,Qi,Qj,Qk,reduceCtorEq,reduceIte,h1,h1I,h0,hp0,g1,nR,h3,h3I,m1,m2]
  ·have g1:=RQ ((pub.getD 0 0).toNat:Int) (by omega)
   have hv:jA pub msg sig=false:=by unfold jA;rw[if_neg (fun h=>h2 h.2)]
   rw[lk hv];generalize hp0:pub.getD 0 0=pb at*;rw[ao HX];simp only[go_sem,Q0,Q1,Q2,Q3,Q4,Q5,Q6,Q7,Q8,Q9,Qa,Qb,Qc,Qd,Qe,Qf,Qg,Qh,Qi,Qj,Qk,reduceCtorEq,reduceIte,h1,h1I,h0,hp0,g1,nR]
 ·have h1I:¬(pub.length:Int)=17:=by omega
  have hv:jA pub msg sig=false:=by unfold jA;rw[if_neg (fun h=>h1 h.1)]
  rw[lk hv,ao HX];simp only[go_sem,Q0,Q1,Q2,Q3,Q4,Q5,Q6,Q7,Q8,Q9,Qa,Qb,Qc,Qd,Qe,Qf,Qg,Qh,Qi,Qj,Qk,reduceCtorEq,reduceIte,h1,h1I]
end Go.Proofs.YtkggincjigbelaaGreatDoor
