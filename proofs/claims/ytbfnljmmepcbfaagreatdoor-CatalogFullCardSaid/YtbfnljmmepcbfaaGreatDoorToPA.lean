/- What the functions come to. No condition. -/
import Derived.Test.YtbfnljmmepcbfaaGreatDoorTnPA
open List renaming map_nil -> bX, replicate -> aH
set_option maxRecDepth 100000
set_option maxHeartbeats 16000000
set_option linter.unusedSimpArgs false
set_option linter.unusedVariables false
namespace Go.Proofs.YtbfnljmmepcbfaaGreatDoor
open Go.Sy
open UInt8 renaming reduceLT -> Q0, reduceLE -> Q1
open Int renaming reduceToNat -> Q2, reduceLE -> Q3, reduceLT -> Q4, reduceEq -> Q5, reduceNe -> Q6, reduceNeg -> Q7, reduceAdd -> Q8, reduceSub -> Q9, reduceMul -> Qa
open Nat renaming reducePow -> Qb, reduceDiv -> Qc, reduceMod -> Qd, reduceAdd -> Qe, reduceSub -> Qf, reduceMul -> Qg, reduceLT -> Qh, reduceLeDiff -> Qi, reduceEqDiff -> Qj, reduceBEq -> Qk
inductive Itm where
 |m (x:Man)
 |w (x:Wd)
def Itm.body:Itm->List UInt8
 | .m x=>dZ x
 | .w x=>ft x
def Itm.OK:Itm->Prop
 | .m x=>dz x/\fm x=0
 | .w x=>nz x

theorem pK{x:Itm}(h:x.OK):x.body.length<=100000000:=by
 cases x with
 |m x=>exact j5 x h.1
 |w x=>show(ft x).length<=_;rw[pA x h];decide

def nuM(i:Nat):Man:=⟨[118],i,0,0,9,[],[]⟩
def nuW(i:Nat):Wd:=⟨aH 32 0,i⟩
def nuI(i:Nat):Itm:=if i % 3=2 then .w (nuW i)else .m (nuM i)
theorem M5(i:Nat):dz (nuM i):=by constructor<;>simp[nuM]
theorem xcN(i:Nat)(h:i<=1000):fm (nuM i)=0:=by
 have h1:Pr.nameB [118]=true:=by decide
 have h3:¬(1000000:Int)<(i:Int):=by omega
 have h4:¬(i:Int)<0:=by omega
 unfold fm nuM;simp[h1,h3,h4,gZ,iq]
theorem xcM(i:Nat)(h:i<=1000):nz (nuW i):=⟨by simp[nuW],by show(0:Int)<=(i:Int);omega,by show(i:Int)<=1099511627776;omega⟩
theorem yS(i:Nat)(h:i<=1000):(nuI i).OK:=by
 unfold nuI;split
 ·exact xcM i h
 ·exact⟨M5 i,xcN i h⟩
theorem f22(i:Nat)(h:i<=1000):call T 22 [.int .i64 i] [] 0=some ⟨.agg (dX (nuI i).body (fS 1 (nuI i).body)),[],[]⟩:=by
 have hok:=yS i h;unfold nuI at*;have e3:Int.tmod (i:Int) 3=((i % 3:Nat):Int):=rfl;have e0:Int.toNat 32=32:=rfl
 by_cases q:i % 3=2
 ·rw[if_pos q]at hok ⊢
  have g1:=f35 (nuW i);have g2:=f33 (ft (nuW i)) (pK (x:= .w (nuW i)) hok) 1;show call T 22 [.int .i64 i] [] 0=some ⟨.agg (dX (ft (nuW i)) (fS 1 (ft (nuW i)))),[],[]⟩;generalize ft (nuW i)=E at*;generalize fS 1 E=S at*;have q':((i % 3:Nat):Int)=2:=by omega
  simp only[nuW,Wd.sv,dX]at*;rw[an xj0];have tk:List.take 32 (aH 32 (0:UInt8))=aH 32 0:=rfl;simp only[go_sem,Q2,Q3,Q5,Qe,Qg,Qh,Qi,Qj,Qk,reduceCtorEq,reduceIte,e3,q',tk,g1,xka,g2,xdR]
 ·rw[if_neg q]at hok ⊢
  have g1:=f34 (nuM i) (M5 i);have g2:=f33 (dZ (nuM i)) (pK (x:= .m (nuM i)) hok) 1;show call T 22 [.int .i64 i] [] 0=some ⟨.agg (dX (dZ (nuM i)) (fS 1 (dZ (nuM i)))),[],[]⟩;generalize dZ (nuM i)=E at*;generalize fS 1 E=S at*;have q':¬((i % 3:Nat):Int)=2:=by omega
  simp only[nuM,Man.sv,dX,eC,eG,bX]at*;rw[an xj0];simp only[go_sem,Q2,Q3,Q5,Qe,Qh,Qi,Qj,Qk,reduceCtorEq,reduceIte,e3,q',g1,YG,g2,xdR]
theorem xcL{i j:Nat}(h:nuI i=nuI j):i=j:=by
 unfold nuI at h;split at h<;>split at h
 ·have h1:nuW i=nuW j:=Itm.w.inj h
  have h2:(i:Int)=j:=(Wd.mk.inj h1).2;omega
 ·cases h
 ·cases h
 ·have h1:nuM i=nuM j:=Itm.m.inj h
  have h2:(i:Int)=j:=(Man.mk.inj h1).2.1;omega
def xjy(c:Cat):Itm->Prop
 | .m m=>m∈c.ms
 | .w w=>w∈c.ws
structure tu(c:Cat)(j:Nat):Prop where
 s:EA c
 t:c.t=trL 0 0
 n:c.ms.length+c.ws.length=j
 iff:∀x,xjy c x↔∃k,k<j/\nuI k=x
noncomputable def iS(c:Cat)(i:Nat):Cat×Int:=kH c (nuI i).body (fS 1 (nuI i).body)
open Classical in
noncomputable def xdK(c:Cat):Itm->Cat×Int
 | .m m=>j7 c m
 | .w w=>kG c w
theorem pI{c:Cat}(h:c.t=trL 0 0)(i:Nat)(hi:i<=1000):iS c i=xdK c (nuI i):=by
 have hok:=yS i hi;unfold iS;cases hx:nuI i with
 |m m=>rw[hx]at hok;exact yX hok.2 (by rw[h];exact wg _ (Ol hok.2))
 |w w=>rw[hx]at hok;exact Nr hok (by rw[h];exact wg _ (Ym hok))
theorem Rd:tu ⟨trL 0 0,[],[]⟩ 0:=by
 have hs:=Nq (trL 0 0);rw[show v8 (trL 0 0)=(⟨trL 0 0,[],[]⟩,0)from if_pos (DE 0 (by decide) 0)]at hs;refine⟨hs,rfl,rfl,fun x=>⟨fun h=> ?_,fun⟨k,hk,_⟩=>by omega⟩⟩;cases x with
 |m m=>cases h
 |w w=>cases h
theorem De{c:Cat}{j:Nat}(h:tu c j)(i:Nat)(hi:i<j)(hj:j<=1000):iS c i=(c,0):=by
 rw[pI h.t i (by omega)];have hh:=(h.iff (nuI i)).2 ⟨i,hi,rfl⟩;cases hx:nuI i with
 |m m=>rw[hx]at hh;change m∈c.ms at hh;show j7 c m=_;unfold j7;rw[if_pos hh]
 |w w=>rw[hx]at hh;change w∈c.ws at hh;show kG c w=_;unfold kG;rw[if_pos hh]
theorem BH{c:Cat}{j:Nat}(h:tu c j)(i:Nat)(hi:j<=i):¬xjy c (nuI i):=fun hh=>by obtain⟨k,hk,e⟩:=(h.iff _).1 hh;have:=xcL e;omega
theorem Gf{c:Cat}(h:tu c 16)(i:Nat)(hi:16<=i)(hi2:i<=1000):iS c i=(oR,25):=by
 rw[pI h.t i hi2];have hh:=BH h i hi;have hn:=h.n;cases hx:nuI i with
 |m m=>rw[hx]at hh;change ¬m∈c.ms at hh;show j7 c m=_;unfold j7;rw[if_neg hh,if_pos (by omega)]
 |w w=>rw[hx]at hh;change ¬w∈c.ws at hh;show kG c w=_;unfold kG;rw[if_neg hh,if_pos (by omega)]
theorem sJ{c:Cat}{j:Nat}(h:tu c j)(hj:j<16)(i:Nat)(hi:j<=i)(hi2:i<=1000):(iS c i).2=0/\(iS c i).1.ms.length+(iS c i).1.ws.length=j+1/\(i=j->tu (iS c i).1 (j+1)):=by
 have hs:=xdo h.s (nuI i).body (fS 1 (nuI i).body);change EA (iS c i).1 at hs;rw[pI h.t i hi2]at hs ⊢;have hh:=BH h i hi;have hn:=h.n;have ht:=h.t;cases hx:nuI i with
 |m m=>
  rw[hx]at hh hs;change ¬m∈c.ms at hh
  have e:xdK c (.m m)=(⟨c.t,kT c.ms m,c.ws⟩,0):=by show j7 c m=_;unfold j7;rw[if_neg hh,if_neg (by omega)]
  rw[e]at hs ⊢;have hl:(kT c.ms m).length=c.ms.length+1:=po _ _;refine⟨rfl,by show(kT c.ms m).length+c.ws.length=_;omega,fun ej=>⟨hs,ht,by show(kT c.ms m).length+c.ws.length=_;omega,fun x=> ?_⟩⟩;subst ej;cases x with
  |m y=>
   show y∈kT c.ms m↔_;rw[vw];constructor
   ·rintro(rfl|hy)
    ·exact⟨i,by omega,hx⟩
    ·obtain⟨k,hk,e⟩:=(h.iff (.m y)).1 hy
     exact⟨k,by omega,e⟩
   ·rintro⟨k,hk,e⟩
    rcases (by omega:k<i\/k=i)with hk|rfl
    ·exact .inr ((h.iff (.m y)).2 ⟨k,hk,e⟩)
    ·rw[hx]at e;exact .inl (Itm.m.inj e).symm
  |w y=>
   show y∈c.ws↔_;constructor
   ·intro hy
    obtain⟨k,hk,e⟩:=(h.iff (.w y)).1 hy;exact⟨k,by omega,e⟩
   ·rintro⟨k,hk,e⟩
    rcases (by omega:k<i\/k=i)with hk|rfl
    ·exact(h.iff (.w y)).2 ⟨k,hk,e⟩
    ·rw[hx]at e;cases e
 |w w=>
  rw[hx]at hh hs;change ¬w∈c.ws at hh
  have e:xdK c (.w w)=(⟨c.t,c.ms,oG c.ws w⟩,0):=by show kG c w=_;unfold kG;rw[if_neg hh,if_neg (by omega)]
  rw[e]at hs ⊢;have hl:(oG c.ws w).length=c.ws.length+1:=vF _ _;refine⟨rfl,by show c.ms.length+(oG c.ws w).length=_;omega,fun ej=>⟨hs,ht,by show c.ms.length+(oG c.ws w).length=_;omega,fun x=> ?_⟩⟩;subst ej;cases x with
  |w y=>
   show y∈oG c.ws w↔_;rw[vv];constructor
   ·rintro(rfl|hy)
    ·exact⟨i,by omega,hx⟩
    ·obtain⟨k,hk,e⟩:=(h.iff (.w y)).1 hy
     exact⟨k,by omega,e⟩
   ·rintro⟨k,hk,e⟩
    rcases (by omega:k<i\/k=i)with hk|rfl
    ·exact .inr ((h.iff (.w y)).2 ⟨k,hk,e⟩)
    ·rw[hx]at e;exact .inl (Itm.w.inj e).symm
  |m y=>
   show y∈c.ms↔_;constructor
   ·intro hy
    obtain⟨k,hk,e⟩:=(h.iff (.m y)).1 hy;exact⟨k,by omega,e⟩
   ·rintro⟨k,hk,e⟩
    rcases (by omega:k<i\/k=i)with hk|rfl
    ·exact(h.iff (.m y)).2 ⟨k,hk,e⟩
    ·rw[hx]at e;cases e



end Go.Proofs.YtbfnljmmepcbfaaGreatDoor
