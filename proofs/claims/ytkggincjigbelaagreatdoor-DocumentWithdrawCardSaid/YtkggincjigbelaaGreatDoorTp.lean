/- What the functions come to. No condition. -/
import Derived.Test.YtkggincjigbelaaGreatDoorTo
open Int renaming natCast_zero -> aJ
open Go.IntKind renaming i64 -> af
open List renaming append_assoc -> aY, cons_append -> bo, getD_eq_getElem?_getD -> aa, getElem?_map -> aI, getElem?_range -> bE, getElem_mem -> bd, length_append -> ai, length_cons -> aj, length_map -> aK, length_nil -> ay, length_singleton -> bR, length_take -> ax, map_append -> c7, map_cons -> aD, map_nil -> b8, mem_map -> aM, nil_append -> aQ, singleton_append -> di, take_length -> cf, take_of_length_le -> aT
open Nat renaming le_refl -> aP
open UInt8 renaming ofInt -> cW
set_option maxRecDepth 100000
set_option maxHeartbeats 16000000
set_option linter.unusedSimpArgs false
set_option linter.unusedVariables false
namespace Go.Proofs.YtkggincjigbelaaGreatDoor
open Go.Sy
open UInt8 renaming reduceLT -> Q0, reduceLE -> Q1
open Int renaming reduceToNat -> Q2, reduceLE -> Q3, reduceLT -> Q4, reduceEq -> Q5, reduceNe -> Q6, reduceNeg -> Q7, reduceAdd -> Q8, reduceSub -> Q9, reduceMul -> Qa
open Nat renaming reducePow -> Qb, reduceDiv -> Qc, reduceMod -> Qd, reduceAdd -> Qe, reduceSub -> Qf, reduceMul -> Qg, reduceLT -> Qh, reduceLeDiff -> Qi, reduceEqDiff -> Qj, reduceBEq -> Qk
def qx(a:Au):Au:=⟨a.id,a.key.take 20⟩
def Ed(t:Tr):Tr:=⟨(t.au.take 6).map qx,t.thr⟩
theorem vc(A B:List Au)(x:Au):(cO (A++x::B)).getD A.length []=x.sv:=by rw[fX _ _ (by simp)];simp[aa]
theorem vb(A B:List Au)(x y:Au):(cO (A++x::B)).set A.length y.sv=cO (A++y::B):=by unfold cO;rw[c7,c7,List.set_append_right _ _ (by simp)];simp
theorem ep(l:List Au)(n:Nat):(cO l).take n=cO (l.take n):=by simp[cO,List.map_take]
theorem xb(l:List Au)(n:Nat):(cO l).drop n=cO (l.drop n):=by simp[cO,List.map_drop]
theorem zF(a b:List Au):cO a++cO b=cO (a++b):=by simp[cO]
theorem oS{l:List Au}(h:l≠ []):¬cO l=[]:=fun e=>h (by simpa[cO]using e)
theorem l21(O1 O2:aA)(N:Nat)(hN:N<=1000):∀(B A:List Au),A.length+B.length=N->
 run T (.loop EN) ⟨[(1,.ptr 101 0),(2,.ptr 102 0),(3,.psl 116 2 0 N none),(4,.int .i64 (A.length:Int))],[(101,O1),(102,O2),(116,.arr 2 (cO (A++B)))],[]⟩=
  some (.x 0,⟨[(1,.ptr 101 0),(2,.ptr 102 0),(3,.psl 116 2 0 N none)],[(101,O1),(102,O2),(116,.arr 2 (cO (A++B.map qx)))],[]⟩):=by
 intro B;induction B with
 |nil=>
  intro A h;have h1:¬A.length<N:=by rw[ay]at h;omega
  rw[aq];simp only[go_sem,Q0,Q1,Q2,Q3,Q4,Q5,Q6,Q7,Q8,Q9,Qa,Qb,Qc,Qd,Qe,Qf,Qg,Qh,Qi,Qj,Qk,reduceCtorEq,reduceIte,h1,b8]
 |cons x B ih=>
  intro A h;rw[aj]at h;have h1:A.length<N:=by omega
  have e1:=dF A.length (by omega);obtain⟨d,k⟩:=x;have g:=f12 k 20 (by decide);rw[show((20:Nat):Int)=20 from rfl]at g;have hl1:∀y:Au,(cO (A++y::B)).length=N:=fun y=>by rw[cz,ai,aj];omega
  have m1:=vc A B ⟨d,k⟩;have s1:=vb A B ⟨d,k⟩ ⟨d,k.take 20⟩;have hk:=ih (A++ [qx ⟨d,k⟩]) (by simp;omega);rw[aY,aY,ai,bR]at hk;simp only[qx,Au.sv,di,aD]at hk m1 s1 ⊢;have hl0:=hl1 ⟨d,k⟩;rw[aq];simp only[go_sem,Q0,Q1,Q2,Q3,Q4,Q5,Q6,Q7,Q8,Q9,Qa,Qb,Qc,Qd,Qe,Qf,Qg,Qh,Qi,Qj,Qk,reduceCtorEq,reduceIte,h1,e1,hl0,m1,g,Np,s1,hk]
  trace_state
theorem f21(t:Tr):call T 21 [.agg t.sv] [] 0=some ⟨.agg (Ed t).sv,[],[]⟩:=by
 have hl:=cz t.au;obtain⟨au,th⟩:=t;simp only[Tr.sv,Ed]at*;have c1:∀l:List Au,l.length<=6->(cO l).length*32<=140737488355328:=fun l h=>by rw[cz];omega
 have tl:∀l:List Au,(cO l).take l.length=cO l:=fun l=>by rw[ep,cf]
 by_cases h6:6<au.length
 ·have h6I:(6:Int)<(au.length:Int):=by omega
  have h6':6<=au.length:=by omega
  have h6L:(6:Int)<=(au.length:Int):=by omega
  have hln:(au.take 6).length=6:=by rw[ax];omega
  have hne:¬cO (au.take 6)=[]:=oS (by intro e;rw[e]at hln;cases hln);have g:=l21 (.rc [.lst 2 (cO (au.take 6)) .no,.int .i64 th]) (.rc [.lst 2 [] .clip,.int .i64 0]) 6 (by decide) (au.take 6) [] (by rw[hln];rfl);simp only[ay,aJ,aQ]at g;have hlv:=cz (au.take 6);rw[hln]at hlv;have hlm:((au.take 6).map qx).length=6:=by rw[aK,hln]
  have hlc:=cz ((au.take 6).map qx);rw[hlm]at hlc;have tk:=tl ((au.take 6).map qx);rw[hlm]at tk;rw[ao RZ];simp only[go_sem,Q0,Q1,Q2,Q3,Q4,Q5,Q6,Q7,Q8,Q9,Qa,Qb,Qc,Qd,Qe,Qf,Qg,Qh,Qi,Qj,Qk,reduceCtorEq,reduceIte,hl,h6,h6I,h6',h6L,ep,hne,hlv,g,hlc,tk]
  trace_state
 ·have h6I:¬(6:Int)<(au.length:Int):=by omega
  have ht:au.take 6=au:=aT (by omega);rw[ht]
  by_cases hz:au=[]
  ·subst hz
   rw[ao RZ];simp only[go_sem,Q0,Q1,Q2,Q3,Q4,Q5,Q6,Q7,Q8,Q9,Qa,Qb,Qc,Qd,Qe,Qf,Qg,Qh,Qi,Qj,Qk,reduceCtorEq,reduceIte,cO,b8,ay];rw[aq];simp only[go_sem,Q0,Q1,Q2,Q3,Q4,Q5,Q6,Q7,Q8,Q9,Qa,Qb,Qc,Qd,Qe,Qf,Qg,Qh,Qi,Qj,Qk,reduceCtorEq,reduceIte,cO,b8,ay]
   trace_state
  ·have hne:=oS hz
   have g:=l21 (.rc [.lst 2 (cO au) .no,.int .i64 th]) (.rc [.lst 2 [] .clip,.int .i64 0]) au.length (by omega) au [] (by simp);simp only[ay,aJ,aQ]at g;have c2:au.length*32<=140737488355328:=by omega
   have hlm:(au.map qx).length=au.length:=aK ..;have hlc:=cz (au.map qx);rw[hlm]at hlc;have tk:=tl (au.map qx);rw[hlm]at tk;have ll:au.length<=au.length:=aP _;rw[ao RZ];simp only[go_sem,Q0,Q1,Q2,Q3,Q4,Q5,Q6,Q7,Q8,Q9,Qa,Qb,Qc,Qd,Qe,Qf,Qg,Qh,Qi,Qj,Qk,reduceCtorEq,reduceIte,hl,h6,h6I,hne,c2,g,hlc,tk,ll]
   trace_state
theorem ve(k:Nat):(auL k).length=k+1:=by simp[auL]
theorem vd(i:Nat):(auV i).key.length=17:=by
 show(gb _ 1).length=17;have e:∀s,gb s 1=cW 1::gD 0 0 (pubL (lsV s 1) 0) (pubL (lsV s 1) 1):=fun _=>rfl
 rw[e,aj];have:(gD 0 0 (pubL (lsV (dI (3+2*i)) 1) 0) (pubL (lsV (dI (3+2*i)) 1) 1)).length=16:=dt _ _;omega
theorem HQ(k:Nat):∀a∈auL k,a.key.length=17:=by intro a ha;obtain⟨i,_,rfl⟩:=aM.1 ha;exact vd i
theorem vf(k i:Nat)(h:i<=k):(auL k).getD i au0=auV i:=by simp only[auL,aa,aI];rw[bE (by omega)];rfl
theorem UU(k i:Nat)(h:i<=k)(hk:k<=2):auE (auL k) i=0:=by
 unfold auE;rw[vf k i h];have hkl:=vd i
 by_cases h0:i=0
 ·subst h0
  rw[if_neg (by show ¬(3+2*((0:Nat):Int))<1;omega),if_neg (by show ¬1000<(3+2*((0:Nat):Int));omega),if_pos (by omega),if_pos rfl]
 ·rw[vf k (i-1) (by omega)]
  rw[if_neg (by show ¬(3+2*(i:Int))<1;omega),if_neg (by show ¬1000<(3+2*(i:Int));omega),if_pos (by omega),if_neg h0,if_neg (by show ¬(3+2*(i:Int))<=(3+2*((i-1:Nat):Int));omega)]
theorem Ej(k:Nat)(hk:k<=2):∀n i,i+n<=k+1->jJ (auL k) n i=0
 |0,_,_=>rfl
 |n+1,i,h=>by show(if auE (auL k) i=0 then jJ (auL k) n (i+1)else auE (auL k) i)=0;rw[if_pos (UU k i (by omega) hk)];exact Ej k hk n (i+1) (by omega)
theorem SD(k:Nat)(hk:k<=2)(thr:Int):trE (trL k thr)=0:=by have hb:=eN thr ((k+1:Nat):Int) (by omega);have hl:=ve k;unfold trE;show(if(4:Int)<(auL k).length then(4:Int)else if jJ (auL k) (auL k).length 0=0 then(if 1+dz thr ((k+1:Nat):Int)<1 then 1 else if((auL k).length:Int)<1+dz thr ((k+1:Nat):Int)then 1 else 0)else jJ (auL k) (auL k).length 0)=0;rw[hl,if_neg (by omega),if_pos (Ej k hk (k+1) 0 (by omega)),if_neg (by omega),if_neg (by omega)]
theorem f22(n thr:Int)(h0: -9223372036854775808<=thr)(h1:thr<=9223372036854775807)(hn0: -9223372036854775808<=n)(hn1:n<=9223372036854775807):∃k:Nat,k<=2/\(k:Int)=dz n 3/\call T 22 [.int .i64 n,.int .i64 thr] [] 0=some ⟨.agg (trL k thr).sv,[],[]⟩:=by
 have hb:=eN n 3 (by decide);rcases (by omega:dz n 3=0\/dz n 3=1\/dz n 3=2)with h|h|h
 ·exact⟨0,by decide,h.symm,MV n thr h0 h1 hn0 hn1 h⟩
 ·exact⟨1,by decide,h.symm,UE n thr h0 h1 hn0 hn1 h⟩
 ·exact⟨2,by decide,h.symm,UD n thr h0 h1 hn0 hn1 h⟩
theorem f4c(raw:Tr)(A B:List Au)(a:Au)(th n thr wh at0 by0:Int)(hL:(A++a::B).length<=3)(hk17:a.key.length=17)(h0:trE ⟨A++a::B,th⟩=0)
 (g22:call U 22 [.int .i64 n,.int .i64 thr] [] 0=some ⟨.agg (Tr.sv ⟨A++a::B,th⟩),[],[]⟩)
 (w1: -9223372036854775808<=wh) (w2:wh<=9223372036854775807) (a1: -9223372036854775808<=at0) (a2:at0<=9223372036854775807) (b1: -9223372036854775808<=by0) (b2:by0<=9223372036854775807)
 (hk:dz at0 ((A++a::B).length:Int)=(A.length:Int)):
 call U 4 [.agg raw.sv,.int .i64 n,.int .i64 thr,.int .i64 wh,.int .i64 at0,.int .i64 by0] [] 0=some ⟨.bool true,[],[]⟩:=by
 have g11:=f11;have g21:=up (f21 raw);have g23a:=up (f23 (Ed raw));have g24a:=up (f24 (Ed raw));have g23b:=up (f23 ⟨A++a::B,th⟩);rw[h0]at g23b;have e6:((6:Nat):Int)=6:=rfl;have e9:((9:Nat):Int)=9:=rfl;have hp:1<=(A++a::B).length:=by rw[ai,aj];omega
 have g14k:=up (f14 at0 ((A++a::B).length:Int) a1 a2 (by omega));rw[hk]at g14k;have g14w:=up (f14 wh 6 w1 w2 (by decide));have hw:=eN wh 6 (by decide);have g14b6:=up (f14 by0 6 b1 b2 (by decide));have hb6:=eN by0 6 (by decide);have g14b9:=up (f14 by0 9 b1 b2 (by decide));have hlv:=cz (A++a::B);have m1:=vc A B a;have s1:=fun y=>vb A B a y
 have hlA:A.length<(A++a::B).length:=by rw[ai,aj];omega
 have hlA':A.length<=(A++a::B).length:=by omega
 have hne:¬cO (A++a::B)=[]:=oS (by simp);have c32:(A++a::B).length*32<=140737488355328:=by omega
 have tk:(cO (A++a::B)).take (A++a::B).length=cO (A++a::B):=by rw[ep,cf]
 generalize hL0:(A++a::B).length=N at*;have hf:=Ed raw;generalize Ed raw=R at*;have w6:af.wrap (dz by0 6-1)=dz by0 6-1:=w64 (by omega) (by omega);generalize hb6v:dz by0 6=v6 at*;generalize hb9v:dz by0 9=v9 at*;generalize hwv:dz wh 6=v at*;obtain⟨d,k⟩:=a;simp only[Tr.sv]at g21 g22 g23a g24a g23b;rw[ao U_4];rcases (by omega:v=0\/v=1\/v=2\/v=3\/v=4\/v=5)with h|h|h|h|h|h
 ·subst h
  have gz1:=up (f23 ⟨A++⟨d,k⟩::B,v6-1⟩);have gz2:=up (f24 ⟨A++⟨d,k⟩::B,v6-1⟩);simp only[Tr.sv]at gz1 gz2;simp only[Tr.sv,go_sem,Q0,Q1,Q2,Q3,Q4,Q5,Q6,Q7,Q8,Q9,Qa,Qb,Qc,Qd,Qe,Qf,Qg,Qh,Qi,Qj,Qk,reduceCtorEq,reduceIte,US,g11,vk,g21,Eo,g22,xU,g23a,rV,g24a,xT,g23b,hlv,c32,hne,g14k,iA,g14w];simp only[go_sem,Q0,Q1,Q2,Q3,Q4,Q5,Q6,Q7,Q8,Q9,Qa,Qb,Qc,Qd,Qe,Qf,Qg,Qh,Qi,Qj,Qk,reduceCtorEq,reduceIte,US,g14b6,iA,w6,hlv,tk,gz1,gz2,rV,xT]
 ·subst h
  have gz1:=up (f23 ⟨A++⟨by0,k⟩::B,th⟩);have gz2:=up (f24 ⟨A++⟨by0,k⟩::B,th⟩);simp only[Tr.sv]at gz1 gz2;have s:=s1 ⟨by0,k⟩;simp only[Au.sv]at s m1;have hlz:=cz (A++⟨by0,k⟩::B);have hNz:(A++(⟨by0,k⟩:Au)::B).length=N:=by rw[<-hL0];simp
  rw[hNz]at hlz;have tkz:(cO (A++(⟨by0,k⟩:Au)::B)).take N=cO (A++⟨by0,k⟩::B):=by rw[<-hNz,ep,cf]
  simp only[Tr.sv,go_sem,Q0,Q1,Q2,Q3,Q4,Q5,Q6,Q7,Q8,Q9,Qa,Qb,Qc,Qd,Qe,Qf,Qg,Qh,Qi,Qj,Qk,reduceCtorEq,reduceIte,US,g11,vk,g21,Eo,g22,xU,g23a,rV,g24a,xT,g23b,hlv,c32,hne,g14k,iA,g14w,hlA,hlA',m1,s,hlz,tkz,gz1,gz2]
 ·subst h
  have gz1:=up (f23 ⟨A++⟨v9,k⟩::B,th⟩);have gz2:=up (f24 ⟨A++⟨v9,k⟩::B,th⟩);simp only[Tr.sv]at gz1 gz2;have s:=s1 ⟨v9,k⟩;simp only[Au.sv]at s m1;have hlz:=cz (A++⟨v9,k⟩::B);have hNz:(A++(⟨v9,k⟩:Au)::B).length=N:=by rw[<-hL0];simp
  rw[hNz]at hlz;have tkz:(cO (A++(⟨v9,k⟩:Au)::B)).take N=cO (A++⟨v9,k⟩::B):=by rw[<-hNz,ep,cf]
  simp only[Tr.sv,go_sem,Q0,Q1,Q2,Q3,Q4,Q5,Q6,Q7,Q8,Q9,Qa,Qb,Qc,Qd,Qe,Qf,Qg,Qh,Qi,Qj,Qk,reduceCtorEq,reduceIte,US,g11,vk,g21,Eo,g22,xU,g23a,rV,g24a,xT,g23b,hlv,c32,hne,g14k,iA,g14w,g14b9,hlA,hlA',m1,s,hlz,tkz,gz1,gz2]
 ·subst h
  have hkl:16<=k.length:=by show 16<=k.length;simp only at hk17;omega
  have hklI:(16:Int)<=(k.length:Int):=by omega
  have gz1:=up (f23 ⟨A++⟨d,k.take 16⟩::B,th⟩);have gz2:=up (f24 ⟨A++⟨d,k.take 16⟩::B,th⟩);simp only[Tr.sv]at gz1 gz2;have s:=s1 ⟨d,k.take 16⟩;simp only[Au.sv]at s m1;have hlz:=cz (A++⟨d,k.take 16⟩::B);have hNz:(A++(⟨d,k.take 16⟩:Au)::B).length=N:=by rw[<-hL0];simp
  rw[hNz]at hlz;have tkz:(cO (A++(⟨d,k.take 16⟩:Au)::B)).take N=cO (A++⟨d,k.take 16⟩::B):=by rw[<-hNz,ep,cf]
  simp only[Tr.sv,go_sem,Q0,Q1,Q2,Q3,Q4,Q5,Q6,Q7,Q8,Q9,Qa,Qb,Qc,Qd,Qe,Qf,Qg,Qh,Qi,Qj,Qk,reduceCtorEq,reduceIte,US,g11,vk,g21,Eo,g22,xU,g23a,rV,g24a,xT,g23b,hlv,c32,hne,g14k,iA,g14w,hlA,hlA',m1,hkl,hklI,s,hlz,tkz,gz1,gz2]
 ·subst h
  have gz1:=up (f23 ⟨(A++⟨d,k⟩::B)++(A++⟨d,k⟩::B),th⟩);have gz2:=up (f24 ⟨(A++⟨d,k⟩::B)++(A++⟨d,k⟩::B),th⟩);simp only[Tr.sv]at gz1 gz2;have ap:=zF (A++⟨d,k⟩::B) (A++⟨d,k⟩::B);have cN:(N+N)*32<=140737488355328:=by omega
  have hlz:=cz ((A++⟨d,k⟩::B)++(A++⟨d,k⟩::B));have hNz:((A++(⟨d,k⟩:Au)::B)++(A++(⟨d,k⟩:Au)::B)).length=N+N:=by rw[ai,hL0]
  rw[hNz]at hlz;have tkz:(cO ((A++(⟨d,k⟩:Au)::B)++(A++(⟨d,k⟩:Au)::B))).take (N+N)=cO ((A++(⟨d,k⟩:Au)::B)++(A++(⟨d,k⟩:Au)::B)):=by rw[<-hNz,ep,cf]
  simp only[aY,bo]at ap hlz tkz gz1 gz2;simp only[Tr.sv,go_sem,Q0,Q1,Q2,Q3,Q4,Q5,Q6,Q7,Q8,Q9,Qa,Qb,Qc,Qd,Qe,Qf,Qg,Qh,Qi,Qj,Qk,reduceCtorEq,reduceIte,US,g11,vk,g21,Eo,g22,xU,g23a,rV,g24a,xT,g23b,hlv,c32,hne,g14k,iA,g14w,tk,ap,cN,hlz,tkz,gz1,gz2]
 ·subst h
  have tA:(cO (A++(⟨d,k⟩:Au)::B)).take A.length=cO A:=by rw[ep];simp
  have dA:(cO (A++(⟨d,k⟩:Au)::B)).drop A.length=Au.sv ⟨d,k⟩::cO B:=by rw[xb];simp[cO]
  have lA:=cz A;have lB:=cz B;have tB:(Au.sv ⟨d,k⟩::cO B).take (N-A.length)=Au.sv ⟨d,k⟩::cO B:=aT (by rw[aj,lB];rw[ai,aj]at hL0;omega);have hNA:A.length+(N-A.length)<=N:=by omega
  have k1:A.length*32<=140737488355328:=by omega
  have k2:(A.length+1)*32<=140737488355328:=by omega
  have hB3:B.length<=3:=by rw[ai,aj]at hL0;omega
  have k3:(A.length+(1+(B.length+1)))*32<=140737488355328:=by omega
  have k4:(A.length+1+(B.length+1))*32<=140737488355328:=by omega
  have gz1:=up (f23 ⟨A++(⟨d,k⟩:Au)::⟨d,k⟩::B,th⟩);have gz2:=up (f24 ⟨A++(⟨d,k⟩:Au)::⟨d,k⟩::B,th⟩);have ez:cO (A++(⟨d,k⟩:Au)::⟨d,k⟩::B)=cO A++(Au.sv ⟨d,k⟩::Au.sv ⟨d,k⟩::cO B):=by simp[cO]
  simp only[Tr.sv,ez,Au.sv]at gz1 gz2;simp only[Au.sv]at m1 dA tB;simp only[Tr.sv,go_sem,Q0,Q1,Q2,Q3,Q4,Q5,Q6,Q7,Q8,Q9,Qa,Qb,Qc,Qd,Qe,Qf,Qg,Qh,Qi,Qj,Qk,reduceCtorEq,reduceIte,US,g11,vk,g21,Eo,g22,xU,g23a,rV,g24a,xT,g23b,hlv,c32,hne,g14k,iA,g14w,hlA,hlA',m1,tk,Nat.sub_zero,tA,dA,lA,lB,tB,hNA,k1,k2,k3,k4,gz1,gz2]
theorem f4(raw:Tr)(n thr wh at0 by0:Int)(n1: -9223372036854775808<=n)(n2:n<=9223372036854775807)(t1: -9223372036854775808<=thr)(t2:thr<=9223372036854775807)(w1: -9223372036854775808<=wh)(w2:wh<=9223372036854775807)(a1: -9223372036854775808<=at0)(a2:at0<=9223372036854775807)(b1: -9223372036854775808<=by0)(b2:by0<=9223372036854775807):
 call U 4 [.agg raw.sv,.int .i64 n,.int .i64 thr,.int .i64 wh,.int .i64 at0,.int .i64 by0] [] 0=some ⟨.bool true,[],[]⟩:=by
 obtain⟨k,hk2,hk,g⟩:=f22 n thr t1 t2 n1 n2;have hl:=ve k;obtain⟨hb0,hb1⟩:=eN at0 ((k+1:Nat):Int) (by omega);obtain⟨q,hq⟩:∃q:Nat,dz at0 ((k+1:Nat):Int)=(q:Int):=⟨(dz at0 ((k+1:Nat):Int)).toNat,by omega⟩;have hqk:q<(auL k).length:=by omega
 have hs:auL k=(auL k).take q++(auL k)[q]::(auL k).drop (q+1):=by simp
 have hA:((auL k).take q).length=q:=by rw[ax];omega
 have g':=up g;have hE:=SD k hk2 thr;unfold trL at g' hE;rw[hs]at g' hE;exact f4c raw ((auL k).take q) ((auL k).drop (q+1)) ((auL k)[q]) (1+dz thr ((k+1:Nat):Int)) n thr wh at0 by0 (by rw[<-hs];omega) (HQ k _ (bd hqk)) hE g' w1 w2 a1 a2 b1 b2 (by rw[<-hs,hl,hA];exact hq)
end Go.Proofs.YtkggincjigbelaaGreatDoor
