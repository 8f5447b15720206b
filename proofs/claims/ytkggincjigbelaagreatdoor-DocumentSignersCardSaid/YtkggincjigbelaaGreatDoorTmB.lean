/- What the functions come to. No condition. -/
import Derived.Test.YtkggincjigbelaaGreatDoorTiB
import Derived.Test.YtkggincjigbelaaGreatDoorTlB
open Int renaming natCast_zero -> aw
open List renaming append_assoc -> ay, drop -> gJ, getD_eq_getElem?_getD -> aa, getElem?_map -> aQ, getElem?_range -> bV, length_append -> ac, length_cons -> aj, length_drop -> aI, length_map -> aP, length_nil -> aq, length_replicate -> dI, length_singleton -> aW, length_take -> ax, map_append -> ct, map_cons -> aC, map_nil -> bp, mem_singleton -> bf, nil_append -> az, replicate -> aE, singleton_append -> dd, take -> fv, take_length -> cK, take_of_length_le -> aO
open Nat renaming le_refl -> aH, zero_le -> bt
open UInt8 renaming ofInt -> bK
set_option maxRecDepth 100000
set_option maxHeartbeats 16000000
set_option linter.unusedSimpArgs false
set_option linter.unusedVariables false
namespace Go.Proofs.YtkggincjigbelaaGreatDoor
open Go.Sy
open UInt8 renaming reduceLT -> Q0, reduceLE -> Q1
open Int renaming reduceToNat -> Q2, reduceLE -> Q3, reduceLT -> Q4, reduceEq -> Q5, reduceNe -> Q6, reduceNeg -> Q7, reduceAdd -> Q8, reduceSub -> Q9, reduceMul -> Qa
open Nat renaming reducePow -> Qb, reduceDiv -> Qc, reduceMod -> Qd, reduceAdd -> Qe, reduceSub -> Qf, reduceMul -> Qg, reduceLT -> Qh, reduceLeDiff -> Qi, reduceEqDiff -> Qj, reduceBEq -> Qk
theorem nW:T.sg 32= {}:=rfl
theorem xof(B:List UInt8)(hB:B.length<=1000000000)(h:(wT B).1≠21):call T 61 [.byt B .no] [] 0=some ⟨.tup [.agg [.str [],.int .i64 0,.int .i64 0,.int .i64 0,.int .i64 0,.lst 4 [] .no,.lst 4 [] .no],.int .i64 30],[],[]⟩:=by have o0:dk B ⟨0,0⟩:=⟨bt _⟩;have g0:=f41 B hB;have g1:=f42 B hB 1 (by decide) (by decide) ⟨0,0⟩ o0;change call T 42 _ _ _=some ⟨.int .i64 (wT B).1,[(0,rdO B 60 (wT B).2)],[60]⟩at g1;rw[c1]at g1;generalize wT B=t at*;obtain⟨t1,t2⟩:=t;simp only[rdO,aw]at g0 g1 h;rw[ah xmu];simp only[go_sem,Q0,Q1,Q2,Q3,Q4,Q5,Q6,Q7,Q8,Q9,Qa,Qb,Qc,Qd,Qe,Qf,Qg,Qh,Qi,Qj,Qk,reduceCtorEq,reduceIte,g0,g1,x8,nV,h]
theorem xl5{t:Tr}{B:List UInt8}{ms:List Mk}(hok:Es t B ms)(hE:trE t=0)(hm:ms.length<=4)(hd:(wT B).1≠21){w:Wd}(hw:nf B=some w):
 call U 34 [.agg t.sv,.agg (bS B ms)] [] 0=some ⟨.int .i64 (if((sgL t B ms).length:Int)<t.thr then 44 else 0),[],[]⟩:=by
 have hB:B.length<=1000000000:=by have:=hok.b2;omega
 have g1:=up (f23 t);rw[hE]at g1;have g2:=up (xof B hB hd);have g3:=up (f16 B hB);rw[hw]at g3;have g4:=f32 hok;have hl:=fK (sgL t B ms);have hml:=cx ms;have h4:¬(4:Int)<ms.length:=by omega
 have h4n:¬4<ms.length:=by omega
 obtain⟨au,th⟩:=t;obtain⟨wm,wf⟩:=w;unfold Tr.sv bS at*;simp only[wdO,Wd.sv]at g3;generalize sgL ⟨au,th⟩ B ms=L at*;rw[ah Ob]
 by_cases hc:(L.length:Int)<th
 ·simp only[go_sem,Q0,Q1,Q2,Q3,Q4,Q5,Q6,Q7,Q8,Q9,Qa,Qb,Qc,Qd,Qe,Qf,Qg,Qh,Qi,Qj,Qk,reduceCtorEq,reduceIte,US,g1,ya,hml,h4,h4n,g2,Ey,g3,Od,g4,nW,hl,hc]
  trace_state
 ·simp only[go_sem,Q0,Q1,Q2,Q3,Q4,Q5,Q6,Q7,Q8,Q9,Qa,Qb,Qc,Qd,Qe,Qf,Qg,Qh,Qi,Qj,Qk,reduceCtorEq,reduceIte,US,g1,ya,hml,h4,h4n,g2,Ey,g3,Od,g4,nW,hl,hc]
  trace_state
def w9:Wd:=⟨aE 32 0,9⟩
theorem S6:wC w9:=by refine⟨?_, ?_, ?_⟩<;>decide
def bo9:List UInt8:=jS w9
theorem mw:bo9.length=39:=pN w9 S6
theorem C3(seed:List UInt8):(ii seed 1).length=17:=by have:ii seed 1=ub 1::gT 0 0 (pubL (lsV seed 1) 0) (pubL (lsV seed 1) 1):=rfl;rw[this,aj,gT,db]
theorem xf0:trL 0 0=⟨[auV 0],1⟩:=by unfold trL;rw[xo4,show 1+ik 0 ((0+1:Nat):Int)=1 by decide]
theorem PW(a:Au)(h1:1<=a.id)(h2:a.id<=1000)(hk:a.key.length=17):trE ⟨[a],1⟩=0:=by
 have ha:auE [a] 0=0:=by have h0:[a].getD 0 au0=a:=rfl;unfold auE;rw[h0,if_neg (by omega),if_neg (by omega),if_pos (by omega),if_pos rfl]
 have:lg [a] 1 0=0:=by show(if auE [a] 0=0 then 0 else auE [a] 0)=0;rw[if_pos ha]
 unfold trE;rw[show [a].length=1 from rfl,this];show(if(4:Int)<((1:Nat):Int)then(4:Int)else if(0:Int)=0 then(if(1:Int)<1 then 1 else if((1:Nat):Int)<1 then 1 else 0)else 0)=0;decide
theorem xkg:trE ⟨[auV 0],1⟩=0:=PW (auV 0) (by show(1:Int)<=3;decide) (by show(3:Int)<=1000;decide) (C3 _)
theorem Qy(a:Au)(thr:Int)(B:List UInt8)(m:Mk)(h1:a.id=m.auth)(h2:fw a.key B m.sig=true):sgL ⟨[a],thr⟩ B [m]=[a.id]:=by
 have:sgO ⟨[a],thr⟩ B [m]=[a.id]:=by show Si.stp (mA ⟨[a],thr⟩) (m5 [m]) (oe ⟨[a],thr⟩ B [m]) [] 0 0=[a.id];unfold Si.stp;rw[if_pos ⟨h1,by simp,h2⟩];rfl
 unfold sgL;rw[this];simp[Si.srt]
theorem E9(a:Au)(thr:Int)(B:List UInt8):sgL ⟨[a],thr⟩ B []=[]:=by simp[sgL,sgO,Si.out,Si.srt]
theorem Td(a:Au)(thr:Int)(B:List UInt8)(ms:List Mk)(h1:1<=a.id)(h2:a.id<=1000)(hm:ms.length<=1000)(hB:B.length<=100000000):Es ⟨[a],thr⟩ B ms:=
 ⟨aH _,by show 1<=1000;decide,hm,hB,fun x hx=>by rw[bf.1 hx];omega⟩
theorem f11:call U 11 [] [] 0=some ⟨.bool true,[],[]⟩:=by
 have hi1:(1:Int)<=(auV 0).id:=by show(1:Int)<=3;decide
 have hi2:(auV 0).id<=1000:=by show(3:Int)<=1000;decide
 have g22:=up (ZF 0 0 (by decide) (by decide) (by decide) (by decide) (by decide));rw[xf0]at g22;have g15:=up (f15 w9);have hw9:w9.sv=[.byt (aE 32 0) .no,.int .i64 9]:=rfl;have g39:=up (f39 3);have g28:=up (f28 bo9 [] 3 (dA 3) 1 1 (by decide) (by rw[ec];decide) (by rw[mw];decide) (.inr (.inr (.inr rfl))));have hd:=wq w9 S6;have g16:=up (f16 bo9 (by rw[mw];decide))
 have hwT:(wT bo9).1≠21:=by
  have h:wdP bo9:=by
   unfold bo9;unfold nf at hd
   by_cases hp:wdP (jS w9)
   ·exact hp
   ·rw[if_neg hp]at hd;cases hd
  rw[h.2.1];decide
 have hsg:=Qy (auV 0) 1 bo9 ⟨3,sgn (dA 3) 1 1 bo9⟩ rfl (by rw[p9];exact sC (dA 3) bo9 1 (by decide));have gv1:=xl5 (Td (auV 0) 1 bo9 [⟨3,sgn (dA 3) 1 1 bo9⟩] hi1 hi2 (by decide) (by rw[mw];decide)) xkg (by decide) hwT hd;have gv2:=xl5 (Td (auV 0) 1 bo9 [] hi1 hi2 (by decide) (by rw[mw];decide)) xkg (by decide) hwT hd;rw[hsg]at gv1;rw[E9]at gv2;have hl:=mw;change nf bo9=some w9 at hd;rw[hd]at g16;change call U 15 [.agg w9.sv] [] 0=some ⟨.byt bo9 .no,[],[]⟩at g15;rw[hw9]at g15;simp only[wdO]at g16;rw[hw9]at g16;generalize bo9=B at*;generalize sgn (dA 3) 1 1 B=G at*;generalize dA 3=S at*;have e3:((3:Nat):Int)=3:=rfl;rw[e3]at g39;simp only[Tr.sv,eX,aC,bp,bS,cW,Mk.sv,Au.sv,az]at g22 g28 gv1 gv2;have e1:¬((([(auV 0).id]:List Int).length:Int)<1):=by simp
 have e0:((([]:List Int).length:Int)<1):=by simp
 rw[if_neg e1]at gv1;rw[if_pos e0]at gv2;generalize (auV 0).id=aid at*;generalize (auV 0).key=ak at*;have e39:((39:Nat):Int)=39:=rfl;have ht:fv 32 (aE 32 (0:UInt8))=aE 32 0:=by simp
 rw[ah xo7];simp only[go_sem,Q0,Q1,Q2,Q3,Q4,Q5,Q6,Q7,Q8,Q9,Qa,Qb,Qc,Qd,Qe,Qf,Qg,Qh,Qi,Qj,Qk,reduceCtorEq,reduceIte,US,ht,g22,sh,g15,xp9,g39,ni,g28,SY,g16,Od,hl,e39,gv1,gv2,sf,aj,aq,n1c]
 trace_state
theorem xkd(B:List UInt8)(m:Nat)(s:Rs):(wR B m s).1.length<=m:=by
 unfold wR;split
 ·split
  ·show(fv _ _).length<=_;rw[ax];omega
  ·exact bt _
 ·exact bt _
theorem f12(B:List UInt8)(n:Nat)(h:n<=1000):call T 12 [.byt B .no,.int .i64 n] [] 0=some ⟨.byt (B.take n) .no,[],[]⟩:=by
 rw[ah xpZ]
 by_cases hc:n<B.length
 ·have hcI:(n:Int)<(B.length:Int):=by omega
  have h1:n<=B.length:=by omega
  simp only[go_sem,Q0,Q1,Q2,Q3,Q4,Q5,Q6,Q7,Q8,Q9,Qa,Qb,Qc,Qd,Qe,Qf,Qg,Qh,Qi,Qj,Qk,reduceCtorEq,reduceIte,hc,hcI,h1]
 ·have hcI:¬(n:Int)<(B.length:Int):=by omega
  have ht:B.take n=B:=aO (by omega);simp only[go_sem,Q0,Q1,Q2,Q3,Q4,Q5,Q6,Q7,Q8,Q9,Qa,Qb,Qc,Qd,Qe,Qf,Qg,Qh,Qi,Qj,Qk,reduceCtorEq,reduceIte,hc,hcI,ht]
def kD(B:List UInt8):List UInt8:=B.take 32++gJ (B.take 32).length (aE 32 0)
theorem mE(B:List UInt8):(kD B).length=32:=by unfold kD;rw[ac,aI,dI,ax];omega
theorem f13(B:List UInt8):call T 13 [.byt B .no] [] 0=some ⟨.byt (kD B) .no,[],[]⟩:=by have hl:=mE B;have ht:(kD B).take 32=kD B:=aO (by omega);unfold kD at*;rw[ah xpY];simp only[go_sem,Q0,Q1,Q2,Q3,Q4,Q5,Q6,Q7,Q8,Q9,Qa,Qb,Qc,Qd,Qe,Qf,Qg,Qh,Qi,Qj,Qk,reduceCtorEq,reduceIte,hl,ht]
def wt(a:Au):Au:=⟨a.id,a.key.take 20⟩
def xfb(t:Tr):Tr:=⟨(t.au.take 6).map wt,t.thr⟩
theorem SF(A B:List Au)(x:Au):(eX (A++x::B)).getD A.length []=x.sv:=by rw[gH _ _ (by simp)];simp[aa]
theorem SE(A B:List Au)(x y:Au):(eX (A++x::B)).set A.length y.sv=eX (A++y::B):=by unfold eX;rw[ct,ct,List.set_append_right _ _ (by simp)];simp
theorem rV(l:List Au)(n:Nat):(eX l).take n=eX (l.take n):=by simp[eX,List.map_take]
theorem Cb{l:List Au}(h:l≠ []):¬eX l=[]:=fun e=>h (by simpa[eX]using e)
theorem l21(O1 O2:aF)(N:Nat)(hN:N<=1000):∀(B A:List Au),A.length+B.length=N->
 run T (.loop ON) ⟨[(1,.ptr 101 0),(2,.ptr 102 0),(3,.psl 116 2 0 N none),(4,.int .i64 (A.length:Int))],[(101,O1),(102,O2),(116,.arr 2 (eX (A++B)))],[]⟩=
  some (.x 0,⟨[(1,.ptr 101 0),(2,.ptr 102 0),(3,.psl 116 2 0 N none)],[(101,O1),(102,O2),(116,.arr 2 (eX (A++B.map wt)))],[]⟩):=by
 intro B;induction B with
 |nil=>
  intro A h;have h1:¬A.length<N:=by rw[aq]at h;omega
  rw[ai];simp only[go_sem,Q0,Q1,Q2,Q3,Q4,Q5,Q6,Q7,Q8,Q9,Qa,Qb,Qc,Qd,Qe,Qf,Qg,Qh,Qi,Qj,Qk,reduceCtorEq,reduceIte,h1,bp]
 |cons x B ih=>
  intro A h;rw[aj]at h;have h1:A.length<N:=by omega
  have e1:=cA A.length (by omega);obtain⟨d,k⟩:=x;have g:=f12 k 20 (by decide);rw[show((20:Nat):Int)=20 from rfl]at g;have hl1:∀y:Au,(eX (A++y::B)).length=N:=fun y=>by rw[dx,ac,aj];omega
  have m1:=SF A B ⟨d,k⟩;have s1:=SE A B ⟨d,k⟩ ⟨d,k.take 20⟩;have hk:=ih (A++ [wt ⟨d,k⟩]) (by simp;omega);rw[ay,ay,ac,aW]at hk;simp only[wt,Au.sv,dd,aC]at hk m1 s1 ⊢;have hl0:=hl1 ⟨d,k⟩;rw[ai];simp only[go_sem,Q0,Q1,Q2,Q3,Q4,Q5,Q6,Q7,Q8,Q9,Qa,Qb,Qc,Qd,Qe,Qf,Qg,Qh,Qi,Qj,Qk,reduceCtorEq,reduceIte,h1,e1,hl0,m1,g,xmL,s1,hk]
  trace_state
theorem f21(t:Tr):call T 21 [.agg t.sv] [] 0=some ⟨.agg (xfb t).sv,[],[]⟩:=by
 have hl:=dx t.au;obtain⟨au,th⟩:=t;simp only[Tr.sv,xfb]at*;have c1:∀l:List Au,l.length<=6->(eX l).length*32<=140737488355328:=fun l h=>by rw[dx];omega
 have tl:∀l:List Au,(eX l).take l.length=eX l:=fun l=>by rw[rV,cK]
 by_cases h6:6<au.length
 ·have h6I:(6:Int)<(au.length:Int):=by omega
  have h6':6<=au.length:=by omega
  have h6L:(6:Int)<=(au.length:Int):=by omega
  have hln:(au.take 6).length=6:=by rw[ax];omega
  have hne:¬eX (au.take 6)=[]:=Cb (by intro e;rw[e]at hln;cases hln);have g:=l21 (.rc [.lst 2 (eX (au.take 6)) .no,.int .i64 th]) (.rc [.lst 2 [] .clip,.int .i64 0]) 6 (by decide) (au.take 6) [] (by rw[hln];rfl);simp only[aq,aw,az]at g;have hlv:=dx (au.take 6);rw[hln]at hlv;have hlm:((au.take 6).map wt).length=6:=by rw[aP,hln]
  have hlc:=dx ((au.take 6).map wt);rw[hlm]at hlc;have tk:=tl ((au.take 6).map wt);rw[hlm]at tk;rw[ah xfr];simp only[go_sem,Q0,Q1,Q2,Q3,Q4,Q5,Q6,Q7,Q8,Q9,Qa,Qb,Qc,Qd,Qe,Qf,Qg,Qh,Qi,Qj,Qk,reduceCtorEq,reduceIte,hl,h6,h6I,h6',h6L,rV,hne,hlv,g,hlc,tk]
  trace_state
 ·have h6I:¬(6:Int)<(au.length:Int):=by omega
  have ht:au.take 6=au:=aO (by omega);rw[ht]
  by_cases hz:au=[]
  ·subst hz
   rw[ah xfr];simp only[go_sem,Q0,Q1,Q2,Q3,Q4,Q5,Q6,Q7,Q8,Q9,Qa,Qb,Qc,Qd,Qe,Qf,Qg,Qh,Qi,Qj,Qk,reduceCtorEq,reduceIte,eX,bp,aq];rw[ai];simp only[go_sem,Q0,Q1,Q2,Q3,Q4,Q5,Q6,Q7,Q8,Q9,Qa,Qb,Qc,Qd,Qe,Qf,Qg,Qh,Qi,Qj,Qk,reduceCtorEq,reduceIte,eX,bp,aq]
   trace_state
  ·have hne:=Cb hz
   have g:=l21 (.rc [.lst 2 (eX au) .no,.int .i64 th]) (.rc [.lst 2 [] .clip,.int .i64 0]) au.length (by omega) au [] (by simp);simp only[aq,aw,az]at g;have c2:au.length*32<=140737488355328:=by omega
   have hlm:(au.map wt).length=au.length:=aP ..;have hlc:=dx (au.map wt);rw[hlm]at hlc;have tk:=tl (au.map wt);rw[hlm]at tk;have ll:au.length<=au.length:=aH _;rw[ah xfr];simp only[go_sem,Q0,Q1,Q2,Q3,Q4,Q5,Q6,Q7,Q8,Q9,Qa,Qb,Qc,Qd,Qe,Qf,Qg,Qh,Qi,Qj,Qk,reduceCtorEq,reduceIte,hl,h6,h6I,hne,c2,g,hlc,tk,ll]
   trace_state
theorem tN(k:Nat):(auL k).length=k+1:=by simp[auL]
theorem SG(i:Nat):(auV i).key.length=17:=by
 show(ii _ 1).length=17;have e:∀s,ii s 1=bK 1::gT 0 0 (pubL (lsV s 1) 0) (pubL (lsV s 1) 1):=fun _=>rfl
 rw[e,aj];have:(gT 0 0 (pubL (lsV (dA (3+2*i)) 1) 0) (pubL (lsV (dA (3+2*i)) 1) 1)).length=16:=db _ _;omega
theorem my(k i:Nat)(h:i<=k):(auL k).getD i au0=auV i:=by simp only[auL,aa,aQ];rw[bV (by omega)];rfl
theorem xiI(k i:Nat)(h:i<=k)(hk:k<=2):auE (auL k) i=0:=by
 unfold auE;rw[my k i h];have hkl:=SG i
 by_cases h0:i=0
 ·subst h0
  rw[if_neg (by show ¬(3+2*((0:Nat):Int))<1;omega),if_neg (by show ¬1000<(3+2*((0:Nat):Int));omega),if_pos (by omega),if_pos rfl]
 ·rw[my k (i-1) (by omega)]
  rw[if_neg (by show ¬(3+2*(i:Int))<1;omega),if_neg (by show ¬1000<(3+2*(i:Int));omega),if_pos (by omega),if_neg h0,if_neg (by show ¬(3+2*(i:Int))<=(3+2*((i-1:Nat):Int));omega)]
theorem Oa(k:Nat)(hk:k<=2):∀n i,i+n<=k+1->lg (auL k) n i=0
 |0,_,_=>rfl
 |n+1,i,h=>by show(if auE (auL k) i=0 then lg (auL k) n (i+1)else auE (auL k) i)=0;rw[if_pos (xiI k i (by omega) hk)];exact Oa k hk n (i+1) (by omega)
theorem Oi(k:Nat)(hk:k<=2)(thr:Int):trE (trL k thr)=0:=by have hb:=ld thr ((k+1:Nat):Int) (by omega);have hl:=tN k;unfold trE;show(if(4:Int)<(auL k).length then(4:Int)else if lg (auL k) (auL k).length 0=0 then(if 1+ik thr ((k+1:Nat):Int)<1 then 1 else if((auL k).length:Int)<1+ik thr ((k+1:Nat):Int)then 1 else 0)else lg (auL k) (auL k).length 0)=0;rw[hl,if_neg (by omega),if_pos (Oa k hk (k+1) 0 (by omega)),if_neg (by omega),if_neg (by omega)]
theorem f22(n thr:Int)(h0: -9223372036854775808<=thr)(h1:thr<=9223372036854775807)(hn0: -9223372036854775808<=n)(hn1:n<=9223372036854775807):∃k:Nat,k<=2/\(k:Int)=ik n 3/\call T 22 [.int .i64 n,.int .i64 thr] [] 0=some ⟨.agg (trL k thr).sv,[],[]⟩:=by
 have hb:=ld n 3 (by decide);rcases (by omega:ik n 3=0\/ik n 3=1\/ik n 3=2)with h|h|h
 ·exact⟨0,by decide,h.symm,ZF n thr h0 h1 hn0 hn1 h⟩
 ·exact⟨1,by decide,h.symm,xit n thr h0 h1 hn0 hn1 h⟩
 ·exact⟨2,by decide,h.symm,xis n thr h0 h1 hn0 hn1 h⟩
end Go.Proofs.YtkggincjigbelaaGreatDoor
