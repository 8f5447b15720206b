/- What the functions come to. No condition. -/
import Derived.Test.YtdafipacemgcoaaGreatDoorTd
set_option maxRecDepth 100000
set_option linter.unusedSimpArgs false
set_option linter.unusedVariables false
namespace Go.Proofs.YtdafipacemgcoaaGreatDoor
open Go.Sy
open UInt8 renaming reduceLT → Q0, reduceLE → Q1
open Int renaming reduceToNat → Q2, reduceLE → Q3, reduceLT → Q4, reduceEq → Q5, reduceNe → Q6, reduceNeg → Q7, reduceAdd → Q8, reduceSub → Q9, reduceMul → Qa
open Nat renaming reducePow → Qb, reduceDiv → Qc, reduceMod → Qd, reduceAdd → Qe, reduceSub → Qf, reduceMul → Qg, reduceLT → Qh, reduceLeDiff → Qi, reduceEqDiff → Qj, reduceBEq → Qk
theorem evsv_snoc (l:List Ev) (x:Ev):evsv l++ [x.sv]=evsv (l++ [x]):=by rw [evsv,evsv,List.map_append];rfl
theorem all_snoc {α:Type} {P:α→Prop} {l:List α} {x:α} (h:∀e,e∈l→P e) (hx:P x):∀e,e∈l++ [x]→P e:=by
 intro e he;rcases List.mem_append.mp he with h1|h1
 ·exact h e h1
 ·rw [List.mem_singleton.mp h1];exact hx
theorem l85 (B:List UInt8) (hB:B.length≤1000) (a:Int) (ha:actv a):∀(n:Nat) (l:List Ev) (j:Nat),14-l.length=n→l.length≤14→(∀e,e∈l→EvS e)→
 ∃(l':List Ev) (j':Nat),l'.length≤14∧(∀e,e∈l'→EvS e)∧
 run T (.loop r85_4) ⟨[(0,.ptr 0 0),(1,.int .i64 a),(2,.int .i64 14),(7,.lst 4 (evsv l) (.id 107))],[(0,codesO B j)],[107]⟩=
  some (.x 0,⟨[(7,.lst 4 (evsv l') (.id 107))],[(0,codesO B j')],[107]⟩):=by
 intro n;induction n with
 | zero=>
  intro l j h0 h1 h2;have:l.length=14:=by omega
  have hv:(evsv l).length=14:=by rw [evsv_len];exact this
  refine⟨l,j,h1,h2, ?_⟩;have g:=f131 B j;rw [run_loop]
  by_cases q:j<B.length
  ·rw [decide_eq_true q]at g
   simp only [codesO]at g ⊢;simp only [go_sem,Q4,Qe,Qg,Qh,Qi,Qj,Qk,reduceCtorEq,reduceIte,g,S_131,hv]
  ·rw [decide_eq_false q]at g
   simp only [codesO]at g ⊢;simp only [go_sem,Qe,Qg,Qh,Qi,Qj,Qk,reduceCtorEq,reduceIte,g,S_131]
 | succ n ih=>
  intro l j h0 h1 h2;have hv:=evsv_len l;have g:=f131 B j;have c14:(l.length:Int)<14:=by omega
  have c1:(l.length+1)*64≤140737488355328:=by omega
  by_cases q:j<B.length
  ·rw [decide_eq_true q]at g
   obtain⟨e,j1,he,ge⟩:=f38 B hB j a ha;obtain⟨l',j',q1,q2,q3⟩:=ih (l++ [e]) j1 (by rw [List.length_append,List.length_singleton];omega) (by rw [List.length_append,List.length_singleton];omega) (all_snoc h2 he);refine⟨l',j',q1,q2, ?_⟩;rw [run_loop];obtain⟨e1,e2,e3,e4⟩:=e;rw [←evsv_snoc]at q3;simp only [codesO,Ev.sv]at g ge q3 ⊢;simp only [go_sem,Qe,Qg,Qh,Qi,Qj,Qk,reduceCtorEq,reduceIte,g,S_131,hv,c14,ge,S_38,c1,q3]
  ·rw [decide_eq_false q]at g
   refine⟨l,j,h1,h2, ?_⟩;rw [run_loop];simp only [codesO]at g ⊢;simp only [go_sem,Qe,Qg,Qh,Qi,Qj,Qk,reduceCtorEq,reduceIte,g,S_131]
theorem f85 (B:List UInt8) (hB:B.length≤1000) (j:Nat) (a:Int) (ha:actv a):∃(l:List Ev) (j':Nat),l.length≤14∧(∀e,e∈l→EvS e)∧
 call T 85 [.ptr 0 0,.int .i64 a,.int .i64 14] [codesO B j] 0=some ⟨.lst 4 (evsv l) .no,[(0,codesO B j')],[]⟩:=by
 obtain⟨l',j',q1,q2,q3⟩:=l85 B hB a ha 14 [] j rfl (Nat.zero_le _) (fun e he=>absurd he (by simp));refine⟨l',j',q1,q2, ?_⟩;rw [show evsv []=[]from rfl]at q3;rw [call_code T_85];simp only [codesO]at q3 ⊢;simp only [go_sem,Qe,Qh,Qi,Qj,Qk,reduceCtorEq,reduceIte,q3]
theorem all_app {α:Type} {P:α→Prop} {l r:List α} (h:∀e,e∈l→P e) (hr:∀e,e∈r→P e):∀e,e∈l++r→P e:=by
 intro e he;rcases List.mem_append.mp he with h1|h1
 ·exact h e h1
 ·exact hr e h1
theorem all_set {α:Type} {P:α→Prop} {l:List α} {i:Nat} {x:α} (h:∀e,e∈l→P e) (hx:P x):∀e,e∈l.set i x→P e:=by
 intro e he;rcases List.mem_or_eq_of_mem_set he with h1|h1
 ·exact h e h1
 ·rw [h1];exact hx
set_option maxHeartbeats 8000000 in
theorem l36 (B:List UInt8) (hB:B.length≤1000) (a:Int) (ha:actv a) (u:Int):∀(n:Nat) (l:List Ev) (j:Nat),n+1≤l.length→l.length+n≤200→(∀e,e∈l→EvS e)→
 ∃(l':List Ev) (j':Nat),l'.length≤200∧(∀e,e∈l'→EvS e)∧
 run T (.loop r36_24) ⟨[(1,.int .i64 a),(6,.ptr 106 0),(7,.ptr 15100 0),(8,.ptr 108 0),(10,.int .i64 (n:Int))],[(106,.rc [.int .i64 0,.int .i64 0,.lst 4 [] .clip]),(108,.rc [.int .i64 a,.int .i64 u,.lst 4 (evsv l) .no]),(15100,codesO B j)],[]⟩=
  some (.x 0,⟨[(6,.ptr 106 0),(8,.ptr 108 0)],[(106,.rc [.int .i64 0,.int .i64 0,.lst 4 [] .clip]),(108,.rc [.int .i64 a,.int .i64 u,.lst 4 (evsv l') .no]),(15100,codesO B j')],[]⟩):=by
 intro n;induction n with
 |zero=>intro l j h0 h1 h2;refine⟨l,j,by omega,h2, ?_⟩;rw [run_loop];simp only [codesO];simp only [go_sem,Q4,Qh,Qj,Qk,reduceIte]
 | succ n ih=>
  intro l j h0 h1 h2;have hv:=evsv_len l;have hp:(0:Int)<((n+1:Nat):Int):=by omega
  have e1:IntKind.i64.wrap (((n+1:Nat):Int)-1)=(n:Int):=by rw [w64 (by omega) (by omega)];omega
  obtain⟨v1,j1,k1,g1⟩:=nx37 B hB j l.length (by omega);obtain⟨v2,j2,k2,g2⟩:=nx37 B hB j1 5 (by omega);rw [cz5]at g2;simp only [codesO]at g1 g2;have k1':v1≤l.length:=by omega
  have k1i:(v1:Int)<(l.length:Int):=by omega
  have hs:v1+1≤l.length:=by omega
  have e2:IntKind.i64.wrap ((v1:Int)+1)=((v1+1:Nat):Int):=by rw [w64 (by omega) (by omega)];omega
  have tf:List.take l.length (evsv l)=evsv l:=by rw [←hv,List.take_length]
  obtain⟨A,hA⟩:∃A,A=l.take v1:=⟨_,rfl⟩;obtain⟨C,hC⟩:∃C,C=l.drop (v1+1):=⟨_,rfl⟩;obtain⟨D,hD⟩:∃D,D=l.drop v1:=⟨_,rfl⟩;have tA:List.take v1 (evsv l)=evsv A:=by rw [hA,evsv,evsv,List.map_take]
  have tC:List.drop (v1+1) (evsv l)=evsv C:=by rw [hC,evsv,evsv,List.map_drop]
  have tD:List.drop v1 (evsv l)=evsv D:=by rw [hD,evsv,evsv,List.map_drop]
  have nA:A.length=v1:=by rw [hA,List.length_take];omega
  have nC:C.length=l.length-(v1+1):=by rw [hC,List.length_drop]
  have nD:D.length=l.length-v1:=by rw [hD,List.length_drop]
  have vA:(evsv A).length=v1:=by rw [evsv_len,nA]
  have vC:(evsv C).length=l.length-(v1+1):=by rw [evsv_len,nC]
  have vD:(evsv D).length=l.length-v1:=by rw [evsv_len,nD]
  have sA:∀e,e∈A→EvS e:=fun e he=>h2 e (by rw [hA]at he;exact List.mem_of_mem_take he)
  have sC:∀e,e∈C→EvS e:=fun e he=>h2 e (by rw [hC]at he;exact List.mem_of_mem_drop he)
  have sD:∀e,e∈D→EvS e:=fun e he=>h2 e (by rw [hD]at he;exact List.mem_of_mem_drop he)
  have eAC:evsv A++evsv C=evsv (A++C):=by rw [evsv,evsv,evsv,List.map_append]
  have hc:v2=0∨v2=1∨v2=2∨v2=3∨v2=4:=by omega
  rcases hc with rfl|rfl|rfl|rfl|rfl
  ·obtain⟨l',j',q1,q2,q3⟩:=ih (A++C) j2 (by rw [List.length_append];omega) (by rw [List.length_append];omega) (all_app sA sC)
   refine⟨l',j',q1,q2, ?_⟩;have b1:v1*64≤140737488355328:=by omega
   have b2:(v1+(l.length-(v1+1)))*64≤140737488355328:=by omega
   rw [←eAC]at q3;rw [run_loop];simp only [codesO]at q3 ⊢;simp only [go_sem,Q2,Q3,Q5,Qb,Qc,Qd,Qe,Qg,Qh,Qi,Qj,Qk,reduceCtorEq,reduceIte,hp,hv,g1,S_37,g2,k1,k1',e2,hs,tf,tA,tC,vA,vC,b1,b2,e1,q3]
  ·obtain⟨x,hx⟩:∃x,x=l.getD v1 ⟨0,0,[],[]⟩:=⟨_,rfl⟩
   have sx:EvS x:=h2 x (by rw [hx,List.getD_eq_getElem?_getD,List.getElem?_eq_getElem k1];exact List.getElem_mem _);have hg:(evsv l).getD v1 []=x.sv:=by rw [evsv_get l v1 k1,hx]
   obtain⟨l',j',q1,q2,q3⟩:=ih (A++ [x]++D) j2 (by simp only [List.length_append,List.length_singleton];omega) (by simp only [List.length_append,List.length_singleton];omega) (all_app (all_snoc sA sx) sD);refine⟨l',j',q1,q2, ?_⟩;have b1:v1*64≤140737488355328:=by omega
   have b3:(v1+1)*64≤140737488355328:=by omega
   have b2:(v1+(1+(l.length-v1)))*64≤140737488355328:=by omega
   have b4:(v1+1+(l.length-v1))*64≤140737488355328:=by omega
   have eAD:evsv (A++ [x]++D)=evsv A++([x.sv]++evsv D):=by rw [evsv,evsv,evsv,List.map_append,List.map_append,List.append_assoc];rfl
   rw [eAD]at q3;obtain⟨x1,x2,x3,x4⟩:=x;rw [run_loop];simp only [codesO,Ev.sv,List.cons_append,List.nil_append]at q3 hg ⊢;simp only [go_sem,Q2,Q3,Q5,Qb,Qc,Qd,Qe,Qg,Qh,Qi,Qj,Qk,reduceCtorEq,reduceIte,hp,hv,g1,S_37,g2,k1',k1i,hg,tf,tA,tD,vA,vD,b1,b3,b4,e1,q3]
  ·have hne:¬evsv l=[]:=fun q=>by rw [q]at hv;simp at hv;omega
   obtain⟨v3,j3,k3,g3⟩:=nx37 B hB j2 l.length (by omega);simp only [codesO]at g3;obtain⟨x,hx⟩:∃x,x=l.getD v1 ⟨0,0,[],[]⟩:=⟨_,rfl⟩;obtain⟨y,hy⟩:∃y,y=l.getD v3 ⟨0,0,[],[]⟩:=⟨_,rfl⟩;have sx:EvS x:=h2 x (by rw [hx,List.getD_eq_getElem?_getD,List.getElem?_eq_getElem k1];exact List.getElem_mem _);have sy:EvS y:=h2 y (by rw [hy,List.getD_eq_getElem?_getD,List.getElem?_eq_getElem k3];exact List.getElem_mem _);have hg:(evsv l).getD v1 []=x.sv:=by rw [evsv_get l v1 k1,hx]
   have hg3:(evsv l).getD v3 []=y.sv:=by rw [evsv_get l v3 k3,hy]
   have k3i:(v3:Int)<(l.length:Int):=by omega
   obtain⟨l',j',q1,q2,q3⟩:=ih ((l.set v1 y).set v3 x) j3 (by simp only [List.length_set];omega) (by simp only [List.length_set];omega) (all_set (all_set h2 sy) sx);refine⟨l',j',q1,q2, ?_⟩;have b1:l.length*64≤140737488355328:=by omega
   have eS:evsv ((l.set v1 y).set v3 x)=((evsv l).set v1 y.sv).set v3 x.sv:=by rw [evsv,evsv,List.map_set,List.map_set]
   rw [eS]at q3;have tl2:List.take l.length (((evsv l).set v1 y.sv).set v3 x.sv)=((evsv l).set v1 y.sv).set v3 x.sv:=List.take_of_length_le (by simp only [List.length_set];omega);obtain⟨x1,x2,x3,x4⟩:=x;obtain⟨y1,y2,y3,y4⟩:=y;rw [run_loop];simp only [codesO,Ev.sv]at q3 hg hg3 tl2 ⊢;simp only [go_sem,Q2,Q3,Q5,Qb,Qc,Qd,Qe,Qg,Qh,Qi,Qj,Qk,reduceCtorEq,reduceIte,hp,hv,g1,S_37,g2,g3,k1,k1',k1i,k3,k3i,hg,hg3,tf,setRow,b1,e1,hne,List.length_set,tl2,q3]
  ·obtain⟨x,j3,sx,g3⟩:=f38 B hB j2 a ha
   obtain⟨l',j',q1,q2,q3⟩:=ih (A++ [x]++D) j3 (by simp only [List.length_append,List.length_singleton];omega) (by simp only [List.length_append,List.length_singleton];omega) (all_app (all_snoc sA sx) sD);refine⟨l',j',q1,q2, ?_⟩;have b1:v1*64≤140737488355328:=by omega
   have b3:(v1+1)*64≤140737488355328:=by omega
   have b2:(v1+(1+(l.length-v1)))*64≤140737488355328:=by omega
   have b4:(v1+1+(l.length-v1))*64≤140737488355328:=by omega
   have eAD:evsv (A++ [x]++D)=evsv A++([x.sv]++evsv D):=by rw [evsv,evsv,evsv,List.map_append,List.map_append,List.append_assoc];rfl
   rw [eAD]at q3;obtain⟨x1,x2,x3,x4⟩:=x;rw [run_loop];simp only [codesO,Ev.sv,List.cons_append,List.nil_append]at q3 g3 ⊢;simp only [go_sem,Q2,Q3,Q5,Qb,Qc,Qd,Qe,Qg,Qh,Qi,Qj,Qk,reduceCtorEq,reduceIte,hp,hv,g1,S_37,g2,g3,S_38,k1',k1i,tf,tA,tD,vA,vD,b1,b3,b4,e1,q3]
  ·have g3:=f76 3 5 a [110,111,116,101] ha (by decide)
   have sx:=mkV_S 3 5 a [110,111,116,101] (by decide);rw [mkV_sv]at g3;obtain⟨l',j',q1,q2,q3⟩:=ih (A++ [mkV 3 5 a [110,111,116,101]]++D) j2 (by simp only [List.length_append,List.length_singleton];omega) (by simp only [List.length_append,List.length_singleton];omega) (all_app (all_snoc sA sx) sD);refine⟨l',j',q1,q2, ?_⟩;have b1:v1*64≤140737488355328:=by omega
   have b3:(v1+1)*64≤140737488355328:=by omega
   have b2:(v1+(1+(l.length-v1)))*64≤140737488355328:=by omega
   have b4:(v1+1+(l.length-v1))*64≤140737488355328:=by omega
   have eAD:evsv (A++ [mkV 3 5 a [110,111,116,101]]++D)=evsv A++([(mkV 3 5 a [110,111,116,101]).sv]++evsv D):=by rw [evsv,evsv,evsv,List.map_append,List.map_append,List.append_assoc];rfl
   rw [eAD,mkV_sv]at q3;rw [run_loop];simp only [codesO,List.cons_append,List.nil_append]at q3 g3 ⊢;simp only [go_sem,Q2,Q3,Q5,Qb,Qc,Qd,Qe,Qg,Qh,Qi,Qj,Qk,reduceCtorEq,reduceIte,hp,hv,g1,S_37,g2,g3,S_76,k1',k1i,tf,tA,tD,vA,vD,b1,b3,b4,e1,q3]
theorem digV_S (x:Img) (a:Int):((digV (encI x) a).getD 0 []).length≤1000∧((digV (encI x) a).getD 1 []).length≤1000:=by
 have e1:=sha1_len (encI x);have e2:=sha_len (encI x);unfold digV;split
 ·exact⟨Nat.zero_le _,Nat.zero_le _⟩
 ·constructor
  ·rw [List.getD_cons_zero]
   split
   ·omega
   ·exact Nat.zero_le _
  ·rw [List.getD_cons_succ,List.getD_cons_zero]
   split
   ·omega
   ·exact Nat.zero_le _
theorem ofI_S {x:Img} (a:Int) (h:imgE x=0):EvS (ofI x a):=by obtain⟨q1,q2,q3,q4,q5,q6⟩:=imgE_ok h;have hn:=nameB_len q5;obtain⟨v,hv⟩:=Int.eq_ofNat_of_zero_le q3;have hl:=dec_lenk 6 v (by omega);obtain⟨h0,h1⟩:=digV_S x a;refine⟨digV_len _ _, ?_,h0,h1⟩;show(labV x.name x.ver).length≤1000;unfold labV;rw [hv,List.length_append,List.length_cons];show x.name.length+((dec v).length+1)≤1000;omega
theorem evIm_S {x:Img} (a role:Int) (h:imgE x=0):∀e,e∈evIm a role x→EvS e:=by
 intro e he;obtain⟨q1,q2,q3,q4,q5,q6⟩:=imgE_ok h;unfold evIm at he;split at he
 ·split at he
  ·obtain⟨y,hy,rfl⟩:=List.mem_map.1 he
   have:=(linesV_bd x.pay).2 y hy;exact mkV_S _ _ _ _ (by omega)
  ·rw [List.mem_singleton.1 he];exact ofI_S a h
 ·cases he
theorem sepF_S (a:Int):∀n i e,e∈sepF a i n→EvS e
 |0,i,e,he=>by cases he
 |n+1,i,e,he=>by
  rw [sepF]at he;rcases List.mem_cons.1 he with rfl|he
  ·exact mkV_S _ _ _ _ (by decide)
  ·exact sepF_S a n _ e he
theorem memI {l:List Img} {x:Img} (h:x∈l) (hc:∀i,i<l.length→imgE (l.getD i im0)=0):imgE x=0:=by obtain⟨i,hi,rfl⟩:=List.getElem_of_mem h;have:=hc i hi;rwa [List.getD_eq_getElem?_getD,List.getElem?_eq_getElem hi]at this
theorem evF_S {l:List Img} (hc:ChainOK l) (a:Int):∀e,e∈evF l a→EvS e:=by
 have hf:∀role e,e∈l.flatMap (evIm a role)→EvS e:=by intro role e he;obtain⟨x,hx,h⟩:=List.mem_flatMap.1 he;exact evIm_S a role (memI hx hc.ok) e h
 unfold evF;exact all_app (hf 1) (all_app (hf 2) (all_app (sepF_S a 8 0) (all_app (hf 3) (hf 4))))
theorem evF_len {l:List Img} (hc:ChainOK l) (a:Int):8≤(evF l a).length∧(evF l a).length≤150:=by have n8:=hc.n8;have b1:=flat_len l a 1;have b2:=flat_len l a 2;have b3:=flat_len l a 3;have b4:=flat_len l a 4;have b0:=sepF_len a 8 0;unfold evF;simp only [List.length_append];omega
set_option maxHeartbeats 4000000 in
theorem f36 (codes:List UInt8) (a:Int) (ha:actv a):∃l:List Ev,l.length≤200∧(∀e,e∈l→EvS e)∧call T 36 [.byt codes .no,.int .i64 a,.int .i64 0] [] 0=some ⟨.agg [.int .i64 a,.int .i64 0,.lst 4 (evsv l) .no],[],[]⟩:=by
 have hB:(codes.take 240).length≤1000:=by rw [List.length_take];omega
 have g0:=f35 codes 240;have c240:((240:Nat):Int)=240:=rfl;have gm:=f18 0 1000 (by decide) (by decide) (by decide);rw [show modI 0 1000=0 from rfl]at gm;rw [c240]at g0;generalize codes.take 240=B at*;have g1:=f37 B 0 3 (by omega) (by omega);have v1:=nextV_lt B 0 3 (by omega);have hj:nextA B 0≤B.length:=by unfold nextA;split<;>omega
 generalize nextA B 0=j1 at*;generalize nextV B 0 3=w at*;rw [cz3]at g1;have c0:((0:Nat):Int)=0:=rfl
 by_cases hw:w=0
 ·obtain⟨l,j2,q1,q2,g2⟩:=f85 B hB j1 a ha
  refine⟨l,by omega,q2, ?_⟩;have hw':(w:Int)=0:=by omega
  rw [call_code T_36];simp only [codesO,c0]at g0 g1 g2 ⊢;simp only [go_sem,Qe,Qg,Qh,Qi,Qj,Qk,reduceCtorEq,reduceIte,g0,S_35,gm,S_18,g1,S_37,hw',g2,S_85]
 ·obtain⟨ch,hch,g2⟩:=f24 (B.drop j1)
  have g3:=f31 ch hch a ha;obtain⟨n8,n150⟩:=evF_len hch a;obtain⟨n,j2,hn,g4⟩:=nx37 B hB j1 4 (by omega);rw [cz4]at g4;obtain⟨l',j',q1,q2,q3⟩:=l36 B hB a ha 0 n (evF ch a) j2 (by omega) (by omega) (evF_S hch a);refine⟨l',q1,q2, ?_⟩;have hw':¬(w:Int)=0:=by omega
  have tf:List.take B.length B=B:=List.take_length ..;have hj':(j1:Int)≤(B.length:Int):=by omega
  rw [call_code T_36];simp only [codesO,c0]at g0 g1 g4 q3 ⊢;simp only [go_sem,Qb,Qc,Qd,Qe,Qg,Qh,Qi,Qj,Qk,reduceCtorEq,reduceIte,g0,S_35,gm,S_18,g1,S_37,hw',tf,hj',g2,S_24,g3,S_31,g4,q3]
set_option maxHeartbeats 8000000 in
theorem l11 (B:List UInt8) (hB:B.length≤1000) (a:Int) (ha:actv a) (ma:List UInt8) (I:List (List SV)):∀(n:Nat) (l:List Ev) (j:Nat),n≤10→l.length+n≤250→(∀e,e∈l→EvS e)→
 ∃(l':List Ev) (j':Nat),l'.length≤250∧(∀e,e∈l'→EvS e)∧
 run T (.loop r11_11) ⟨[(2,.byt ma .no),(8,.ptr 108 0),(10,.lst 4 I .no),(11,.ptr 19100 0),(12,.ptr 112 0),(13,.int .i64 (n:Int))],[(108,.rc [.int .i64 0,.int .i64 0,.lst 4 [] .clip]),(112,.rc [.int .i64 a,.int .i64 0,.lst 4 (evsv l) .no]),(19100,codesO B j)],[]⟩=
  some (.x 0,⟨[(2,.byt ma .no),(8,.ptr 108 0),(10,.lst 4 I .no),(12,.ptr 112 0)],[(108,.rc [.int .i64 0,.int .i64 0,.lst 4 [] .clip]),(112,.rc [.int .i64 a,.int .i64 0,.lst 4 (evsv l') .no]),(19100,codesO B j')],[]⟩):=by
 intro n;induction n with
 |zero=>intro l j h0 h1 h2;refine⟨l,j,by omega,h2, ?_⟩;rw [run_loop];simp only [codesO];simp only [go_sem,Q4,Qh,Qj,Qk,reduceIte]
 |succ n ih=>
  intro l j h0 h1 h2;have hv:=evsv_len l;have hp:(0:Int)<((n+1:Nat):Int):=by omega
  have e1:IntKind.i64.wrap (((n+1:Nat):Int)-1)=(n:Int):=by rw [w64 (by omega) (by omega)];omega
  have e2:=wsucc l.length (by omega);obtain⟨v1,j1,k1,g1⟩:=nx37 B hB j (l.length+1) (by omega);obtain⟨x,j2,sx,g3⟩:=f38 B hB j1 a ha;have k1':v1≤l.length:=by omega
  have k1i:(v1:Int)≤(l.length:Int):=by omega
  have tf:List.take l.length (evsv l)=evsv l:=by rw [←hv,List.take_length]
  obtain⟨A,hA⟩:∃A,A=l.take v1:=⟨_,rfl⟩;obtain⟨D,hD⟩:∃D,D=l.drop v1:=⟨_,rfl⟩;have tA:List.take v1 (evsv l)=evsv A:=by rw [hA,evsv,evsv,List.map_take]
  have tD:List.drop v1 (evsv l)=evsv D:=by rw [hD,evsv,evsv,List.map_drop]
  have nA:A.length=v1:=by rw [hA,List.length_take];omega
  have nD:D.length=l.length-v1:=by rw [hD,List.length_drop]
  have vA:(evsv A).length=v1:=by rw [evsv_len,nA]
  have vD:(evsv D).length=l.length-v1:=by rw [evsv_len,nD]
  have sA:∀e,e∈A→EvS e:=fun e he=>h2 e (by rw [hA]at he;exact List.mem_of_mem_take he)
  have sD:∀e,e∈D→EvS e:=fun e he=>h2 e (by rw [hD]at he;exact List.mem_of_mem_drop he)
  obtain⟨l',j',q1,q2,q3⟩:=ih (A++ [x]++D) j2 (by omega) (by simp only [List.length_append,List.length_singleton];omega) (all_app (all_snoc sA sx) sD);refine⟨l',j',q1,q2, ?_⟩;have b1:v1*64≤140737488355328:=by omega
  have b3:(v1+1)*64≤140737488355328:=by omega
  have b2:(v1+(1+(l.length-v1)))*64≤140737488355328:=by omega
  have b4:(v1+1+(l.length-v1))*64≤140737488355328:=by omega
  have eAD:evsv (A++ [x]++D)=evsv A++([x.sv]++evsv D):=by rw [evsv,evsv,evsv,List.map_append,List.map_append,List.append_assoc];rfl
  rw [eAD]at q3;obtain⟨x1,x2,x3,x4⟩:=x;rw [run_loop];simp only [codesO,Ev.sv,List.cons_append,List.nil_append]at q3 g1 g3 ⊢;simp only [go_sem,Q2,Q3,Qb,Qc,Qd,Qe,Qg,Qh,Qi,Qj,Qk,reduceCtorEq,reduceIte,hp,hv,e2,g1,S_37,g3,S_38,k1i,tf,tA,tD,vA,vD,b1,b3,b4,e1,q3]
set_option maxHeartbeats 8000000 in
theorem f11 (codes chain ma:List UInt8) (ac:Int) (h0: -9223372036854775808≤ac) (h1:ac≤9223372036854775807) {P:List (List SV)→Prop}
 (h23:∀ch,ChainOK ch→∃ms,P ms∧call T 23 [.byt ma .no,.lst 4 (imsv ch) .no] [] 0=some ⟨.lst 7 ms .no,[],[]⟩):
 ∃(a:Int) (l:List Ev) (ms:List (List SV)),actv a∧l.length≤250∧(∀e,e∈l→EvS e)∧P ms∧
 call T 11 [.byt codes .no,.byt chain .no,.byt ma .no,.int .i64 ac] [] 0=some ⟨.tup [.agg [.int .i64 a,.int .i64 0,.lst 4 (evsv l) .no],.lst 7 ms .no],[],[]⟩:=by
 obtain⟨ch,hch,g1⟩:=f24 chain;have gs:=f29 ac h0 h1
 obtain⟨a,hae,ha⟩:∃a,a=2+modI ac 2∧actv a:=by refine⟨_,rfl, ?_⟩;unfold actv;rcases modI2 ac with h|h<;>rw [h]<;>omega
 rw [←hae]at gs;obtain⟨l,n1,s1,g2⟩:=f36 codes a ha;have hB:(codes.take 200).length≤1000:=by rw [List.length_take];omega
 have gc:=f35 codes 200;have c200:((200:Nat):Int)=200:=rfl;have c0:((0:Nat):Int)=0:=rfl;rw [c200]at gc;generalize codes.take 200=B at*;obtain⟨v,j1,hv,g3⟩:=nx37 B hB 0 2 (by omega);rw [show((2:Nat):Int)=2 from rfl]at g3;obtain⟨ms,hP,g4⟩:=h23 ch hch
 by_cases hw:v=0
 ·have hw':(v:Int)=0:=by omega
  have g5:=f31 ch hch a ha;obtain⟨n8,n150⟩:=evF_len hch a;obtain⟨n,j2,hn,g6⟩:=nx37 B hB j1 3 (by omega);rw [cz3]at g6;obtain⟨l',j',q1,q2,q3⟩:=l11 B hB a ha ma (imsv ch) n (evF ch a) j2 (by omega) (by omega) (evF_S hch a);refine⟨a,l',ms,ha,q1,q2,hP, ?_⟩;rw [call_code T_11];simp only [codesO,c0]at gc g3 g6 q3 ⊢;simp only [go_sem,Qb,Qc,Qd,Qe,Qg,Qh,Qi,Qj,Qk,reduceCtorEq,reduceIte,g1,S_24,gc,S_35,gs,S_29,g2,S_36,g3,S_37,hw',g5,S_31,g6,q3,g4,S_23]
 ·have hw':¬(v:Int)=0:=by omega
  refine⟨a,l,ms,ha,by omega,s1,hP, ?_⟩;rw [call_code T_11];simp only [codesO,c0]at gc g3 ⊢;simp only [go_sem,Qb,Qc,Qd,Qe,Qg,Qh,Qi,Qj,Qk,reduceCtorEq,reduceIte,g1,S_24,gc,S_35,gs,S_29,g2,S_36,g3,S_37,hw',g4,S_23]
theorem f23z (ch:List Img):call T 23 [.byt [] .no,.lst 4 (imsv ch) .no] [] 0=some ⟨.lst 7 [] .no,[],[]⟩:=by have g0:=f35 [] 120;have g1:=f37 [] 0 5 (by omega) (by decide);have c0:((0:Nat):Int)=0:=rfl;rw [cz5]at g1;rw [show((120:Nat):Int)=120 from rfl,List.take_nil]at g0;rw [show nextV [] 0 5=0 from rfl,show nextA [] 0=0 from rfl]at g1;rw [call_code T_23];simp only [codesO,c0]at g0 g1 ⊢;simp only [go_sem,Qe,Qg,Qh,Qi,Qj,Qk,reduceCtorEq,reduceIte,g0,S_35,g1,S_37];rw [run_loop];simp only [go_sem,Q4,Qh,Qj,Qk,reduceIte]
def posE (x:Ent):List Ent→Nat
 |[]=>0
 |y::r=>if befE y x=true then posE x r+1 else 0
theorem posE_le (x:Ent):∀l,posE x l≤l.length
 |[]=>Nat.le_refl _
 |y::r=>by have:=posE_le x r;rw [posE,List.length_cons];split<;>omega
def mO (v:List UInt8) (ve:Int) (l:List Ent) (tk:Tok):SObj:= .rc [.str v,.int .i64 ve,.int .i64 0,.int .i64 0,.int .i64 1099511627776,.lst 4 (ensv l) tk,.lst 4 [] .clip]
def mZ:SObj:= .rc [.str [],.int .i64 0,.int .i64 0,.int .i64 0,.int .i64 0,.lst 4 [] .clip,.lst 4 [] .clip]
theorem l34a (I:List (List SV)) (v:List UInt8) (ve i:Int) (l:List Ent) (x:Ent) (hl:l.length≤1000) (hd:∀y∈l,y.dig.length≤1000):∀(n k:Nat),l.length-k=n→k≤l.length→
 run T (.loop r34_10) ⟨[(2,.lst 4 I .no),(6,.ptr 106 0),(7,.ptr 107 0),(8,.int .i64 i),(10,.ptr 110 0),(11,.int .i64 k)],[(106,mZ),(107,mO v ve l .no),(110,.rc x.sv)],[]⟩=
  some (.x 2,⟨[(2,.lst 4 I .no),(6,.ptr 106 0),(7,.ptr 107 0),(8,.int .i64 i),(10,.ptr 110 0),(11,.int .i64 ((k+posE x (l.drop k):Nat):Int))],[(106,mZ),(107,mO v ve l .no),(110,.rc x.sv)],[]⟩):=by
 intro n;induction n with
 |zero=>
  intro k h0 h1;have:k=l.length:=by omega
  subst this;have hv:=ensv_len l;rw [List.drop_length,run_loop];simp only [posE,Nat.add_zero,mO,mZ];simp only [go_sem,Qb,Qc,Qd,Qe,Qh,Qi,Qj,Qk,reduceIte,hv]
 | succ n ih=>
  intro k h0 h1;have hk:k<l.length:=by omega
  have e1:=wsucc k (by omega);have ih':=ih (k+1) (by omega) (by omega);have hv:=ensv_len l;have hg:=ensv_get l k hk;have hdr:l.drop k=l.getD k en0::l.drop (k+1):=by rw [List.drop_eq_getElem_cons hk,List.getD_eq_getElem?_getD,List.getElem?_eq_getElem hk];rfl
  have hm:=getD_mem' l en0 k hk;have gb:=f84 (l.getD k en0) x (by have:=hd _ hm;omega);have hki:(k:Int)<(l.length:Int):=by omega
  rw [hdr,posE,run_loop];generalize l.getD k en0=y at*;obtain⟨x1,x2,x3,x4⟩:=x;obtain⟨y1,y2,y3,y4⟩:=y
  by_cases hb:befE ⟨y1,y2,y3,y4⟩ ⟨x1,x2,x3,x4⟩=true
  ·rw [if_pos hb]
   rw [hb]at gb;rw [show k+(posE ⟨x1,x2,x3,x4⟩ (l.drop (k+1))+1)=k+1+posE ⟨x1,x2,x3,x4⟩ (l.drop (k+1))from by omega];simp only [mO,mZ,Ent.sv]at ih' gb hg ⊢;simp only [go_sem,Qb,Qc,Qd,Qe,Qh,Qi,Qj,Qk,reduceIte,hki,e1,hv,hg,gb,S_84,ih']
  ·rw [if_neg hb]
   rw [eq_false_of_ne_true hb]at gb;rw [Nat.add_zero];simp only [mO,mZ,Ent.sv]at gb hg ⊢;simp only [go_sem,Qb,Qc,Qd,Qe,Qh,Qi,Qj,Qk,reduceIte,hki,hv,hg,gb,S_84]
theorem encI_ne {x:Img} (h:imgE x=0):¬(encI x).length=0:=by unfold encI;rw [if_pos h,blob_len];omega
def entI (y:Img):Ent:=⟨y.role,y.name,y.ver,sha (encI y)⟩
def insE (x:Ent) (l:List Ent):List Ent:=if posE x l<l.length∧befE x (l.getD (posE x l) en0)=false then l else l.take (posE x l)++x::l.drop (posE x l)
def addE (y:Img) (l:List Ent):List Ent:=if y.role=4 then l else insE (entI y) l
set_option maxHeartbeats 8000000 in
theorem s34 (ch:List Img) (hc:∀i,i<ch.length→imgE (ch.getD i im0)=0) (hcl:ch.length≤1000) (v:List UInt8) (ve:Int) (l:List Ent) (hl:l.length≤900) (hd:∀y∈l,y.dig.length≤1000) (i:Nat) (hi:i<ch.length):
 run T (.loop r34_14) ⟨[(2,.lst 4 (imsv ch) .no),(6,.ptr 106 0),(7,.ptr 107 0),(8,.int .i64 i)],[(106,mZ),(107,mO v ve l .no)],[]⟩=
 run T (.loop r34_14) ⟨[(2,.lst 4 (imsv ch) .no),(6,.ptr 106 0),(7,.ptr 107 0),(8,.int .i64 ((i+1:Nat):Int))],[(106,mZ),(107,mO v ve (addE (ch.getD i im0) l) .no)],[]⟩:=by
 have hii:(i:Int)<(ch.length:Int):=by omega
 have hv:=imsv_len ch;have hg:=imsv_get ch i hi;have h0:=hc i hi;have e1:=wsucc i (by omega);generalize ch.getD i im0=y at*;obtain⟨u1,u2⟩:=img_bd h0;have g1:=f33 y u1 u2;have hel:=encI_len y u1 u2;have g2:=f80 (encI y) (by omega);have hne:¬(encI y).length=0:=encI_ne h0;have hne':¬((encI y).length:Int)=0:=by omega
 have hsl:=sha_len (encI y);have hla:=l34a (imsv ch) v ve i l (entI y) (by omega) hd l.length 0 (by omega) (Nat.zero_le _);rw [Nat.zero_add,List.drop_zero,show((0:Nat):Int)=0 from rfl]at hla;have hpl:=posE_le (entI y) l;have nv:=ensv_len l;unfold addE insE;generalize hE:encI y=E at*
 by_cases h4:y.role=4
 ·rw [if_pos h4]
  obtain⟨y1,y2,y3,y4⟩:=y;simp only at h4;subst h4;rw [run_loop];simp only [mO,mZ,Img.sv]at g1 hg ⊢;simp only [go_sem,Qe,Qh,Qi,Qj,Qk,reduceIte,hii,hv,hg,g1,S_33,hne',e1]
 ·rw [if_neg h4]
  have hent:entI y=⟨y.role,y.name,y.ver,sha E⟩:=by rw [←hE];rfl
  rw [hent]at hla hpl ⊢
  by_cases hk:posE ⟨y.role,y.name,y.ver,sha E⟩ l<l.length
  ·have gb:=f84 ⟨y.role,y.name,y.ver,sha E⟩ (l.getD (posE ⟨y.role,y.name,y.ver,sha E⟩ l) en0) (by show(sha E).length≤_;omega)
   have hg2:=ensv_get l _ hk;have hki:(posE ⟨y.role,y.name,y.ver,sha E⟩ l:Int)<(l.length:Int):=by omega
   have e2:ensv (l.take (posE ⟨y.role,y.name,y.ver,sha E⟩ l)++⟨y.role,y.name,y.ver,sha E⟩::l.drop (posE ⟨y.role,y.name,y.ver,sha E⟩ l))=List.take (posE ⟨y.role,y.name,y.ver,sha E⟩ l) (ensv l)++(Ent.sv ⟨y.role,y.name,y.ver,sha E⟩::List.drop (posE ⟨y.role,y.name,y.ver,sha E⟩ l) (ensv l)):=by rw [ensv,ensv,List.map_append,List.map_cons,List.map_take,List.map_drop]
   generalize posE ⟨y.role,y.name,y.ver,sha E⟩ l=k at*;generalize l.getD k en0=z at*;have hkl:k≤l.length:=by omega
   have tf:List.take l.length (ensv l)=ensv l:=by rw [←nv,List.take_length]
   have vA:(List.take k (ensv l)).length=k:=by rw [List.length_take,nv];omega
   have vD:(List.drop k (ensv l)).length=l.length-k:=by rw [List.length_drop,nv]
   have b1:k*56≤140737488355328:=by omega
   have b3:(k+1)*56≤140737488355328:=by omega
   have b2:(k+(1+(l.length-k)))*56≤140737488355328:=by omega
   have b4:(k+1+(l.length-k))*56≤140737488355328:=by omega
   obtain⟨y1,y2,y3,y4⟩:=y;obtain⟨z1,z2,z3,z4⟩:=z
   by_cases hb:befE ⟨y1,y2,y3,sha E⟩ ⟨z1,z2,z3,z4⟩=false
   ·rw [if_pos ⟨hk,hb⟩]
    simp only at gb;rw [hb]at gb;rw [run_loop];simp only [mO,mZ,Img.sv,Ent.sv]at g1 hg hla gb hg2 ⊢;simp only [go_sem,Qe,Qh,Qi,Qj,Qk,reduceIte,hii,hv,hg,g1,S_33,hne',h4,g2,S_80];simp+decide only [gd_pos];simp only [go_sem,Qb,Qc,Qd,Qe,Qh,Qi,Qj,Qk,reduceIte,hla,nv,hki,hg2,gb,S_84,e1]
   ·rw [if_neg (fun h=>hb h.2)]
    simp only at gb;rw [eq_true_of_ne_false hb]at gb;rw [run_loop];simp only [mO,e2];simp only [mO,mZ,Img.sv,Ent.sv]at g1 hg hla gb hg2 ⊢;simp only [go_sem,Qe,Qh,Qi,Qj,Qk,reduceIte,hii,hv,hg,g1,S_33,hne',h4,g2,S_80];simp+decide only [gd_pos];simp only [go_sem,Q2,Q3,Qb,Qc,Qd,Qe,Qh,Qi,Qj,Qk,reduceCtorEq,reduceIte,hla,nv,hki,hkl,hg2,gb,S_84,e1,tf,vA,vD,b1,b3,b4]
  ·have hki:¬(posE ⟨y.role,y.name,y.ver,sha E⟩ l:Int)<(l.length:Int):=by omega
   rw [if_neg (fun h=>hk h.1)]
   have e2:ensv (l.take (posE ⟨y.role,y.name,y.ver,sha E⟩ l)++⟨y.role,y.name,y.ver,sha E⟩::l.drop (posE ⟨y.role,y.name,y.ver,sha E⟩ l))=List.take (posE ⟨y.role,y.name,y.ver,sha E⟩ l) (ensv l)++(Ent.sv ⟨y.role,y.name,y.ver,sha E⟩::List.drop (posE ⟨y.role,y.name,y.ver,sha E⟩ l) (ensv l)):=by rw [ensv,ensv,List.map_append,List.map_cons,List.map_take,List.map_drop]
   generalize posE ⟨y.role,y.name,y.ver,sha E⟩ l=k at*;have hkl:k≤l.length:=by omega
   have tf:List.take l.length (ensv l)=ensv l:=by rw [←nv,List.take_length]
   have vA:(List.take k (ensv l)).length=k:=by rw [List.length_take,nv];omega
   have vD:(List.drop k (ensv l)).length=l.length-k:=by rw [List.length_drop,nv]
   have b1:k*56≤140737488355328:=by omega
   have b3:(k+1)*56≤140737488355328:=by omega
   have b2:(k+(1+(l.length-k)))*56≤140737488355328:=by omega
   have b4:(k+1+(l.length-k))*56≤140737488355328:=by omega
   obtain⟨y1,y2,y3,y4⟩:=y;rw [run_loop];simp only [mO,e2];simp only [mO,mZ,Img.sv,Ent.sv]at g1 hg hla ⊢;simp only [go_sem,Qe,Qh,Qi,Qj,Qk,reduceIte,hii,hv,hg,g1,S_33,hne',h4,g2,S_80];simp+decide only [gd_pos];simp only [go_sem,Q2,Q3,Qb,Qc,Qd,Qe,Qh,Qi,Qj,Qk,reduceCtorEq,reduceIte,hla,nv,hki,hkl,e1,tf,vA,vD,b1,b3,b4]
structure EntsBd (l:List Ent) (n:Nat):Prop where
 len:l.length≤n
 e:∀x∈l,x.name.length≤1000000∧x.dig.length=32
theorem mem_insE {x z:Ent} {l:List Ent} (h:z∈insE x l):z=x∨z∈l:=by
 unfold insE at h;split at h
 ·exact .inr h
 ·rw [List.mem_append,List.mem_cons]at h
  rcases h with h|h|h
  ·exact .inr (List.mem_of_mem_take h)
  ·exact .inl h
  ·exact .inr (List.mem_of_mem_drop h)
theorem len_insE (x:Ent) (l:List Ent):(insE x l).length≤l.length+1:=by
 unfold insE;have:=posE_le x l;split
 ·omega
 ·rw [List.length_append,List.length_cons,List.length_take,List.length_drop];omega
theorem img_name {y:Img} (h:imgE y=0):y.name.length≤1000000:=(img_bd h).1
theorem addE_bd {y:Img} (hy:imgE y=0) {l:List Ent} {n:Nat} (h:EntsBd l n):EntsBd (addE y l) (n+1):=by
 unfold addE;split
 ·exact⟨Nat.le_succ_of_le h.len,h.e⟩
 ·refine⟨?_,fun x hx=> ?_⟩
  ·have:=len_insE (entI y) l
   have:=h.len;omega
  ·rcases mem_insE hx with rfl|hx
   ·exact⟨img_name hy,sha_len _⟩
   ·exact h.e x hx
def dscF (l:List Img) (es:List Ent):List Ent:=l.foldl (fun a y=>addE y a) es
set_option maxHeartbeats 8000000 in
theorem s34z (ch:List Img) (hcl:ch.length≤1000) (hi:0<ch.length) (h0:imgE (ch.getD 0 im0)=0) (h1:(ch.getD 0 im0).role=1) (v:List UInt8) (ve:Int):
 run T (.loop r34_14) ⟨[(2,.lst 4 (imsv ch) .no),(6,.ptr 106 0),(7,.ptr 107 0),(8,.int .i64 0)],[(106,mZ),(107,mO v ve [] .clip)],[]⟩=
 run T (.loop r34_14) ⟨[(2,.lst 4 (imsv ch) .no),(6,.ptr 106 0),(7,.ptr 107 0),(8,.int .i64 1)],[(106,mZ),(107,mO v ve [entI (ch.getD 0 im0)] .no)],[]⟩:=by
 have hii:(0:Int)<(ch.length:Int):=by omega
 have hv:=imsv_len ch;have hg:=imsv_get ch 0 hi;have e1:IntKind.i64.wrap 1=1:=rfl;generalize ch.getD 0 im0=y at*;obtain⟨u1,u2⟩:=img_bd h0;have g1:=f33 y u1 u2;have hel:=encI_len y u1 u2;have g2:=f80 (encI y) (by omega);have hne:¬(encI y).length=0:=encI_ne h0;have hne':¬((encI y).length:Int)=0:=by omega
 have hent:entI y=⟨y.role,y.name,y.ver,sha (encI y)⟩:=rfl;rw [hent];generalize encI y=E at*;obtain⟨y1,y2,y3,y4⟩:=y;simp only at h1;subst h1;rw [run_loop];simp only [mO,mZ,Img.sv,ensv,List.map_nil,List.map_cons,Ent.sv]at g1 hg ⊢;simp only [go_sem,Q2,Q3,Q5,Qe,Qh,Qi,Qj,Qk,reduceIte,hii,hv,hg,g1,S_33,hne',g2,S_80];simp+decide only [gd_pos];simp only [go_sem,Qh,Qj,Qk,reduceIte];rw [run_loop];simp only [go_sem,Q2,Q3,Q4,Q8,Qb,Qc,Qd,Qe,Qg,Qh,Qi,Qj,Qk,reduceCtorEq,reduceIte,e1]
theorem l34 (ch:List Img) (hc:∀i,i<ch.length→imgE (ch.getD i im0)=0) (hcl:ch.length≤800) (v:List UInt8) (ve:Int):∀(n i:Nat) (es:List Ent),ch.length-i=n→i≤ch.length→EntsBd es i→
 run T (.loop r34_14) ⟨[(2,.lst 4 (imsv ch) .no),(6,.ptr 106 0),(7,.ptr 107 0),(8,.int .i64 i)],[(106,mZ),(107,mO v ve es .no)],[]⟩=
 some (.x 0,⟨[(6,.ptr 106 0),(7,.ptr 107 0)],[(106,mZ),(107,mO v ve (dscF (ch.drop i) es) .no)],[]⟩):=by
 intro n;induction n with
 |zero=>
  intro i es h0 h1 h2;have:i=ch.length:=by omega
  subst this;have hv:=imsv_len ch;rw [List.drop_length,run_loop];simp only [mO,mZ,dscF,List.foldl_nil];simp only [go_sem,Qh,Qj,Qk,reduceIte,hv]
 |succ n ih=>
  intro i es h0 h1 h2;have hi:i<ch.length:=by omega
  have hd:ch.drop i=ch.getD i im0::ch.drop (i+1):=by rw [List.drop_eq_getElem_cons hi,List.getD_eq_getElem?_getD,List.getElem?_eq_getElem hi];rfl
  have hl:=h2.len;rw [s34 ch hc (by omega) v ve es (by omega) (fun y hy=>by have:=(h2.e y hy).2;omega) i hi,ih (i+1) _ (by omega) (by omega) (addE_bd (hc i hi) h2),hd];rfl
def dscM (v:List UInt8) (ve:Int) (ch:List Img):Man:=⟨v,ve,0,0,1099511627776,dscF ch [],[]⟩
theorem chain_first {ch:List Img} (hc:ChainOK ch):(ch.getD 0 im0).role=1:=by
 obtain⟨i,hi,h1⟩:=hc.fw
 have key:∀k,k<ch.length→(ch.getD 0 im0).role≤(ch.getD k im0).role:=by
  intro k;induction k with
  |zero=>intro _;exact Int.le_refl _
  |succ k ih=>intro h;exact Int.le_trans (ih (by omega)) (hc.ord k h)
 have h2:=key i hi;have h3:=(imgE_ok (hc.ok 0 (by have:=hc.n1;omega))).1;omega
theorem f34 (ch:List Img) (hc:ChainOK ch) (v:List UInt8) (ve:Int):call T 34 [.str v,.int .i64 ve,.lst 4 (imsv ch) .no] [] 0=some ⟨.agg (dscM v ve ch).sv,[],[]⟩:=by
 have n1:=hc.n1;have n8:=hc.n8;have hf:=chain_first hc;have h0:=hc.ok 0 (by omega);have z:=s34z ch (by omega) (by omega) h0 hf v ve
 have ha:addE (ch.getD 0 im0) []=[entI (ch.getD 0 im0)]:=by unfold addE insE;rw [if_neg (by rw [hf];decide),if_neg (by simp)];rfl
 have hb:EntsBd [entI (ch.getD 0 im0)] 1:=by rw [←ha];exact addE_bd h0 ⟨Nat.le_refl _,fun x hx=>by cases hx⟩
 have l:=l34 ch hc.ok (by omega) v ve _ 1 [entI (ch.getD 0 im0)] rfl (by omega) hb
 have hd:dscF (ch.drop 1) [entI (ch.getD 0 im0)]=dscF ch []:=by
  have:ch=ch.getD 0 im0::ch.drop 1:=by
   rw [List.getD_eq_getElem?_getD,List.getElem?_eq_getElem (by omega:0<ch.length)];cases ch with
   |nil=>simp at n1
   |cons x r=>rfl
  conv=>rhs;rw [this]
  rw [←ha];rfl
 rw [hd]at l;rw [show((1:Nat):Int)=1 from rfl]at l;rw [l]at z;rw [call_code T_34];unfold dscM;simp only [mO,mZ,ensv,List.map_nil]at z;simp only [Man.sv,ensv,rlsv,List.map_nil];simp only [go_sem,Qe,Qh,Qi,Qj,Qk,reduceCtorEq,reduceIte,z]
theorem cmp_self:∀a:List UInt8,Lib.compareBytes a a=0
 |[]=>rfl
 |x::r=>by have h:=cmp_self r;simp [Lib.compareBytes,h]
theorem f60a (d:List UInt8):call T 60 [.lst 1 [] .no,.byt d .no,.fn 61 [] []] [] 0=some ⟨.tup [.int .i64 0,.bool false],[],[]⟩:=by rw [call_code T_60];simp only [go_sem,Qe,Qh,Qi,Qj,Qk,reduceCtorEq,reduceIte];rw [run_loop];simp only [go_sem,Q2,Q3,Q4,Qh,Qj,Qk,reduceCtorEq,reduceIte]
theorem f60b (d:List UInt8):call T 60 [.lst 1 [[.byt d .no]] .no,.byt d .no,.fn 61 [] []] [] 0=some ⟨.tup [.int .i64 0,.bool true],[],[]⟩:=by have g:=f61 d d;rw [cmp_self]at g;have c1:((1:Nat):Int)=1:=rfl;have k1:IntKind.i64.wrap 1=1:=rfl;have k2:IntKind.u64.wrap 1=1:=rfl;have k3:Int.fdiv 1 (2^min 1 64)=0:=rfl;have k4:IntKind.i64.wrap 0=0:=rfl;rw [call_code T_60];simp only [go_sem,Qe,Qh,Qi,Qj,Qk,reduceCtorEq,reduceIte,c1];rw [run_loop];simp only [go_sem,Q2,Q3,Q4,Q8,Qh,Qj,Qk,reduceCtorEq,reduceIte,c1,k1,k2,k3,k4,g,S_61];rw [run_loop];simp only [go_sem,Q2,Q3,Q4,Qh,Qj,Qk,reduceCtorEq,reduceIte,c1,g,S_61]
theorem f62a (d:List UInt8):call T 62 [.lst 1 [] (.id 50),.int .i64 0,.lst 1 [[.byt d .no]] .no] [] 1=some ⟨.lst 1 [[.byt d .no]] (.id 60),[],[60]⟩:=by have c1:((1:Nat):Int)=1:=rfl;rw [call_code T_62];simp only [go_sem,Q2,Q3,Q5,Qe,Qg,Qh,Qi,Qj,Qk,reduceCtorEq,reduceIte,c1]
theorem lB (m:Man) (d:List UInt8) (hd:call T 59 [.agg m.sv] [] 0=some ⟨.byt d .no,[],[]⟩) (rs:List (Int×Int)) (hn:rs.length≤1000000):∀(n i:Nat),rs.length-i=n→i≤rs.length→
 run T (.loop r21_11) ⟨[(0,.lst 7 [m.sv] .no),(5,.lst 1 [[.byt d .no]] (.id 46060)),(11,.lst 2 (rsv rs) .no),(12,.int .i64 rs.length),(13,.int .i64 i)],[],[46060]⟩=
  some (.x 0,⟨[(5,.lst 1 [[.byt d .no]] (.id 46060))],[],[46060]⟩):=by
 intro n;induction n with
 |zero=>
  intro i h0 h1;have hi:i=rs.length:=by omega
  subst hi;rw [run_loop];simp only [go_sem,Qh,Qj,Qk,reduceCtorEq,reduceIte]
 | succ n ih=>
  intro i h0 h1;have hi:i<rs.length:=by omega
  have e1:=wsucc i (by omega);have hv:=rsv_len rs;have hg:=rsv_get rs i hi;have ih':=ih (i+1) (by omega) (by omega);have g:=f60b d;have c1:((1:Nat):Int)=1:=rfl;generalize rs.getD i (0,0)=p at*;obtain⟨p1,p2⟩:=p;obtain⟨mv,m1,m2,m3,m4,es,rl⟩:=m;simp only [Man.sv]at hd hg ih' ⊢;rw [run_loop]
  by_cases a1:p1<0
  ·simp only [go_sem,Qe,Qh,Qi,Qj,Qk,reduceCtorEq,reduceIte,hi,e1,hv,hg,a1,ih']
  ·by_cases a2:(1:Int)≤p1
   ·simp only [go_sem,Qe,Qh,Qi,Qj,Qk,reduceCtorEq,reduceIte,hi,e1,hv,hg,a1,a2,c1,ih']
   ·have a3:p1=0:=by omega
    subst a3;simp only [go_sem,Q2,Q3,Q4,Qe,Qh,Qi,Qj,Qk,reduceCtorEq,reduceIte,hi,e1,hv,hg,a1,a2,c1,hd,S_59,g,S_60,ih']
theorem lA (m:Man) (d:List UInt8) (hd:call T 59 [.agg m.sv] [] 0=some ⟨.byt d .no,[],[]⟩) (rs:List (Int×Int)) (hn:rs.length≤1000000):∀(n i:Nat),rs.length-i=n→i≤rs.length→(∃p∈rs.drop i,p.1=0)→
 run T (.loop r21_11) ⟨[(0,.lst 7 [m.sv] .no),(5,.lst 1 [] .clip),(11,.lst 2 (rsv rs) .no),(12,.int .i64 rs.length),(13,.int .i64 i)],[],[]⟩=
  some (.x 0,⟨[(5,.lst 1 [[.byt d .no]] (.id 46060))],[],[46060]⟩):=by
 intro n;induction n with
 |zero=>
  intro i h0 h1 h2;have hi:i=rs.length:=by omega
  subst hi;rw [List.drop_length]at h2;obtain⟨p,hp,_⟩:=h2;cases hp
 | succ n ih=>
  intro i h0 h1 h2;have hi:i<rs.length:=by omega
  have e1:=wsucc i (by omega);have hv:=rsv_len rs;have hg:=rsv_get rs i hi;have ih':=ih (i+1) (by omega) (by omega);have lb:=lB m d hd rs hn _ (i+1) rfl (by omega);have g:=f60a d;have g2:=f62a d;have c1:((1:Nat):Int)=1:=rfl;rw [drop_getD rs (0,0) i hi]at h2;generalize rs.getD i (0,0)=p at*;obtain⟨p1,p2⟩:=p;obtain⟨mv,m1,m2,m3,m4,es,rl⟩:=m;simp only [Man.sv]at hd hg ih' lb ⊢
  have h3:p1≠0→∃p∈rs.drop (i+1),p.1=0:=by
   intro hne;obtain⟨q,hq,h⟩:=h2;rcases List.mem_cons.1 hq with rfl|hq
   ·exact absurd h hne
   ·exact⟨q,hq,h⟩
  rw [run_loop]
  by_cases a1:p1<0
  ·have ih'':=ih' (h3 (by omega))
   simp only [go_sem,Qe,Qh,Qi,Qj,Qk,reduceCtorEq,reduceIte,hi,e1,hv,hg,a1,ih'']
  ·by_cases a2:(1:Int)≤p1
   ·have ih'':=ih' (h3 (by omega))
    simp only [go_sem,Qe,Qh,Qi,Qj,Qk,reduceCtorEq,reduceIte,hi,e1,hv,hg,a1,a2,c1,ih'']
   ·have a3:p1=0:=by omega
    subst a3;simp only [go_sem,Q2,Q3,Q4,Qe,Qg,Qh,Qi,Qj,Qk,reduceCtorEq,reduceIte,hi,e1,hv,hg,a1,a2,c1,hd,S_59,g,S_60,g2,S_62,lb]
theorem f21a (m:Man) (hm:ManBd m) (rs:List (Int×Int)) (hn:rs.length≤1000000) (h:∃p∈rs,p.1=0):
 call T 21 [.lst 7 [m.sv] .no,.lst 2 (rsv rs) .no] [] 0=some ⟨.lst 1 [[.byt (digM m) .no]] .no,[],[]⟩:=by
 have l:=lA m (digM m) (f59 m hm) rs hn _ 0 rfl (by omega) (by rw [List.drop_zero];exact h);rw [Int.natCast_zero]at l;have hv:=rsv_len rs;obtain⟨mv,m1,m2,m3,m4,es,rl⟩:=m;simp only [Man.sv]at l ⊢;rw [call_code T_21];simp only [go_sem,Qe,Qh,Qi,Qj,Qk,reduceCtorEq,reduceIte,hv,l]
def im1:Img:=⟨1,[102],0,[]⟩
def im2:Img:=⟨3,[107],0,[]⟩
theorem im1_ok:imgE im1=0:=by decide
theorem im2_ok:imgE im2=0:=by decide
theorem imgs_ok:ChainOK [im1,im2]:=by
 refine⟨by decide,by decide, ?_, ?_, ?_,⟨0,by decide,rfl⟩,⟨1,by decide,rfl⟩⟩
 ·intro i hi
  have:i=0∨i=1:=by simp only [List.length_cons,List.length_nil]at hi;omega
  rcases this with rfl|rfl
  ·exact im1_ok
  ·exact im2_ok
 ·intro i hi
  have:i=0:=by simp only [List.length_cons,List.length_nil]at hi;omega
  subst this;decide
 ·intro i hi k hk h
  have:i=1∧k=0:=by simp only [List.length_cons,List.length_nil]at hi;omega
  obtain⟨rfl,rfl⟩:=this;exact absurd h (by decide)
def mnA:Man:=⟨[118],1,0,0,1099511627776,[entI im1,entI im2],[]⟩
theorem mnA_eq:dscM [118] 1 [im1,im2]=mnA:=by
 have h1:posE (entI im2) [entI im1]=1:=by
  have:befE (entI im1) (entI im2)=true:=by unfold befE;rw [if_neg (by decide)];decide
  unfold posE;rw [if_pos this];rfl
 unfold dscM dscF mnA;rw [List.foldl_cons,List.foldl_cons,List.foldl_nil]
 have e1:addE im1 []=[entI im1]:=by unfold addE insE;rw [if_neg (by decide),if_neg (by simp)];rfl
 have e2:addE im2 [entI im1]=[entI im1,entI im2]:=by unfold addE insE;rw [if_neg (by decide),h1,if_neg (by simp)];rfl
 rw [e1,e2]
theorem mnA_bd:ManBd mnA:=by
 refine⟨by decide,by show 2≤1000000;decide,by decide, ?_,fun x hx=>by cases hx⟩;intro x hx;have:x=entI im1∨x=entI im2:=by simpa [mnA]using hx
 rcases this with rfl|rfl
 ·exact⟨by decide,by show(sha _).length≤_;rw [sha_len];decide⟩
 ·exact⟨by decide,by show(sha _).length≤_;rw [sha_len];decide⟩
theorem mnA_ok:manE mnA=0:=by
 have d1:((entI im1).dig.length:Int)=32:=by show((sha _).length:Int)=32;rw [sha_len];rfl
 have d2:((entI im2).dig.length:Int)=32:=by show((sha _).length:Int)=32;rw [sha_len];rfl
 have b:befE (entI im1) (entI im2)=true:=by unfold befE;rw [if_neg (by decide)];decide
 have e0:entE [entI im1,entI im2] 0=0:=by unfold entE;simp only [List.getD_cons_zero];rw [if_neg (by decide),if_neg (by decide),if_neg (by decide),if_neg (by decide),if_pos d1,if_pos (by decide),if_pos trivial]
 have e1:entE [entI im1,entI im2] 1=0:=by unfold entE;simp only [List.getD_cons_succ,List.getD_cons_zero];rw [if_neg (by decide),if_neg (by decide),if_neg (by decide),if_neg (by decide),if_pos d2,if_pos (by decide),if_neg (by decide),show([entI im1,entI im2].getD (1-1) en0)=entI im1 from rfl,if_pos b]
 have es:entsE [entI im1,entI im2] 2 0=0:=by unfold entsE;rw [if_pos e0];unfold entsE;rw [if_pos e1];rfl
 unfold manE mnA;simp only [List.length_cons,List.length_nil];rw [if_pos (by decide),if_neg (by decide),if_neg (by decide),if_neg (by decide),if_neg (by decide),if_neg (by decide),if_neg (by decide),if_neg (by decide),if_neg (by decide),if_pos es];rfl
theorem enc_ne {x:Img} (h:imgE x=0):encI x≠ []:=fun e=>encI_ne h (by rw [e];rfl)
theorem ofI_dg {x:Img} (h:imgE x=0):(ofI x 2).dg.getD 1 []=sha (encI x):=by unfold ofI digV;simp only;rw [if_neg (enc_ne h)];rfl
theorem it_self {x:Img} (h:imgE x=0):itE (ofI x 2) (entI x)=true:=by unfold itE;rw [ofI_dg h];simp only [ofI,entI,decide_true,Bool.and_self]
theorem itA1:itemV mnA (ofI im1 2)=0:=by unfold itemV;rw [if_pos mnA_ok,if_pos (show(ofI im1 2).kind=1 from rfl)];unfold mnA idxF;rw [if_pos (it_self im1_ok)];rfl
theorem itA2:itemV mnA (ofI im2 2)=1:=by
 have h:itE (ofI im2 2) (entI im1)=false:=by unfold itE;rw [decide_eq_false (by decide:¬(ofI im2 2).reg=regR (entI im1).role)];rfl
 unfold itemV;rw [if_pos mnA_ok,if_pos (show(ofI im2 2).kind=1 from rfl)];unfold mnA idxF;rw [if_neg (by rw [h];simp)];unfold idxF;rw [if_pos (it_self im2_ok)];rfl
theorem conS (i:Int):conV (mkV i 2 2 [0,0,0,0])=true:=by
 unfold conV;rw [if_neg (by show ¬(2:Int)=1;decide),if_pos (show(mkV i 2 2 [0,0,0,0]).kind=2 from rfl),if_pos (show(mkV i 2 2 [0,0,0,0]).data=[0,0,0,0]from rfl)]
 have h0:(mkV i 2 2 [0,0,0,0]).dg=[[],sha [0,0,0,0]]:=by unfold mkV;rfl
 rw [h0];show(dgOK true [] (sha1 [0,0,0,0])&&dgOK true (sha [0,0,0,0]) (sha [0,0,0,0]))=true;unfold dgOK;rw [if_neg (by decide),decide_eq_true rfl];split<;>rfl
def evA:List Ev:=[ofI im1 2,mkV 0 2 2 [0,0,0,0],mkV 1 2 2 [0,0,0,0],mkV 2 2 2 [0,0,0,0],mkV 3 2 2 [0,0,0,0],mkV 4 2 2 [0,0,0,0],mkV 5 2 2 [0,0,0,0],mkV 6 2 2 [0,0,0,0],mkV 7 2 2 [0,0,0,0],ofI im2 2]
theorem evA_eq:evF [im1,im2] 2=evA:=rfl
theorem reaA1:reaV [mnA] (ofI im1 2)=some (0,0):=by unfold reaV;rw [if_neg (by show ¬(1:Int)=5;decide),if_neg (by show ¬(1:Int)=2;decide)];unfold frM;rw [itA1];rfl
theorem reaA2:reaV [mnA] (ofI im2 2)=some (0,1):=by unfold reaV;rw [if_neg (by show ¬(1:Int)=5;decide),if_neg (by show ¬(1:Int)=2;decide)];unfold frM;rw [itA2];rfl
theorem reaAS (i:Int):reaV [mnA] (mkV i 2 2 [0,0,0,0])=some (-1, -1):=by unfold reaV;rw [if_neg (by show ¬(2:Int)=5;decide),if_pos (show(mkV i 2 2 [0,0,0,0]).kind=2 from rfl),if_pos (conS i)]
def rsA:List (Int×Int):=[(0,0),(-1, -1),(-1, -1),(-1, -1),(-1, -1),(-1, -1),(-1, -1),(-1, -1),(-1, -1),(0,1)]
theorem exA:(exV evA [mnA]).rs=rsA∧(exV evA [mnA]).at'=10∧exE evA [mnA]=0:=by
 have key:exV evA [mnA]=⟨⟨4,8,false,true,false,true,true,false⟩,10,rsA,0⟩:=by
  unfold exV evA;unfold exW;rw [if_pos (by decide),reaA1];simp only
  iterate 8
   unfold exW;rw [if_pos (by decide),reaAS];simp only
  unfold exW;rw [if_pos (by decide),reaA2];simp only;unfold exW;rfl
 unfold exE;rw [key];exact⟨rfl,rfl,rfl⟩
theorem exA0:(exV evA []).rs=[]∧(exV evA []).at'=0∧exE evA []=47:=by
 have key:exV evA []=⟨w0,0,[],47⟩∨∃w,exV evA []=⟨w,0,[],47⟩:=by
  right;unfold exV evA;unfold exW;rw [if_pos (by decide)]
  have:reaV [] (ofI im1 2)=none:=by unfold reaV;rw [if_neg (by show ¬(1:Int)=5;decide),if_neg (by show ¬(1:Int)=2;decide)];rfl
  rw [this];exact⟨_,rfl⟩
 unfold exE;rcases key with h|⟨w,h⟩
 ·rw [h];exact⟨rfl,rfl,rfl⟩
 ·rw [h];exact⟨rfl,rfl,rfl⟩
theorem ckA:ckV evA [mnA] rsA=true:=by
 unfold ckV;rw [if_pos exA.2.2,if_pos (show(rsA.length:Int)=evA.length from rfl)]
 have h0:ckO [mnA] (ofI im1 2) (0,0)=true:=by unfold ckO;rw [if_neg (by show ¬(1:Int)=5;decide),if_neg (by show ¬(1:Int)=2;decide),if_neg (by decide),if_neg (by decide),if_neg (by decide)];show decide (itemV mnA (ofI im1 2)=0)=true;rw [itA1];rfl
 have h1:ckO [mnA] (ofI im2 2) (0,1)=true:=by unfold ckO;rw [if_neg (by show ¬(1:Int)=5;decide),if_neg (by show ¬(1:Int)=2;decide),if_neg (by decide),if_neg (by decide),if_neg (by decide)];show decide (itemV mnA (ofI im2 2)=1)=true;rw [itA2];rfl
 have h2:∀i:Int,ckO [mnA] (mkV i 2 2 [0,0,0,0]) (-1, -1)=true:=by intro i;unfold ckO;rw [if_neg (by show ¬(2:Int)=5;decide),if_pos (show(mkV i 2 2 [0,0,0,0]).kind=2 from rfl)];rfl
 unfold evA rsA;unfold ckL;rw [if_pos h0]
 iterate 8
  unfold ckL;rw [if_pos (h2 _)]
 unfold ckL;rw [if_pos h1];rfl
theorem evA_bd:EvsBd evA:=by
 refine⟨by decide, ?_⟩
 have hi:∀x,imgE x=0→EvBd (ofI x 2):=by
  intro x hx;have h1:=(img_bd hx).1;obtain⟨_,_,c0,c1,_,_⟩:=imgE_ok hx;refine⟨?_, ?_, ?_, ?_⟩
  ·unfold ofI;exact digV_len _ _
  ·unfold ofI labV
   have:=dec_lenk 6 x.ver.toNat (by omega);have hn:=nameB_len (imgE_ok hx).2.2.2.2.1;simp only [List.length_append,List.length_cons];omega
  ·unfold ofI digV
   simp only;rw [if_neg (enc_ne hx)];show(if hasA 2 0=true then sha1 (encI x)else []).length≤1000000;rw [if_neg (by decide)];exact Nat.zero_le _
  ·rw [ofI_dg hx,sha_len];decide
 have hs:∀i:Int,EvBd (mkV i 2 2 [0,0,0,0]):=by
  intro i
  have h0:(mkV i 2 2 [0,0,0,0]).dg=[[],sha [0,0,0,0]]:=by unfold mkV;rfl
  refine⟨?_, ?_, ?_, ?_⟩
  ·rw [h0];rfl
  ·show([0,0,0,0]:List UInt8).length≤_;decide
  ·rw [h0];decide
  ·rw [h0];show(sha _).length≤_;rw [sha_len];decide
 intro e he;unfold evA at he;simp only [List.mem_cons,List.not_mem_nil,or_false]at he;rcases he with rfl|rfl|rfl|rfl|rfl|rfl|rfl|rfl|rfl|rfl
 ·exact hi _ im1_ok
 ·exact hs _
 ·exact hs _
 ·exact hs _
 ·exact hs _
 ·exact hs _
 ·exact hs _
 ·exact hs _
 ·exact hs _
 ·exact hi _ im2_ok
set_option maxHeartbeats 8000000 in
theorem f10:call T 10 [] [] 0=some ⟨.bool true,[],[]⟩:=by
 have g1:=f31 [im1,im2] imgs_ok 2 (.inr (.inl rfl));rw [evA_eq]at g1;have g2:=f34 [im1,im2] imgs_ok [118] 1;rw [mnA_eq]at g2
 have hms:MsBd [mnA]:=⟨by decide,fun m hm=>by
  have:m=mnA:=by simpa using hm
  rw [this];exact mnA_bd⟩
 have hms0:MsBd []:=⟨by decide,fun m hm=>by cases hm⟩;have g3:=f12 2 0 evA evA_bd [mnA] hms;have g4:=f12 2 0 evA evA_bd [] hms0;have g5:=f16 2 0 evA evA_bd [mnA] hms rsA;have g6:=f21a mnA mnA_bd rsA (by decide) ⟨(0,0),by simp [rsA],rfl⟩;unfold exS at g3 g4;obtain⟨a1,a2,a3⟩:=exA;obtain⟨b1,b2,b3⟩:=exA0;rw [a1,a2,a3]at g3;rw [b1,b2,b3]at g4;rw [ckA]at g5;have hv:=rsv_len rsA;have hl:rsA.length=10:=rfl;have hg:=rsv_get rsA 9 (by decide);have hr9:rsA.getD 9 (0,0)=(0,1):=rfl;rw [hr9]at hg;rw [hl]at hv;have i1:imsv [im1,im2]=[[.int .i64 1,.str [102],.int .i64 0,.byt [] .no],[.int .i64 3,.str [107],.int .i64 0,.byt [] .no]]:=rfl;rw [i1]at g1 g2;have c10:((10:Nat):Int)=10:=rfl;have c0:((0:Nat):Int)=0:=rfl;have m1:mnsv [mnA]=[mnA.sv]:=rfl;have m0:mnsv []=[]:=rfl;rw [m1]at g3 g5;rw [m0]at g4;have hsv:mnA.sv=[.str [118],.int .i64 1,.int .i64 0,.int .i64 0,.int .i64 1099511627776,.lst 4 (ensv [entI im1,entI im2]) .no,.lst 4 [] .no]:=rfl;rw [hsv]at g2 g3 g5 g6;generalize ensv [entI im1,entI im2]=E at*;generalize evsv evA=V at*;generalize rsv rsA=R at*;generalize digM mnA=D at*;have r0:rsv []=[]:=rfl;rw [r0]at g4;rw [call_code T_10];simp only [go_sem,Q2,Q3,Q4,Qe,Qh,Qi,Qj,Qk,reduceCtorEq,reduceIte,g1,S_31,g2,S_34,g3,g4,S_12,c10,c0,hv,hg,g5,S_16,g6,S_21]
theorem f8 (codes chain:List UInt8) (ac:Int) (h0: -9223372036854775808≤ac) (h1:ac≤9223372036854775807):
 call T 8 [.byt codes .no,.byt chain .no,.int .i64 ac] [] 0=some ⟨.bool true,[],[]⟩:=by
 have ga:=f10;obtain⟨a,l,ms,_,n1,hl,hP,g⟩:=f11 codes chain [] ac h0 h1 (P:=fun ms=>ms=[]) (fun ch hch=>⟨[],rfl,f23z ch⟩);subst hP;have g1:=f27 a 0 l (by omega);have g2:=f28 a 0 l (by omega);have hs:=run_same l w0 0 (by decide) (by decide) (by decide) rfl (by show l.length+0≤_;omega);have hs1:(runP l 0 0 0).1=(runW l w0 0).1.ph:=hs.1.symm;have hs2:(runP l 0 0 0).2=(runW l w0 0).2:=hs.2.symm;rw [hs1,hs2]at g2;rw [call_code T_8];simp only [go_sem,Qe,Qh,Qi,Qj,Qk,reduceCtorEq,reduceIte,ga,S_10,g,S_11,g1,S_27,g2,S_28]
end Go.Proofs.YtdafipacemgcoaaGreatDoor
