/- What the functions come to. No condition. -/
import Derived.Test.YtdafipacemgcoaaGreatDoorTa
set_option maxRecDepth 100000
set_option linter.unusedSimpArgs false
set_option linter.unusedVariables false
namespace Go.Proofs.YtdafipacemgcoaaGreatDoor
open Go.Sy
open UInt8 renaming reduceLT → Q0, reduceLE → Q1
open Int renaming reduceToNat → Q2, reduceLE → Q3, reduceLT → Q4, reduceEq → Q5, reduceNe → Q6, reduceNeg → Q7, reduceAdd → Q8, reduceSub → Q9, reduceMul → Qa
open Nat renaming reducePow → Qb, reduceDiv → Qc, reduceMod → Qd, reduceAdd → Qe, reduceSub → Qf, reduceMul → Qg, reduceLT → Qh, reduceLeDiff → Qi, reduceEqDiff → Qj, reduceBEq → Qk
theorem frame_len (t:Int) (X:List UInt8):(frame t X).length=X.length+5:=by simp [frame,w4]
def hashV (t:Int) (X:List UInt8):List UInt8:=sha (frame t X)
theorem f102 (t:Int) (X:List UInt8) (hX:X.length≤1000000000):call T 102 [.int .i64 t,.lst 1 [[.byt X .no]] .no] [] 0=some ⟨.byt (hashV t X) .no,[],[]⟩:=by have g1:=f137 t X hX;have g2:=f69 (frame t X) (by rw [frame_len];omega);rw [call_code T_102];simp only [go_sem,Qe,Qh,Qi,Qj,Qk,reduceCtorEq,reduceIte,g1,g2,S_137,S_69,hashV]
theorem f169 (x:Int) (n m:Nat) (h:n+m=32):call T 169 [.int .u32 x,.int .u64 n] [] 0=some ⟨.int .u32 (rr x m),[],[]⟩:=by
 rw [call_code T_169];have e:IntKind.u64.wrap (32-(n:Int))=((m:Nat):Int):=by rw [IntKind.wrap_u64];omega
 have e2:min n 32=n:=by omega
 have e3:min m 32=m:=by omega
 have e4:32-m=n:=by omega
 simp only [go_sem,Qe,Qh,Qi,Qj,Qk,reduceCtorEq,reduceIte,e,e2,e3,rr,e4,ibits_or_comm]
def nw1 (B:List UInt8) (L:List Int) (t:Nat):Int:=
 if t<16 then wd B t else
  rr (ibits .xor .u32 (ibits .xor .u32 (ibits .xor .u32 (L.getD (t-3) 0) (L.getD (t-8) 0)) (L.getD (t-14) 0)) (L.getD (t-16) 0)) 31
def Wl1 (B:List UInt8):Nat→List Int
 |0=>List.replicate 80 0
 |t+1=>(Wl1 B t).set t (nw1 B (Wl1 B t) t)
theorem Wl1_len (B:List UInt8) (t:Nat):(Wl1 B t).length=80:=by
 induction t with
 |zero=>simp [Wl1]
 |succ n ih=>simp [Wl1,ih]
theorem p1 (x:Int):call T 142 [.int .u32 x,.int .i64 1] [] 0=some ⟨.int .u32 (rr x 31),[],[]⟩:=f142 x 1 31 (by omega) (by decide)
theorem p5 (x:Int):call T 142 [.int .u32 x,.int .i64 5] [] 0=some ⟨.int .u32 (rr x 27),[],[]⟩:=f142 x 5 27 (by omega) (by decide)
theorem p30 (x:Int):call T 142 [.int .u32 x,.int .i64 30] [] 0=some ⟨.int .u32 (rr x 2),[],[]⟩:=f142 x 30 2 (by omega) (by decide)
theorem z1 (x:Int):call T 169 [.int .u32 x,.int .u64 1] [] 0=some ⟨.int .u32 (rr x 31),[],[]⟩:=f169 x 1 31 rfl
theorem z5 (x:Int):call T 169 [.int .u32 x,.int .u64 5] [] 0=some ⟨.int .u32 (rr x 27),[],[]⟩:=f169 x 5 27 rfl
theorem z30 (x:Int):call T 169 [.int .u32 x,.int .u64 30] [] 0=some ⟨.int .u32 (rr x 2),[],[]⟩:=f169 x 30 2 rfl
set_option maxHeartbeats 4000000 in
theorem l114a (B:List UInt8) (O:SObj) (hB:B.length=64):∀(n t:Nat),80-t=n→t≤80→
 run T (.loop r114_8) ⟨[(0,.ptr 0 0),(1,.byt B .no),(4,.ptr 104 0),(14,.int .i64 t)],[(0,O),(104,.arr 1 (ws (Wl1 B t)))],[]⟩=
 some (.x 0,⟨[(0,.ptr 0 0),(4,.ptr 104 0)],[(0,O),(104,.arr 1 (ws (Wl1 B 80)))],[]⟩):=by
 have c80:((80:Nat):Int)=80:=rfl;intro n;induction n with
 |zero=>
  intro t h0 h1;have hi:t=80:=by omega
  subst hi;rw [run_loop];simp only [c80,go_sem,Q4,Qh,Qj,Qk,reduceCtorEq,reduceIte]
 | succ n ih=>
  intro t h0 h1;have ih':=ih (t+1) (by omega) (by omega);have e1:=wsucc t (by omega);have hlt:((t:Nat):Int)<80:=by omega
  have hl:=Wl1_len B t;have hw:=ws_len (Wl1 B t);have hn:t<80:=by omega
  have hs:Wl1 B (t+1)=(Wl1 B t).set t (nw1 B (Wl1 B t) t):=rfl;rw [run_loop]
  by_cases h16:t<16
  ·have g:=f141 B t (by omega) (by omega)
   have h16':((t:Nat):Int)<16:=by omega
   have hx:nw1 B (Wl1 B t) t=wd B t:=by unfold nw1;rw [if_pos h16]
   rw [hs,hx]at ih';simp only [go_sem,Qh,Qj,Qk,reduceCtorEq,reduceIte,hlt,h16',e1,g,hl,hw,S_141,hn,ws_set,ih']
  ·have h16':¬((t:Nat):Int)<16:=by omega
   have a3:IntKind.i64.wrap ((t:Int)-3)=((t-3:Nat):Int):=by rw [w64 (by omega) (by omega)];omega
   have a8:IntKind.i64.wrap ((t:Int)-8)=((t-8:Nat):Int):=by rw [w64 (by omega) (by omega)];omega
   have a14:IntKind.i64.wrap ((t:Int)-14)=((t-14:Nat):Int):=by rw [w64 (by omega) (by omega)];omega
   have a16:IntKind.i64.wrap ((t:Int)-16)=((t-16:Nat):Int):=by rw [w64 (by omega) (by omega)];omega
   have b3:t-3<80:=by omega
   have byt8:t-8<80:=by omega
   have b14:t-14<80:=by omega
   have b16:t-16<80:=by omega
   have d3:=ws_get (Wl1 B t) (t-3) (by omega);have d8:=ws_get (Wl1 B t) (t-8) (by omega);have d14:=ws_get (Wl1 B t) (t-14) (by omega);have d16:=ws_get (Wl1 B t) (t-16) (by omega);rw [hs]at ih';unfold nw1 at ih';rw [if_neg h16]at ih';simp only [go_sem,Qb,Qc,Qd,Qh,Qj,Qk,reduceCtorEq,reduceIte,hlt,h16',e1,hl,hw,S_142,hn,a3,a8,a14,a16,b3,byt8,b14,b16,d3,d8,d14,d16,p1,ws_set,ih']
def ff (t:Nat) (b c d:Int):Int:=
 if t<20 then ibits .xor .u32 (ibits .and .u32 b c) (ibits .and .u32 (ibits .xor .u32 (if IntKind.u32.signed=true then-1 else IntKind.u32.max) b) d)
 else if t<40 then ibits .xor .u32 (ibits .xor .u32 b c) d
 else if t<60 then ibits .xor .u32 (ibits .xor .u32 (ibits .and .u32 b c) (ibits .and .u32 b d)) (ibits .and .u32 c d)
 else ibits .xor .u32 (ibits .xor .u32 b c) d
def kk (t:Nat):Int:=if t<20 then 1518500249 else if t<40 then 1859775393 else if t<60 then 2400959708 else 3395469782
def rnd1 (t:Nat) (w:Int) (s:List Int):List Int:=
 [IntKind.u32.wrap (IntKind.u32.wrap (IntKind.u32.wrap (IntKind.u32.wrap (rr (s.getD 0 0) 27+ff t (s.getD 1 0) (s.getD 2 0) (s.getD 3 0))+s.getD 4 0)+kk t)+w),s.getD 0 0,rr (s.getD 1 0) 2,s.getD 2 0,s.getD 3 0]
def rounds1 (W:List Int) (h:List Int):Nat→List Int
 |0=>h
 |t+1=>rnd1 t (W.getD t 0) (rounds1 W h t)
theorem rounds1_len (W h:List Int) (hh:h.length=5) (t:Nat):(rounds1 W h t).length=5:=by
 cases t<;>simp [rounds1,rnd1,hh]
set_option maxHeartbeats 4000000 in
theorem s114_0 (W:List Int) (O:SObj) (hW:W.length=80) (t:Nat) (hn:t<80) (hd:t/20=0) (a b c d e:Int):
 run T (.loop r114_24) ⟨[(0,.ptr 0 0),(4,.ptr 104 0),(6,.int .u32 a),(7,.int .u32 b),(8,.int .u32 c),(9,.int .u32 d),(10,.int .u32 e),(67,.int .i64 t)],[(0,O),(104,.arr 1 (ws W))],[]⟩=
 run T (.loop r114_24) ⟨[(0,.ptr 0 0),(4,.ptr 104 0),(6,.int .u32 (IntKind.u32.wrap (IntKind.u32.wrap (IntKind.u32.wrap (IntKind.u32.wrap (rr a 27+ibits .xor .u32 (ibits .and .u32 b c) (ibits .and .u32 (ibits .xor .u32 (if IntKind.u32.signed=true then-1 else IntKind.u32.max) b) d))+e)+1518500249)+W.getD t 0))),(7,.int .u32 a),(8,.int .u32 (rr b 2)),(9,.int .u32 c),(10,.int .u32 d),(67,.int .i64 ((t+1:Nat):Int))],[(0,O),(104,.arr 1 (ws W))],[]⟩:=by
 have c80:((80:Nat):Int)=80:=rfl;have e1:=wsucc t (by omega);have hlt:((t:Nat):Int)<80:=by omega
 have hw2:=ws_len W;have dW:=ws_get W t (by omega)
 have hq:((t:Nat):Int).tdiv 20=0:=by
  have h:((t:Nat):Int).tdiv 20=((t/20:Nat):Int):=by rw [Int.tdiv_eq_ediv_of_nonneg (by omega)];omega
  rw [h,hd];rfl
 have k0:IntKind.i64.wrap 0=0:=rfl;have k1:IntKind.i64.wrap 1=1:=rfl;have k2:IntKind.i64.wrap 2=2:=rfl;have k3:IntKind.i64.wrap 3=3:=rfl;rw [run_loop];simp only [go_sem,Q5,Q7,Qb,Qc,Qd,Qh,Qj,Qk,reduceCtorEq,reduceIte,hlt,e1,hw2,hW,S_142,hn,hq,k0,dW,p5,p30]
set_option maxHeartbeats 4000000 in
theorem s114_1 (W:List Int) (O:SObj) (hW:W.length=80) (t:Nat) (hn:t<80) (hd:t/20=1) (a b c d e:Int):
 run T (.loop r114_24) ⟨[(0,.ptr 0 0),(4,.ptr 104 0),(6,.int .u32 a),(7,.int .u32 b),(8,.int .u32 c),(9,.int .u32 d),(10,.int .u32 e),(67,.int .i64 t)],[(0,O),(104,.arr 1 (ws W))],[]⟩=
 run T (.loop r114_24) ⟨[(0,.ptr 0 0),(4,.ptr 104 0),(6,.int .u32 (IntKind.u32.wrap (IntKind.u32.wrap (IntKind.u32.wrap (IntKind.u32.wrap (rr a 27+ibits .xor .u32 (ibits .xor .u32 b c) d)+e)+1859775393)+W.getD t 0))),(7,.int .u32 a),(8,.int .u32 (rr b 2)),(9,.int .u32 c),(10,.int .u32 d),(67,.int .i64 ((t+1:Nat):Int))],[(0,O),(104,.arr 1 (ws W))],[]⟩:=by
 have c80:((80:Nat):Int)=80:=rfl;have e1:=wsucc t (by omega);have hlt:((t:Nat):Int)<80:=by omega
 have hw2:=ws_len W;have dW:=ws_get W t (by omega)
 have hq:((t:Nat):Int).tdiv 20=1:=by
  have h:((t:Nat):Int).tdiv 20=((t/20:Nat):Int):=by rw [Int.tdiv_eq_ediv_of_nonneg (by omega)];omega
  rw [h,hd];rfl
 have k0:IntKind.i64.wrap 0=0:=rfl;have k1:IntKind.i64.wrap 1=1:=rfl;have k2:IntKind.i64.wrap 2=2:=rfl;have k3:IntKind.i64.wrap 3=3:=rfl;rw [run_loop];simp only [go_sem,Q5,Q7,Qb,Qc,Qd,Qh,Qj,Qk,reduceCtorEq,reduceIte,hlt,e1,hw2,hW,S_142,hn,hq,k1,dW,p5,p30]
set_option maxHeartbeats 4000000 in
theorem s114_2 (W:List Int) (O:SObj) (hW:W.length=80) (t:Nat) (hn:t<80) (hd:t/20=2) (a b c d e:Int):
 run T (.loop r114_24) ⟨[(0,.ptr 0 0),(4,.ptr 104 0),(6,.int .u32 a),(7,.int .u32 b),(8,.int .u32 c),(9,.int .u32 d),(10,.int .u32 e),(67,.int .i64 t)],[(0,O),(104,.arr 1 (ws W))],[]⟩=
 run T (.loop r114_24) ⟨[(0,.ptr 0 0),(4,.ptr 104 0),(6,.int .u32 (IntKind.u32.wrap (IntKind.u32.wrap (IntKind.u32.wrap (IntKind.u32.wrap (rr a 27+ibits .xor .u32 (ibits .xor .u32 (ibits .and .u32 b c) (ibits .and .u32 b d)) (ibits .and .u32 c d))+e)+2400959708)+W.getD t 0))),(7,.int .u32 a),(8,.int .u32 (rr b 2)),(9,.int .u32 c),(10,.int .u32 d),(67,.int .i64 ((t+1:Nat):Int))],[(0,O),(104,.arr 1 (ws W))],[]⟩:=by
 have c80:((80:Nat):Int)=80:=rfl;have e1:=wsucc t (by omega);have hlt:((t:Nat):Int)<80:=by omega
 have hw2:=ws_len W;have dW:=ws_get W t (by omega)
 have hq:((t:Nat):Int).tdiv 20=2:=by
  have h:((t:Nat):Int).tdiv 20=((t/20:Nat):Int):=by rw [Int.tdiv_eq_ediv_of_nonneg (by omega)];omega
  rw [h,hd];rfl
 have k0:IntKind.i64.wrap 0=0:=rfl;have k1:IntKind.i64.wrap 1=1:=rfl;have k2:IntKind.i64.wrap 2=2:=rfl;have k3:IntKind.i64.wrap 3=3:=rfl;rw [run_loop];simp only [go_sem,Q5,Q7,Qb,Qc,Qd,Qh,Qj,Qk,reduceCtorEq,reduceIte,hlt,e1,hw2,hW,S_142,hn,hq,k2,dW,p5,p30]
set_option maxHeartbeats 4000000 in
theorem s114_3 (W:List Int) (O:SObj) (hW:W.length=80) (t:Nat) (hn:t<80) (hd:t/20=3) (a b c d e:Int):
 run T (.loop r114_24) ⟨[(0,.ptr 0 0),(4,.ptr 104 0),(6,.int .u32 a),(7,.int .u32 b),(8,.int .u32 c),(9,.int .u32 d),(10,.int .u32 e),(67,.int .i64 t)],[(0,O),(104,.arr 1 (ws W))],[]⟩=
 run T (.loop r114_24) ⟨[(0,.ptr 0 0),(4,.ptr 104 0),(6,.int .u32 (IntKind.u32.wrap (IntKind.u32.wrap (IntKind.u32.wrap (IntKind.u32.wrap (rr a 27+ibits .xor .u32 (ibits .xor .u32 b c) d)+e)+3395469782)+W.getD t 0))),(7,.int .u32 a),(8,.int .u32 (rr b 2)),(9,.int .u32 c),(10,.int .u32 d),(67,.int .i64 ((t+1:Nat):Int))],[(0,O),(104,.arr 1 (ws W))],[]⟩:=by
 have c80:((80:Nat):Int)=80:=rfl;have e1:=wsucc t (by omega);have hlt:((t:Nat):Int)<80:=by omega
 have hw2:=ws_len W;have dW:=ws_get W t (by omega)
 have hq:((t:Nat):Int).tdiv 20=3:=by
  have h:((t:Nat):Int).tdiv 20=((t/20:Nat):Int):=by rw [Int.tdiv_eq_ediv_of_nonneg (by omega)];omega
  rw [h,hd];rfl
 have k0:IntKind.i64.wrap 0=0:=rfl;have k1:IntKind.i64.wrap 1=1:=rfl;have k2:IntKind.i64.wrap 2=2:=rfl;have k3:IntKind.i64.wrap 3=3:=rfl;rw [run_loop];simp only [go_sem,Q5,Q7,Qb,Qc,Qd,Qh,Qj,Qk,reduceCtorEq,reduceIte,hlt,e1,hw2,hW,S_142,hn,hq,k3,dW,p5,p30]
theorem l114b (W h:List Int) (O:SObj) (hW:W.length=80) (hh:h.length=5):∀(n t:Nat),80-t=n→t≤80→
 run T (.loop r114_24) ⟨[(0,.ptr 0 0),(4,.ptr 104 0),(6,.int .u32 ((rounds1 W h t).getD 0 0)),(7,.int .u32 ((rounds1 W h t).getD 1 0)),(8,.int .u32 ((rounds1 W h t).getD 2 0)),(9,.int .u32 ((rounds1 W h t).getD 3 0)),(10,.int .u32 ((rounds1 W h t).getD 4 0)),(67,.int .i64 t)],[(0,O),(104,.arr 1 (ws W))],[]⟩=
 some (.x 2,⟨[(0,.ptr 0 0),(6,.int .u32 ((rounds1 W h 80).getD 0 0)),(7,.int .u32 ((rounds1 W h 80).getD 1 0)),(8,.int .u32 ((rounds1 W h 80).getD 2 0)),(9,.int .u32 ((rounds1 W h 80).getD 3 0)),(10,.int .u32 ((rounds1 W h 80).getD 4 0))],[(0,O),(104,.arr 1 (ws W))],[]⟩):=by
 have c80:((80:Nat):Int)=80:=rfl;intro n;induction n with
 |zero=>
  intro t h0 h1;have hi:t=80:=by omega
  subst hi;rw [run_loop];simp only [c80,go_sem,Q4,Qh,Qj,Qk,reduceCtorEq,reduceIte]
 | succ n ih=>
  intro t h0 h1;have ih':=ih (t+1) (by omega) (by omega);have hs:rounds1 W h (t+1)=rnd1 t (W.getD t 0) (rounds1 W h t):=rfl;rw [hs]at ih';simp only [rnd1,List.getD_cons_zero,List.getD_cons_succ]at ih'
  by_cases h20:t<20
  ·have hk:kk t=1518500249:=by unfold kk;rw [if_pos h20]
   unfold ff at ih';rw [if_pos h20,hk]at ih';rw [s114_0 W O hW t (by omega) (by omega)];rw [ih']
  ·by_cases h40:t<40
   ·have hk:kk t=1859775393:=by unfold kk;rw [if_neg h20,if_pos h40]
    unfold ff at ih';rw [if_neg h20,if_pos h40,hk]at ih';rw [s114_1 W O hW t (by omega) (by omega)];rw [ih']
   ·by_cases h60:t<60
    ·have hk:kk t=2400959708:=by unfold kk;rw [if_neg h20,if_neg h40,if_pos h60]
     unfold ff at ih';rw [if_neg h20,if_neg h40,if_pos h60,hk]at ih';rw [s114_2 W O hW t (by omega) (by omega)];rw [ih']
    ·have hk:kk t=3395469782:=by unfold kk;rw [if_neg h20,if_neg h40,if_neg h60]
     unfold ff at ih';rw [if_neg h20,if_neg h40,if_neg h60,hk]at ih';rw [s114_3 W O hW t (by omega) (by omega)];rw [ih']
theorem ws5 (a b c d e:Int):ws [a,b,c,d,e]=[[.int .u32 a],[.int .u32 b],[.int .u32 c],[.int .u32 d],[.int .u32 e]]:=rfl
def comp1 (h:List Int) (B:List UInt8):List Int:=addl h (rounds1 (Wl1 B 80) h 80)
theorem comp1_len (h:List Int) (B:List UInt8) (hh:h.length=5):(comp1 h B).length=5:=by unfold comp1;rw [addl_len _ _ (by rw [rounds1_len _ _ hh,hh];exact Nat.le_refl 5),hh]
theorem list5 (l:List Int) (h:l.length=5):∃a b c d e,l=[a,b,c,d,e]:=by
 match l,h with
 |[a,b,c,d,e],_=>exact⟨a,b,c,d,e,rfl⟩
theorem addl5 (a b c d e p q r s t:Int):addl [a,b,c,d,e] [p,q,r,s,t]=[IntKind.u32.wrap (a+p),IntKind.u32.wrap (b+q),IntKind.u32.wrap (c+r),IntKind.u32.wrap (d+s),IntKind.u32.wrap (e+t)]:=rfl
set_option maxHeartbeats 4000000 in
theorem f114 (h:List Int) (B:List UInt8) (hh:h.length=5) (hB:B.length=64):call T 114 [.ptr 0 0,.byt B .no] [.arr 1 (ws h)] 0=some ⟨.tup [],[(0,.arr 1 (ws (comp1 h B)))],[]⟩:=by
 have g1:=l114a B (.arr 1 (ws h)) hB _ 0 rfl (by omega);have g2:=l114b (Wl1 B 80) h (.arr 1 (ws h)) (Wl1_len B 80) hh _ 0 rfl (by omega);have hw:Wl1 B 0=List.replicate 80 0:=by rw [Wl1]
 have hr:rounds1 (Wl1 B 80) h 0=h:=by rw [rounds1]
 have hl:=rounds1_len (Wl1 B 80) h hh 80;rw [hw,←ws_rep]at g1;rw [hr]at g2;simp only [Int.natCast_zero]at g1 g2;unfold comp1;generalize rounds1 (Wl1 B 80) h 80=s at*;generalize Wl1 B 80=W at*;clear hw hr;obtain⟨a0,a1,a2,a3,a4,rfl⟩:=list5 h hh;obtain⟨s0,s1,s2,s3,s4,rfl⟩:=list5 s hl;rw [call_code T_114];simp only [ws5,List.getD_cons_zero,List.getD_cons_succ]at g1 g2;have c5:((5:Nat):Int)=5:=rfl;simp only [go_sem,Q2,Q3,Q4,Qb,Qc,Qd,Qe,Qh,Qi,Qj,Qk,reduceCtorEq,reduceIte,ws5,addl5,g1,g2,List.length_cons,List.length_nil,c5]
def blocks1 (h:List Int) (X:List UInt8):Nat→List Int
 |0=>h
 |n+1=>blocks1 (comp1 h (X.take 64)) (X.drop 64) n
theorem blocks1_len (n:Nat):∀(h:List Int) (X:List UInt8),h.length=5→(blocks1 h X n).length=5:=by
 induction n with
 |zero=>intro h X hh;exact hh
 |succ n ih=>intro h X hh;exact ih _ _ (comp1_len h _ hh)
def H1:List Int:=[1732584193,4023233417,2562383102,271733878,3285377520]
def sha1 (B:List UInt8):List UInt8:=sp (blocks1 H1 (padV B) ((padV B).length/64))
theorem sha1_len (B:List UInt8):(sha1 B).length=20:=by unfold sha1;rw [sp_len,blocks1_len _ _ _ rfl]
theorem l69z:∀(n:Nat) (h:List Int) (X:List UInt8),h.length=5→X.length=64*n→X.length≤1000000000000→
 run T (.loop r69_8) ⟨[(5,.ptr 105 0),(6,.byt X .no)],[(105,.arr 1 (ws h))],[]⟩=
 some (.x 1,⟨[(5,.ptr 105 0)],[(105,.arr 1 (ws (blocks1 h X n)))],[]⟩):=by
 intro n;induction n with
 |zero=>
  intro h X hh hX hl;rw [run_loop];have h0:¬(0:Int)<X.length:=by omega
  simp only [go_sem,Qh,Qj,Qk,reduceIte,h0,blocks1]
 |succ n ih=>
  intro h X hh hX hl;have ih':=ih (comp1 h (X.take 64)) (X.drop 64) (comp1_len h _ hh) (by rw [List.length_drop];omega) (by rw [List.length_drop];omega);have g:=f114 h (X.take 64) hh (by rw [List.length_take];omega);have h1:(0:Int)<X.length:=by omega
  have h2:(64:Int)≤X.length:=by omega
  have h3:64≤X.length:=by omega
  rw [run_loop];simp only [go_sem,Q2,Q3,Qe,Qg,Qh,Qi,Qj,Qk,reduceIte,h1,h2,g,S_114,List.take_length,ih',blocks1]
set_option maxHeartbeats 4000000 in
theorem f69z (B:List UInt8) (hB:B.length≤100000000000):call T 69 [.int .i64 0,.byt B .no] [] 0=some ⟨.byt (sha1 B) .no,[],[]⟩:=by
 have g0:=f113 B (by omega);have hl:=padV_len B;have hz:zn (B.length+1)<64:=by unfold zn;omega
 have hm:=padV_mod B;have g1:=l69z ((padV B).length/64) H1 (padV B) rfl (by omega) (by omega);have hb:=blocks1_len ((padV B).length/64) H1 (padV B) rfl;have g2:=f115 (blocks1 H1 (padV B) ((padV B).length/64)) (by omega);have c8:((5:Nat):Int)=5:=rfl;have hw:=ws_len (blocks1 H1 (padV B) ((padV B).length/64));have hH:ws H1=[[.int .u32 1732584193],[.int .u32 4023233417],[.int .u32 2562383102],[.int .u32 271733878],[.int .u32 3285377520]]:=rfl;rw [hH]at g1;rw [call_code T_69];unfold sha1;generalize blocks1 H1 (padV B) ((padV B).length/64)=b at*;have ht:List.take 5 (ws b)=ws b:=List.take_of_length_le (by rw [hw,hb];exact Nat.le_refl 5);simp only [go_sem,Q2,Q3,Q5,Qe,Qf,Qg,Qh,Qi,Qj,Qk,reduceCtorEq,reduceIte,g0,g1,g2,S_113,S_115,hw,hb,c8,ht]
theorem l136a (X:List UInt8) (a:Nat) (h:List (List SV)) (ha:a+64≤X.length) (hX:X.length≤1000000000000):∀(n t:Nat),80-t=n→t≤80→
 run T (.loop r136_12) ⟨[(3,.lst 1 h .clip),(4,.byt X .no),(5,.int .i64 a),(6,.ptr 106 0),(7,.int .i64 t)],[(106,.arr 1 (ws (Wl1 (bk X a) t)))],[]⟩=
 some (.x 2,⟨[(3,.lst 1 h .clip),(4,.byt X .no),(5,.int .i64 a),(6,.ptr 106 0)],[(106,.arr 1 (ws (Wl1 (bk X a) 80)))],[]⟩):=by
 have c80:((80:Nat):Int)=80:=rfl;intro n;induction n with
 |zero=>
  intro t h0 h1;have hi:t=80:=by omega
  subst hi;rw [run_loop];simp only [c80,go_sem,Q4,Qh,Qj,Qk,reduceIte]
 | succ n ih=>
  intro t h0 h1;have ih':=ih (t+1) (by omega) (by omega);have e1:=wsucc t (by omega);have hlt:((t:Nat):Int)<80:=by omega
  have hl:=Wl1_len (bk X a) t;have hw:=ws_len (Wl1 (bk X a) t);have hn:t<80:=by omega
  have hs:Wl1 (bk X a) (t+1)=(Wl1 (bk X a) t).set t (nw1 (bk X a) (Wl1 (bk X a) t) t):=rfl;have a1:IntKind.i64.wrap ((a:Int)+64)=((a+64:Nat):Int):=by rw [w64 (by omega) (by omega)];omega
  have a3:a≤a+64:=by omega
  rw [run_loop]
  by_cases h16:t<16
  ·have g:=f128 (bk X a) t (by rw [bk_len X a ha];omega) (by rw [bk_len X a ha];omega)
   have h16':((t:Nat):Int)<16:=by omega
   have hx:nw1 (bk X a) (Wl1 (bk X a) t) t=wd (bk X a) t:=by unfold nw1;rw [if_pos h16]
   rw [hs,hx]at ih';generalize hb:Wl1 (bk X a) t=L at*;generalize hc:wd (bk X a) t=z at*;unfold bk at g;simp only [go_sem,Qh,Qj,Qk,reduceIte,hlt,h16',e1,a1,ha,a3,g,hl,hw,S_128,hn,ws_set,ih']
  ·have h16':¬((t:Nat):Int)<16:=by omega
   have a3:IntKind.i64.wrap ((t:Int)-3)=((t-3:Nat):Int):=by rw [w64 (by omega) (by omega)];omega
   have a8:IntKind.i64.wrap ((t:Int)-8)=((t-8:Nat):Int):=by rw [w64 (by omega) (by omega)];omega
   have a14:IntKind.i64.wrap ((t:Int)-14)=((t-14:Nat):Int):=by rw [w64 (by omega) (by omega)];omega
   have a16:IntKind.i64.wrap ((t:Int)-16)=((t-16:Nat):Int):=by rw [w64 (by omega) (by omega)];omega
   have b3:t-3<80:=by omega
   have byt8:t-8<80:=by omega
   have b14:t-14<80:=by omega
   have b16:t-16<80:=by omega
   rw [hs]at ih';unfold nw1 at ih';rw [if_neg h16]at ih';generalize hb:Wl1 (bk X a) t=L at*;have d3:=ws_get L (t-3) (by omega);have d8:=ws_get L (t-8) (by omega);have d14:=ws_get L (t-14) (by omega);have d16:=ws_get L (t-16) (by omega);simp only [go_sem,Qb,Qc,Qd,Qh,Qj,Qk,reduceCtorEq,reduceIte,hlt,h16',e1,hl,hw,S_169,hn,a3,a8,a14,a16,b3,byt8,b14,b16,d3,d8,d14,d16,z1,ws_set,ih']
set_option maxHeartbeats 4000000 in
theorem s136_0 (W:List Int) (X Y:SV) (h:List (List SV)) (hW:W.length=80) (t:Nat) (hn:t<80) (q0:t<20) (a b c d e:Int):
 run T (.loop r136_26) ⟨[(3,.lst 1 h .clip),(4,X),(5,Y),(6,.ptr 106 0),(8,.int .u32 a),(9,.int .u32 b),(10,.int .u32 c),(11,.int .u32 d),(12,.int .u32 e),(13,.int .i64 t)],[(106,.arr 1 (ws W))],[]⟩=
 run T (.loop r136_26) ⟨[(3,.lst 1 h .clip),(4,X),(5,Y),(6,.ptr 106 0),(8,.int .u32 (IntKind.u32.wrap (IntKind.u32.wrap (IntKind.u32.wrap (IntKind.u32.wrap (rr a 27+ibits .xor .u32 (ibits .and .u32 b c) (ibits .and .u32 (ibits .xor .u32 (if IntKind.u32.signed=true then-1 else IntKind.u32.max) b) d))+e)+1518500249)+W.getD t 0))),(9,.int .u32 a),(10,.int .u32 (rr b 2)),(11,.int .u32 c),(12,.int .u32 d),(13,.int .i64 ((t+1:Nat):Int))],[(106,.arr 1 (ws W))],[]⟩:=by
 have c80:((80:Nat):Int)=80:=rfl;have e1:=wsucc t (by omega);have hlt:((t:Nat):Int)<80:=by omega
 have hw2:=ws_len W;have dW:=ws_get W t (by omega);have p0:((t:Nat):Int)<20:=by omega
 rw [run_loop];simp only [go_sem,Q7,Qb,Qc,Qd,Qh,Qj,Qk,reduceCtorEq,reduceIte,hlt,e1,hw2,hW,S_169,hn,p0,dW,z5,z30]
set_option maxHeartbeats 4000000 in
theorem s136_1 (W:List Int) (X Y:SV) (h:List (List SV)) (hW:W.length=80) (t:Nat) (hn:t<80) (q0:¬t<20) (q1:t<40) (a b c d e:Int):
 run T (.loop r136_26) ⟨[(3,.lst 1 h .clip),(4,X),(5,Y),(6,.ptr 106 0),(8,.int .u32 a),(9,.int .u32 b),(10,.int .u32 c),(11,.int .u32 d),(12,.int .u32 e),(13,.int .i64 t)],[(106,.arr 1 (ws W))],[]⟩=
 run T (.loop r136_26) ⟨[(3,.lst 1 h .clip),(4,X),(5,Y),(6,.ptr 106 0),(8,.int .u32 (IntKind.u32.wrap (IntKind.u32.wrap (IntKind.u32.wrap (IntKind.u32.wrap (rr a 27+ibits .xor .u32 (ibits .xor .u32 b c) d)+e)+1859775393)+W.getD t 0))),(9,.int .u32 a),(10,.int .u32 (rr b 2)),(11,.int .u32 c),(12,.int .u32 d),(13,.int .i64 ((t+1:Nat):Int))],[(106,.arr 1 (ws W))],[]⟩:=by
 have c80:((80:Nat):Int)=80:=rfl;have e1:=wsucc t (by omega);have hlt:((t:Nat):Int)<80:=by omega
 have hw2:=ws_len W;have dW:=ws_get W t (by omega);have p0:¬((t:Nat):Int)<20:=by omega
 have p1:((t:Nat):Int)<40:=by omega
 rw [run_loop];simp only [go_sem,Q7,Qb,Qc,Qd,Qh,Qj,Qk,reduceCtorEq,reduceIte,hlt,e1,hw2,hW,S_169,hn,p0,p1,dW,z5,z30]
set_option maxHeartbeats 4000000 in
theorem s136_2 (W:List Int) (X Y:SV) (h:List (List SV)) (hW:W.length=80) (t:Nat) (hn:t<80) (q0:¬t<20) (q1:¬t<40) (q2:t<60) (a b c d e:Int):
 run T (.loop r136_26) ⟨[(3,.lst 1 h .clip),(4,X),(5,Y),(6,.ptr 106 0),(8,.int .u32 a),(9,.int .u32 b),(10,.int .u32 c),(11,.int .u32 d),(12,.int .u32 e),(13,.int .i64 t)],[(106,.arr 1 (ws W))],[]⟩=
 run T (.loop r136_26) ⟨[(3,.lst 1 h .clip),(4,X),(5,Y),(6,.ptr 106 0),(8,.int .u32 (IntKind.u32.wrap (IntKind.u32.wrap (IntKind.u32.wrap (IntKind.u32.wrap (rr a 27+ibits .xor .u32 (ibits .xor .u32 (ibits .and .u32 b c) (ibits .and .u32 b d)) (ibits .and .u32 c d))+e)+2400959708)+W.getD t 0))),(9,.int .u32 a),(10,.int .u32 (rr b 2)),(11,.int .u32 c),(12,.int .u32 d),(13,.int .i64 ((t+1:Nat):Int))],[(106,.arr 1 (ws W))],[]⟩:=by
 have c80:((80:Nat):Int)=80:=rfl;have e1:=wsucc t (by omega);have hlt:((t:Nat):Int)<80:=by omega
 have hw2:=ws_len W;have dW:=ws_get W t (by omega);have p0:¬((t:Nat):Int)<20:=by omega
 have p1:¬((t:Nat):Int)<40:=by omega
 have p2:((t:Nat):Int)<60:=by omega
 rw [run_loop];simp only [go_sem,Q7,Qb,Qc,Qd,Qh,Qj,Qk,reduceCtorEq,reduceIte,hlt,e1,hw2,hW,S_169,hn,p0,p1,p2,dW,z5,z30]
set_option maxHeartbeats 4000000 in
theorem s136_3 (W:List Int) (X Y:SV) (h:List (List SV)) (hW:W.length=80) (t:Nat) (hn:t<80) (q0:¬t<20) (q1:¬t<40) (q2:¬t<60) (a b c d e:Int):
 run T (.loop r136_26) ⟨[(3,.lst 1 h .clip),(4,X),(5,Y),(6,.ptr 106 0),(8,.int .u32 a),(9,.int .u32 b),(10,.int .u32 c),(11,.int .u32 d),(12,.int .u32 e),(13,.int .i64 t)],[(106,.arr 1 (ws W))],[]⟩=
 run T (.loop r136_26) ⟨[(3,.lst 1 h .clip),(4,X),(5,Y),(6,.ptr 106 0),(8,.int .u32 (IntKind.u32.wrap (IntKind.u32.wrap (IntKind.u32.wrap (IntKind.u32.wrap (rr a 27+ibits .xor .u32 (ibits .xor .u32 b c) d)+e)+3395469782)+W.getD t 0))),(9,.int .u32 a),(10,.int .u32 (rr b 2)),(11,.int .u32 c),(12,.int .u32 d),(13,.int .i64 ((t+1:Nat):Int))],[(106,.arr 1 (ws W))],[]⟩:=by
 have c80:((80:Nat):Int)=80:=rfl;have e1:=wsucc t (by omega);have hlt:((t:Nat):Int)<80:=by omega
 have hw2:=ws_len W;have dW:=ws_get W t (by omega);have p0:¬((t:Nat):Int)<20:=by omega
 have p1:¬((t:Nat):Int)<40:=by omega
 have p2:¬((t:Nat):Int)<60:=by omega
 rw [run_loop];simp only [go_sem,Q7,Qb,Qc,Qd,Qh,Qj,Qk,reduceCtorEq,reduceIte,hlt,e1,hw2,hW,S_169,hn,p0,p1,p2,dW,z5,z30]
theorem l136b (W k:List Int) (X Y:SV) (h:List (List SV)) (hW:W.length=80):∀(n t:Nat),80-t=n→t≤80→
 run T (.loop r136_26) ⟨[(3,.lst 1 h .clip),(4,X),(5,Y),(6,.ptr 106 0),(8,.int .u32 ((rounds1 W k t).getD 0 0)),(9,.int .u32 ((rounds1 W k t).getD 1 0)),(10,.int .u32 ((rounds1 W k t).getD 2 0)),(11,.int .u32 ((rounds1 W k t).getD 3 0)),(12,.int .u32 ((rounds1 W k t).getD 4 0)),(13,.int .i64 t)],[(106,.arr 1 (ws W))],[]⟩=some (.x 4,⟨[(3,.lst 1 h .clip),(4,X),(5,Y),(8,.int .u32 ((rounds1 W k 80).getD 0 0)),(9,.int .u32 ((rounds1 W k 80).getD 1 0)),(10,.int .u32 ((rounds1 W k 80).getD 2 0)),(11,.int .u32 ((rounds1 W k 80).getD 3 0)),(12,.int .u32 ((rounds1 W k 80).getD 4 0))],[(106,.arr 1 (ws W))],[]⟩):=by
 have c80:((80:Nat):Int)=80:=rfl;intro n;induction n with
 |zero=>
  intro t h0 h1;have hi:t=80:=by omega
  subst hi;rw [run_loop];simp only [c80,go_sem,Q4,Qh,Qj,Qk,reduceIte]
 | succ n ih=>
  intro t h0 h1;have ih':=ih (t+1) (by omega) (by omega);have hs:rounds1 W k (t+1)=rnd1 t (W.getD t 0) (rounds1 W k t):=rfl;rw [hs]at ih';simp only [rnd1,List.getD_cons_zero,List.getD_cons_succ]at ih'
  by_cases h20:t<20
  ·have hk:kk t=1518500249:=by unfold kk;rw [if_pos h20]
   unfold ff at ih';rw [if_pos h20,hk]at ih';rw [s136_0 W X Y h hW t (by omega) h20,ih']
  ·by_cases h40:t<40
   ·have hk:kk t=1859775393:=by unfold kk;rw [if_neg h20,if_pos h40]
    unfold ff at ih';rw [if_neg h20,if_pos h40,hk]at ih';rw [s136_1 W X Y h hW t (by omega) h20 h40,ih']
   ·by_cases h60:t<60
    ·have hk:kk t=2400959708:=by unfold kk;rw [if_neg h20,if_neg h40,if_pos h60]
     unfold ff at ih';rw [if_neg h20,if_neg h40,if_pos h60,hk]at ih';rw [s136_2 W X Y h hW t (by omega) h20 h40 h60,ih']
    ·have hk:kk t=3395469782:=by unfold kk;rw [if_neg h20,if_neg h40,if_neg h60]
     unfold ff at ih';rw [if_neg h20,if_neg h40,if_neg h60,hk]at ih';rw [s136_3 W X Y h hW t (by omega) h20 h40 h60,ih']
set_option maxHeartbeats 4000000 in
theorem l136 (X:List UInt8) (hX:X.length≤1000000000000):∀(n a:Nat) (h:List Int),h.length=5→X.length=a+64*n→
 run T (.loop r136_29) ⟨[(3,.lst 1 (ws h) .clip),(4,.byt X .no),(5,.int .i64 a)],[],[]⟩=
 some (.x 0,⟨[(3,.lst 1 (ws (blocks1 h (X.drop a) n)) .clip)],[],[]⟩):=by
 intro n;induction n with
 |zero=>
  intro a h hh hl;rw [run_loop];have h0:¬(a:Int)<X.length:=by omega
  simp only [go_sem,Qh,Qj,Qk,reduceIte,h0,blocks1]
 | succ n ih=>
  intro a h hh hl;have ih':=ih (a+64) (comp1 h (bk X a)) (comp1_len h _ hh) (by omega);have h0:(a:Int)<X.length:=by omega
  have ae:IntKind.i64.wrap ((a:Int)+64)=((a+64:Nat):Int):=by rw [w64 (by omega) (by omega)];omega
  have g1:=l136a X a (ws h) (by omega) hX _ 0 rfl (by omega);have g2:=l136b (Wl1 (bk X a) 80) h (.byt X .no) (.int .i64 a) (ws h) (Wl1_len _ 80) _ 0 rfl (by omega);have hw:Wl1 (bk X a) 0=List.replicate 80 0:=by rw [Wl1]
  have hr:rounds1 (Wl1 (bk X a) 80) h 0=h:=by rw [rounds1]
  have hrl:=rounds1_len (Wl1 (bk X a) 80) h hh 80;rw [hw,←ws_rep]at g1;rw [hr]at g2;simp only [Int.natCast_zero]at g1 g2
  have hbl:blocks1 h (X.drop a) (n+1)=blocks1 (comp1 h (bk X a)) (X.drop (a+64)) n:=by rw [blocks1,bk_eq,List.drop_drop]
  rw [hbl,run_loop];unfold comp1 at ih' ⊢;generalize rounds1 (Wl1 (bk X a) 80) h 80=s at*;generalize Wl1 (bk X a) 80=W at*;obtain⟨a0,a1,a2,a3,a4,rfl⟩:=list5 h hh;obtain⟨s0,s1,s2,s3,s4,rfl⟩:=list5 s hrl;simp only [ws5,List.getD_cons_zero,List.getD_cons_succ,addl5]at g1 g2 ih' ⊢;have c5:((5:Nat):Int)=5:=rfl;simp only [go_sem,Q2,Q3,Q4,Qb,Qc,Qd,Qe,Qh,Qj,Qk,reduceCtorEq,reduceIte,h0,ae,g1,g2,List.length_cons,List.length_nil,c5,ih']
theorem f136 (B:List UInt8) (hB:B.length≤100000000000):call T 136 [.byt B .no] [] 0=some ⟨.byt (sha1 B) .no,[],[]⟩:=by
 have g0:=f127 B (by omega);have hl:=padV_len B;have hz:zn (B.length+1)<64:=by unfold zn;omega
 have hm:=padV_mod B;have g3:=l136 (padV B) (by omega) ((padV B).length/64) 0 H1 rfl (by omega);have hb:=blocks1_len ((padV B).length/64) H1 (padV B) rfl;have g2:=f130 (blocks1 H1 (padV B) ((padV B).length/64)) (by omega);have hH:ws H1=[[.int .u32 1732584193],[.int .u32 4023233417],[.int .u32 2562383102],[.int .u32 271733878],[.int .u32 3285377520]]:=rfl;rw [hH]at g3;simp only [Int.natCast_zero,List.drop_zero]at g3;unfold sha1;generalize blocks1 H1 (padV B) ((padV B).length/64)=b at*;rw [call_code T_136];simp only [go_sem,Qh,Qi,Qj,Qk,reduceCtorEq,reduceIte,g0,S_127,g2,g3,S_130]
theorem f99a (B:List UInt8) (hB:B.length≤100000000000):call T 99 [.int .i64 0,.byt B .no] [] 0=some ⟨.byt (sha1 B) .no,[],[]⟩:=by have g:=f136 B hB;rw [call_code T_99];simp only [go_sem,Q5,Qe,Qh,Qi,Qj,Qk,reduceCtorEq,reduceIte,g,S_136]
theorem f99b (B:List UInt8) (hB:B.length≤100000000000):call T 99 [.int .i64 1,.byt B .no] [] 0=some ⟨.byt (sha B) .no,[],[]⟩:=by have g:=f80 B hB;rw [call_code T_99];simp only [go_sem,Q5,Qe,Qh,Qi,Qj,Qk,reduceCtorEq,reduceIte,g,S_80]
attribute [go_sem] Int.cast_ofNat_Int
structure Ev where
 reg:Int
 kind:Int
 dg:List (List UInt8)
 data:List UInt8
def bls (l:List (List UInt8)):List (List SV):=l.map fun d=> [.byt d .no]
def Ev.sv (e:Ev):List SV:=[.int .i64 e.reg,.int .i64 e.kind,.lst 1 (bls e.dg) .no,.byt e.data .no]
def evsv (l:List Ev):List (List SV):=l.map Ev.sv
theorem evsv_len (l:List Ev):(evsv l).length=l.length:=List.length_map ..
theorem evsv_get (l:List Ev) (i:Nat) (h:i<l.length):(evsv l).getD i []=(l.getD i ⟨0,0,[],[]⟩).sv:=by simp [evsv,List.getD_eq_getElem?_getD,h]
def phP (e:Ev):Int:=
 if e.kind=1∧e.reg=0 then 1 else if e.kind=1∧e.reg=4 then 2 else if e.kind=2∧0≤e.reg∧e.reg<8 then 3 else if e.kind=1∧e.reg=8 then 4 else if e.kind=3∧e.reg=9 then 5 else 0
def phR (e:Ev):Int:=
 if e.kind=5 then 0 else if e.kind=1∧e.reg=0 then 1 else if e.kind=1∧e.reg=4 then 2 else if e.kind=2∧e.reg≤7 then 3 else if e.kind=1∧e.reg=8 then 4 else if e.kind=3∧e.reg=9 then 5 else-1
theorem f88 (e:Ev):call T 88 [.agg e.sv] [] 0=some ⟨.int .i64 (phP e),[],[]⟩:=by
 obtain⟨g,k,d,b⟩:=e;rw [call_code T_88];unfold phP Ev.sv
 by_cases h1:k=1
 ·subst h1
  by_cases h2:g=0
  ·subst h2;simp only [go_sem,Q3,Q4,Q5,Qe,Qh,Qi,Qj,Qk,reduceCtorEq,reduceIte]
  ·by_cases h3:g=4
   ·subst h3;simp only [go_sem,Q3,Q4,Q5,Qe,Qh,Qi,Qj,Qk,reduceCtorEq,reduceIte]
   ·by_cases h4:g=8
    ·subst h4;simp only [go_sem,Q3,Q4,Q5,Qe,Qh,Qi,Qj,Qk,reduceCtorEq,reduceIte]
    ·simp only [go_sem,Q5,Qe,Qh,Qi,Qj,Qk,reduceCtorEq,reduceIte,h2,h3,h4]
 ·by_cases h5:k=2
  ·subst h5
   by_cases h2:0≤g
   ·by_cases h3:g<8
    ·simp only [go_sem,Q5,Qe,Qh,Qi,Qj,Qk,reduceCtorEq,reduceIte,h2,h3]
    ·simp only [go_sem,Q5,Qe,Qh,Qi,Qj,Qk,reduceCtorEq,reduceIte,h2,h3]
   ·simp only [go_sem,Q5,Qe,Qh,Qi,Qj,Qk,reduceCtorEq,reduceIte,h2]
  ·by_cases h6:k=3
   ·subst h6
    by_cases h4:g=9
    ·subst h4;simp only [go_sem,Q3,Q4,Q5,Qe,Qh,Qi,Qj,Qk,reduceCtorEq,reduceIte]
    ·simp only [go_sem,Q5,Qe,Qh,Qi,Qj,Qk,reduceCtorEq,reduceIte,h4]
   ·simp only [go_sem,Qe,Qh,Qi,Qj,Qk,reduceCtorEq,reduceIte,h1,h5,h6]
theorem f42 (e:Ev):call T 42 [.agg e.sv] [] 0=some ⟨.int .i64 (phR e),[],[]⟩:=by
 obtain⟨g,k,d,b⟩:=e;rw [call_code T_42];unfold phR Ev.sv
 by_cases h0:k=5
 ·subst h0;simp only [go_sem,Q5,Q7,Qe,Qh,Qi,Qj,Qk,reduceCtorEq,reduceIte]
 by_cases h1:k=1
 ·subst h1
  by_cases h2:g=0
  ·subst h2;simp only [go_sem,Q3,Q5,Q7,Qe,Qh,Qi,Qj,Qk,reduceCtorEq,reduceIte]
  ·by_cases h3:g=4
   ·subst h3;simp only [go_sem,Q3,Q5,Q7,Qe,Qh,Qi,Qj,Qk,reduceCtorEq,reduceIte]
   ·by_cases h4:g=8
    ·subst h4;simp only [go_sem,Q3,Q5,Q7,Qe,Qh,Qi,Qj,Qk,reduceCtorEq,reduceIte]
    ·simp only [go_sem,Q5,Q7,Qe,Qh,Qi,Qj,Qk,reduceCtorEq,reduceIte,h2,h3,h4]
 ·by_cases h5:k=2
  ·subst h5
   by_cases h3:g≤7
   ·simp only [go_sem,Q5,Q7,Qe,Qh,Qi,Qj,Qk,reduceCtorEq,reduceIte,h3]
   ·simp only [go_sem,Q5,Q7,Qe,Qh,Qi,Qj,Qk,reduceCtorEq,reduceIte,h3]
  ·by_cases h6:k=3
   ·subst h6
    by_cases h4:g=9
    ·subst h4;simp only [go_sem,Q3,Q5,Q7,Qe,Qh,Qi,Qj,Qk,reduceCtorEq,reduceIte]
    ·simp only [go_sem,Q5,Q7,Qe,Qh,Qi,Qj,Qk,reduceCtorEq,reduceIte,h4]
   ·simp only [go_sem,Q7,Qe,Qh,Qi,Qj,Qk,reduceCtorEq,reduceIte,h0,h1,h5,h6]
structure Wk where
 ph:Int
 nx:Int
 s0:Bool
 s1:Bool
 s2:Bool
 s3:Bool
 s4:Bool
 s5:Bool
def Wk.sv (w:Wk):List SV:=[.int .i64 w.ph,.int .i64 w.nx,.bool w.s0,.bool w.s1,.bool w.s2,.bool w.s3,.bool w.s4,.bool w.s5]
def w0:Wk:=⟨0,0,false,false,false,false,false,false⟩
def okW (w:Wk) (e:Ev):Bool:=
 if e.kind=5 then true else if phP e=0 then false else if phP e<w.ph then false else if 1<phP e∧w.s1=false then false
 else if phP e=3∧e.reg≠w.nx then false else if 3<phP e∧w.nx≠8 then false else true
def stW (w:Wk) (e:Ev):Wk:=
 if okW w e=false∨e.kind=5 then w else
 {ph:=phP e,nx:=if phP e=3 then IntKind.i64.wrap (w.nx+1)else w.nx,s0:=w.s0,s1:=w.s1||decide (phP e=1),s2:=w.s2||decide (phP e=2),s3:=w.s3||decide (phP e=3),s4:=w.s4||decide (phP e=4),s5:=w.s5||decide (phP e=5)}
theorem phP_le (e:Ev):phP e=0∨phP e=1∨phP e=2∨phP e=3∨phP e=4∨phP e=5:=by
 unfold phP;repeat' split
 all_goals simp
set_option maxHeartbeats 4000000 in
theorem f39 (w:Wk) (e:Ev):call T 39 [.ptr 0 0,.agg e.sv] [.rc w.sv] 0=some ⟨.bool (okW w e),[(0,.rc (stW w e).sv)],[]⟩:=by
 have g:=f88 e;have hp:=phP_le e;have e5:phP e=5→e.kind≠5:=by unfold phP;repeat' split<;>simp_all
 obtain⟨ph,nx,s0,s1,s2,s3,s4,s5⟩:=w;rw [call_code T_39];unfold stW okW;generalize phP e=p at*;obtain⟨r,k,d,b⟩:=e;simp only [Ev.sv,Wk.sv]at*
 by_cases hk:k=5
 ·subst hk;simp only [go_sem,Qe,Qh,Qi,Qj,Qk,reduceCtorEq,reduceIte]
 ·rcases hp with rfl|rfl|rfl|rfl|rfl|rfl
  ·simp only [go_sem,Q4,Q5,Qe,Qh,Qi,Qj,Qk,reduceCtorEq,reduceIte,hk,g,S_88]
  ·by_cases h1:(1:Int)<ph
   ·simp only [go_sem,Q4,Q5,Qe,Qh,Qi,Qj,Qk,reduceCtorEq,reduceIte,hk,g,S_88,h1]
   ·cases s1<;>simp only [go_sem,Q2,Q3,Q4,Q5,Qb,Qc,Qd,Qe,Qg,Qh,Qi,Qj,Qk,reduceCtorEq,reduceIte,hk,g,S_88,h1]
  ·by_cases h1:(2:Int)<ph
   ·simp only [go_sem,Q4,Q5,Qe,Qh,Qi,Qj,Qk,reduceCtorEq,reduceIte,hk,g,S_88,h1]
   ·cases s1<;>simp only [go_sem,Q2,Q3,Q4,Q5,Qb,Qc,Qd,Qe,Qg,Qh,Qi,Qj,Qk,reduceCtorEq,reduceIte,hk,g,S_88,h1]
  ·by_cases h1:(3:Int)<ph
   ·simp only [go_sem,Q4,Q5,Qe,Qh,Qi,Qj,Qk,reduceCtorEq,reduceIte,hk,g,S_88,h1]
   ·cases s1
    ·simp only [go_sem,Q2,Q3,Q4,Q5,Qe,Qg,Qh,Qi,Qj,Qk,reduceCtorEq,reduceIte,hk,g,S_88,h1]
    ·by_cases h2:r=nx
     ·subst h2;simp only [go_sem,Q2,Q3,Q4,Q5,Qb,Qc,Qd,Qe,Qg,Qh,Qi,Qj,Qk,reduceCtorEq,reduceIte,hk,g,S_88,h1]
     ·simp only [go_sem,Q2,Q3,Q4,Q5,Qe,Qg,Qh,Qi,Qj,Qk,reduceCtorEq,reduceIte,hk,g,S_88,h1,h2]
  ·by_cases h1:(4:Int)<ph
   ·simp only [go_sem,Q4,Q5,Qe,Qh,Qi,Qj,Qk,reduceCtorEq,reduceIte,hk,g,S_88,h1]
   ·cases s1
    ·simp only [go_sem,Q2,Q3,Q4,Q5,Qe,Qg,Qh,Qi,Qj,Qk,reduceCtorEq,reduceIte,hk,g,S_88,h1]
    ·by_cases h2:nx=8
     ·subst h2;simp only [go_sem,Q2,Q3,Q4,Q5,Q8,Qb,Qc,Qd,Qe,Qg,Qh,Qi,Qj,Qk,reduceCtorEq,reduceIte,hk,g,S_88,h1]
     ·simp only [go_sem,Q2,Q3,Q4,Q5,Qe,Qg,Qh,Qi,Qj,Qk,reduceCtorEq,reduceIte,hk,g,S_88,h1,h2]
  ·by_cases h1:(5:Int)<ph
   ·simp only [go_sem,Q4,Q5,Qe,Qh,Qi,Qj,Qk,reduceCtorEq,reduceIte,hk,g,S_88,h1]
   ·cases s1
    ·simp only [go_sem,Q2,Q3,Q4,Q5,Qe,Qg,Qh,Qi,Qj,Qk,reduceCtorEq,reduceIte,hk,g,S_88,h1]
    ·by_cases h2:nx=8
     ·subst h2;simp only [go_sem,Q2,Q3,Q4,Q5,Q8,Qb,Qc,Qd,Qe,Qg,Qh,Qi,Qj,Qk,reduceCtorEq,reduceIte,hk,g,S_88,h1]
     ·simp only [go_sem,Q2,Q3,Q4,Q5,Qe,Qg,Qh,Qi,Qj,Qk,reduceCtorEq,reduceIte,hk,g,S_88,h1,h2]
def ev0:Ev:=⟨0,0,[],[]⟩
theorem evs_drop (l:List Ev) (i:Nat) (h:i<l.length):l.drop i=l.getD i ev0::l.drop (i+1):=by rw [List.drop_eq_getElem_cons h,List.getD_eq_getElem?_getD,List.getElem?_eq_getElem h];rfl
def runW:List Ev→Wk→Nat→Wk×Nat×Bool
 |[],w,i=>(w,i,true)
 |e::r,w,i=>if okW w e=true then runW r (stW w e) (i+1)else(w,i,false)
theorem stW_no {w:Wk} {e:Ev} (h:okW w e=false):stW w e=w:=by unfold stW;rw [if_pos (.inl h)]
theorem evsv_get0 (l:List Ev) (i:Nat) (h:i<l.length):(evsv l).getD i []=(l.getD i ev0).sv:=evsv_get l i h
theorem l27 (a z:Int) (evs:List Ev) (hl:evs.length≤1000000000000):∀(n i:Nat) (w:Wk),evs.length-i=n→i≤evs.length→
 ((runW (evs.drop i) w i).2.2=true→run T (.loop r27_8) ⟨[(1,.ptr 101 0),(5,.ptr 105 0),(9,.lst 4 (evsv evs) .no),(10,.int .i64 evs.length),(11,.int .i64 i)],[(101,.rc [.int .i64 a,.int .i64 z,.lst 4 (evsv evs) .no]),(105,.rc w.sv)],[]⟩=
   some (.x 0,⟨[(1,.ptr 101 0),(5,.ptr 105 0)],[(101,.rc [.int .i64 a,.int .i64 z,.lst 4 (evsv evs) .no]),(105,.rc (runW (evs.drop i) w i).1.sv)],[]⟩))∧
 ((runW (evs.drop i) w i).2.2=false→∃ob,run T (.loop r27_8) ⟨[(1,.ptr 101 0),(5,.ptr 105 0),(9,.lst 4 (evsv evs) .no),(10,.int .i64 evs.length),(11,.int .i64 i)],[(101,.rc [.int .i64 a,.int .i64 z,.lst 4 (evsv evs) .no]),(105,.rc w.sv)],[]⟩=
   some (.r,⟨[(2,.int .i64 (runW (evs.drop i) w i).1.ph),(3,.int .i64 (runW (evs.drop i) w i).2.1),(4,.int .i64 41)],ob,[]⟩)):=by
 intro n;induction n with
 |zero=>
  intro i w h0 h1;have hi:i=evs.length:=by omega
  subst hi;rw [List.drop_length];refine⟨fun _=> ?_,fun h=>by simp [runW]at h⟩;rw [run_loop];simp only [go_sem,Qh,Qj,Qk,reduceIte,runW]
 | succ n ih=>
  intro i w h0 h1;have hi:i<evs.length:=by omega
  have e1:=wsucc i (by omega);have g:=f39 w (evs.getD i ev0);have hg:=evsv_get0 evs i hi;have hv:=evsv_len evs;rw [evs_drop evs i hi];generalize evs.getD i ev0=e at*;cases ho:okW w e with
  | true=>
   obtain⟨i1,i2⟩:=ih (i+1) (stW w e) (by omega) (by omega);have hr:runW (e::evs.drop (i+1)) w i=runW (evs.drop (i+1)) (stW w e) (i+1):=by show(if _ then _ else _)=_;rw [if_pos ho]
   rw [ho]at g;rw [hr];simp only [Ev.sv,Wk.sv]at hg g;refine⟨fun h=> ?_,fun h=> ?_⟩
   ·have i1':=i1 h
    simp only [Wk.sv]at i1';rw [run_loop];simp only [go_sem,Qe,Qg,Qh,Qi,Qj,Qk,reduceIte,hi,e1,hg,hv,S_39,g,Wk.sv,i1']
   ·obtain⟨ob,i2'⟩:=i2 h
    simp only [Wk.sv]at i2';refine⟨ob, ?_⟩;rw [run_loop];simp only [go_sem,Qe,Qg,Qh,Qi,Qj,Qk,reduceIte,hi,e1,hg,hv,S_39,g,Wk.sv,i2']
  |false=>
   have hr:runW (e::evs.drop (i+1)) w i=(w,i,false):=by show(if _ then _ else _)=_;rw [if_neg (by rw [ho];simp)]
   rw [ho,stW_no ho]at g;rw [hr];simp only [Ev.sv,Wk.sv]at hg g;refine⟨fun h=>by simp at h,fun _=>⟨[(101,.rc [.int .i64 a,.int .i64 z,.lst 4 (evsv evs) .no]),(105,.rc w.sv),(107,.rc e.sv)], ?_⟩⟩;rw [run_loop];simp only [go_sem,Qe,Qg,Qh,Qi,Qj,Qk,reduceIte,hi,hg,hv,S_39,g,Wk.sv,Ev.sv]
theorem w0_sv:w0.sv=[.int .i64 0,.int .i64 0,.bool false,.bool false,.bool false,.bool false,.bool false,.bool false]:=rfl
theorem runW_at:∀(l:List Ev) (w:Wk) (i:Nat),(runW l w i).2.2=true→(runW l w i).2.1=i+l.length
 |[],w,i,_=>rfl
 | e::r,w,i,h=>by
  unfold runW at h ⊢
  by_cases ho:okW w e=true
  ·rw [if_pos ho]at h ⊢
   rw [runW_at r _ _ h,List.length_cons];omega
  ·rw [if_neg ho]at h;cases h
theorem f27 (a z:Int) (evs:List Ev) (hl:evs.length≤1000000000000):call T 27 [.agg [.int .i64 a,.int .i64 z,.lst 4 (evsv evs) .no]] [] 0=
 some ⟨.tup [.int .i64 (runW evs w0 0).1.ph,.int .i64 (runW evs w0 0).2.1,.int .i64 (if(runW evs w0 0).2.2=true then 0 else 41)],[],[]⟩:=by
 obtain⟨h1,h2⟩:=l27 a z evs hl _ 0 w0 rfl (by omega);simp only [List.drop_zero,Int.natCast_zero,w0_sv]at h1 h2;rw [call_code T_27];have hv:=evsv_len evs;cases hr:(runW evs w0 0).2.2 with
 |true=>have h1':=h1 hr;have hat:=runW_at evs w0 0 hr;simp only [Wk.sv]at h1';simp only [go_sem,Qe,Qh,Qi,Qj,Qk,reduceCtorEq,reduceIte,hv,h1',hat]
 |false=>obtain⟨ob,h2'⟩:=h2 hr;simp only [go_sem,Qe,Qh,Qi,Qj,Qk,reduceCtorEq,reduceIte,hv,h2']
def okP (ph nx:Int) (e:Ev):Bool:=
 decide (ph≤phR e)&&(decide (0<ph)||decide (phR e=1))&&(!decide (phR e=3)||decide (e.reg=nx))&&(!decide (3<phR e)||decide (nx=8))
def nxP (nx:Int) (e:Ev):Int:=if phR e=3 then IntKind.i64.wrap (nx+1)else nx
def runP:List Ev→Int→Int→Nat→Int×Nat×Bool
 |[],ph,nx,i=>(ph,i,true)
 |e::r,ph,nx,i=>if phR e=0 then runP r ph nx (i+1)else if okP ph nx e=true then runP r (phR e) (nxP nx e) (i+1)else(ph,i,false)
theorem phR_le (e:Ev):phR e=0∨phR e=1∨phR e=2∨phR e=3∨phR e=4∨phR e=5∨phR e= -1:=by
 unfold phR;repeat' split
 all_goals simp
def st28 (a z:Int) (evs:List Ev) (ph nx:Int) (i:Nat):CSt:=⟨[(1,.ptr 101 0),(5,.int .i64 ph),(6,.int .i64 nx),(7,.int .i64 i)],[(101,.rc [.int .i64 a,.int .i64 z,.lst 4 (evsv evs) .no])],[]⟩
def rt28 (a z:Int) (evs:List Ev) (ph:Int) (i:Nat):CSt:=⟨[(2,.int .i64 ph),(3,.int .i64 i),(4,.int .i64 41)],[(101,.rc [.int .i64 a,.int .i64 z,.lst 4 (evsv evs) .no])],[]⟩
set_option maxHeartbeats 8000000 in
theorem s28 (a z:Int) (evs:List Ev) (hl:evs.length≤1000000000000) (i:Nat) (ph nx:Int) (hi:i<evs.length) (hz:phR (evs.getD i ev0)≠0):
 run T (.loop r28_17) (st28 a z evs ph nx i)=if okP ph nx (evs.getD i ev0)=true then run T (.loop r28_17) (st28 a z evs (phR (evs.getD i ev0)) (nxP nx (evs.getD i ev0)) (i+1))else some (.r,rt28 a z evs ph i):=by
 have e1:=wsucc i (by omega);have g:=f42 (evs.getD i ev0);have hp:=phR_le (evs.getD i ev0);have hg:=evsv_get0 evs i hi;have hv:=evsv_len evs;unfold okP nxP;generalize evs.getD i ev0=e at*;obtain⟨r,k,d,b⟩:=e;simp only [Ev.sv]at hg g ⊢;generalize phR _=p at*;unfold st28 rt28;rw [run_loop];rcases hp with rfl|rfl|rfl|rfl|rfl|rfl|rfl
 ·exact absurd rfl hz
 ·by_cases k1:ph≤1
  ·by_cases k2:0<ph<;>simp only [go_sem,Q4,Q5,Qe,Qh,Qi,Qj,Qk,reduceIte,hi,e1,hg,hv,S_42,g,k1,k2]
  ·simp only [go_sem,Q4,Q5,Qe,Qh,Qi,Qj,Qk,reduceIte,hi,hg,hv,S_42,g,k1]
 ·by_cases k1:ph≤2
  ·by_cases k2:0<ph<;>simp only [go_sem,Q4,Q5,Qe,Qh,Qi,Qj,Qk,reduceIte,hi,e1,hg,hv,S_42,g,k1,k2]
  ·simp only [go_sem,Q4,Q5,Qe,Qh,Qi,Qj,Qk,reduceIte,hi,hg,hv,S_42,g,k1]
 ·by_cases k1:ph≤3
  ·by_cases k2:0<ph
   ·by_cases k3:r=nx
    ·subst k3;simp only [go_sem,Q4,Q5,Qe,Qh,Qi,Qj,Qk,reduceIte,hi,e1,hg,hv,S_42,g,k1,k2]
    ·simp only [go_sem,Q4,Q5,Qe,Qh,Qi,Qj,Qk,reduceIte,hi,hg,hv,S_42,g,k1,k2,k3]
   ·simp only [go_sem,Q4,Q5,Qe,Qh,Qi,Qj,Qk,reduceIte,hi,hg,hv,S_42,g,k1,k2]
  ·simp only [go_sem,Q4,Q5,Qe,Qh,Qi,Qj,Qk,reduceIte,hi,hg,hv,S_42,g,k1]
 ·by_cases k1:ph≤4
  ·by_cases k2:0<ph
   ·by_cases k3:nx=8
    ·subst k3;simp only [go_sem,Q4,Q5,Q8,Qe,Qh,Qi,Qj,Qk,reduceIte,hi,e1,hg,hv,S_42,g,k1,k2]
    ·simp only [go_sem,Q4,Q5,Qe,Qh,Qi,Qj,Qk,reduceIte,hi,hg,hv,S_42,g,k1,k2,k3]
   ·simp only [go_sem,Q4,Q5,Qe,Qh,Qi,Qj,Qk,reduceIte,hi,hg,hv,S_42,g,k1,k2]
  ·simp only [go_sem,Q4,Q5,Qe,Qh,Qi,Qj,Qk,reduceIte,hi,hg,hv,S_42,g,k1]
 ·by_cases k1:ph≤5
  ·by_cases k2:0<ph
   ·by_cases k3:nx=8
    ·subst k3;simp only [go_sem,Q4,Q5,Q8,Qe,Qh,Qi,Qj,Qk,reduceIte,hi,e1,hg,hv,S_42,g,k1,k2]
    ·simp only [go_sem,Q4,Q5,Qe,Qh,Qi,Qj,Qk,reduceIte,hi,hg,hv,S_42,g,k1,k2,k3]
   ·simp only [go_sem,Q4,Q5,Qe,Qh,Qi,Qj,Qk,reduceIte,hi,hg,hv,S_42,g,k1,k2]
  ·simp only [go_sem,Q4,Q5,Qe,Qh,Qi,Qj,Qk,reduceIte,hi,hg,hv,S_42,g,k1]
 ·by_cases k1:ph≤ -1
  ·by_cases k2:0<ph
   ·exact absurd k2 (by omega)
   ·simp only [go_sem,Q4,Q7,Qe,Qh,Qi,Qj,Qk,reduceCtorEq,reduceIte,hi,hg,hv,S_42,g,k1,k2]
  ·simp only [go_sem,Q4,Q7,Qe,Qh,Qi,Qj,Qk,reduceCtorEq,reduceIte,hi,hg,hv,S_42,g,k1]
theorem z28 (a z:Int) (evs:List Ev) (hl:evs.length≤1000000000000) (i:Nat) (ph nx:Int) (hi:i<evs.length) (hz:phR (evs.getD i ev0)=0):
 run T (.loop r28_17) (st28 a z evs ph nx i)=run T (.loop r28_17) (st28 a z evs ph nx (i+1)):=by
 have e1:=wsucc i (by omega);have g:=f42 (evs.getD i ev0);have hg:=evsv_get0 evs i hi;have hv:=evsv_len evs;generalize evs.getD i ev0=e at*;obtain⟨r,k,d,b⟩:=e;rw [hz]at g;simp only [Ev.sv]at hg g ⊢;unfold st28;rw [run_loop];simp only [go_sem,Qe,Qh,Qj,Qk,reduceIte,hi,e1,hg,hv,S_42,g]
theorem l28 (a z:Int) (evs:List Ev) (hl:evs.length≤1000000000000):∀(n i:Nat) (ph nx:Int),evs.length-i=n→i≤evs.length→
 run T (.loop r28_17) (st28 a z evs ph nx i)=if(runP (evs.drop i) ph nx i).2.2=true then
  some (.x 0,⟨[(1,.ptr 101 0),(5,.int .i64 (runP (evs.drop i) ph nx i).1)],[(101,.rc [.int .i64 a,.int .i64 z,.lst 4 (evsv evs) .no])],[]⟩)
  else some (.r,rt28 a z evs (runP (evs.drop i) ph nx i).1 (runP (evs.drop i) ph nx i).2.1):=by
 intro n;induction n with
 |zero=>
  intro i ph nx h0 h1;have hi:i=evs.length:=by omega
  subst hi;have hv:=evsv_len evs;rw [List.drop_length,run_loop];unfold st28;simp only [go_sem,Qe,Qh,Qj,Qk,reduceIte,runP,hv]
 | succ n ih=>
  intro i ph nx h0 h1;have hi:i<evs.length:=by omega
  rw [evs_drop evs i hi];unfold runP
  by_cases hz:phR (evs.getD i ev0)=0
  ·rw [if_pos hz,z28 a z evs hl i ph nx hi hz]
   exact ih (i+1) ph nx (by omega) (by omega)
  ·rw [if_neg hz,s28 a z evs hl i ph nx hi hz]
   by_cases ho:okP ph nx (evs.getD i ev0)=true
   ·rw [if_pos ho,if_pos ho]
    exact ih (i+1) _ _ (by omega) (by omega)
   ·rw [if_neg ho,if_neg ho];rfl
theorem f28 (a z:Int) (evs:List Ev) (hl:evs.length≤1000000000000):call T 28 [.agg [.int .i64 a,.int .i64 z,.lst 4 (evsv evs) .no]] [] 0=
 some ⟨.tup [.int .i64 (runP evs 0 0 0).1,.int .i64 (runP evs 0 0 0).2.1,.int .i64 (if(runP evs 0 0 0).2.2=true then 0 else 41)],[],[]⟩:=by
 have h:=l28 a z evs hl _ 0 0 0 rfl (by omega);simp only [List.drop_zero,Int.natCast_zero,st28,rt28]at h;rw [call_code T_28];have hv:=evsv_len evs
 have hat:(runP evs 0 0 0).2.2=true→(runP evs 0 0 0).2.1=evs.length:=by
  have key:∀(l:List Ev) (ph nx:Int) (i:Nat),(runP l ph nx i).2.2=true→(runP l ph nx i).2.1=i+l.length:=by
   intro l;induction l with
   |nil=>intro ph nx i _;rfl
   | cons e r ih=>
    intro ph nx i h;unfold runP at h ⊢
    by_cases hz:phR e=0
    ·rw [if_pos hz]at h ⊢;rw [ih _ _ _ h,List.length_cons];omega
    ·rw [if_neg hz]at h ⊢
     by_cases ho:okP ph nx e=true
     ·rw [if_pos ho]at h ⊢;rw [ih _ _ _ h,List.length_cons];omega
     ·rw [if_neg ho]at h;cases h
  intro h;rw [key _ _ _ _ h];omega
 cases hr:(runP evs 0 0 0).2.2 with
 |true=>rw [if_pos hr]at h;have hat':=hat hr;simp only [go_sem,Qe,Qh,Qi,Qj,Qk,reduceCtorEq,reduceIte,hv,h,hat']
 |false=>rw [if_neg (by rw [hr];simp)]at h;simp only [go_sem,Qe,Qh,Qi,Qj,Qk,reduceCtorEq,reduceIte,h]
theorem run_same:∀(l:List Ev) (w:Wk) (i:Nat),0≤w.ph→0≤w.nx→w.nx≤1000000000000→w.s1=decide (0<w.ph)→l.length+w.nx.toNat≤1000000000000→
 (runW l w i).1.ph=(runP l w.ph w.nx i).1∧(runW l w i).2=(runP l w.ph w.nx i).2
 |[],w,i,_,_,_,_,_=>⟨rfl,rfl⟩
 | e ::r,w,i,h1,h2,h3,h4,h5=>by
  unfold runW runP;rw [List.length_cons]at h5
  by_cases hk:e.kind=5
  ·have e0:phR e=0:=by unfold phR;rw [if_pos hk]
   have eo:okW w e=true:=by unfold okW;rw [if_pos hk]
   have es:stW w e=w:=by unfold stW;rw [if_pos (.inr hk)]
   rw [if_pos e0,if_pos eo,es];exact run_same r w (i+1) h1 h2 h3 h4 (by omega)
  ·have hR:phR e=0→False:=by
    unfold phR;rw [if_neg hk];repeat' split
    all_goals simp
   have hPR:(phP e=0∧(phR e= -1∨(phR e=3∧e.reg<0)))∨(phP e≠0∧phR e=phP e):=by
    unfold phP phR;rw [if_neg hk];repeat' split
    all_goals simp_all
    all_goals omega
   have hle:=phP_le e;rw [if_neg hR]
   have hw:okW w e=okP w.ph w.nx e:=by
    unfold okW okP;rw [if_neg hk,h4,Bool.eq_iff_iff];simp only [Bool.and_eq_true,Bool.or_eq_true,decide_eq_true_eq,Bool.not_eq_true',decide_eq_false_iff_not]
    repeat' split
    all_goals simp only [true_iff,false_iff,Bool.false_eq_true]
    all_goals omega
   by_cases ho:okP w.ph w.nx e=true
   ·have hs:stW w e= {ph:=phP e,nx:=if phP e=3 then IntKind.i64.wrap (w.nx+1)else w.nx,s0:=w.s0,s1:=w.s1||decide (phP e=1),s2:=w.s2||decide (phP e=2),s3:=w.s3||decide (phP e=3),s4:=w.s4||decide (phP e=4),s5:=w.s5||decide (phP e=5)}:=by
     unfold stW;rw [if_neg (by rw [hw,ho];simp [hk])]
    have hx:=w64 (n:=w.nx+1) (by omega) (by omega);rw [if_pos ho,if_pos (hw.trans ho)];unfold okP at ho;simp only [Bool.and_eq_true,Bool.or_eq_true,decide_eq_true_eq,Bool.not_eq_true',decide_eq_false_iff_not]at ho
    have hRP:phR e=phP e:=by
     rcases hPR with⟨h6,h7⟩|⟨_,h7⟩
     ·omega
     ·exact h7
    have ih:=run_same r (stW w e) (i+1) (by rw [hs];dsimp only;omega) (by rw [hs];dsimp only;split<;>omega)
     (by rw [hs];dsimp only;split<;>omega)
     (by rw [hs];show(w.s1||decide (phP e=1))=decide (0<phP e);rw [h4,decide_eq_true (show 0<phP e by omega),Bool.or_eq_true,decide_eq_true_eq,decide_eq_true_eq];omega)
     (by rw [hs];dsimp only;split<;>omega)
    have e1:(stW w e).ph=phR e:=by rw [hs,hRP]
    have e2:(stW w e).nx=nxP w.nx e:=by rw [hs];unfold nxP;rw [hRP]
    rw [e1,e2]at ih;exact ih
   ·rw [if_neg ho,if_neg (by rw [hw];exact ho)]
    exact⟨rfl,rfl⟩
structure Img where
 role:Int
 name:List UInt8
 ver:Int
 pay:List UInt8
def Img.sv (x:Img):List SV:=[.int .i64 x.role,.str x.name,.int .i64 x.ver,.byt x.pay .no]
theorem l95 (s:List UInt8) (hs:s.length≤1000000000000):∀(n i:Nat),s.length-i=n→i≤s.length→
 run T (.loop r95_9) ⟨[(0,.str s),(3,.int .i64 i)],[],[]⟩=if(s.drop i).all Pr.okc=true then some (.x 0,⟨[],[],[]⟩)else some (.r,⟨[(2,.bool false)],[],[]⟩):=by
 intro n;induction n with
 |zero=>
  intro i h0 h1;have hi:i=s.length:=by omega
  subst hi;rw [run_loop,List.drop_length];simp only [go_sem,Qh,Qj,Qk,reduceCtorEq,reduceIte]
 | succ n ih=>
  intro i h0 h1;have hi:i<s.length:=by omega
  have e1:=wsucc i (by omega);have ih':=ih (i+1) (by omega) (by omega);rw [run_loop,drop_cons0 s i hi,List.all_cons];unfold Pr.okc at ih' ⊢;generalize hc:s.getD i 0=c at*;generalize List.all (List.drop (i+1) s) _=q at*
  by_cases a1:c<97
  ·by_cases a3:c<48
   ·by_cases a5:c=45
    ·subst a5;simp only [go_sem,Q0,Qh,Qj,Qk,reduceCtorEq,reduceIte,hi,hc,e1,ih']
    ·simp only [go_sem,Qh,Qj,Qk,reduceCtorEq,reduceIte,hi,hc,a1,a3,a5]
   ·by_cases a4:57<c
    ·by_cases a5:c=45
     ·subst a5;simp only [go_sem,Q0,Qh,Qj,Qk,reduceCtorEq,reduceIte,hi,hc,e1,ih']
     ·simp only [go_sem,Qh,Qj,Qk,reduceCtorEq,reduceIte,hi,hc,a1,a3,a4,a5]
    ·simp only [go_sem,Qh,Qj,Qk,reduceCtorEq,reduceIte,hi,hc,e1,a1,a3,a4,ih']
  ·by_cases a2:122<c
   ·by_cases a3:c<48
    ·exact absurd a3 (by intro h;have:=UInt8.lt_trans a2 h;revert this;decide)
    ·by_cases a4:57<c
     ·by_cases a5:c=45
      ·subst a5;simp only [go_sem,Q0,Qh,Qj,Qk,reduceCtorEq,reduceIte,hi,hc,e1,ih']
      ·simp only [go_sem,Qh,Qj,Qk,reduceCtorEq,reduceIte,hi,hc,a1,a2,a3,a4,a5]
     ·simp only [go_sem,Qh,Qj,Qk,reduceCtorEq,reduceIte,hi,hc,e1,a1,a2,a3,a4,ih']
   ·simp only [go_sem,Qh,Qj,Qk,reduceCtorEq,reduceIte,hi,hc,e1,a1,a2,ih']
theorem f95 (s:List UInt8) (hs:s.length≤1000000000000):call T 95 [.str s] [] 0=some ⟨.bool (Pr.nameB s),[],[]⟩:=by
 have h:=l95 s hs _ 0 rfl (by omega);simp only [Int.natCast_zero,List.drop_zero]at h;rw [call_code T_95];unfold Pr.nameB
 by_cases h1:s.length<1
 ·have h1':(s.length:Int)<1:=by omega
  simp only [go_sem,Qh,Qi,Qj,Qk,reduceCtorEq,reduceIte,h1,h1']
 ·have h1':¬(s.length:Int)<1:=by omega
  by_cases h2:12<s.length
  ·have h2':(12:Int)<s.length:=by omega
   simp only [go_sem,Qh,Qi,Qj,Qk,reduceCtorEq,reduceIte,h1,h1',h2,h2']
  ·have h2':¬(12:Int)<s.length:=by omega
   cases hq:s.all Pr.okc with
   |true=>rw [if_pos hq]at h;simp only [go_sem,Qh,Qi,Qj,Qk,reduceCtorEq,reduceIte,h1,h1',h2,h2',h]
   |false=>rw [if_neg (by rw [hq];simp)]at h;simp only [go_sem,Qh,Qi,Qj,Qk,reduceCtorEq,reduceIte,h1,h1',h2,h2',h]
def lnF:List UInt8→List (List UInt8)→List UInt8→Option (List (List UInt8)×List UInt8)
 |[],o,l=>some (o,l)
 |c::r,o,l=>if c=10 then(if(l.length:Int)=0 then none else if(4:Int)≤o.length then none else lnF r (o++ [l]) [])else if c<32 then none else if 126<c then none else lnF r o (l++ [c])
def linesV (p:List UInt8):List (List UInt8):=match lnF p [] []with
 |some (o,l)=>if(0:Int)<l.length then []else o
 |none=> []
theorem bls_len (l:List (List UInt8)):(bls l).length=l.length:=List.length_map ..
theorem bls_app (l:List (List UInt8)) (d:List UInt8):bls (l++ [d])=bls l++ [[.byt d .no]]:=by simp [bls]
theorem l79 (ro:Int) (na:List UInt8) (ve:Int) (p:List UInt8) (hp:p.length≤1000000000000):∀(n i:Nat) (o:List (List UInt8)) (l:List UInt8),p.length-i=n→i≤p.length→l.length≤i→o.length≤4→
 run T (.loop r79_15) ⟨[(1,.ptr 101 0),(3,.lst 1 (bls o) (.id 103)),(4,.byt l (.id 104)),(5,.int .i64 i)],[(101,.rc [.int .i64 ro,.str na,.int .i64 ve,.byt p .no])],[103,104]⟩=
 match lnF (p.drop i) o l with
 |some (o',l')=>some (.x 0,⟨[(3,.lst 1 (bls o') (.id 103)),(4,.byt l' (.id 104))],[(101,.rc [.int .i64 ro,.str na,.int .i64 ve,.byt p .no])],[103,104]⟩)
 |none=>some (.r,⟨[(2,.lst 1 [] .clip)],[(101,.rc [.int .i64 ro,.str na,.int .i64 ve,.byt p .no])],[103,104]⟩):=by
 intro n;induction n with
 |zero=>
  intro i o l h0 h1 h2 h3;have hi:i=p.length:=by omega
  subst hi;rw [run_loop,List.drop_length];simp only [go_sem,Qe,Qh,Qj,Qk,reduceIte,lnF]
 | succ n ih=>
  intro i o l h0 h1 h2 h3;have hi:i<p.length:=by omega
  have e1:=wsucc i (by omega);have hb:=bls_len o;rw [run_loop,drop_cons0 p i hi];unfold lnF;generalize hc:p.getD i 0=c at*;have c1:l.length+1≤140737488355328:=by omega
  have c2:(o.length+1)*24≤140737488355328:=by omega
  by_cases a1:c=10
  ·subst a1
   by_cases a2:(l.length:Int)=0
   ·simp only [go_sem,Q0,Qe,Qh,Qj,Qk,reduceIte,hi,hc,a2]
   ·by_cases a3:(4:Int)≤o.length
    ·simp only [go_sem,Q0,Qe,Qh,Qj,Qk,reduceIte,hi,hc,a2,a3,hb]
    ·have ih':=ih (i+1) (o++ [l]) [] (by omega) (by omega) (by simp) (by rw [List.length_append,List.length_singleton];omega)
     rw [bls_app]at ih';simp only [go_sem,Q0,Qe,Qh,Qi,Qj,Qk,reduceIte,hi,hc,e1,a2,a3,hb,c2,ih']
  ·have ih':=ih (i+1) o (l++ [c]) (by omega) (by omega) (by rw [List.length_append,List.length_singleton];omega) h3
   by_cases a2:c<32
   ·simp only [go_sem,Qe,Qh,Qi,Qj,Qk,reduceIte,hi,hc,a1,a2]
   ·by_cases a3:126<c
    ·simp only [go_sem,Qe,Qh,Qi,Qj,Qk,reduceIte,hi,hc,a1,a2,a3]
    ·simp only [go_sem,Qe,Qh,Qi,Qj,Qk,reduceIte,hi,hc,e1,a1,a2,a3,c1,ih']
theorem f79 (x:Img) (hp:x.pay.length≤1000000000000):call T 79 [.agg x.sv] [] 0=some ⟨.lst 1 (bls (linesV x.pay)) .no,[],[]⟩:=by
 obtain⟨ro,na,ve,p⟩:=x;have h:=l79 ro na ve p hp _ 0 [] [] rfl (by omega) (by simp) (by simp);simp only [Int.natCast_zero,List.drop_zero]at h;have hb:bls []=[]:=rfl;rw [hb]at h;rw [call_code T_79];unfold linesV Img.sv;cases hq:lnF p [] []with
 |none=>rw [hq]at h;simp only [go_sem,Qe,Qh,Qi,Qj,Qk,reduceCtorEq,reduceIte,h,hb]
 |some q=>
  obtain⟨o,l⟩:=q;rw [hq]at h
  by_cases h1:(0:Int)<l.length
  ·simp only [go_sem,Qe,Qh,Qi,Qj,Qk,reduceCtorEq,reduceIte,h,hb,h1]
  ·simp only [go_sem,Qe,Qh,Qi,Qj,Qk,reduceCtorEq,reduceIte,h,h1]
def imgE (x:Img):Int:=
 if x.role<1 then 1 else if 4<x.role then 1 else if x.ver<0 then 1 else if 1000000<x.ver then 1 else if Pr.nameB x.name=false then 43 else if(64:Int)<x.pay.length then 4 else if x.role=4 then(if((linesV x.pay).length:Int)=0 then 40 else 0)else 0
theorem f81 (x:Img) (hn:x.name.length≤1000000000000) (hp:x.pay.length≤1000000000000):call T 81 [.agg x.sv] [] 0=some ⟨.int .i64 (imgE x),[],[]⟩:=by
 have g1:=f95 x.name hn;have g2:=f79 x hp;obtain⟨ro,na,ve,p⟩:=x;have hb:=bls_len (linesV p);simp only [Img.sv]at g1 g2 ⊢;rw [call_code T_81];unfold imgE
 by_cases a1:ro<1
 ·simp only [go_sem,Qe,Qh,Qi,Qj,Qk,reduceCtorEq,reduceIte,a1]
 by_cases a2:4<ro
 ·simp only [go_sem,Qe,Qh,Qi,Qj,Qk,reduceCtorEq,reduceIte,a1,a2]
 by_cases a3:ve<0
 ·simp only [go_sem,Qe,Qh,Qi,Qj,Qk,reduceCtorEq,reduceIte,a1,a2,a3]
 by_cases a4:1000000<ve
 ·simp only [go_sem,Qe,Qh,Qi,Qj,Qk,reduceCtorEq,reduceIte,a1,a2,a3,a4]
 cases a5:Pr.nameB na with
 |false=>rw [a5]at g1;simp only [go_sem,Qe,Qh,Qi,Qj,Qk,reduceCtorEq,reduceIte,a1,a2,a3,a4,g1,S_95]
 | true=>
  rw [a5]at g1
  by_cases a6:(64:Int)<p.length
  ·simp only [go_sem,Qe,Qh,Qi,Qj,Qk,reduceCtorEq,reduceIte,a1,a2,a3,a4,g1,S_95,a6]
  by_cases a7:ro=4
  ·subst a7
   by_cases a8:((linesV p).length:Int)=0
   ·simp only [go_sem,Qe,Qh,Qi,Qj,Qk,reduceCtorEq,reduceIte,a1,a2,a3,a4,g1,S_95,a6,g2,S_79,hb,a8]
   ·simp only [go_sem,Qe,Qh,Qi,Qj,Qk,reduceCtorEq,reduceIte,a1,a2,a3,a4,g1,S_95,a6,g2,S_79,hb,a8]
  ·simp only [go_sem,Qe,Qh,Qi,Qj,Qk,reduceCtorEq,reduceIte,a1,a2,a3,a4,g1,S_95,a6,a7]
def cmpI (a b:Int):Int:=if a<b then-1 else if b<a then 1 else 0
theorem f153 (a:Int):call T 153 [.int .i64 a] [] 0=some ⟨.bool false,[],[]⟩:=by rw [call_code T_153];simp only [go_sem,Qh,Qi,Qj,Qk,reduceCtorEq,reduceIte]
theorem f122 (a b:Int):call T 122 [.int .i64 a,.int .i64 b] [] 0=some ⟨.int .i64 (cmpI a b),[],[]⟩:=by
 have g1:=f153 a;have g2:=f153 b;rw [call_code T_122];unfold cmpI
 by_cases h1:a<b
 ·simp only [go_sem,Q7,Qe,Qh,Qi,Qj,Qk,reduceCtorEq,reduceIte,g1,g2,S_153,h1]
 ·by_cases h2:b<a
  ·simp only [go_sem,Q7,Qe,Qh,Qi,Qj,Qk,reduceCtorEq,reduceIte,g1,g2,S_153,h1,h2]
  ·simp only [go_sem,Q7,Qe,Qh,Qi,Qj,Qk,reduceCtorEq,reduceIte,g1,g2,S_153,h1,h2]
theorem f61 (a b:List UInt8):call T 61 [.byt a .no,.byt b .no] [] 0=some ⟨.int .i64 (Lib.compareBytes a b),[],[]⟩:=by rw [call_prim T_61];rfl
theorem f154 (a b:List UInt8):call T 154 [.str a,.str b] [] 0=some ⟨.int .i64 (Lib.compareBytes a b),[],[]⟩:=by rw [call_prim T_154];rfl
theorem f111 (a:List UInt8):call T 111 [.str a] [] 0=some ⟨.bool (Pr.nameB a),[],[]⟩:=by rw [call_prim T_111];rfl
theorem f123 (a b:List UInt8):call T 123 [.str a,.str b] [] 0=some ⟨.int .i64 (Lib.compareBytes a b),[],[]⟩:=by have g:=f154 a b;rw [call_code T_123];simp only [go_sem,Qe,Qh,Qi,Qj,Qk,reduceCtorEq,reduceIte,g,S_154]
def orI (a b c d:Int):Int:=if a≠0 then a else if b≠0 then b else if c≠0 then c else d
theorem f121 (a b c d:Int):call T 121 [.lst 1 [[.int .i64 a],[.int .i64 b],[.int .i64 c],[.int .i64 d]] .no] [] 0=some ⟨.int .i64 (orI a b c d),[],[]⟩:=by
 have k1:IntKind.i64.wrap 1=1:=rfl;have k2:IntKind.i64.wrap 2=2:=rfl;have k3:IntKind.i64.wrap 3=3:=rfl;have k4:IntKind.i64.wrap 4=4:=rfl;rw [call_code T_121];unfold orI
 by_cases h1:a=0
 ·subst h1
  by_cases h2:b=0
  ·subst h2
   by_cases h3:c=0
   ·subst h3
    by_cases h4:d=0
    ·subst h4
     simp only [go_sem,Qe,Qh,Qi,Qj,Qk,reduceCtorEq,reduceIte]
     iterate 5
      rw [run_loop];simp only [go_sem,Q2,Q3,Q4,Q8,Qe,Qh,Qj,Qk,reduceIte,k1,k2,k3,k4]
    ·simp only [go_sem,Qe,Qh,Qi,Qj,Qk,reduceCtorEq,reduceIte]
     iterate 4
      rw [run_loop];simp only [go_sem,Q2,Q3,Q4,Q8,Qe,Qh,Qj,Qk,reduceIte,k1,k2,k3,h4]
   ·simp only [go_sem,Qe,Qh,Qi,Qj,Qk,reduceCtorEq,reduceIte]
    iterate 3
     rw [run_loop];simp only [go_sem,Q2,Q3,Q4,Q8,Qe,Qh,Qj,Qk,reduceIte,k1,k2,h3]
  ·simp only [go_sem,Qe,Qh,Qi,Qj,Qk,reduceCtorEq,reduceIte]
   iterate 2
    rw [run_loop];simp only [go_sem,Q2,Q3,Q4,Q8,Qe,Qh,Qj,Qk,reduceIte,k1,h2]
 ·simp only [go_sem,Qe,Qh,Qi,Qj,Qk,reduceCtorEq,reduceIte]
  rw [run_loop];simp only [go_sem,Q2,Q3,Q4,Qe,Qh,Qj,Qk,reduceIte,h1]
structure Ent where
 role:Int
 name:List UInt8
 ver:Int
 dig:List UInt8
def Ent.sv (x:Ent):List SV:=[.int .i64 x.role,.str x.name,.int .i64 x.ver,.byt x.dig .no]
def ordE (x y:Ent):Int:=orI (cmpI x.role y.role) (Lib.compareBytes x.name y.name) (cmpI x.ver y.ver) (Lib.compareBytes x.dig y.dig)
theorem f72 (x y:Ent):call T 72 [.agg x.sv,.agg y.sv] [] 0=some ⟨.int .i64 (ordE x y),[],[]⟩:=by have g1:=f122 x.role y.role;have g2:=f123 x.name y.name;have g3:=f122 x.ver y.ver;have g4:=f61 x.dig y.dig;have g5:=f121 (cmpI x.role y.role) (Lib.compareBytes x.name y.name) (cmpI x.ver y.ver) (Lib.compareBytes x.dig y.dig);obtain⟨r,n,v,d⟩:=x;obtain⟨r2,n2,v2,d2⟩:=y;simp only [Ent.sv]at*;rw [call_code T_72];unfold ordE;simp only [go_sem,Qb,Qc,Qd,Qe,Qh,Qi,Qj,Qk,reduceCtorEq,reduceIte,g1,S_122,g2,S_123,g3,g4,S_61,g5,S_121]
def lsF:List UInt8→List UInt8→Option Bool
 |a::x,b::y=>if a=b then lsF x y else some (decide (a<b))
 |_,_=>none
theorem lsF_less:∀x y:List UInt8,Op.bytesLess x y=match lsF x y with|some q=>q|none=>decide (x.length<y.length)
 |[],[]=>by simp [lsF,Op.bytesLess]
 |[],_::_=>by simp [lsF,Op.bytesLess]
 |_::_,[]=>by simp [lsF,Op.bytesLess]
 | a::x,b::y=>by
  unfold lsF Op.bytesLess
  by_cases h:a=b
  ·subst h
   rw [if_pos rfl,lsF_less x y];have:¬a<a:=UInt8.lt_irrefl a;simp [this]
  ·rw [if_neg h]
   simp [h]
theorem l63 (a b:List UInt8) (ha:a.length≤1000000000000):∀(n i:Nat),a.length-i=n→i≤a.length→i≤b.length→
 run T (.loop r63_6) ⟨[(0,.byt a .no),(1,.byt b .no),(5,.int .i64 i)],[],[]⟩=
 match lsF (a.drop i) (b.drop i)with
 |some q=>some (.r,⟨[(4,.bool q)],[],[]⟩)
 |none=>some (.x 0,⟨[(0,.byt a .no),(1,.byt b .no)],[],[]⟩):=by
 intro n;induction n with
 |zero=>
  intro i h0 h1 h2;have:i=a.length:=by omega
  subst this;have e:lsF [] (b.drop a.length)=none:=by unfold lsF;rfl
  rw [run_loop,List.drop_length,e];simp only [go_sem,Qh,Qj,Qk,reduceCtorEq,reduceIte]
 | succ n ih=>
  intro i h0 h1 h2;have hi:i<a.length:=by omega
  have e1:=wsucc i (by omega);rw [run_loop,drop_cons0 a i hi]
  by_cases hj:i<b.length
  ·have ih':=ih (i+1) (by omega) (by omega) (by omega)
   rw [drop_cons0 b i hj];unfold lsF
   by_cases hc:a.getD i 0=b.getD i 0
   ·rw [if_pos hc]
    simp only [go_sem,Qh,Qj,Qk,reduceCtorEq,reduceIte,hi,hj,e1,hc,ih']
   ·rw [if_neg hc]
    simp only [go_sem,Qh,Qj,Qk,reduceCtorEq,reduceIte,hi,hj,hc]
  ·have hb:b.drop i=[]:=List.drop_eq_nil_of_le (by omega)
   have e:lsF (a.getD i 0::a.drop (i+1)) []=none:=by unfold lsF;rfl
   rw [hb,e];simp only [go_sem,Qh,Qj,Qk,reduceCtorEq,reduceIte,hi,hj]
theorem f63 (a b:List UInt8) (ha:a.length≤1000000000000):call T 63 [.byt a .no,.byt b .no] [] 0=some ⟨.bool (Op.bytesLess a b),[],[]⟩:=by
 have h:=l63 a b ha _ 0 rfl (by omega) (by omega);simp only [Int.natCast_zero,List.drop_zero]at h;rw [call_code T_63,lsF_less];cases hq:lsF a b with
 |some q=>rw [hq]at h;simp only [go_sem,Qe,Qh,Qi,Qj,Qk,reduceCtorEq,reduceIte,h]
 |none=>rw [hq]at h;simp only [go_sem,Qe,Qh,Qi,Qj,Qk,reduceCtorEq,reduceIte,h]
def befE (x y:Ent):Bool:=if x.role=y.role then(if x.name=y.name then(if x.ver=y.ver then Op.bytesLess x.dig y.dig else decide (x.ver<y.ver))else Op.bytesLess x.name y.name)else decide (x.role<y.role)
theorem f84 (x y:Ent) (hx:x.dig.length≤1000000000000):call T 84 [.agg x.sv,.agg y.sv] [] 0=some ⟨.bool (befE x y),[],[]⟩:=by
 have g:=f63 x.dig y.dig hx;obtain⟨r,n,v,d⟩:=x;obtain⟨r2,n2,v2,d2⟩:=y;simp only [Ent.sv]at*;rw [call_code T_84];unfold befE
 by_cases h1:r=r2
 ·by_cases h2:n=n2
  ·by_cases h3:v=v2
   ·simp only [go_sem,Qe,Qh,Qi,Qj,Qk,reduceCtorEq,reduceIte,h1,h2,h3,g,S_63]
   ·simp only [go_sem,Qe,Qh,Qi,Qj,Qk,reduceCtorEq,reduceIte,h1,h2,h3]
  ·simp only [go_sem,Qe,Qh,Qi,Qj,Qk,reduceCtorEq,reduceIte,h1,h2]
 ·simp only [go_sem,Qe,Qh,Qi,Qj,Qk,reduceCtorEq,reduceIte,h1]
theorem cmpB_less:∀x y:List UInt8,Lib.compareBytes x y<0↔Op.bytesLess x y=true
 |[],[]=>by simp [Lib.compareBytes,Op.bytesLess]
 |[],_::_=>by simp [Lib.compareBytes,Op.bytesLess]
 |_::_,[]=>by simp [Lib.compareBytes,Op.bytesLess]
 | a::x,b::y=>by
  unfold Lib.compareBytes Op.bytesLess;have ih:=cmpB_less x y
  by_cases h1:a<b
  ·simp [h1]
  ·by_cases h2:b<a
   ·have h3:¬a=b:=by intro e;subst e;exact h1 h2
    simp [h1,h2,h3]
   ·have h3:a=b:=UInt8.le_antisymm (UInt8.not_lt.1 h2) (UInt8.not_lt.1 h1)
    subst h3;simp [h1,ih]
theorem cmpB_eq:∀x y:List UInt8,Lib.compareBytes x y=0↔x=y
 |[],[]=>by simp [Lib.compareBytes]
 |[],_::_=>by simp [Lib.compareBytes]
 |_::_,[]=>by simp [Lib.compareBytes]
 | a::x,b::y=>by
  unfold Lib.compareBytes;have ih:=cmpB_eq x y
  by_cases h1:a<b
  ·have h3:¬a=b:=by intro e;subst e;exact UInt8.lt_irrefl a h1
   simp [h1,h3]
  ·by_cases h2:b<a
   ·have h3:¬a=b:=by intro e;subst e;exact h1 h2
    simp [h1,h2,h3]
   ·have h3:a=b:=UInt8.le_antisymm (UInt8.not_lt.1 h2) (UInt8.not_lt.1 h1)
    subst h3;simp [h1,ih]
theorem cmpI_lt (a b:Int):cmpI a b<0↔a<b:=by
 unfold cmpI;repeat' split
 all_goals omega
theorem cmpI_eq (a b:Int):cmpI a b=0↔a=b:=by
 unfold cmpI;repeat' split
 all_goals omega
theorem ordE_lt (x y:Ent):ordE x y<0↔befE x y=true:=by
 unfold ordE orI befE
 by_cases h1:x.role=y.role
 ·rw [if_neg (by simp [cmpI_eq,h1]),if_pos h1]
  by_cases h2:x.name=y.name
  ·rw [if_neg (by simp [cmpB_eq,h2]),if_pos h2]
   by_cases h3:x.ver=y.ver
   ·rw [if_neg (by simp [cmpI_eq,h3]),if_pos h3];exact cmpB_less _ _
   ·rw [if_pos (by simp [cmpI_eq,h3]),if_neg h3,decide_eq_true_eq];exact cmpI_lt _ _
  ·rw [if_pos (by simp [cmpB_eq,h2]),if_neg h2];exact cmpB_less _ _
 ·rw [if_pos (by simp [cmpI_eq,h1]),if_neg h1,decide_eq_true_eq];exact cmpI_lt _ _
theorem f68f (s:List UInt8):call T 68 [.agg [.int .i64 1,.str s,.int .i64 0,.byt [] .no]] [] 0=some ⟨.int .i64 (if Pr.nameB s=true then 0 else 43),[],[]⟩:=by
 have g:=f111 s;rw [call_code T_68];cases h:Pr.nameB s with
 |true=>rw [h]at g;simp only [go_sem,Q4,Q5,Qe,Qh,Qi,Qj,Qk,reduceCtorEq,reduceIte,g,S_111]
 |false=>rw [h]at g;simp only [go_sem,Q4,Q5,Qe,Qh,Qi,Qj,Qk,reduceCtorEq,reduceIte,g,S_111]
theorem f89 (s:List UInt8):call T 89 [.str s] [] 0=some ⟨.bool (Pr.nameB s),[],[]⟩:=by
 have g:=f68f s;rw [call_code T_89];cases h:Pr.nameB s with
 |true=>rw [h]at g;simp only [go_sem,Qe,Qh,Qi,Qj,Qk,reduceCtorEq,reduceIte,g,S_68]
 |false=>rw [h]at g;simp only [go_sem,Q5,Qe,Qh,Qi,Qj,Qk,reduceCtorEq,reduceIte,g,S_68]
structure Rul where
 kind:Int
 text:List UInt8
 lo:Int
 hi:Int
def Rul.sv (r:Rul):List SV:=[.int .i64 r.kind,.str r.text,.int .i64 r.lo,.int .i64 r.hi]
structure Man where
 vendor:List UInt8
 ver:Int
 flr:Int
 frm:Int
 til:Int
 ents:List Ent
 ruls:List Rul
def ensv (l:List Ent):List (List SV):=l.map Ent.sv
def rlsv (l:List Rul):List (List SV):=l.map Rul.sv
def Man.sv (m:Man):List SV:=[.str m.vendor,.int .i64 m.ver,.int .i64 m.flr,.int .i64 m.frm,.int .i64 m.til,.lst 4 (ensv m.ents) .no,.lst 4 (rlsv m.ruls) .no]
def en0:Ent:=⟨0,[],0,[]⟩
def rl0:Rul:=⟨0,[],0,0⟩
theorem ensv_len (l:List Ent):(ensv l).length=l.length:=List.length_map ..
theorem rlsv_len (l:List Rul):(rlsv l).length=l.length:=List.length_map ..
theorem ensv_get (l:List Ent) (i:Nat) (h:i<l.length):(ensv l).getD i []=(l.getD i en0).sv:=by simp [ensv,List.getD_eq_getElem?_getD,h]
theorem rlsv_get (l:List Rul) (i:Nat) (h:i<l.length):(rlsv l).getD i []=(l.getD i rl0).sv:=by simp [rlsv,List.getD_eq_getElem?_getD,h]
structure ManBd (m:Man):Prop where
 v:m.vendor.length≤1000000
 en:m.ents.length≤1000000
 rn:m.ruls.length≤1000000
 e:∀x∈m.ents,x.name.length≤1000000∧x.dig.length≤1000000
 r:∀x∈m.ruls,x.text.length≤1000000
theorem getD_mem' {α:Type} (l:List α) (d:α) (i:Nat) (h:i<l.length):l.getD i d∈l:=by rw [List.getD_eq_getElem?_getD,List.getElem?_eq_getElem h];exact List.getElem_mem _
def entE (l:List Ent) (i:Nat):Int:=
 if(l.getD i en0).role<1 then 1 else if 3<(l.getD i en0).role then 1 else if(l.getD i en0).ver<0 then 1 else if 1000000<(l.getD i en0).ver then 1
 else if((l.getD i en0).dig.length:Int)=32 then(if Pr.nameB (l.getD i en0).name=true then(if i=0 then 0 else if befE (l.getD (i-1) en0) (l.getD i en0)=true then 0 else 41)else 43)else 1
def entsE (l:List Ent):Nat→Nat→Int
 |0,_=>0
 |n+1,i=>if entE l i=0 then entsE l n (i+1)else entE l i
def rulE (r:Rul):Int:=chk r.kind r.text r.lo r.hi
def rulsE:List Rul→Int
 |[]=>0
 |r::t=>if rulE r=0 then rulsE t else rulE r
def manE (m:Man):Int:=
 if Pr.nameB m.vendor=true then
  (if m.flr<0 then 1 else if m.ver<m.flr then 1 else if 1000000<m.ver then 1 else if m.frm<0 then 1 else if m.til≤m.frm then 1 else if 1099511627776<m.til then 1
  else if(16:Int)<m.ents.length then 4 else if(8:Int)<m.ruls.length then 4 else if entsE m.ents m.ents.length 0=0 then rulsE m.ruls else entsE m.ents m.ents.length 0)
 else 43
def st44 (m:Man) (i:Nat):CSt:=⟨[(1,.ptr 101 0),(58,.lst 4 (ensv m.ents) .no),(59,.int .i64 m.ents.length),(60,.int .i64 i)],[(101,.rc m.sv)],[]⟩
set_option maxHeartbeats 16000000 in
theorem s44 (m:Man) (hm:ManBd m) (i:Nat) (hi:i<m.ents.length):
 (entE m.ents i=0→run T (.loop r44_17) (st44 m i)=run T (.loop r44_17) (st44 m (i+1)))∧
 (entE m.ents i≠0→∃ob,run T (.loop r44_17) (st44 m i)=some (.r,⟨[(2,.int .i64 (entE m.ents i))],ob,[]⟩)):=by
 have e1:=wsucc i (by have:=hm.en;omega);have hv:=ensv_len m.ents;have hg:=ensv_get m.ents i hi;have g1:=f89 (m.ents.getD i en0).name;have g2:=f72 (m.ents.getD (i-1) en0) (m.ents.getD i en0);have hb:=ordE_lt (m.ents.getD (i-1) en0) (m.ents.getD i en0);have es:0<i→IntKind.i64.wrap ((i:Int)-1)=((i-1:Nat):Int):=fun h=>by rw [w64 (by omega) (by have:=hm.en;omega)];omega
 have hi1:i-1<m.ents.length:=by omega
 have hg1:=ensv_get m.ents (i-1) hi1;unfold entE;obtain⟨mv,m1,m2,m3,m4,es0,rs⟩:=m;simp only [st44,Man.sv]at*;generalize es0.getD i en0=x at*;generalize es0.getD (i-1) en0=y at*;obtain⟨r,n,v,d⟩:=x;obtain⟨r2,n2,v2,d2⟩:=y;simp only [Ent.sv]at*
 by_cases a1:r<1
 ·refine⟨fun h=>by simp [a1]at h,fun _=>⟨[(101,.rc [.str mv,.int .i64 m1,.int .i64 m2,.int .i64 m3,.int .i64 m4,.lst 4 (ensv es0) .no,.lst 4 (rlsv rs) .no]),(104,.rc [.int .i64 r,.str n,.int .i64 v,.byt d .no])], ?_⟩⟩
  rw [run_loop];simp only [go_sem,Qe,Qh,Qi,Qj,Qk,reduceIte,hi,hv,hg,a1]
 by_cases a2:3<r
 ·refine⟨fun h=>by simp [a1,a2]at h,fun _=>⟨[(101,.rc [.str mv,.int .i64 m1,.int .i64 m2,.int .i64 m3,.int .i64 m4,.lst 4 (ensv es0) .no,.lst 4 (rlsv rs) .no]),(104,.rc [.int .i64 r,.str n,.int .i64 v,.byt d .no])], ?_⟩⟩
  rw [run_loop];simp only [go_sem,Qe,Qh,Qi,Qj,Qk,reduceIte,hi,hv,hg,a1,a2]
 by_cases a3:v<0
 ·refine⟨fun h=>by simp [a1,a2,a3]at h,fun _=>⟨[(101,.rc [.str mv,.int .i64 m1,.int .i64 m2,.int .i64 m3,.int .i64 m4,.lst 4 (ensv es0) .no,.lst 4 (rlsv rs) .no]),(104,.rc [.int .i64 r,.str n,.int .i64 v,.byt d .no])], ?_⟩⟩
  rw [run_loop];simp only [go_sem,Qe,Qh,Qi,Qj,Qk,reduceIte,hi,hv,hg,a1,a2,a3]
 by_cases a4:1000000<v
 ·refine⟨fun h=>by simp [a1,a2,a3,a4]at h,fun _=>⟨[(101,.rc [.str mv,.int .i64 m1,.int .i64 m2,.int .i64 m3,.int .i64 m4,.lst 4 (ensv es0) .no,.lst 4 (rlsv rs) .no]),(104,.rc [.int .i64 r,.str n,.int .i64 v,.byt d .no])], ?_⟩⟩
  rw [run_loop];simp only [go_sem,Qe,Qh,Qi,Qj,Qk,reduceIte,hi,hv,hg,a1,a2,a3,a4]
 by_cases a5:(d.length:Int)=32
 ·cases a6:Pr.nameB n with
  |false=>rw [a6]at g1;refine⟨fun h=>by simp [a1,a2,a3,a4,a5]at h,fun _=>⟨[(101,.rc [.str mv,.int .i64 m1,.int .i64 m2,.int .i64 m3,.int .i64 m4,.lst 4 (ensv es0) .no,.lst 4 (rlsv rs) .no]),(104,.rc [.int .i64 r,.str n,.int .i64 v,.byt d .no])], ?_⟩⟩;rw [run_loop];simp only [go_sem,Qe,Qh,Qi,Qj,Qk,reduceIte,hi,hv,hg,a1,a2,a3,a4,a5,g1,S_89]
  | true=>
   rw [a6]at g1
   by_cases a7:i=0
   ·subst a7
    have hp:(0:Int)<es0.length:=by omega
    have kw:IntKind.i64.wrap 1=1:=rfl;refine⟨fun _=> ?_,fun h=>by simp [a1,a2,a3,a4,a5]at h⟩;rw [run_loop];simp only [go_sem,Q2,Q3,Q4,Q8,Qb,Qc,Qd,Qe,Qh,Qi,Qj,Qk,reduceIte,hp,kw,hv,hg,a1,a2,a3,a4,a5,g1,S_89]
   ·have hp:(0:Int)<(i:Nat):=by omega
    have hp0:0<i:=by omega
    have es':=es hp0;cases a8:befE ⟨r2,n2,v2,d2⟩ ⟨r,n,v,d⟩with
    |true=>
     have h9:¬0≤ordE ⟨r2,n2,v2,d2⟩ ⟨r,n,v,d⟩:=by have:=hb.2 a8;omega
     refine⟨fun _=> ?_,fun h=>by simp [a1,a2,a3,a4,a5,a7]at h⟩;rw [run_loop];simp only [go_sem,Qb,Qc,Qd,Qe,Qh,Qi,Qj,Qk,reduceIte,hi,hp,hi1,es',hg1,e1,hv,hg,a1,a2,a3,a4,a5,g1,S_89,g2,S_72,h9]
    | false=>
     have h9:0≤ordE ⟨r2,n2,v2,d2⟩ ⟨r,n,v,d⟩:=by
      rcases Int.lt_or_le (ordE ⟨r2,n2,v2,d2⟩ ⟨r,n,v,d⟩) 0 with h|h
      ·rw [hb.1 h]at a8;cases a8
      ·exact h
     refine⟨fun h=>by simp [a1,a2,a3,a4,a5,a7]at h,fun _=>⟨[(101,.rc [.str mv,.int .i64 m1,.int .i64 m2,.int .i64 m3,.int .i64 m4,.lst 4 (ensv es0) .no,.lst 4 (rlsv rs) .no]),(104,.rc [.int .i64 r,.str n,.int .i64 v,.byt d .no])], ?_⟩⟩;rw [run_loop];simp only [go_sem,Qb,Qc,Qd,Qe,Qh,Qi,Qj,Qk,reduceIte,hi,hp,hi1,es',hg1,hv,hg,a1,a2,a3,a4,a5,g1,S_89,g2,S_72,h9,a7]
 ·refine⟨fun h=>by simp [a1,a2,a3,a4,a5]at h,fun _=>⟨[(101,.rc [.str mv,.int .i64 m1,.int .i64 m2,.int .i64 m3,.int .i64 m4,.lst 4 (ensv es0) .no,.lst 4 (rlsv rs) .no]),(104,.rc [.int .i64 r,.str n,.int .i64 v,.byt d .no])], ?_⟩⟩
  rw [run_loop];simp only [go_sem,Qe,Qh,Qi,Qj,Qk,reduceIte,hi,hv,hg,a1,a2,a3,a4,a5]
theorem l44 (m:Man) (hm:ManBd m):∀(n i:Nat),m.ents.length-i=n→i≤m.ents.length→
 (entsE m.ents n i=0→run T (.loop r44_17) (st44 m i)=some (.x 1,⟨[(1,.ptr 101 0)],[(101,.rc m.sv)],[]⟩))∧
 (entsE m.ents n i≠0→∃ob,run T (.loop r44_17) (st44 m i)=some (.r,⟨[(2,.int .i64 (entsE m.ents n i))],ob,[]⟩)):=by
 intro n;induction n with
 |zero=>
  intro i h0 h1;have:i=m.ents.length:=by omega
  subst this;refine⟨fun _=> ?_,fun h=>absurd rfl h⟩;rw [run_loop];simp only [st44,go_sem,Qh,Qj,Qk,reduceIte]
 |succ n ih=>
  intro i h0 h1;obtain⟨s1,s2⟩:=s44 m hm i (by omega);obtain⟨i1,i2⟩:=ih (i+1) (by omega) (by omega);unfold entsE
  by_cases h:entE m.ents i=0
  ·rw [if_pos h,s1 h];exact⟨i1,i2⟩
  ·rw [if_neg h];exact⟨fun h'=>absurd h' h,s2⟩
theorem l44r (m:Man) (hm:ManBd m) (ob:List (Nat×SObj)) (hob:ob=[(101,.rc m.sv)]):∀(n i:Nat),m.ruls.length-i=n→i≤m.ruls.length→
 (rulsE (m.ruls.drop i)=0→run T (.loop r44_25) ⟨[(111,.lst 4 (rlsv m.ruls) .no),(112,.int .i64 m.ruls.length),(113,.int .i64 i)],ob,[]⟩=some (.x 4,⟨[],ob,[]⟩))∧
 (rulsE (m.ruls.drop i)≠0→∃ob',run T (.loop r44_25) ⟨[(111,.lst 4 (rlsv m.ruls) .no),(112,.int .i64 m.ruls.length),(113,.int .i64 i)],ob,[]⟩=some (.r,⟨[(2,.int .i64 (rulsE (m.ruls.drop i)))],ob',[]⟩)):=by
 intro n;induction n with
 |zero=>
  intro i h0 h1;have:i=m.ruls.length:=by omega
  subst this;rw [List.drop_length];refine⟨fun _=> ?_,fun h=>absurd rfl h⟩;rw [run_loop];simp only [go_sem,Qh,Qj,Qk,reduceIte]
 | succ n ih=>
  intro i h0 h1;have hi:i<m.ruls.length:=by omega
  obtain⟨i1,i2⟩:=ih (i+1) (by omega) (by omega);have e1:=wsucc i (by have:=hm.rn;omega);have hv:=rlsv_len m.ruls;have hg:=rlsv_get m.ruls i hi;have hd:m.ruls.drop i=m.ruls.getD i rl0::m.ruls.drop (i+1):=by rw [List.drop_eq_getElem_cons hi,List.getD_eq_getElem?_getD,List.getElem?_eq_getElem hi];rfl
  have hb:=hm.r _ (getD_mem' m.ruls rl0 i hi);rw [hd];unfold rulsE;generalize m.ruls.drop (i+1)=R at*;generalize m.ruls.getD i rl0=x at*;obtain⟨mv,m1,m2,m3,m4,es0,rs⟩:=m;obtain⟨k,t,lo,hi'⟩:=x;simp only [Man.sv,Rul.sv]at*;subst hob;have g:=f90 k t lo hi' (by omega)
  by_cases h:rulE ⟨k,t,lo,hi'⟩=0
  ·rw [if_pos h]
   unfold rulE at h;simp only at h;rw [h]at g;refine⟨fun h2=> ?_,fun h2=> ?_⟩
   ·have i1':=i1 h2
    rw [run_loop];simp only [go_sem,Qe,Qh,Qi,Qj,Qk,reduceIte,hi,e1,hv,hg,g,S_90,i1']
   ·obtain⟨ob',i2'⟩:=i2 h2
    refine⟨ob', ?_⟩;rw [run_loop];simp only [go_sem,Qe,Qh,Qi,Qj,Qk,reduceIte,hi,e1,hv,hg,g,S_90,i2']
  ·rw [if_neg h]
   unfold rulE at h ⊢;simp only at h ⊢;refine⟨fun h2=>absurd h2 h,fun h2=>⟨[(101,.rc [.str mv,.int .i64 m1,.int .i64 m2,.int .i64 m3,.int .i64 m4,.lst 4 (ensv es0) .no,.lst 4 (rlsv rs) .no]),(106,.rc [.int .i64 k,.str t,.int .i64 lo,.int .i64 hi'])], ?_⟩⟩;rw [run_loop];simp only [go_sem,Qe,Qh,Qi,Qj,Qk,reduceIte,hi,hv,hg,g,S_90,h]
set_option maxHeartbeats 4000000 in
theorem f44 (m:Man) (hm:ManBd m):call T 44 [.agg m.sv] [] 0=some ⟨.int .i64 (manE m),[],[]⟩:=by
 have g1:=f89 m.vendor;obtain⟨l1,l2⟩:=l44 m hm _ 0 rfl (by omega);obtain⟨r1,r2⟩:=l44r m hm _ rfl _ 0 rfl (by omega);have hv:=ensv_len m.ents;have hr:=rlsv_len m.ruls;obtain⟨mv,m1,m2,m3,m4,es0,rs⟩:=m;simp only [st44,Man.sv,Int.natCast_zero,List.drop_zero,Nat.sub_zero]at*;rw [call_code T_44];unfold manE;simp only;cases a0:Pr.nameB mv with
 |false=>rw [a0]at g1;simp only [go_sem,Qe,Qh,Qi,Qj,Qk,reduceCtorEq,reduceIte,g1,S_89]
 | true=>
  rw [a0]at g1
  by_cases a1:m2<0
  ·simp only [go_sem,Qe,Qh,Qi,Qj,Qk,reduceCtorEq,reduceIte,g1,S_89,a1]
  by_cases a2:m1<m2
  ·simp only [go_sem,Qe,Qh,Qi,Qj,Qk,reduceCtorEq,reduceIte,g1,S_89,a1,a2]
  by_cases a3:1000000<m1
  ·simp only [go_sem,Qe,Qh,Qi,Qj,Qk,reduceCtorEq,reduceIte,g1,S_89,a1,a2,a3]
  by_cases a4:m3<0
  ·simp only [go_sem,Qe,Qh,Qi,Qj,Qk,reduceCtorEq,reduceIte,g1,S_89,a1,a2,a3,a4]
  by_cases a5:m4≤m3
  ·simp only [go_sem,Qe,Qh,Qi,Qj,Qk,reduceCtorEq,reduceIte,g1,S_89,a1,a2,a3,a4,a5]
  by_cases a6:1099511627776<m4
  ·simp only [go_sem,Qe,Qh,Qi,Qj,Qk,reduceCtorEq,reduceIte,g1,S_89,a1,a2,a3,a4,a5,a6]
  by_cases a7:(16:Int)<es0.length
  ·simp only [go_sem,Qe,Qh,Qi,Qj,Qk,reduceCtorEq,reduceIte,g1,S_89,a1,a2,a3,a4,a5,a6,a7,hv]
  by_cases a8:(8:Int)<rs.length
  ·simp only [go_sem,Qe,Qh,Qi,Qj,Qk,reduceCtorEq,reduceIte,g1,S_89,a1,a2,a3,a4,a5,a6,a7,a8,hv,hr]
  by_cases a9:entsE es0 es0.length 0=0
  ·have l1':=l1 a9
   by_cases b0:rulsE rs=0
   ·have r1':=r1 b0
    simp only [go_sem,Qe,Qh,Qi,Qj,Qk,reduceCtorEq,reduceIte,g1,S_89,a1,a2,a3,a4,a5,a6,a7,a8,hv,hr,l1',a9,r1',b0]
   ·obtain⟨ob,r2'⟩:=r2 b0
    simp only [go_sem,Qe,Qh,Qi,Qj,Qk,reduceCtorEq,reduceIte,g1,S_89,a1,a2,a3,a4,a5,a6,a7,a8,hv,hr,l1',a9,r2']
  ·obtain⟨ob,l2'⟩:=l2 a9
   simp only [go_sem,Qe,Qh,Qi,Qj,Qk,reduceCtorEq,reduceIte,g1,S_89,a1,a2,a3,a4,a5,a6,a7,a8,hv,hr,l2',a9]

end Go.Proofs.YtdafipacemgcoaaGreatDoor
