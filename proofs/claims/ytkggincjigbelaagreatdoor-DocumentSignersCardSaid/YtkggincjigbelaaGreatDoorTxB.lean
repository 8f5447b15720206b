/- What the functions come to. No condition. -/
import Derived.Test.YtkggincjigbelaaGreatDoorTwB
open Bool renaming and_eq_true -> aB
open Int renaming natCast_zero -> aw
open Go.IntKind renaming i64 -> af, u64 -> aN, wrap_u64 -> bH
open List renaming Pairwise -> ge, drop_eq_getElem_cons -> bF, drop_length -> bG, drop_zero -> bj, eq_nil_of_length_eq_zero -> lk, getD_eq_getElem?_getD -> aa, getElem?_eq_getElem -> ab, getElem_of_mem -> cr, length_append -> ac, length_drop -> aI, mem_append -> al, mem_range -> dy, mem_singleton -> bf, nil_append -> az, pairwise_append -> lm
open Nat renaming le_refl -> aH, zero_le -> bt
set_option maxRecDepth 100000
set_option maxHeartbeats 16000000
set_option linter.unusedSimpArgs false
set_option linter.unusedVariables false
namespace Go.Proofs.YtkggincjigbelaaGreatDoor
open Go.Sy
open UInt8 renaming reduceLT -> Q0, reduceLE -> Q1
open Int renaming reduceToNat -> Q2, reduceLE -> Q3, reduceLT -> Q4, reduceEq -> Q5, reduceNe -> Q6, reduceNeg -> Q7, reduceAdd -> Q8, reduceSub -> Q9, reduceMul -> Qa
open Nat renaming reducePow -> Qb, reduceDiv -> Qc, reduceMod -> Qd, reduceAdd -> Qe, reduceSub -> Qf, reduceMul -> Qg, reduceLT -> Qh, reduceLeDiff -> Qi, reduceEqDiff -> Qj, reduceBEq -> Qk
theorem xb4(c:CSt):run U DM c=run U D9 c:=rfl
attribute [go_sem] xb4
theorem Dn{α:Type}(l:List α)(d x:α):x∈l↔∃i,i<l.length/\l.getD i d=x:=by
 constructor
 ·intro h
  obtain⟨i,hi,e⟩:=cr h;exact⟨i,hi,by rw[aa,ab hi];exact e⟩
 ·rintro⟨i,hi,rfl⟩
  exact mq l d i hi
theorem s8(t:Tr)(B:List UInt8)(ms:List Mk)(x:Int):x∈sgO t B ms↔∃m∈ms,gdB t B m=true/\m.auth=x:=by
 unfold sgO;rw[ta];constructor
 ·rintro⟨j,h1,h2,h3⟩
  exact⟨ms.getD j mk0,mq _ _ _ h1,h2,h3⟩
 ·rintro⟨m,h1,h2,h3⟩
  obtain⟨j,hj,rfl⟩:=(Dn ms mk0 m).1 h1;exact⟨j,hj,h2,h3⟩
theorem Fb(t:Tr)(B:List UInt8)(ms ns:List Mk)(h:∀m,m∈ms↔m∈ns):sgL t B ms=sgL t B ns:=
 lQ (gY _ _ _ _ _) (gY _ _ _ _ _) fun x=>by
  show x∈sgO t B ms↔x∈sgO t B ns;rw[s8,s8];constructor
  ·rintro⟨m,h1,h2⟩;exact⟨m,(h m).1 h1,h2⟩
  ·rintro⟨m,h1,h2⟩;exact⟨m,(h m).2 h1,h2⟩
theorem Ay(t:Tr)(B:List UInt8)(ms:List Mk):sgL t B ms.reverse=sgL t B ms:=Fb t B _ _ fun m=>List.mem_reverse
theorem EH(t:Tr)(B:List UInt8)(ms:List Mk):rh t B ms.reverse=rh t B ms:=by unfold rh;rw[Ay,List.length_reverse]
theorem Az(t:Tr)(B:List UInt8)(ms:List Mk):(sgL t B ms).length<=ms.length:=by rw[sH];exact oz _ _ _ _ _
theorem l9(t:Tr)(B other:List UInt8)(kind:Int)(ms:List Mk)(hm:ms.length<=1000):∀(n:Nat),n<=ms.length->∀(te:Tok)(tk:List Nat),(te= .clip/\tk=[]/\n=ms.length\/te= .id 148/\tk=[148])->
 ∃(te':Tok)(tk':List Nat),(te'= .clip/\tk'=[]/\ms=[]\/te'= .id 148/\tk'=[148])/\
  run U (.loop DM) ⟨[(1,.byt other .no),(2,.int .i64 kind),(13,.ptr 113 0),(14,.ptr 114 0),(15,.ptr 115 0),(16,.int .i64 ((n:Int)-1))],[(113,.rc t.sv),(114,.rc (bS B ms)),(115,.rc [.byt B .no,.lst 2 (cW (ms.drop n).reverse) te])],tk⟩=
   some (.x 0,⟨[(1,.byt other .no),(2,.int .i64 kind),(13,.ptr 113 0),(14,.ptr 114 0),(15,.ptr 115 0)],[(113,.rc t.sv),(114,.rc (bS B ms)),(115,.rc [.byt B .no,.lst 2 (cW ms.reverse) te'])],tk'⟩):=by
 intro n;induction n with
 |zero=>
  intro h0 te tk ht;refine⟨te,tk, ?_, ?_⟩
  ·rcases ht with⟨h1,h2,h3⟩|h
   ·exact .inl ⟨h1,h2,lk h3.symm⟩
   ·exact .inr h
  have k0:¬(0:Int)<=((0:Nat):Int)-1:=by decide
  rw[bj,ai];unfold Tr.sv bS;rcases ht with⟨rfl,rfl,h3⟩|⟨rfl,rfl⟩
  ·have hz:=lk h3.symm
   subst hz;have e:cW []=[]:=rfl;simp only[go_sem,Q0,Q1,Q2,Q3,Q4,Q5,Q6,Q7,Q8,Q9,Qa,Qb,Qc,Qd,Qe,Qf,Qg,Qh,Qi,Qj,Qk,reduceCtorEq,reduceIte,k0,List.reverse_nil,e]
  ·simp only[go_sem,Q0,Q1,Q2,Q3,Q4,Q5,Q6,Q7,Q8,Q9,Qa,Qb,Qc,Qd,Qe,Qf,Qg,Qh,Qi,Qj,Qk,reduceCtorEq,reduceIte,k0]
 |succ n ih=>
  intro h0 te tk ht;have hn:n<ms.length:=by omega
  have hv:=cx ms;have hg:=ir ms n hn;have e0:((n+1:Nat):Int)-1=(n:Int):=by omega
  have e1:af.wrap ((n:Int)-1)=(n:Int)-1:=w64 (by omega) (by omega)
  have hd:(ms.drop n).reverse=(ms.drop (n+1)).reverse++ [ms.getD n mk0]:=by
   have:ms.drop n=ms.getD n mk0::ms.drop (n+1):=by rw[bF hn,aa,ab hn];rfl
   rw[this,List.reverse_cons]
  obtain⟨te',tk',q1,q2⟩:=ih (by omega) (.id 148) [148] (.inr ⟨rfl,rfl⟩);refine⟨te',tk',q1, ?_⟩;rw[hd,kJ]at q2;have hl:(cW (ms.drop (n+1)).reverse).length=ms.length-(n+1):=by rw[cx,List.length_reverse,aI]
  have b1:(ms.length-(n+1)+1)*32<=140737488355328:=by omega
  rw[e0];generalize hL:cW (ms.drop (n+1)).reverse=L at*;generalize ms.getD n mk0=x at*;obtain⟨a,s⟩:=x;unfold Tr.sv bS at*;simp only[Mk.sv]at*;rw[ai];rcases ht with⟨rfl,rfl,h3⟩|⟨rfl,rfl⟩
  ·have hz:L=[]:=by rw[<-hL,h3,bG];rfl
   subst hz;simp only[az]at q2;simp only[go_sem,Q0,Q1,Q2,Q3,Q4,Q5,Q6,Q7,Q8,Q9,Qa,Qb,Qc,Qd,Qe,Qf,Qg,Qh,Qi,Qj,Qk,reduceCtorEq,reduceIte,hn,hv,hg,e1,q2]
  ·simp only[go_sem,Q0,Q1,Q2,Q3,Q4,Q5,Q6,Q7,Q8,Q9,Qa,Qb,Qc,Qd,Qe,Qf,Qg,Qh,Qi,Qj,Qk,reduceCtorEq,reduceIte,hn,hv,hg,e1,hl,b1,q2]
theorem f9(codes other:List UInt8)(kind who n thr:Int)(n1: -9223372036854775808<=n)(n2:n<=9223372036854775807)(t1: -9223372036854775808<=thr)(t2:thr<=9223372036854775807):
 call U 9 [.byt codes .no,.byt other .no,.int .i64 kind,.int .i64 who,.int .i64 n,.int .i64 thr] [] 0=some ⟨.bool true,[],[]⟩:=by
 have g11:=f11;obtain⟨k,hk2,_,g22⟩:=f22 n thr t1 t2 n1 n2;have g22:=up g22;have hE:=Oi k hk2 thr;obtain⟨B,hB,_,g⟩:=f26 codes kind;have g26:=up g;have g25:=up (f25 B hB who);have hl:=lR who B;obtain⟨C,hC,_,gC⟩:=f26 other kind;have g26b:=up gC;generalize i5 who B=ms at*;generalize trL k thr=t at*;have ok:=fun(D:List UInt8)(hD:D.length<=100000000)(ns:List Mk)(h:ns.length<=1000)=>xd hE D ns h hD
 have s1:=f32 (ok B hB ms (by omega));have s2:=f32 (ok B hB ms.reverse (by rw[List.length_reverse];omega));rw[Ay]at s2;have hsl:=Az t B ms;have s3:=up (f31 (sgL t B ms) (sgL t B ms) (by omega));rw[decide_eq_true rfl]at s3;have v1:=f34 t B ms hB;have v2:=f34 t B ms.reverse hB;rw[EH]at v2;have s4:=f32 (ok C hC ms (by omega));have s5:=up (f33 t C ms (by have:=(ok C hC ms (by omega)).n2;omega) hC (by omega));have hsl2:=Az t C ms;have s6:=up (f31 (sgL t C ms) (sgL t C ms) (by omega));rw[decide_eq_true rfl]at s6;have g18:=up (f18 C B (by omega));obtain⟨te',tk',q1,q2⟩:=l9 t B other kind ms (by omega) ms.length (aH _) .clip [] (.inl ⟨rfl,rfl,rfl⟩);rw[bG]at q2;have e0:cW ([]:List Mk).reverse=[]:=rfl;rw[e0]at q2;have hv:=cx ms;have e1:af.wrap ((ms.length:Int)-1)=(ms.length:Int)-1:=w64 (by omega) (by omega);have e2:ms=[]->cW ms.reverse=[]:=fun h=>by rw[h];rfl
 generalize hrev:ms.reverse=rs at*;generalize sgL t B ms=L at*;generalize sgL t C ms=M at*;generalize rh t B ms=E at*;unfold Tr.sv bS at*;rw[ah U_9]
 by_cases hc:C=B
 ·rw[decide_eq_true hc]at g18
  rcases q1 with⟨rfl,rfl,hz⟩|⟨rfl,rfl⟩
  ·have hz2:=e2 hz
   rw[hz2]at q2 s2 v2;simp only[go_sem,Q0,Q1,Q2,Q3,Q4,Q5,Q6,Q7,Q8,Q9,Qa,Qb,Qc,Qd,Qe,Qf,Qg,Qh,Qi,Qj,Qk,reduceCtorEq,reduceIte,US,g11,nX,g22,sh,g26,qI,g25,qJ,hv,e1,q2,s1,nW,s2,s3,EB,v1,sf,v2,g26b,g18,yb]
  ·simp only[go_sem,Q0,Q1,Q2,Q3,Q4,Q5,Q6,Q7,Q8,Q9,Qa,Qb,Qc,Qd,Qe,Qf,Qg,Qh,Qi,Qj,Qk,reduceCtorEq,reduceIte,US,g11,nX,g22,sh,g26,qI,g25,qJ,hv,e1,q2,s1,nW,s2,s3,EB,v1,sf,v2,g26b,g18,yb]
 ·rw[decide_eq_false hc]at g18
  rcases q1 with⟨rfl,rfl,hz⟩|⟨rfl,rfl⟩
  ·have hz2:=e2 hz
   rw[hz2]at q2 s2 v2;simp only[go_sem,Q0,Q1,Q2,Q3,Q4,Q5,Q6,Q7,Q8,Q9,Qa,Qb,Qc,Qd,Qe,Qf,Qg,Qh,Qi,Qj,Qk,reduceCtorEq,reduceIte,US,g11,nX,g22,sh,g26,qI,g25,qJ,hv,e1,q2,s1,nW,s2,s3,EB,v1,sf,v2,g26b,g18,yb,s4,s5,tQ,s6]
  ·simp only[go_sem,Q0,Q1,Q2,Q3,Q4,Q5,Q6,Q7,Q8,Q9,Qa,Qb,Qc,Qd,Qe,Qf,Qg,Qh,Qi,Qj,Qk,reduceCtorEq,reduceIte,US,g11,nX,g22,sh,g26,qI,g25,qJ,hv,e1,q2,s1,nW,s2,s3,EB,v1,sf,v2,g26b,g18,yb,s4,s5,tQ,s6]
theorem xo3(w:Int)(i:Nat):bI w i=0\/bI w i=1:=by
 unfold bI;generalize w.fdiv (2^min i 64)=x
 have h:((BitVec.ofInt 64 x)&&&(BitVec.ofInt 64 1)).toNat=(BitVec.ofInt 64 x).toNat % 2:=by rw[BitVec.toNat_and,show(BitVec.ofInt 64 1).toNat=1 from by decide];exact Nat.and_one_is_mod _
 have e:bP .and .i64 x 1=af.wrap ((((BitVec.ofInt 64 x)&&&(BitVec.ofInt 64 1)).toNat:Nat):Int):=rfl;rw[e,h];rcases Nat.mod_two_eq_zero_or_one (BitVec.ofInt 64 x).toNat with h|h<;>rw[h]<;>decide
def qF(w:Int):Nat->Nat
 |0=>0
 |n+1=>qF w n+(if bI w n=1 then 1 else 0)
def tj(w:Int):Nat->List Int
 |0=> []
 |n+1=>tj w n++(if bI w n=1 then [3+2*(n:Int)]else [])
theorem vM(w:Int):∀n,(tj w n).length=qF w n
 |0=>rfl
 |n+1=>by rw[tj,qF,ac,vM w n];split<;>rfl
theorem pA(w x:Int):∀n,x∈tj w n↔∃i,i<n/\bI w i=1/\3+2*(i:Int)=x
 |0=>by simp[tj]
 |n+1=>by
  rw[tj,al,pA w x n];constructor
  ·rintro(⟨i,h1,h2⟩|h)
   ·exact⟨i,by omega,h2⟩
   ·split at h
    ·rename_i hb
     exact⟨n,by omega,hb,(bf.1 h).symm⟩
    ·cases h
  ·rintro⟨i,h1,h2,h3⟩
   by_cases e:i=n
   ·subst e
    refine .inr ?_;rw[if_pos h2];simp[h3]
   ·exact .inl ⟨i,by omega,h2,h3⟩
theorem tg(w:Int):∀n,(tj w n).Pairwise (· < ·)
 |0=>ge.nil
 |n+1=>by
  rw[tj];refine lm.2 ⟨tg w n,by split<;>simp,fun a ha b hb=> ?_⟩;obtain⟨i,h1,_,rfl⟩:=(pA w a n).1 ha;split at hb
  ·rw[bf.1 hb];omega
  ·cases hb
theorem vz(w:Int)(B:List UInt8)(m:Mk):m∈i5 w B↔∃i,i<3/\bI w i=1/\m=mkS i B:=by
 have key:∀i ms,m∈gU w B i ms↔m∈ms\/(bI w i=1/\m=mkS i B):=fun i ms=>by
  unfold gU;split
  ·rename_i h;simp[h]
  ·rename_i h;simp[h]
 unfold i5;rw[key,key,key];constructor
 ·rintro(((h|h)|h)|h)
  ·cases h
  ·exact⟨0,by decide,h⟩
  ·exact⟨1,by decide,h⟩
  ·exact⟨2,by decide,h⟩
 ·rintro⟨i,hi,h⟩
  rcases (by omega:i=0\/i=1\/i=2)with rfl|rfl|rfl
  ·exact .inl (.inl (.inr h))
  ·exact .inl (.inr h)
  ·exact .inr h
theorem RT(t:Tr)(B:List UInt8)(m:Mk):gdB t B m=true↔∃i,i<t.au.length/\(t.au.getD i au0).id=m.auth/\fw (t.au.getD i au0).key B m.sig=true:=by
 unfold gdB;rw[List.any_eq_true];constructor
 ·rintro⟨i,hi,h⟩
  simp only[aB,decide_eq_true_eq]at h;exact⟨i,dy.1 hi,h.1,h.2⟩
 ·rintro⟨i,hi,h1,h2⟩
  exact⟨i,dy.2 hi,by rw[h2,decide_eq_true h1];rfl⟩
theorem N0(k:Nat)(thr:Int)(B:List UInt8)(i:Nat)(hi:i<3):gdB (trL k thr) B (mkS i B)=true↔i<k+1:=by
 rw[RT];have hl:=tN k;show(∃j,j<(auL k).length/\((auL k).getD j au0).id=(mkS i B).auth/\fw ((auL k).getD j au0).key B (mkS i B).sig=true)↔_;rw[hl];constructor
 ·rintro⟨j,h1,h2,_⟩
  rw[my k j (by omega)]at h2;have:(3:Int)+2*(j:Int)=3+2*(i:Int):=h2;omega
 ·intro h
  refine⟨i,h, ?_, ?_⟩
  ·rw[my k i (by omega)];rfl
  ·rw[my k i (by omega)]
   show fw (ii (dA (3+2*i)) 1) B (sgn (dA (3+2*i)) 1 (if i=1 then 1 else 0) B)=true
   by_cases e:i=1
   ·rw[if_pos e,p9];exact sC _ _ _ (by decide)
   ·rw[if_neg e,tZ];exact sC _ _ _ (by decide)
theorem CS(k:Nat)(hk:k<=2)(thr w:Int)(B:List UInt8):sgL (trL k thr) B (i5 w B)=tj w (k+1):=by
 rw[<-rl (tg w (k+1))];refine lQ (gY _ _ _ _ _) (vE (tg _ _)) fun x=> ?_
 show x∈sgO (trL k thr) B (i5 w B)↔_;rw[s8,pA];constructor
 ·rintro⟨m,h1,h2,h3⟩
  obtain⟨i,hi,hb,rfl⟩:=(vz w B m).1 h1;exact⟨i,(N0 k thr B i hi).1 h2,hb,h3⟩
 ·rintro⟨i,hi,hb,h⟩
  exact⟨mkS i B,(vz w B _).2 ⟨i,by omega,hb,rfl⟩,(N0 k thr B i (by omega)).2 hi,h⟩
theorem BY(w:Int):∀n,qF w n<=n
 |0=>aH _
 |n+1=>by rw[qF];have:=BY w n;split<;>omega
theorem l8(au:List Au)(th:Int)(D:List SV)(who:Int)(hn:au.length<=1000)(B:List UInt8)(ms:List Mk):∀(n i:Nat),au.length-i=n->i<=au.length->
 run U (.loop DP) ⟨[(2,.int .i64 who),(11,.ptr 111 0),(12,.ptr 112 0),(13,.int .i64 (qF who i)),(14,.int .i64 i)],[(111,.rc [.lst 2 (eX au) .no,.int .i64 th]),(112,.rc [.byt B .no,.lst 2 (cW ms) .no])],[]⟩=
  some (.x 0,⟨[(11,.ptr 111 0),(12,.ptr 112 0),(13,.int .i64 (qF who au.length))],[(111,.rc [.lst 2 (eX au) .no,.int .i64 th]),(112,.rc [.byt B .no,.lst 2 (cW ms) .no])],[]⟩):=by
 intro n;have hv:=dx au;induction n with
 |zero=>
  intro i h0 h1;have hi:i=au.length:=by omega
  subst hi;rw[ai];simp only[go_sem,Q0,Q1,Q2,Q3,Q4,Q5,Q6,Q7,Q8,Q9,Qa,Qb,Qc,Qd,Qe,Qf,Qg,Qh,Qi,Qj,Qk,reduceCtorEq,reduceIte,hv]
 |succ n ih=>
  intro i h0 h1;have hi:i<au.length:=by omega
  have e1:=cA i (by omega);have u:aN.wrap (i:Int)=(i:Int):=by rw[bH];omega
  have ih':=ih (i+1) (by omega) (by omega);have hc:=BY who i
  have hb:af.wrap ((qF who i:Int)+bI who i)=(qF who (i+1):Int):=by
   rw[qF];rcases xo3 who i with h|h
   ·rw[h,if_neg (by decide),w64 (by omega) (by omega)];omega
   ·rw[h,if_pos rfl,w64 (by omega) (by omega)];omega
  unfold bI at hb;rw[ai];simp only[go_sem,Q0,Q1,Q2,Q3,Q4,Q5,Q6,Q7,Q8,Q9,Qa,Qb,Qc,Qd,Qe,Qf,Qg,Qh,Qi,Qj,Qk,reduceCtorEq,reduceIte,hi,hv,u,Int.toNat_natCast,hb,e1,ih']
theorem f8(codes:List UInt8)(kind who n thr:Int)(n1: -9223372036854775808<=n)(n2:n<=9223372036854775807)(t1: -9223372036854775808<=thr)(t2:thr<=9223372036854775807):
 call U 8 [.byt codes .no,.int .i64 kind,.int .i64 who,.int .i64 n,.int .i64 thr] [] 0=some ⟨.bool true,[],[]⟩:=by
 have g11:=f11;obtain⟨k,hk2,_,g22⟩:=f22 n thr t1 t2 n1 n2;have g22:=up g22;have hE:=Oi k hk2 thr;obtain⟨B,hB,hbd,g⟩:=f26 codes kind;have g26:=up g;have g25:=up (f25 B hB who);have hl:=lR who B;have s1:=f32 (xd hE B (i5 who B) (by omega) hB);have v1:=f34 (trL k thr) B (i5 who B) hB;have hs:=CS k hk2 thr who B;have hsl:=vM who (k+1);have hlen:=tN k;have hth:(trL k thr).thr=1+ik thr ((k+1:Nat):Int):=rfl
 have hv:rh (trL k thr) B (i5 who B)=if(qF who (k+1):Int)<(trL k thr).thr then 44 else 0:=by unfold rh;rw[if_pos hE,if_neg (by omega),if_neg (fun h=>hbd.elim (fun h'=>h' h.1) (fun h'=>h' h.2)),hs,hsl]
 rw[hv]at v1;rw[hs]at s1;have hil:=fK (tj who (k+1));rw[hsl]at hil;generalize tj who (k+1)=L at*;generalize i5 who B=ms at*;have q:=l8 (auL k) (trL k thr).thr [] who (by omega) B ms _ 0 rfl (bt _);rw[hlen]at q;rw[show((qF who 0:Nat):Int)=0 from rfl,aw]at q;have etr:(trL k thr).sv=[.lst 2 (eX (auL k)) .no,.int .i64 (trL k thr).thr]:=rfl;rw[etr]at g22 s1 v1;generalize (trL k thr).thr=th at*;generalize qF who (k+1)=c at*;generalize auL k=au at*;unfold bS at*;rw[ah U_8]
 by_cases hc:(c:Int)<th
 ·have hc2:¬th<=(c:Int):=by omega
  rw[if_pos hc]at v1;simp only[go_sem,Q0,Q1,Q2,Q3,Q4,Q5,Q6,Q7,Q8,Q9,Qa,Qb,Qc,Qd,Qe,Qf,Qg,Qh,Qi,Qj,Qk,reduceCtorEq,reduceIte,US,g11,nX,g22,sh,g26,qI,g25,qJ,q,v1,sf,hc2,s1,nW,hil]
 ·have hc2:th<=(c:Int):=by omega
  rw[if_neg hc]at v1;simp only[go_sem,Q0,Q1,Q2,Q3,Q4,Q5,Q6,Q7,Q8,Q9,Qa,Qb,Qc,Qd,Qe,Qf,Qg,Qh,Qi,Qj,Qk,reduceCtorEq,reduceIte,US,g11,nX,g22,sh,g26,qI,g25,qJ,q,v1,sf,hc2,s1,nW,hil]
end Go.Proofs.YtkggincjigbelaaGreatDoor
