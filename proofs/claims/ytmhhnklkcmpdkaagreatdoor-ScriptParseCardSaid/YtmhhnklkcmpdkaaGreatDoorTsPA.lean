/- Contracts. No condition. -/
import Derived.Test.YtmhhnklkcmpdkaaGreatDoorTpPA
open Bool renaming false_eq_true -> az
open Int renaming cast_ofNat_Int -> dw, natCast_zero -> aA
open Go.IntKind renaming i64 -> ai
open List renaming getD_eq_getElem?_getD -> aa, getElem?_eq_getElem -> ab, getElem_mem -> aU, length_map -> aC, length_set -> cW, length_take -> av, take_of_length_le -> bh
open Nat renaming mod_lt -> s8
set_option maxRecDepth 100000
set_option maxHeartbeats 16000000
set_option linter.unusedSimpArgs false
set_option linter.unusedVariables false
namespace Go.Proofs.YtmhhnklkcmpdkaaGreatDoor
open Go.Sy
open UInt8 renaming reduceLT -> Q0, reduceLE -> Q1
open Int renaming reduceToNat -> Q2, reduceLE -> Q3, reduceLT -> Q4, reduceEq -> Q5, reduceNe -> Q6, reduceNeg -> Q7, reduceAdd -> Q8, reduceSub -> Q9, reduceMul -> Qa
open Nat renaming reducePow -> Qb, reduceDiv -> Qc, reduceMod -> Qd, reduceAdd -> Qe, reduceSub -> Qf, reduceMul -> Qg, reduceLT -> Qh, reduceLeDiff -> Qi, reduceEqDiff -> Qj, reduceBEq -> Qk
def zsv(l:List Int):d8:=l.map fun z=> [SV.int .i64 z]
theorem PI(l:List Int):(zsv l).length=l.length:=aC ..
theorem PJ(l:List Int)(i:Nat)(h:i<l.length):(zsv l).getD i []=[.int .i64 (l.getD i 0)]:=by simp[zsv,aa,h]
theorem nxt(a:d9)(b n:Nat)(hn:0<n):bz a b n<n:=by
 unfold bz;split
 ·exact s8 _ hn
 ·exact hn
theorem Cb(a b:Int)(h:1<=b):0<=v8 a b/\v8 a b<b:=by
 unfold v8;rw[if_neg (by omega)];have z:=Int.tmod_lt_of_pos a (show 0<b by omega)
 have y: -b<a.tmod b:=by have:=Int.tmod_lt_of_pos (-a) (show 0<b by omega);rw[Int.neg_tmod]at this;omega
 split<;>omega
def st5(raw:d9)(y:List Int)(h:d9)(cut:Int)(P B:d9)(i j:Nat):CSt:=
 ⟨[(0,.str raw),(2,.lst 1 (zsv y) .no),(3,.byt h .no),(4,.int .i64 cut),(13,.psl 135 1 0 B.length none),(14,.ptr 38100 0),(15,.int .i64 i)],[(135,.bar B),(38100,bg P j)],[]⟩
def en5(raw:d9)(cut:Int)(P B:d9)(j:Nat):CSt:=
 ⟨[(0,.str raw),(4,.int .i64 cut),(13,.psl 135 1 0 B.length none)],[(135,.bar B),(38100,bg P j)],[]⟩
theorem s5a(raw:d9)(C:List Int)(hz:∀z∈C, -9223372036854775808<=z/\z<=9223372036854775807)(y:d9)(cut:Int)(P:d9)(hP:P.length<=4)(B:d9)(i j:Nat)(hi:i<=2)(hB:B.length<=900000):
 (∃I O,I.length=B.length/\run U (.loop rD) (st5 raw C y cut P B i j)=some (.x 0,en5 raw cut P I O))\/
 (i<2/\∃I O,I.length=B.length/\run U (.loop rD) (st5 raw C y cut P B i j)=run U (.loop rD) (st5 raw C y cut P I (i+1) O)):=by
 have hzl:=PI C
 by_cases c1:i<C.length
 ·have h:(i:Int)<(C.length:Int):=by omega
  by_cases c2:i<y.length
  ·have E:(i:Int)<(y.length:Int):=by omega
   by_cases c3:i<2
   ·have F:(i:Int)<2:=by omega
    by_cases c4:0<B.length
    ·have H:(0:Int)<(B.length:Int):=by omega
     have Z:=cX i (by omega);have W:=PJ C i c1;obtain⟨z1,z2⟩:=hz (C.getD i 0) (by rw[aa,ab c1];exact aU c1);have g16:=up (f16 (C.getD i 0) (B.length:Int) z1 z2 (by omega));obtain⟨a1,a6⟩:=Cb (C.getD i 0) (B.length:Int) (by omega);obtain⟨m,hm⟩:∃m:Nat,v8 (C.getD i 0) (B.length:Int)=(m:Int):=⟨(v8 (C.getD i 0) (B.length:Int)).toNat,by omega⟩;rw[hm]at g16;have J:m<B.length:=by omega
     have L:(m:Int)<(B.length:Int):=by omega
     have d1:=up (f15 P j 2 (by decide) (by omega));have q1:=nxt P j 2 (by decide);have d2:=up (f15 P (aV P j) 22 (by decide) (by omega));have q2:=nxt P (aV P j) 22 (by decide);rw[show((2:Nat):Int)=2 from rfl]at d1;rw[show((22:Nat):Int)=22 from rfl]at d2;generalize C.getD i 0=z at*;generalize hx:y.getD i 0=x at*
     clear hz
     by_cases hk:bz P j 2=1
     ·rw[hk]at d1
      refine .inr ⟨c3,B.set m (cs0.getD (bz P (aV P j) 22) 0),aV P (aV P j),cW, ?_⟩;generalize bz P (aV P j) 22=v at*;generalize T:aV P (aV P j)=j2 at*;have hv:v<cs0.length:=q2;have Q:(v:Int)<(cs0.length:Int):=by omega
      unfold st5 bg at*;rw[aj];simp only[go_sem,Q0,Q1,Q2,Q3,Q4,Q5,Q6,Q7,Q8,Q9,Qa,Qb,Qc,Qd,Qe,Qf,Qg,Qh,Qi,Qj,Qk,reduceCtorEq,reduceIte,US,hzl,W,c1,h,c2,E,c3,F,c4,H,Z,g16,ZJ,d1,fW,d2,hx,J,L,hv,Q,cW]
     ·have h0:bz P j 2=0:=by omega
      rw[h0]at d1;refine .inr ⟨c3,B.set m x,aV P j,cW, ?_⟩;generalize T:aV P j=j2 at*;unfold st5 bg at*;rw[aj];simp only[go_sem,Q0,Q1,Q2,Q3,Q4,Q5,Q6,Q7,Q8,Q9,Qa,Qb,Qc,Qd,Qe,Qf,Qg,Qh,Qi,Qj,Qk,reduceCtorEq,reduceIte,US,hzl,W,c1,h,c2,E,c3,F,c4,H,Z,g16,ZJ,d1,fW,hx,J,L,cW]
    ·have H:¬(0:Int)<(B.length:Int):=by omega
     refine .inl ⟨B,j,rfl, ?_⟩;unfold st5 en5 bg;rw[aj];simp only[go_sem,Q0,Q1,Q2,Q3,Q4,Q5,Q6,Q7,Q8,Q9,Qa,Qb,Qc,Qd,Qe,Qf,Qg,Qh,Qi,Qj,Qk,reduceCtorEq,reduceIte,US,hzl,c1,h,c2,E,c3,F,c4,H]
   ·have F:¬(i:Int)<2:=by omega
    refine .inl ⟨B,j,rfl, ?_⟩;unfold st5 en5 bg;rw[aj];simp only[go_sem,Q0,Q1,Q2,Q3,Q4,Q5,Q6,Q7,Q8,Q9,Qa,Qb,Qc,Qd,Qe,Qf,Qg,Qh,Qi,Qj,Qk,reduceCtorEq,reduceIte,US,hzl,c1,h,c2,E,c3,F]
  ·have E:¬(i:Int)<(y.length:Int):=by omega
   refine .inl ⟨B,j,rfl, ?_⟩;unfold st5 en5 bg;rw[aj];simp only[go_sem,Q0,Q1,Q2,Q3,Q4,Q5,Q6,Q7,Q8,Q9,Qa,Qb,Qc,Qd,Qe,Qf,Qg,Qh,Qi,Qj,Qk,reduceCtorEq,reduceIte,US,hzl,c1,h,c2,E]
 ·have h:¬(i:Int)<(C.length:Int):=by omega
  refine .inl ⟨B,j,rfl, ?_⟩;unfold st5 en5 bg;rw[aj];simp only[go_sem,Q0,Q1,Q2,Q3,Q4,Q5,Q6,Q7,Q8,Q9,Qa,Qb,Qc,Qd,Qe,Qf,Qg,Qh,Qi,Qj,Qk,reduceCtorEq,reduceIte,US,hzl,c1,h]
theorem l5a(raw:d9)(C:List Int)(hz:∀z∈C, -9223372036854775808<=z/\z<=9223372036854775807)(y:d9)(cut:Int)(P:d9)(L:P.length<=4):∀(f i j:Nat)(B:d9),2-i<=f->i<=2->B.length<=900000->
 ∃E H,E.length=B.length/\run U (.loop rD) (st5 raw C y cut P B i j)=some (.x 0,en5 raw cut P E H):=by
 intro f;induction f with
 |zero=>
  intro i j B Z I J;rcases s5a raw C hz y cut P L B i j I J with h|⟨h,_⟩
  ·exact h
  ·omega
 |succ f Q=>
  intro i j B Z I J;rcases s5a raw C hz y cut P L B i j I J with h|⟨h,E,H,hl,he⟩
  ·exact h
  ·obtain⟨T,W,O,F⟩:=Q (i+1) H E (by omega) (by omega) (by omega)
   exact⟨T,W,by omega,by rw[he,F]⟩
def st6(a b:d9)(B P:d9)(j i:Int):CSt:=
 ⟨[(93,.lst 1 [[.str a],[.str b]] .clip),(94,.int .i64 2),(95,.int .i64 i)],[(135,.bar B),(38100,.rc [.byt P .no,.int .i64 j])],[]⟩
theorem xiX(s:d9)(I:s.length<=900000):
 (∃l:List Stp,l.length<=1000000/\call U 12 [.str s] [] 0=some ⟨.tup [.lst 7 (dO l) .no,.int .i64 (l.length:Nat),.int .i64 0],[],[]⟩/\call U 17 [.str s] [] 0=some ⟨.tup [.lst 7 (dO l) .no,.int .i64 (l.length:Nat),.int .i64 0],[],[]⟩
  /\call U 13 [.lst 7 (dO l) .no,.lst 7 (dO l) .no] [] 0=some ⟨.bool true,[],[]⟩/\call U 10 [.lst 7 (dO l) .no] [] 0=some ⟨.str s,[],[]⟩)\/
 ∃n:Nat,call U 12 [.str s] [] 0=some ⟨.tup [.lst 7 [] .no,.int .i64 n,.int .i64 1],[],[]⟩/\call U 17 [.str s] [] 0=some ⟨.tup [.lst 7 [] .no,.int .i64 n,.int .i64 1],[],[]⟩
  /\call U 13 [.lst 7 [] .no,.lst 7 [] .no] [] 0=some ⟨.bool true,[],[]⟩:=by
 have y:=up (f12 xey s I);have g17:=up (f17 xmF s I);cases h:(prT okC bK s.length s).2 with
 |true=>obtain⟨e,H⟩:=FA h;rw[h]at y g17;simp only[if_true]at y g17;generalize (prT okC bK s.length s).1=l at*;have F:=tT l;rw[e]at F;have C:=up (f13 l (by omega) (fun x E=>smW (H x E)));have z:=f10 (l:=l) (by omega);rw[vc H,if_pos rfl,e]at z;exact .inl ⟨l,by omega,y,g17,C,z⟩
 |false=>rw[h]at y g17;simp only[az,if_false]at y g17;exact .inr ⟨_,y,g17,up (f13 [] (by decide) (fun x E=>by cases E))⟩
theorem YR:ai.wrap 1=1:=by decide
theorem YQ:ai.wrap 2=2:=by decide
theorem xlG(a b B P:d9)(j:Int)(C:a.length<=900000):run U (.loop pA) (st6 a b B P j 0)=run U (.loop pA) (st6 a b B P j 1):=by
 unfold st6;rw[aj];rcases xiX a C with⟨l,E,h,g17,y,z⟩|⟨n,h,g17,y⟩
 ·generalize dO l=L at*
  simp only[go_sem,Q0,Q1,Q2,Q3,Q4,Q5,Q6,Q7,Q8,Q9,Qa,Qb,Qc,Qd,Qe,Qf,Qg,Qh,Qi,Qj,Qk,reduceCtorEq,reduceIte,US,h,EF,g17,ZH,y,EE,z,Od,YR,YQ]
 ·simp only[go_sem,Q0,Q1,Q2,Q3,Q4,Q5,Q6,Q7,Q8,Q9,Qa,Qb,Qc,Qd,Qe,Qf,Qg,Qh,Qi,Qj,Qk,reduceCtorEq,reduceIte,US,h,EF,g17,ZH,y,EE,YR,YQ]
theorem xlF(a b B P:d9)(j:Int)(C:b.length<=900000):run U (.loop pA) (st6 a b B P j 1)=some (.x 2,⟨[],[(135,.bar B),(38100,.rc [.byt P .no,.int .i64 j])],[]⟩):=by
 have e:run U (.loop pA) (st6 a b B P j 1)=run U (.loop pA) (st6 a b B P j 2):=by
  unfold st6;rw[aj];rcases xiX b C with⟨l,E,h,g17,y,z⟩|⟨n,h,g17,y⟩
  ·generalize dO l=L at*
   simp only[go_sem,Q0,Q1,Q2,Q3,Q4,Q5,Q6,Q7,Q8,Q9,Qa,Qb,Qc,Qd,Qe,Qf,Qg,Qh,Qi,Qj,Qk,reduceCtorEq,reduceIte,US,h,EF,g17,ZH,y,EE,z,Od,YR,YQ]
  ·simp only[go_sem,Q0,Q1,Q2,Q3,Q4,Q5,Q6,Q7,Q8,Q9,Qa,Qb,Qc,Qd,Qe,Qf,Qg,Qh,Qi,Qj,Qk,reduceCtorEq,reduceIte,US,h,EF,g17,ZH,y,EE,YR,YQ]
 rw[e];unfold st6;rw[aj];simp only[go_sem,Q0,Q1,Q2,Q3,Q4,Q5,Q6,Q7,Q8,Q9,Qa,Qb,Qc,Qd,Qe,Qf,Qg,Qh,Qi,Qj,Qk,reduceCtorEq,reduceIte,US]
theorem f5(raw h:d9)(zs:List Int)(hz:∀z∈zs, -9223372036854775808<=z/\z<=9223372036854775807)(I:d9)(cut:Int)(k1: -9223372036854775808<=cut)(k2:cut<=9223372036854775807)(pick:d9):
 call U 5 [.str raw,.byt h .no,.lst 1 (zs.map fun z=> [SV.int .i64 z]) .no,.byt I .no,.int .i64 cut,.byt pick .no] [] 0=some ⟨.bool true,[],[]⟩:=by
 change call U 5 [.str raw,.byt h .no,.lst 1 (zsv zs) .no,.byt I .no,.int .i64 cut,.byt pick .no] [] 0=_;obtain⟨l,h1,h2,O⟩:=yv h 6 (by decide) false;replace O:=up O;have hW:∀x∈l,Wrt okC x:=fun x hx=>(h2 x hx).wr rfl
 have C:=up (f11 l (by omega));rw[vc hW,if_pos rfl]at C;have hX:=YM hW;generalize fi bK l=X at*;have a1:X.length<=900000:=by omega
 generalize dO l=L at*;have y:=up (f14 pick 4);have g7:=f7;obtain⟨B,j',hB,J⟩:=l5a (raw.take 400) zs hz I cut (pick.take 4) (by rw[av];omega) 2 0 0 X (by omega) (by omega) a1
 rw[show((6:Nat):Int)=6 from rfl]at O;rw[show((4:Nat):Int)=4 from rfl]at y;unfold st5 en5 at J;unfold bg at J y;simp only[aA,dw]at J y
 have T:cut.fdiv (2^min 1 64)=cut/2:=by rw[show(2:Int)^min 1 64=2 from by decide,Int.fdiv_eq_ediv_of_nonneg _ (by decide)]
 have hw:ai.wrap ((X.length:Int)+1)=X.length+1:=w64 (by omega) (by omega);have g16:=up (f16 (cut/2) ((X.length:Int)+1) (by omega) (by omega) (by omega));obtain⟨a6,a7⟩:=Cb (cut/2) ((X.length:Int)+1) (by omega);obtain⟨m,hm⟩:∃m:Nat,v8 (cut/2) ((X.length:Int)+1)=(m:Int):=⟨(v8 (cut/2) ((X.length:Int)+1)).toNat,by omega⟩;rw[hm]at g16;have W:(m:Int)<=X.length:=by omega
 have H:m<=X.length:=by omega
 have hR:(raw.take 400).length<=900000:=by rw[av];omega
 have hT:B.take X.length=B:=bh (by omega);have lA:=fun s (hs:s.length<=900000)=>(xlG (raw.take 400) s B (pick.take 4) j' hR).trans (xlF (raw.take 400) s B (pick.take 4) j' hs)
 have lB:=lA B (by omega);have lC:=lA (B.take m) (by rw[av];omega);unfold st6 at lB lC;rw[am U_5]
 by_cases hr:400<raw.length
 ·have E:(400:Int)<(raw.length:Int):=by omega
  have Z:400<=raw.length:=by omega
  have F:(400:Int)<=(raw.length:Int):=by omega
  by_cases Q:b9 .and .i64 cut 1=1
  ·simp only[go_sem,Q0,Q1,Q2,Q3,Q4,Q5,Q6,Q7,Q8,Q9,Qa,Qb,Qc,Qd,Qe,Qf,Qg,Qh,Qi,Qj,Qk,reduceCtorEq,reduceIte,US,g7,S_7,O,S_9,C,S3,y,Oc,E,Z,F,J,Q,T,hw,g16,ZJ,hB,W,H,Nat.sub_zero,lC]
  ·simp only[go_sem,Q0,Q1,Q2,Q3,Q4,Q5,Q6,Q7,Q8,Q9,Qa,Qb,Qc,Qd,Qe,Qf,Qg,Qh,Qi,Qj,Qk,reduceCtorEq,reduceIte,US,g7,S_7,O,S_9,C,S3,y,Oc,E,Z,F,J,Q,hB,hT,lB]
 ·have E:¬(400:Int)<(raw.length:Int):=by omega
  rw[bh (show raw.length<=400 by omega)]at*
  by_cases Q:b9 .and .i64 cut 1=1
  ·simp only[go_sem,Q0,Q1,Q2,Q3,Q4,Q5,Q6,Q7,Q8,Q9,Qa,Qb,Qc,Qd,Qe,Qf,Qg,Qh,Qi,Qj,Qk,reduceCtorEq,reduceIte,US,g7,S_7,O,S_9,C,S3,y,Oc,E,J,Q,T,hw,g16,ZJ,hB,W,H,Nat.sub_zero,lC]
  ·simp only[go_sem,Q0,Q1,Q2,Q3,Q4,Q5,Q6,Q7,Q8,Q9,Qa,Qb,Qc,Qd,Qe,Qf,Qg,Qh,Qi,Qj,Qk,reduceCtorEq,reduceIte,US,g7,S_7,O,S_9,C,S3,y,Oc,E,J,Q,hB,hT,lB]
end Go.Proofs.YtmhhnklkcmpdkaaGreatDoor
