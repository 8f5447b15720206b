/- Contracts. No condition. -/
import Derived.Test.YtdafipacemgcoaaGreatDoorTbMD
import Derived.Test.YtdafipacemgcoaaGreatDoorTcMD
import Derived.Test.YtdafipacemgcoaaGreatDoorTdMD
open Bool renaming false_or -> eu, true_or -> m7
open Int renaming cast_ofNat_Int -> bX, natCast_zero -> aH
open Go.IntKind renaming i64 -> aj, u64 -> bd
open List renaming all_cons -> iH, append_assoc -> aZ, append_nil -> bK, drop -> lm, drop_eq_getElem_cons -> aU, drop_length -> bh, drop_zero -> bi, flatMap_cons -> dZ, getD_eq_getElem?_getD -> aa, getElem?_eq_getElem -> af, getElem_mem -> bo, length_append -> ah, length_cons -> av, length_eq_zero_iff -> bP, length_map -> aQ, length_singleton -> aL, length_take -> aD, map_cons -> aO, mem_append -> ak, mem_singleton -> aN, nil_append -> bw, replicate -> au, singleton_append -> dG, take_length -> bt
set_option maxRecDepth 100000
set_option maxHeartbeats 16000000
set_option linter.unusedSimpArgs false
set_option linter.unusedVariables false
namespace Go.Proofs.YtdafipacemgcoaaGreatDoor
open Go.Sy
open UInt8 renaming reduceLT -> Q0, reduceLE -> Q1
open Int renaming reduceToNat -> Q2, reduceLE -> Q3, reduceLT -> Q4, reduceEq -> Q5, reduceNe -> Q6, reduceNeg -> Q7, reduceAdd -> Q8, reduceSub -> Q9, reduceMul -> Qa
open Nat renaming reducePow -> Qb, reduceDiv -> Qc, reduceMod -> Qd, reduceAdd -> Qe, reduceSub -> Qf, reduceMul -> Qg, reduceLT -> Qh, reduceLeDiff -> Qi, reduceEqDiff -> Qj, reduceBEq -> Qk
structure Img where
 role:Int
 name:List UInt8
 ver:Int
 pay:List UInt8
def Img.sv(x:Img):t7:=[.int .i64 x.role,.str x.name,.int .i64 x.ver,.byt x.pay .no]
theorem l95(s:t6)(S:s.length<=1000000000000):∀(n i:Nat),s.length-i=n->i<=s.length->
 run T (.loop Na) ⟨[(0,.str s),(3,.int .i64 i)],[],[]⟩=if(s.drop i).all Pr.okc=true then some (.x 0,⟨[],[],[]⟩)else some (.r,⟨[(2,.bool false)],[],[]⟩):=by
 intro n;induction n with
 |zero=>
  intro i L O;have hi:i=s.length:=by omega
  subst hi;rw[al,bh];simp only[go_sem,Q0,Q1,Q2,Q3,Q4,Q5,Q6,Q7,Q8,Q9,Qa,Qb,Qc,Qd,Qe,Qf,Qg,Qh,Qi,Qj,Qk,reduceCtorEq,reduceIte]
 |succ n Q=>
  intro i L O;have hi:i<s.length:=by omega
  have C:=cA i (by omega);have z:=Q (i+1) (by omega) (by omega);rw[al,dp s i hi,iH];unfold Pr.okc at z ⊢;generalize B:s.getD i 0=c at*;generalize List.all (lm (i+1) s) _=q at*
  by_cases H:c<97
  ·by_cases F:c<48
   ·by_cases E:c=45
    ·subst E;simp only[go_sem,Q0,Q1,Q2,Q3,Q4,Q5,Q6,Q7,Q8,Q9,Qa,Qb,Qc,Qd,Qe,Qf,Qg,Qh,Qi,Qj,Qk,reduceCtorEq,reduceIte,hi,B,C,z]
    ·simp only[go_sem,Q0,Q1,Q2,Q3,Q4,Q5,Q6,Q7,Q8,Q9,Qa,Qb,Qc,Qd,Qe,Qf,Qg,Qh,Qi,Qj,Qk,reduceCtorEq,reduceIte,hi,B,C,H,F,E,z]
   ·by_cases I:57<c
    ·by_cases E:c=45
     ·subst E;simp only[go_sem,Q0,Q1,Q2,Q3,Q4,Q5,Q6,Q7,Q8,Q9,Qa,Qb,Qc,Qd,Qe,Qf,Qg,Qh,Qi,Qj,Qk,reduceCtorEq,reduceIte,hi,B,C,z]
     ·simp only[go_sem,Q0,Q1,Q2,Q3,Q4,Q5,Q6,Q7,Q8,Q9,Qa,Qb,Qc,Qd,Qe,Qf,Qg,Qh,Qi,Qj,Qk,reduceCtorEq,reduceIte,hi,B,C,H,F,I,E,z]
    ·simp only[go_sem,Q0,Q1,Q2,Q3,Q4,Q5,Q6,Q7,Q8,Q9,Qa,Qb,Qc,Qd,Qe,Qf,Qg,Qh,Qi,Qj,Qk,reduceCtorEq,reduceIte,hi,B,C,H,F,I,z]
  ·by_cases J:122<c
   ·by_cases F:c<48
    ·exact absurd F (by intro h;have:=UInt8.lt_trans J h;revert this;decide)
    ·by_cases I:57<c
     ·by_cases E:c=45
      ·subst E;simp only[go_sem,Q0,Q1,Q2,Q3,Q4,Q5,Q6,Q7,Q8,Q9,Qa,Qb,Qc,Qd,Qe,Qf,Qg,Qh,Qi,Qj,Qk,reduceCtorEq,reduceIte,hi,B,C,z]
      ·simp only[go_sem,Q0,Q1,Q2,Q3,Q4,Q5,Q6,Q7,Q8,Q9,Qa,Qb,Qc,Qd,Qe,Qf,Qg,Qh,Qi,Qj,Qk,reduceCtorEq,reduceIte,hi,B,C,H,J,F,I,E,z]
     ·simp only[go_sem,Q0,Q1,Q2,Q3,Q4,Q5,Q6,Q7,Q8,Q9,Qa,Qb,Qc,Qd,Qe,Qf,Qg,Qh,Qi,Qj,Qk,reduceCtorEq,reduceIte,hi,B,C,H,J,F,I,z]
   ·simp only[go_sem,Q0,Q1,Q2,Q3,Q4,Q5,Q6,Q7,Q8,Q9,Qa,Qb,Qc,Qd,Qe,Qf,Qg,Qh,Qi,Qj,Qk,reduceCtorEq,reduceIte,hi,B,C,H,J,z]
theorem f95(s:t6)(F:s.length<=1000000000000):call T 95 [.str s] [] 0=some ⟨.bool (Pr.nameB s),[],[]⟩:=by
 have h:=l95 s F _ 0 rfl (by omega);simp only[aH,bi]at h;rw[az xky];unfold Pr.nameB
 by_cases C:s.length<1
 ·have z:(s.length:Int)<1:=by omega
  simp only[go_sem,Q0,Q1,Q2,Q3,Q4,Q5,Q6,Q7,Q8,Q9,Qa,Qb,Qc,Qd,Qe,Qf,Qg,Qh,Qi,Qj,Qk,reduceCtorEq,reduceIte,C,z]
 ·have z:¬(s.length:Int)<1:=by omega
  by_cases E:12<s.length
  ·have B:(12:Int)<s.length:=by omega
   simp only[go_sem,Q0,Q1,Q2,Q3,Q4,Q5,Q6,Q7,Q8,Q9,Qa,Qb,Qc,Qd,Qe,Qf,Qg,Qh,Qi,Qj,Qk,reduceCtorEq,reduceIte,C,z,E,B]
  ·have B:¬(12:Int)<s.length:=by omega
   cases hq:s.all Pr.okc with
   |true=>rw[if_pos hq]at h;simp only[go_sem,Q0,Q1,Q2,Q3,Q4,Q5,Q6,Q7,Q8,Q9,Qa,Qb,Qc,Qd,Qe,Qf,Qg,Qh,Qi,Qj,Qk,reduceCtorEq,reduceIte,C,z,E,B,h,hq]
   |false=>rw[if_neg (by rw[hq];simp)]at h;simp only[go_sem,Q0,Q1,Q2,Q3,Q4,Q5,Q6,Q7,Q8,Q9,Qa,Qb,Qc,Qd,Qe,Qf,Qg,Qh,Qi,Qj,Qk,reduceCtorEq,reduceIte,C,z,E,B,h,hq]
def lnF:t6->List t6->t6->Option (List t6×t6)
 |[],o,l=>some (o,l)
 |c::r,o,l=>if c=10 then(if(l.length:Int)=0 then none else if(4:Int)<=o.length then none else lnF r (o++ [l]) [])else if c<32 then none else if 126<c then none else lnF r o (l++ [c])
def dN(p:t6):List t6:=match lnF p [] []with
 |some (o,l)=>if(0:Int)<l.length then []else o
 |none=> []
theorem fK(l:List t6):(bls l).length=l.length:=aQ ..
theorem Cq(l:List t6)(d:t6):bls (l++ [d])=bls l++ [[.byt d .no]]:=by simp[bls]
theorem l79(H:Int)(F:t6)(I:Int)(p:t6)(Z:p.length<=1000000000000):∀(n i:Nat)(o:List t6)(l:t6),p.length-i=n->i<=p.length->l.length<=i->o.length<=4->
 run T (.loop xk) ⟨[(1,.ptr 101 0),(3,.lst 1 (bls o) (.id 103)),(4,.byt l (.id 104)),(5,.int .i64 i)],[(101,.rc [.int .i64 H,.str F,.int .i64 I,.byt p .no])],[103,104]⟩=
 match lnF (p.drop i) o l with
 |some (o',l')=>some (.x 0,⟨[(3,.lst 1 (bls o') (.id 103)),(4,.byt l' (.id 104))],[(101,.rc [.int .i64 H,.str F,.int .i64 I,.byt p .no])],[103,104]⟩)
 |none=>some (.r,⟨[(2,.lst 1 [] .clip)],[(101,.rc [.int .i64 H,.str F,.int .i64 I,.byt p .no])],[103,104]⟩):=by
 intro n;induction n with
 |zero=>
  intro i o l S W U Q;have hi:i=p.length:=by omega
  subst hi;rw[al,bh];simp only[go_sem,Q0,Q1,Q2,Q3,Q4,Q5,Q6,Q7,Q8,Q9,Qa,Qb,Qc,Qd,Qe,Qf,Qg,Qh,Qi,Qj,Qk,reduceCtorEq,reduceIte,lnF]
 |succ n L=>
  intro i o l S W U Q;have hi:i<p.length:=by omega
  have J:=cA i (by omega);have O:=fK o;rw[al,dp p i hi];unfold lnF;generalize B:p.getD i 0=c at*;have c1:l.length+1<=140737488355328:=by omega
  have c2:(o.length+1)*24<=140737488355328:=by omega
  by_cases E:c=10
  ·subst E
   by_cases z:(l.length:Int)=0
   ·simp only[go_sem,Q0,Q1,Q2,Q3,Q4,Q5,Q6,Q7,Q8,Q9,Qa,Qb,Qc,Qd,Qe,Qf,Qg,Qh,Qi,Qj,Qk,reduceCtorEq,reduceIte,hi,B,z]
   ·by_cases C:(4:Int)<=o.length
    ·simp only[go_sem,Q0,Q1,Q2,Q3,Q4,Q5,Q6,Q7,Q8,Q9,Qa,Qb,Qc,Qd,Qe,Qf,Qg,Qh,Qi,Qj,Qk,reduceCtorEq,reduceIte,hi,B,z,C,O]
    ·have h:=L (i+1) (o++ [l]) [] (by omega) (by omega) (by simp) (by rw[ah,aL];omega)
     rw[Cq]at h;simp only[go_sem,Q0,Q1,Q2,Q3,Q4,Q5,Q6,Q7,Q8,Q9,Qa,Qb,Qc,Qd,Qe,Qf,Qg,Qh,Qi,Qj,Qk,reduceCtorEq,reduceIte,hi,B,J,z,C,O,c2,h]
  ·have h:=L (i+1) o (l++ [c]) (by omega) (by omega) (by rw[ah,aL];omega) Q
   by_cases z:c<32
   ·simp only[go_sem,Q0,Q1,Q2,Q3,Q4,Q5,Q6,Q7,Q8,Q9,Qa,Qb,Qc,Qd,Qe,Qf,Qg,Qh,Qi,Qj,Qk,reduceCtorEq,reduceIte,hi,B,E,z]
   ·by_cases C:126<c
    ·simp only[go_sem,Q0,Q1,Q2,Q3,Q4,Q5,Q6,Q7,Q8,Q9,Qa,Qb,Qc,Qd,Qe,Qf,Qg,Qh,Qi,Qj,Qk,reduceCtorEq,reduceIte,hi,B,E,z,C]
    ·simp only[go_sem,Q0,Q1,Q2,Q3,Q4,Q5,Q6,Q7,Q8,Q9,Qa,Qb,Qc,Qd,Qe,Qf,Qg,Qh,Qi,Qj,Qk,reduceCtorEq,reduceIte,hi,B,J,E,z,C,c1,h]
theorem f79(x:Img)(F:x.pay.length<=1000000000000):call T 79 [.agg x.sv] [] 0=some ⟨.lst 1 (bls (dN x.pay)) .no,[],[]⟩:=by
 obtain⟨E,C,H,p⟩:=x;have h:=l79 E C H p F _ 0 [] [] rfl (by omega) (by simp) (by simp);simp only[aH,bi]at h;have z:bls []=[]:=rfl;rw[z]at h;rw[az xkM];unfold dN Img.sv;cases hq:lnF p [] []with
 |none=>rw[hq]at h;simp only[go_sem,Q0,Q1,Q2,Q3,Q4,Q5,Q6,Q7,Q8,Q9,Qa,Qb,Qc,Qd,Qe,Qf,Qg,Qh,Qi,Qj,Qk,reduceCtorEq,reduceIte,h,hq,z]
 |some q=>
  obtain⟨o,l⟩:=q;rw[hq]at h
  by_cases B:(0:Int)<l.length
  ·simp only[go_sem,Q0,Q1,Q2,Q3,Q4,Q5,Q6,Q7,Q8,Q9,Qa,Qb,Qc,Qd,Qe,Qf,Qg,Qh,Qi,Qj,Qk,reduceCtorEq,reduceIte,h,hq,z,B]
  ·simp only[go_sem,Q0,Q1,Q2,Q3,Q4,Q5,Q6,Q7,Q8,Q9,Qa,Qb,Qc,Qd,Qe,Qf,Qg,Qh,Qi,Qj,Qk,reduceCtorEq,reduceIte,h,hq,z,B]
def dD(x:Img):Int:=
 if x.role<1 then 1 else if 4<x.role then 1 else if x.ver<0 then 1 else if 1000000<x.ver then 1 else if Pr.nameB x.name=false then 43 else if(64:Int)<x.pay.length then 4 else if x.role=4 then(if((dN x.pay).length:Int)=0 then 40 else 0)else 0
theorem f81(x:Img)(hn:x.name.length<=1000000000000)(S:x.pay.length<=1000000000000):call T 81 [.agg x.sv] [] 0=some ⟨.int .i64 (dD x),[],[]⟩:=by
 have z:=f95 x.name hn;have H:=f79 x S;obtain⟨I,U,J,p⟩:=x;have O:=fK (dN p);simp only[Img.sv]at z H ⊢;rw[az xkK];unfold dD
 by_cases h:I<1
 ·simp only[go_sem,Q0,Q1,Q2,Q3,Q4,Q5,Q6,Q7,Q8,Q9,Qa,Qb,Qc,Qd,Qe,Qf,Qg,Qh,Qi,Qj,Qk,reduceCtorEq,reduceIte,h]
 by_cases B:4<I
 ·simp only[go_sem,Q0,Q1,Q2,Q3,Q4,Q5,Q6,Q7,Q8,Q9,Qa,Qb,Qc,Qd,Qe,Qf,Qg,Qh,Qi,Qj,Qk,reduceCtorEq,reduceIte,h,B]
 by_cases C:J<0
 ·simp only[go_sem,Q0,Q1,Q2,Q3,Q4,Q5,Q6,Q7,Q8,Q9,Qa,Qb,Qc,Qd,Qe,Qf,Qg,Qh,Qi,Qj,Qk,reduceCtorEq,reduceIte,h,B,C]
 by_cases E:1000000<J
 ·simp only[go_sem,Q0,Q1,Q2,Q3,Q4,Q5,Q6,Q7,Q8,Q9,Qa,Qb,Qc,Qd,Qe,Qf,Qg,Qh,Qi,Qj,Qk,reduceCtorEq,reduceIte,h,B,C,E]
 cases a5:Pr.nameB U with
 |false=>rw[a5]at z;simp only[go_sem,Q0,Q1,Q2,Q3,Q4,Q5,Q6,Q7,Q8,Q9,Qa,Qb,Qc,Qd,Qe,Qf,Qg,Qh,Qi,Qj,Qk,reduceCtorEq,reduceIte,h,B,C,E,a5,z,QX]
 |true=>
  rw[a5]at z
  by_cases F:(64:Int)<p.length
  ·simp only[go_sem,Q0,Q1,Q2,Q3,Q4,Q5,Q6,Q7,Q8,Q9,Qa,Qb,Qc,Qd,Qe,Qf,Qg,Qh,Qi,Qj,Qk,reduceCtorEq,reduceIte,h,B,C,E,a5,z,QX,F]
  by_cases L:I=4
  ·subst L
   by_cases Q:((dN p).length:Int)=0
   ·simp only[go_sem,Q0,Q1,Q2,Q3,Q4,Q5,Q6,Q7,Q8,Q9,Qa,Qb,Qc,Qd,Qe,Qf,Qg,Qh,Qi,Qj,Qk,reduceCtorEq,reduceIte,h,B,C,E,a5,z,QX,F,H,xdy,O,Q]
   ·simp only[go_sem,Q0,Q1,Q2,Q3,Q4,Q5,Q6,Q7,Q8,Q9,Qa,Qb,Qc,Qd,Qe,Qf,Qg,Qh,Qi,Qj,Qk,reduceCtorEq,reduceIte,h,B,C,E,a5,z,QX,F,H,xdy,O,Q]
  ·simp only[go_sem,Q0,Q1,Q2,Q3,Q4,Q5,Q6,Q7,Q8,Q9,Qa,Qb,Qc,Qd,Qe,Qf,Qg,Qh,Qi,Qj,Qk,reduceCtorEq,reduceIte,h,B,C,E,a5,z,QX,F,L]
def dl(x:Img):t6:=if dD x=0 then kU (kU (be 1 (bd.wrap x.role)++be 4 (bd.wrap x.ver)) x.name) x.pay else []
theorem dy(B X:t6):(kU B X).length=B.length+2+min 65535 X.length:=by unfold kU;rw[ah,ah,eg,aD]
theorem jc(x:Img)(hn:x.name.length<=1000000)(h:x.pay.length<=1000000):(dl x).length<=10000000:=by
 unfold dl;split
 ·rw[dy,dy,ah,eg,eg];omega
 ·simp
theorem f33(x:Img)(hn:x.name.length<=1000000)(J:x.pay.length<=1000000):call T 33 [.agg x.sv] [] 0=some ⟨.byt (dl x) .no,[],[]⟩:=by
 have g0:=f81 x (by omega) (by omega);have z:=f82 [] 1 x.role (by omega) (by omega) (by simp);have B:=f82 (be 1 (bd.wrap x.role)) 4 x.ver (by omega) (by omega) (by rw[eg];omega);have C:=f83 (be 1 (bd.wrap x.role)++be 4 (bd.wrap x.ver)) x.name (by rw[ah,eg,eg];omega) (by omega);have I:=f83 (kU (be 1 (bd.wrap x.role)++be 4 (bd.wrap x.ver)) x.name) x.pay (by rw[dy,ah,eg,eg];omega) (by omega);simp only[bX,bw]at z B;obtain⟨E,F,H,p⟩:=x;simp only[Img.sv]at*;rw[az xld];unfold dl
 by_cases h:dD ⟨E,F,H,p⟩=0
 ·rw[h]at g0
  simp only[go_sem,Q0,Q1,Q2,Q3,Q4,Q5,Q6,Q7,Q8,Q9,Qa,Qb,Qc,Qd,Qe,Qf,Qg,Qh,Qi,Qj,Qk,reduceCtorEq,reduceIte,g0,wN,z,xdx,B,C,xlt,I,h]
 ·simp only[go_sem,Q0,Q1,Q2,Q3,Q4,Q5,Q6,Q7,Q8,Q9,Qa,Qb,Qc,Qd,Qe,Qf,Qg,Qh,Qi,Qj,Qk,reduceCtorEq,reduceIte,g0,wN,h]
def oa(role:Int):Int:=if role=1 then 0 else if role=2 then 4 else if role=3 then 8 else if role=4 then 9 else-1
theorem f55(role:Int):call T 55 [.int .i64 role] [] 0=some ⟨.int .i64 (oa role),[],[]⟩:=by
 rw[az xkX];unfold oa
 by_cases h:role=1
 ·subst h;simp only[go_sem,Q0,Q1,Q2,Q3,Q4,Q5,Q6,Q7,Q8,Q9,Qa,Qb,Qc,Qd,Qe,Qf,Qg,Qh,Qi,Qj,Qk,reduceCtorEq,reduceIte]
 by_cases B:role=2
 ·subst B;simp only[go_sem,Q0,Q1,Q2,Q3,Q4,Q5,Q6,Q7,Q8,Q9,Qa,Qb,Qc,Qd,Qe,Qf,Qg,Qh,Qi,Qj,Qk,reduceCtorEq,reduceIte]
 by_cases C:role=3
 ·subst C;simp only[go_sem,Q0,Q1,Q2,Q3,Q4,Q5,Q6,Q7,Q8,Q9,Qa,Qb,Qc,Qd,Qe,Qf,Qg,Qh,Qi,Qj,Qk,reduceCtorEq,reduceIte]
 by_cases z:role=4
 ·subst z;simp only[go_sem,Q0,Q1,Q2,Q3,Q4,Q5,Q6,Q7,Q8,Q9,Qa,Qb,Qc,Qd,Qe,Qf,Qg,Qh,Qi,Qj,Qk,reduceCtorEq,reduceIte]
 simp only[go_sem,Q0,Q1,Q2,Q3,Q4,Q5,Q6,Q7,Q8,Q9,Qa,Qb,Qc,Qd,Qe,Qf,Qg,Qh,Qi,Qj,Qk,reduceCtorEq,reduceIte,h,B,C,z]
def ly(a:Int)(b:Nat):Bool:=if b=0 then decide (a=1\/a=3)else decide (a=2\/a=3)
def vd(a:Int):Prop:=a=1\/a=2\/a=3
theorem Yu(a:Int)(h:vd a):call T 124 [.int .i64 a,.int .i64 0] [] 0=some ⟨.bool (ly a 0),[],[]⟩:=by rcases h with rfl|rfl|rfl<;>(rw[az YM];simp only[go_sem,Q0,Q1,Q2,Q3,Q4,Q5,Q6,Q7,Q8,Q9,Qa,Qb,Qc,Qd,Qe,Qf,Qg,Qh,Qi,Qj,Qk,reduceCtorEq,reduceIte];rfl)
theorem Yt(a:Int)(h:vd a):call T 124 [.int .i64 a,.int .i64 1] [] 0=some ⟨.bool (ly a 1),[],[]⟩:=by rcases h with rfl|rfl|rfl<;>(rw[az YM];simp only[go_sem,Q0,Q1,Q2,Q3,Q4,Q5,Q6,Q7,Q8,Q9,Qa,Qb,Qc,Qd,Qe,Qf,Qg,Qh,Qi,Qj,Qk,reduceCtorEq,reduceIte];rfl)
def q8(b:t6)(a:Int):List t6:=if b=[]then [[],[]]else [if ly a 0 then jx b else [],if ly a 1 then sha b else []]
theorem uS(b:t6)(a:Int):(q8 b a).length=2:=by unfold q8;split<;>rfl
theorem f125(x:Img)(a:Int)(B:vd a)(hn:x.name.length<=1000000)(F:x.pay.length<=1000000):call T 125 [.agg x.sv,.int .i64 a] [] 0=some ⟨.lst 1 (bls (q8 (dl x) a)) .no,[],[]⟩:=by
 have g0:=f33 x hn F;have Q:=jc x hn F;have C:=Yu a B;have E:=Yt a B;have J:=xid (dl x) (by omega);have H:=xic (dl x) (by omega);have k1:aj.wrap 1=1:=rfl;have k2:aj.wrap 2=2:=rfl;obtain⟨L,I,O,p⟩:=x;simp only[Img.sv]at*;generalize dl ⟨L,I,O,p⟩=b at*;rw[az xgE];unfold q8 bls
 by_cases z:b=[]
 ·subst z
  simp only[go_sem,Q0,Q1,Q2,Q3,Q4,Q5,Q6,Q7,Q8,Q9,Qa,Qb,Qc,Qd,Qe,Qf,Qg,Qh,Qi,Qj,Qk,reduceCtorEq,reduceIte,g0,sR,au]
  iterate 3
   rw[al];simp only[go_sem,Q0,Q1,Q2,Q3,Q4,Q5,Q6,Q7,Q8,Q9,Qa,Qb,Qc,Qd,Qe,Qf,Qg,Qh,Qi,Qj,Qk,reduceCtorEq,reduceIte,k1,k2,au]
 ·have h:(0:Int)<b.length:=by
   have:b.length≠0:=fun e=>z (bP.1 e)
   omega
  cases q1:ly a 0<;>cases q2:ly a 1<;>rw[q1]at C<;>rw[q2]at E<;>
  ·simp only[go_sem,Q0,Q1,Q2,Q3,Q4,Q5,Q6,Q7,Q8,Q9,Qa,Qb,Qc,Qd,Qe,Qf,Qg,Qh,Qi,Qj,Qk,reduceCtorEq,reduceIte,g0,sR,au]
   iterate 3
    rw[al];simp only[go_sem,Q0,Q1,Q2,Q3,Q4,Q5,Q6,Q7,Q8,Q9,Qa,Qb,Qc,Qd,Qe,Qf,Qg,Qh,Qi,Qj,Qk,reduceCtorEq,reduceIte,k1,k2,z,h,C,E,J,H,NY,xiG,gS,au]
def uD(name:t6)(ver:Int):t6:=name++32::dec ver.toNat
theorem f56(name:t6)(ver:Int)(hn:name.length<=1000000)(h:0<=ver)(B:ver<=1000000):call T 56 [.str name,.int .i64 ver] [] 0=some ⟨.byt (uD name ver) .no,[],[]⟩:=by
 obtain⟨v,rfl⟩:=Int.eq_ofNat_of_zero_le h;have g:=f97 v (by omega);have z:=kh 6 v (by omega);rw[az xkW];unfold uD;have c1:name.length+1<=140737488355328:=by omega
 have c2:name.length+1+(dec v).length<=140737488355328:=by omega
 simp only[go_sem,Q0,Q1,Q2,Q3,Q4,Q5,Q6,Q7,Q8,Q9,Qa,Qb,Qc,Qd,Qe,Qf,Qg,Qh,Qi,Qj,Qk,reduceCtorEq,reduceIte,g,xiH,c1,c2]
theorem ks{s:t6}(h:Pr.nameB s=true):1<=s.length/\s.length<=12:=by
 unfold Pr.nameB at h;split at h
 ·cases h
 ·omega
theorem eA{x:Img}(h:dD x=0):1<=x.role/\x.role<=4/\0<=x.ver/\x.ver<=1000000/\Pr.nameB x.name=true/\x.pay.length<=64:=by
 unfold dD at h
 repeat' split at h
 all_goals first|omega|skip
 all_goals (cases z:Pr.nameB x.name with
  |true=>exact⟨by omega,by omega,by omega,by omega,rfl,by omega⟩
  |false=>simp_all)
theorem gV{x:Img}(h:dD x=0):x.name.length<=1000000/\x.pay.length<=1000000:=by obtain⟨_,_,_,_,z,B⟩:=eA h;have:=ks z;omega
def ofI(x:Img)(a:Int):Ev:=⟨oa x.role,1,q8 (dl x) a,uD x.name x.ver⟩
theorem f78(x:Img)(a:Int)(z:vd a)(h:dD x=0)(E:x.role≠4):call T 78 [.agg x.sv,.int .i64 a] [] 0=some ⟨.agg (ofI x a).sv,[],[]⟩:=by obtain⟨L,S,F,C,Z,Q⟩:=eA h;obtain⟨b1,J⟩:=gV h;have g0:=f81 x (by omega) (by omega);have H:=f55 x.role;have I:=f125 x a z b1 J;have B:=f56 x.name x.ver b1 F C;rw[h]at g0;obtain⟨U,O,W,p⟩:=x;simp only[Img.sv,Ev.sv,ofI]at*;rw[az xkN];simp only[go_sem,Q0,Q1,Q2,Q3,Q4,Q5,Q6,Q7,Q8,Q9,Qa,Qb,Qc,Qd,Qe,Qf,Qg,Qh,Qi,Qj,Qk,reduceCtorEq,reduceIte,g0,wN,E,H,xlz,I,xg4,B,xly]
def mkV(reg kind a:Int)(data:t6):Ev:=⟨reg,kind,if kind=5 then [[],[]]else [if ly a 0 then jx data else [],if ly a 1 then sha data else []],data⟩
theorem f76(reg kind a:Int)(data:t6)(B:vd a)(hd:data.length<=1000000):call T 76 [.int .i64 reg,.int .i64 kind,.int .i64 a,.byt data .no] [] 0=some ⟨.agg (mkV reg kind a data).sv,[],[]⟩:=by
 have h:=Yu a B;have z:=Yt a B;have E:=xid data (by omega);have F:=xic data (by omega);have k1:aj.wrap 1=1:=rfl;have k2:aj.wrap 2=2:=rfl;rw[az xkP];unfold mkV Ev.sv bls
 by_cases C:kind=5
 ·subst C
  cases q1:ly a 0<;>cases q2:ly a 1<;>rw[q1]at h<;>rw[q2]at z<;>
  ·simp only[go_sem,Q0,Q1,Q2,Q3,Q4,Q5,Q6,Q7,Q8,Q9,Qa,Qb,Qc,Qd,Qe,Qf,Qg,Qh,Qi,Qj,Qk,reduceCtorEq,reduceIte,au]
   iterate 3
    rw[al];simp only[go_sem,Q0,Q1,Q2,Q3,Q4,Q5,Q6,Q7,Q8,Q9,Qa,Qb,Qc,Qd,Qe,Qf,Qg,Qh,Qi,Qj,Qk,reduceCtorEq,reduceIte,k1,k2,h,z,NY,au]
 ·cases q1:ly a 0<;>cases q2:ly a 1<;>rw[q1]at h<;>rw[q2]at z<;>
  ·simp only[go_sem,Q0,Q1,Q2,Q3,Q4,Q5,Q6,Q7,Q8,Q9,Qa,Qb,Qc,Qd,Qe,Qf,Qg,Qh,Qi,Qj,Qk,reduceCtorEq,reduceIte,au]
   iterate 3
    rw[al];simp only[go_sem,Q0,Q1,Q2,Q3,Q4,Q5,Q6,Q7,Q8,Q9,Qa,Qb,Qc,Qd,Qe,Qf,Qg,Qh,Qi,Qj,Qk,reduceCtorEq,reduceIte,k1,k2,C,h,z,E,F,NY,xiG,gS,au]
theorem f77:call T 77 [] [] 0=some ⟨.byt [0,0,0,0] .no,[],[]⟩:=by rw[az xkO];simp only[go_sem,Q0,Q1,Q2,Q3,Q4,Q5,Q6,Q7,Q8,Q9,Qa,Qb,Qc,Qd,Qe,Qf,Qg,Qh,Qi,Qj,Qk,reduceCtorEq,reduceIte]
def eP(l:List Img):f8:=l.map Img.sv
def im0:Img:=⟨0,[],0,[]⟩
theorem dx(l:List Img):(eP l).length=l.length:=aQ ..
theorem eO(l:List Img)(i:Nat)(h:i<l.length):(eP l).getD i []=(l.getD i im0).sv:=by simp[eP,aa,h]
structure cd(l:List Img):Prop where
 n1:1<=l.length
 n8:l.length<=8
 ok:∀i,i<l.length->dD (l.getD i im0)=0
 ord:∀i,i+1<l.length->(l.getD i im0).role<=(l.getD (i+1) im0).role
 dup:∀i,i<l.length->∀k,k<i->(l.getD k im0).role=(l.getD i im0).role->(l.getD k im0).name≠(l.getD i im0).name
 fw:∃i,i<l.length/\(l.getD i im0).role=1
 kn:∃i,i<l.length/\(l.getD i im0).role=3
theorem xjo(l:List Img)(h:cd l)(f k:Bool)(i:Nat)(hi:i<l.length):∀(n j:Nat),i-j=n->j<=i->
 run T (.loop xl) ⟨[(0,.lst 4 (eP l) .no),(3,.bool f),(4,.bool k),(5,.int .i64 i),(7,.int .i64 j)],[],[]⟩=some (.x 2,⟨[(0,.lst 4 (eP l) .no),(3,.bool f),(4,.bool k),(5,.int .i64 i)],[],[]⟩):=by
 intro n;induction n with
 |zero=>
  intro j S Z;have:j=i:=by omega
  subst this;rw[al];simp only[go_sem,Q0,Q1,Q2,Q3,Q4,Q5,Q6,Q7,Q8,Q9,Qa,Qb,Qc,Qd,Qe,Qf,Qg,Qh,Qi,Qj,Qk,reduceCtorEq,reduceIte]
 |succ n ih=>
  intro j S Z;have I:j<i:=by omega
  have z:j<l.length:=by omega
  have J:=cA j (by have:=h.n8;omega);have B:=ih (j+1) (by omega) (by omega);have L:=dx l;have O:=eO l i hi;have C:=eO l j z;have hd:=h.dup i hi j I;rw[al];generalize l.getD i im0=x at*;generalize l.getD j im0=y at*;obtain⟨W,Q,ve,p⟩:=x;obtain⟨H,E,U,p2⟩:=y;simp only[Img.sv]at*
  by_cases F:H=W
  ·have hn:¬E=Q:=hd F
   simp only[go_sem,Q0,Q1,Q2,Q3,Q4,Q5,Q6,Q7,Q8,Q9,Qa,Qb,Qc,Qd,Qe,Qf,Qg,Qh,Qi,Qj,Qk,reduceCtorEq,reduceIte,I,z,hi,J,L,O,C,F,hn,B]
  ·simp only[go_sem,Q0,Q1,Q2,Q3,Q4,Q5,Q6,Q7,Q8,Q9,Qa,Qb,Qc,Qd,Qe,Qf,Qg,Qh,Qi,Qj,Qk,reduceCtorEq,reduceIte,I,z,hi,J,L,O,C,F,B]
def pZ(l:List Img)(r:Int)(i:Nat):Bool:=(l.take i).any fun x=>decide (x.role=r)
theorem rj(l:List Img)(r:Int)(i:Nat)(hi:i<l.length):pZ l r (i+1)=(pZ l r i||decide ((l.getD i im0).role=r)):=by unfold pZ;rw[List.take_succ_eq_append_getElem hi,List.any_append,List.any_cons,List.any_nil,Bool.or_false,aa,af hi];rfl
theorem uX{l:List Img}{r:Int}(h:∃i,i<l.length/\(l.getD i im0).role=r):pZ l r l.length=true:=by obtain⟨i,hi,z⟩:=h;unfold pZ;rw[bt,List.any_eq_true];refine⟨l[i],bo _, ?_⟩;rw[aa,af hi]at z;simpa using z
theorem l75(l:List Img)(h:cd l):∀(n i:Nat),l.length-i=n->i<=l.length->
 run T (.loop sY) ⟨[(0,.lst 4 (eP l) .no),(3,.bool (pZ l 1 i)),(4,.bool (pZ l 3 i)),(5,.int .i64 i)],[],[]⟩=some (.x 0,⟨[(3,.bool true),(4,.bool true)],[],[]⟩):=by
 intro n;induction n with
 |zero=>
  intro i h0 h1;have:i=l.length:=by omega
  subst this;have H:=dx l;have a1:=uX h.fw;have a2:=uX h.kn;rw[al];simp only[go_sem,Q0,Q1,Q2,Q3,Q4,Q5,Q6,Q7,Q8,Q9,Qa,Qb,Qc,Qd,Qe,Qf,Qg,Qh,Qi,Qj,Qk,reduceCtorEq,reduceIte,H,a1,a2]
 |succ n ih=>
  intro i h0 h1;have hi:i<l.length:=by omega
  have e1:=cA i (by have:=h.n8;omega);have z:=ih (i+1) (by omega) (by omega);have H:=dx l;have U:=eO l i hi;have W:=h.ok i hi;obtain⟨b1,b2⟩:=gV W;have g:=f81 (l.getD i im0) (by omega) (by omega);have E:=xjo l h (pZ l 1 i) (pZ l 3 i) i hi _ 0 rfl (by omega);simp only[aH]at E;rw[W]at g;rw[rj l 1 i hi,rj l 3 i hi]at z;rw[al]
  have a4:∀B F:Bool,pZ l 1 i=B->pZ l 3 i=F->run T (.loop sY) ⟨[(0,.lst 4 (eP l) .no),(3,.bool B),(4,.bool F),(5,.int .i64 i)],[],[]⟩=some (.x 0,⟨[(3,.bool true),(4,.bool true)],[],[]⟩):=by
   intro B F a3 a0;rw[a3,a0]at z E;rw[al]
   by_cases a5:i=0
   ·subst a5
    generalize l.getD 0 im0=x at*;obtain⟨S,na,ve,p⟩:=x;simp only[Img.sv]at*;have J:(0:Int)<l.length:=by omega
    have c1:((0+1:Nat):Int)=1:=rfl;have kw:aj.wrap 1=1:=rfl;rw[c1]at z;simp only[aH]at E
    by_cases p1:S=1
    ·subst p1
     cases B<;>cases F<;>simp only[m7,eu,decide_true,decide_false,Int.reduceEq,eq_self]at z<;>simp only[go_sem,Q0,Q1,Q2,Q3,Q4,Q5,Q6,Q7,Q8,Q9,Qa,Qb,Qc,Qd,Qe,Qf,Qg,Qh,Qi,Qj,Qk,reduceCtorEq,reduceIte,hi,J,kw,H,U,g,wN,E,z]
    ·by_cases O:S=3
     ·subst O
      cases B<;>cases F<;>simp only[m7,eu,decide_true,decide_false,Int.reduceEq,eq_self]at z<;>simp only[go_sem,Q0,Q1,Q2,Q3,Q4,Q5,Q6,Q7,Q8,Q9,Qa,Qb,Qc,Qd,Qe,Qf,Qg,Qh,Qi,Qj,Qk,reduceCtorEq,reduceIte,hi,J,kw,H,U,g,wN,E,z]
     ·cases B<;>cases F<;>simp only[m7,eu,decide_true,decide_false,Int.reduceEq,eq_self,p1,O]at z<;>simp only[go_sem,Q0,Q1,Q2,Q3,Q4,Q5,Q6,Q7,Q8,Q9,Qa,Qb,Qc,Qd,Qe,Qf,Qg,Qh,Qi,Qj,Qk,reduceCtorEq,reduceIte,hi,J,kw,H,U,g,wN,E,p1,O,z]
   ·have hp:0<i:=by omega
    have L:(0:Int)<(i:Nat):=by omega
    have es:aj.wrap ((i:Int)-1)=((i-1:Nat):Int):=by rw[w64 (by omega) (by have:=h.n8;omega)];omega
    have C:i-1<l.length:=by omega
    have I:=eO l (i-1) C;have ho:=h.ord (i-1) (by omega);rw[show i-1+1=i from by omega]at ho;generalize l.getD i im0=x at*;generalize l.getD (i-1) im0=y at*;obtain⟨S,na,ve,p⟩:=x;obtain⟨Z,a7,a6,p2⟩:=y;simp only[Img.sv]at*;have Q:¬S<Z:=by omega
    by_cases p1:S=1
    ·subst p1
     cases B<;>cases F<;>simp only[m7,eu,decide_true,decide_false,Int.reduceEq,eq_self]at z<;>simp only[go_sem,Q0,Q1,Q2,Q3,Q4,Q5,Q6,Q7,Q8,Q9,Qa,Qb,Qc,Qd,Qe,Qf,Qg,Qh,Qi,Qj,Qk,reduceCtorEq,reduceIte,hi,hp,L,C,es,e1,H,U,I,g,wN,E,Q,z]
    ·by_cases O:S=3
     ·subst O
      cases B<;>cases F<;>simp only[m7,eu,decide_true,decide_false,Int.reduceEq,eq_self]at z<;>simp only[go_sem,Q0,Q1,Q2,Q3,Q4,Q5,Q6,Q7,Q8,Q9,Qa,Qb,Qc,Qd,Qe,Qf,Qg,Qh,Qi,Qj,Qk,reduceCtorEq,reduceIte,hi,hp,L,C,es,e1,H,U,I,g,wN,E,Q,z]
     ·cases B<;>cases F<;>simp only[m7,eu,decide_true,decide_false,Int.reduceEq,eq_self,p1,O]at z<;>simp only[go_sem,Q0,Q1,Q2,Q3,Q4,Q5,Q6,Q7,Q8,Q9,Qa,Qb,Qc,Qd,Qe,Qf,Qg,Qh,Qi,Qj,Qk,reduceCtorEq,reduceIte,hi,hp,L,C,es,e1,H,U,I,g,wN,E,Q,p1,O,z]
  have:=a4 _ _ rfl rfl;rw[al]at this;exact this
theorem f75(l:List Img)(h:cd l):call T 75 [.lst 4 (eP l) .no] [] 0=some ⟨.int .i64 0,[],[]⟩:=by
 have g:=l75 l h _ 0 rfl (by omega);have z1:pZ l 1 0=false:=rfl;have B:pZ l 3 0=false:=rfl;rw[z1,B]at g;simp only[aH]at g;have z:=dx l;have n1:=h.n1;have n8:=h.n8;have k1:¬(l.length:Int)=0:=by omega
 have k2:¬(8:Int)<l.length:=by omega
 rw[az xkQ];simp only[go_sem,Q0,Q1,Q2,Q3,Q4,Q5,Q6,Q7,Q8,Q9,Qa,Qb,Qc,Qd,Qe,Qf,Qg,Qh,Qi,Qj,Qk,reduceCtorEq,reduceIte,z,k1,k2,g]
theorem pr(l:List Ev)(e:Ev):eG (l++ [e])=eG l++ [e.sv]:=by simp[eG]
def iS(a:Int):Nat->Nat->List Ev
 |_,0=> []
 |i,n+1=>mkV i 2 a [0,0,0,0]::iS a (i+1) n
theorem j7(a:Int):∀n i,(iS a i n).length=n
 |0,_=>rfl
 |n+1,i=>by rw[iS,av,j7 a n]
theorem xjv(L:f8)(a role:Int)(B:vd a):∀(n i:Nat)(h:List Ev),8-i=n->i<=8->h.length<=100000+i->
 run T (.loop xC) ⟨[(0,.lst 4 L .no),(1,.int .i64 a),(5,.lst 4 (eG h) (.id 105)),(6,.int .i64 role),(7,.int .i64 i)],[],[105]⟩=
 some (.x 2,⟨[(0,.lst 4 L .no),(1,.int .i64 a),(5,.lst 4 (eG (h++iS a i n)) (.id 105)),(6,.int .i64 role)],[],[105]⟩):=by
 have I:=f77;intro n;induction n with
 |zero=>
  intro i h E J H;have:i=8:=by omega
  subst this;rw[al];simp only[go_sem,Q0,Q1,Q2,Q3,Q4,Q5,Q6,Q7,Q8,Q9,Qa,Qb,Qc,Qd,Qe,Qf,Qg,Qh,Qi,Qj,Qk,reduceCtorEq,reduceIte,iS,bK]
 |succ n O=>
  intro i h E J H;have hi:(i:Int)<8:=by omega
  have F:=cA i (by omega);have g:=f76 i 2 a [0,0,0,0] B (by simp);have z:=O (i+1) (h++ [mkV i 2 a [0,0,0,0]]) (by omega) (by omega) (by rw[ah,aL];omega);rw[pr,aZ,dG]at z;have C:=gE h;have c1:(h.length+1)*64<=140737488355328:=by omega
  rw[al,iS];simp only[Ev.sv]at g z;simp only[go_sem,Q0,Q1,Q2,Q3,Q4,Q5,Q6,Q7,Q8,Q9,Qa,Qb,Qc,Qd,Qe,Qf,Qg,Qh,Qi,Qj,Qk,reduceCtorEq,reduceIte,hi,F,I,xlv,g,xiI,C,c1,z]
theorem x0(B:Nat):∀(p:t6)(o:List t6)(l:t6)(z:List t6)(C:t6),o.length<=4->(∀x∈o,x.length<=B)->l.length+p.length<=B->lnF p o l=some (z,C)->z.length<=4/\∀x∈z,x.length<=B
 |[],o,l,z,C,h1,h2,_,h=>by cases h;exact⟨h1,h2⟩
 |c::r,o,l,z,C,h1,h2,h3,h=>by
  rw[av]at h3;unfold lnF at h;split at h
  ·split at h
   ·cases h
   ·split at h
    ·cases h
    ·refine x0 B r _ _ z C (by rw[ah,aL];omega) ?_ (by simp;omega) h
     intro x E;rcases ak.1 E with E|E
     ·exact h2 x E
     ·rw[aN.1 E];omega
  ·split at h
   ·cases h
   ·split at h
    ·cases h
    ·exact x0 B r _ _ z C h1 h2 (by rw[ah,aL];omega) h
theorem mF(p:t6):(dN p).length<=4/\∀x∈dN p,x.length<=p.length:=by
 unfold dN;split
 ·rename_i o l h
  have:=x0 p.length p [] [] o l (by simp) (by simp) (by simp) h;split
  ·exact⟨by simp,by simp⟩
  ·exact this
 ·exact⟨by simp,by simp⟩
theorem sn(l:List t6)(i:Nat)(h:i<l.length):(bls l).getD i []=[.byt (l.getD i []) .no]:=by simp[bls,aa,h]
theorem xju(L:f8)(a role:Int)(i:Int)(h:List t6)(H:vd a)(E:∀x∈h,x.length<=1000000)(hn:h.length<=4):∀(n k:Nat)(z:List Ev),h.length-k=n->k<=h.length->z.length<=100000+k->
 run T (.loop xA) ⟨[(0,.lst 4 L .no),(1,.int .i64 a),(5,.lst 4 (eG z) (.id 105)),(6,.int .i64 role),(8,.int .i64 i),(9,.lst 1 (bls h) .no),(10,.int .i64 k)],[],[105]⟩=
 some (.x 6,⟨[(0,.lst 4 L .no),(1,.int .i64 a),(5,.lst 4 (eG (z++(h.drop k).map (mkV 9 3 a))) (.id 105)),(6,.int .i64 role),(8,.int .i64 i)],[],[105]⟩):=by
 intro n;induction n with
 |zero=>
  intro k z J U S;have:k=h.length:=by omega
  subst this;have F:=fK h;rw[al,bh];simp only[go_sem,Q0,Q1,Q2,Q3,Q4,Q5,Q6,Q7,Q8,Q9,Qa,Qb,Qc,Qd,Qe,Qf,Qg,Qh,Qi,Qj,Qk,reduceCtorEq,reduceIte,F,bK]
 |succ n W=>
  intro k z J U S;have C:k<h.length:=by omega
  have O:=cA k (by omega);have F:=fK h;have Z:=sn h k C;have Q:h.getD k []∈h:=by rw[aa,af C];exact bo _
  have g:=f76 9 3 a (h.getD k []) H (E _ Q);have B:=W (k+1) (z++ [mkV 9 3 a (h.getD k [])]) (by omega) (by omega) (by rw[ah,aL];omega);have hd:h.drop k=h.getD k []::h.drop (k+1):=mM h k C;rw[pr,aZ,dG]at B;rw[hd,aO];have I:=gE z;have c1:(z.length+1)*64<=140737488355328:=by omega
  generalize h.getD k []=d at*;rw[al];simp only[Ev.sv]at g B;simp only[go_sem,Q0,Q1,Q2,Q3,Q4,Q5,Q6,Q7,Q8,Q9,Qa,Qb,Qc,Qd,Qe,Qf,Qg,Qh,Qi,Qj,Qk,reduceCtorEq,reduceIte,C,O,F,Z,g,xiI,I,c1,B]
def dn(a role:Int)(x:Img):List Ev:=if x.role=role then(if role=4 then(dN x.pay).map (mkV 9 3 a)else [ofI x a])else []
theorem uM(a role:Int)(x:Img):(dn a role x).length<=4:=by
 unfold dn;split
 ·split
  ·rw[aQ];exact(mF x.pay).1
  ·simp
 ·simp
theorem Yh(l:List Img)(Q:cd l)(a role:Int)(S:vd a):∀(n i:Nat)(z:List Ev),l.length-i=n->i<=l.length->z.length<=10000+4*i->
 run T (.loop xz) ⟨[(0,.lst 4 (eP l) .no),(1,.int .i64 a),(5,.lst 4 (eG z) (.id 105)),(6,.int .i64 role),(8,.int .i64 i)],[],[105]⟩=
 some (.x 4,⟨[(0,.lst 4 (eP l) .no),(1,.int .i64 a),(5,.lst 4 (eG (z++(l.drop i).flatMap (dn a role))) (.id 105)),(6,.int .i64 role)],[],[105]⟩):=by
 intro n;induction n with
 |zero=>
  intro i z h0 h1 h2;have:i=l.length:=by omega
  subst this;have F:=dx l;rw[al,bh];simp only[go_sem,Q0,Q1,Q2,Q3,Q4,Q5,Q6,Q7,Q8,Q9,Qa,Qb,Qc,Qd,Qe,Qf,Qg,Qh,Qi,Qj,Qk,reduceCtorEq,reduceIte,F,List.flatMap_nil,bK]
 |succ n ih=>
  intro i z h0 h1 h2;have hi:i<l.length:=by omega
  have n8:=Q.n8;have I:=cA i (by omega);have F:=dx l;have J:=eO l i hi;have H:=Q.ok i hi;obtain⟨b1,b2⟩:=gV H;have L:=uM a role (l.getD i im0);have h:=ih (i+1) (z++dn a role (l.getD i im0)) (by omega) (by omega) (by rw[ah];omega);have hd:l.drop i=l.getD i im0::l.drop (i+1):=by rw[aU hi,aa,af hi];rfl
  rw[hd,dZ];rw[aZ]at h;generalize (l.drop (i+1)).flatMap (dn a role)=R at*;rw[al];have g1:=f79 (l.getD i im0) (by omega);have g2:=fun B=>f78 (l.getD i im0) a S H B
  obtain⟨k1,k2⟩:=mF (l.getD i im0).pay;generalize l.getD i im0=x at*;have U:=xju (eP l) a 4 i (dN x.pay) S (fun y hy=>by have:=k2 y hy;omega) k1 _ 0 z rfl (by omega) (by omega);simp only[aH,bi]at U;have hl:=gE z;have c1:(z.length+1)*64<=140737488355328:=by omega
  unfold dn at h ⊢
  by_cases C:x.role=role
  ·by_cases B:role=4
   ·rw[if_pos C,if_pos B]at h ⊢
    subst B;obtain⟨W,O,Z,p⟩:=x;simp only[Img.sv]at*;subst C;simp only[go_sem,Q0,Q1,Q2,Q3,Q4,Q5,Q6,Q7,Q8,Q9,Qa,Qb,Qc,Qd,Qe,Qf,Qg,Qh,Qi,Qj,Qk,reduceCtorEq,reduceIte,hi,I,F,J,g1,xdy,U,h]
   ·rw[if_pos C,if_neg B]at h ⊢
    have E:=g2 (by rw[C];exact B);obtain⟨W,O,Z,p⟩:=x;simp only[Img.sv]at*;subst C;rw[<-aZ,pr,aZ]at h;simp only[Ev.sv]at E h;simp only[go_sem,Q0,Q1,Q2,Q3,Q4,Q5,Q6,Q7,Q8,Q9,Qa,Qb,Qc,Qd,Qe,Qf,Qg,Qh,Qi,Qj,Qk,reduceCtorEq,reduceIte,hi,I,F,J,B,E,xlu,hl,c1,h]
  ·rw[if_neg C]at h ⊢
   obtain⟨W,O,Z,p⟩:=x;simp only[Img.sv,bw,bK]at*;simp only[go_sem,Q0,Q1,Q2,Q3,Q4,Q5,Q6,Q7,Q8,Q9,Qa,Qb,Qc,Qd,Qe,Qf,Qg,Qh,Qi,Qj,Qk,reduceCtorEq,reduceIte,hi,I,F,J,C,h]
def evF(l:List Img)(a:Int):List Ev:=l.flatMap (dn a 1)++(l.flatMap (dn a 2)++(iS a 0 8++(l.flatMap (dn a 3)++l.flatMap (dn a 4))))
theorem fF(l:List Img)(a role:Int):(l.flatMap (dn a role)).length<=4*l.length:=by
 induction l with
 |nil=>simp
 |cons x r h=>rw[dZ,ah,av];have:=uM a role x;omega
theorem f31(l:List Img)(B:cd l)(a:Int)(z:vd a):call T 31 [.lst 4 (eP l) .no,.int .i64 a] [] 0=some ⟨.lst 4 (eG (evF l a)) .no,[],[]⟩:=by
 have g:=f75 l B;have n8:=B.n8;have b1:=fF l a 1;have W:=fF l a 2;have Z:=fF l a 3;have b0:=j7 a 8 0;have H:=Yh l B a 1 z _ 0 [] rfl (by omega) (by simp);have O:=Yh l B a 2 z _ 0 (l.flatMap (dn a 1)) rfl (by omega) (by omega);have Q:=xjv (eP l) a 3 z _ 0 (l.flatMap (dn a 1)++l.flatMap (dn a 2)) rfl (by omega) (by rw[ah];omega);have L:=Yh l B a 3 z _ 0 (l.flatMap (dn a 1)++l.flatMap (dn a 2)++iS a 0 8) rfl (by omega) (by rw[ah,ah];omega);have J:=Yh l B a 4 z _ 0 (l.flatMap (dn a 1)++l.flatMap (dn a 2)++iS a 0 8++l.flatMap (dn a 3)) rfl (by omega) (by rw[ah,ah,ah];omega);simp only[aH,bi,bw,aZ]at H O Q L J;have I:eG []=[]:=rfl;rw[I]at H;have S:¬a<1:=by rcases z with h|h|h<;>omega
 have U:¬3<a:=by rcases z with h|h|h<;>omega
 have k2:aj.wrap 2=2:=rfl;have F:aj.wrap 3=3:=rfl;have C:aj.wrap 4=4:=rfl;have E:aj.wrap 5=5:=rfl;rw[az xlf];unfold evF;simp only[go_sem,Q0,Q1,Q2,Q3,Q4,Q5,Q6,Q7,Q8,Q9,Qa,Qb,Qc,Qd,Qe,Qf,Qg,Qh,Qi,Qj,Qk,reduceCtorEq,reduceIte,g,xlw,S,U];rw[al];simp only[go_sem,Q0,Q1,Q2,Q3,Q4,Q5,Q6,Q7,Q8,Q9,Qa,Qb,Qc,Qd,Qe,Qf,Qg,Qh,Qi,Qj,Qk,reduceCtorEq,reduceIte,k2,F,C,E,H];rw[al];simp only[go_sem,Q0,Q1,Q2,Q3,Q4,Q5,Q6,Q7,Q8,Q9,Qa,Qb,Qc,Qd,Qe,Qf,Qg,Qh,Qi,Qj,Qk,reduceCtorEq,reduceIte,k2,F,C,E,O];rw[al];simp only[go_sem,Q0,Q1,Q2,Q3,Q4,Q5,Q6,Q7,Q8,Q9,Qa,Qb,Qc,Qd,Qe,Qf,Qg,Qh,Qi,Qj,Qk,reduceCtorEq,reduceIte,k2,F,C,E,Q,L];rw[al];simp only[go_sem,Q0,Q1,Q2,Q3,Q4,Q5,Q6,Q7,Q8,Q9,Qa,Qb,Qc,Qd,Qe,Qf,Qg,Qh,Qi,Qj,Qk,reduceCtorEq,reduceIte,k2,F,C,E,J];rw[al];simp only[go_sem,Q0,Q1,Q2,Q3,Q4,Q5,Q6,Q7,Q8,Q9,Qa,Qb,Qc,Qd,Qe,Qf,Qg,Qh,Qi,Qj,Qk,reduceCtorEq,reduceIte,k2,F,C,E]
end Go.Proofs.YtdafipacemgcoaaGreatDoor
