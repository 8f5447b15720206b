/- Contracts. No condition. -/
import Derived.Test.YtkcjdeofknkndaaGreatDoorTbDF
import Derived.Test.YtkcjdeofknkndaaGreatDoorTcDF
open Int renaming cast_ofNat_Int -> bW, natCast_zero -> aD
open Go.IntKind renaming i64 -> ai, u64 -> aZ
open List renaming all_cons -> iv, drop -> lv, drop_length -> bv, drop_zero -> bh, getD_eq_getElem?_getD -> aa, length_append -> af, length_eq_zero_iff -> cx, length_map -> aS, length_singleton -> aP, length_take -> aA, nil_append -> aK, replicate -> ao
set_option maxRecDepth 100000
set_option maxHeartbeats 16000000
set_option linter.unusedSimpArgs false
set_option linter.unusedVariables false
namespace Go.Proofs.YtkcjdeofknkndaaGreatDoor
open Go.Sy
open UInt8 renaming reduceLT -> Q0, reduceLE -> Q1
open Int renaming reduceToNat -> Q2, reduceLE -> Q3, reduceLT -> Q4, reduceEq -> Q5, reduceNe -> Q6, reduceNeg -> Q7, reduceAdd -> Q8, reduceSub -> Q9, reduceMul -> Qa
open Nat renaming reducePow -> Qb, reduceDiv -> Qc, reduceMod -> Qd, reduceAdd -> Qe, reduceSub -> Qf, reduceMul -> Qg, reduceLT -> Qh, reduceLeDiff -> Qi, reduceEqDiff -> Qj, reduceBEq -> Qk
attribute [go_sem] bW
structure Ev where
 reg:Int
 kind:Int
 dg:List (List UInt8)
 data:List UInt8
def bls(l:List t6):f8:=l.map fun d=> [.byt d .no]
def Ev.sv(e:Ev):t7:=[.int .i64 e.reg,.int .i64 e.kind,.lst 1 (bls e.dg) .no,.byt e.data .no]
def fT(l:List Ev):f8:=l.map Ev.sv
theorem ep(l:List Ev):(fT l).length=l.length:=aS ..
theorem FM(l:List Ev)(i:Nat)(h:i<l.length):(fT l).getD i []=(l.getD i ⟨0,0,[],[]⟩).sv:=by simp[fT,aa,h]
def ev0:Ev:=⟨0,0,[],[]⟩
theorem Di(l:List Ev)(i:Nat)(h:i<l.length):(fT l).getD i []=(l.getD i ev0).sv:=FM l i h
structure Img where
 role:Int
 name:List UInt8
 ver:Int
 pay:List UInt8
def Img.sv(x:Img):t7:=[.int .i64 x.role,.str x.name,.int .i64 x.ver,.byt x.pay .no]
theorem l45(s:t6)(U:s.length<=1000000000000):∀(n i:Nat),s.length-i=n->i<=s.length->
 run T (.loop NM) ⟨[(0,.str s),(3,.int .i64 i)],[],[]⟩=if(s.drop i).all Pr.okc=true then some (.x 0,⟨[],[],[]⟩)else some (.r,⟨[(2,.bool false)],[],[]⟩):=by
 intro n;induction n with
 |zero=>
  intro i Q L;have hi:i=s.length:=by omega
  subst hi;rw[al,bv];simp only[go_sem,Q0,Q1,Q2,Q3,Q4,Q5,Q6,Q7,Q8,Q9,Qa,Qb,Qc,Qd,Qe,Qf,Qg,Qh,Qi,Qj,Qk,reduceCtorEq,reduceIte]
 |succ n O=>
  intro i Q L;have hi:i<s.length:=by omega
  have C:=cA i (by omega);have y:=O (i+1) (by omega) (by omega);rw[al,da s i hi,iv];unfold Pr.okc at y ⊢;generalize z:s.getD i 0=c at*;generalize List.all (lv (i+1) s) _=q at*
  by_cases H:c<97
  ·by_cases F:c<48
   ·by_cases E:c=45
    ·subst E;simp only[go_sem,Q0,Q1,Q2,Q3,Q4,Q5,Q6,Q7,Q8,Q9,Qa,Qb,Qc,Qd,Qe,Qf,Qg,Qh,Qi,Qj,Qk,reduceCtorEq,reduceIte,hi,z,C,y]
    ·simp only[go_sem,Q0,Q1,Q2,Q3,Q4,Q5,Q6,Q7,Q8,Q9,Qa,Qb,Qc,Qd,Qe,Qf,Qg,Qh,Qi,Qj,Qk,reduceCtorEq,reduceIte,hi,z,C,H,F,E,y]
   ·by_cases I:57<c
    ·by_cases E:c=45
     ·subst E;simp only[go_sem,Q0,Q1,Q2,Q3,Q4,Q5,Q6,Q7,Q8,Q9,Qa,Qb,Qc,Qd,Qe,Qf,Qg,Qh,Qi,Qj,Qk,reduceCtorEq,reduceIte,hi,z,C,y]
     ·simp only[go_sem,Q0,Q1,Q2,Q3,Q4,Q5,Q6,Q7,Q8,Q9,Qa,Qb,Qc,Qd,Qe,Qf,Qg,Qh,Qi,Qj,Qk,reduceCtorEq,reduceIte,hi,z,C,H,F,I,E,y]
    ·simp only[go_sem,Q0,Q1,Q2,Q3,Q4,Q5,Q6,Q7,Q8,Q9,Qa,Qb,Qc,Qd,Qe,Qf,Qg,Qh,Qi,Qj,Qk,reduceCtorEq,reduceIte,hi,z,C,H,F,I,y]
  ·by_cases J:122<c
   ·by_cases F:c<48
    ·exact absurd F (by intro h;have:=UInt8.lt_trans J h;revert this;decide)
    ·by_cases I:57<c
     ·by_cases E:c=45
      ·subst E;simp only[go_sem,Q0,Q1,Q2,Q3,Q4,Q5,Q6,Q7,Q8,Q9,Qa,Qb,Qc,Qd,Qe,Qf,Qg,Qh,Qi,Qj,Qk,reduceCtorEq,reduceIte,hi,z,C,y]
      ·simp only[go_sem,Q0,Q1,Q2,Q3,Q4,Q5,Q6,Q7,Q8,Q9,Qa,Qb,Qc,Qd,Qe,Qf,Qg,Qh,Qi,Qj,Qk,reduceCtorEq,reduceIte,hi,z,C,H,J,F,I,E,y]
     ·simp only[go_sem,Q0,Q1,Q2,Q3,Q4,Q5,Q6,Q7,Q8,Q9,Qa,Qb,Qc,Qd,Qe,Qf,Qg,Qh,Qi,Qj,Qk,reduceCtorEq,reduceIte,hi,z,C,H,J,F,I,y]
   ·simp only[go_sem,Q0,Q1,Q2,Q3,Q4,Q5,Q6,Q7,Q8,Q9,Qa,Qb,Qc,Qd,Qe,Qf,Qg,Qh,Qi,Qj,Qk,reduceCtorEq,reduceIte,hi,z,C,H,J,y]
theorem f45(s:t6)(F:s.length<=1000000000000):call T 45 [.str s] [] 0=some ⟨.bool (Pr.nameB s),[],[]⟩:=by
 have h:=l45 s F _ 0 rfl (by omega);simp only[aD,bh]at h;rw[au xiI];unfold Pr.nameB
 by_cases C:s.length<1
 ·have y:(s.length:Int)<1:=by omega
  simp only[go_sem,Q0,Q1,Q2,Q3,Q4,Q5,Q6,Q7,Q8,Q9,Qa,Qb,Qc,Qd,Qe,Qf,Qg,Qh,Qi,Qj,Qk,reduceCtorEq,reduceIte,C,y]
 ·have y:¬(s.length:Int)<1:=by omega
  by_cases E:12<s.length
  ·have z:(12:Int)<s.length:=by omega
   simp only[go_sem,Q0,Q1,Q2,Q3,Q4,Q5,Q6,Q7,Q8,Q9,Qa,Qb,Qc,Qd,Qe,Qf,Qg,Qh,Qi,Qj,Qk,reduceCtorEq,reduceIte,C,y,E,z]
  ·have z:¬(12:Int)<s.length:=by omega
   cases hq:s.all Pr.okc with
   |true=>rw[if_pos hq]at h;simp only[go_sem,Q0,Q1,Q2,Q3,Q4,Q5,Q6,Q7,Q8,Q9,Qa,Qb,Qc,Qd,Qe,Qf,Qg,Qh,Qi,Qj,Qk,reduceCtorEq,reduceIte,C,y,E,z,h,hq]
   |false=>rw[if_neg (by rw[hq];simp)]at h;simp only[go_sem,Q0,Q1,Q2,Q3,Q4,Q5,Q6,Q7,Q8,Q9,Qa,Qb,Qc,Qd,Qe,Qf,Qg,Qh,Qi,Qj,Qk,reduceCtorEq,reduceIte,C,y,E,z,h,hq]
def lnF:t6->List t6->t6->Option (List t6×t6)
 |[],o,l=>some (o,l)
 |c::r,o,l=>if c=10 then(if(l.length:Int)=0 then none else if(4:Int)<=o.length then none else lnF r (o++ [l]) [])else if c<32 then none else if 126<c then none else lnF r o (l++ [c])
def dk(p:t6):List t6:=match lnF p [] []with
 |some (o,l)=>if(0:Int)<l.length then []else o
 |none=> []
theorem iE(l:List t6):(bls l).length=l.length:=aS ..
theorem B0(l:List t6)(d:t6):bls (l++ [d])=bls l++ [[.byt d .no]]:=by simp[bls]
theorem l70(F:Int)(H:t6)(I:Int)(p:t6)(hp:p.length<=1000000000000):∀(n i:Nat)(o:List t6)(l:t6),p.length-i=n->i<=p.length->l.length<=i->o.length<=4->
 run T (.loop xw) ⟨[(1,.ptr 101 0),(3,.lst 1 (bls o) (.id 103)),(4,.byt l (.id 104)),(5,.int .i64 i)],[(101,.rc [.int .i64 F,.str H,.int .i64 I,.byt p .no])],[103,104]⟩=
 match lnF (p.drop i) o l with
 |some (o',l')=>some (.x 0,⟨[(3,.lst 1 (bls o') (.id 103)),(4,.byt l' (.id 104))],[(101,.rc [.int .i64 F,.str H,.int .i64 I,.byt p .no])],[103,104]⟩)
 |none=>some (.r,⟨[(2,.lst 1 [] .clip)],[(101,.rc [.int .i64 F,.str H,.int .i64 I,.byt p .no])],[103,104]⟩):=by
 intro n;induction n with
 |zero=>
  intro i o l W U Z O;have hi:i=p.length:=by omega
  subst hi;rw[al,bv];simp only[go_sem,Q0,Q1,Q2,Q3,Q4,Q5,Q6,Q7,Q8,Q9,Qa,Qb,Qc,Qd,Qe,Qf,Qg,Qh,Qi,Qj,Qk,reduceCtorEq,reduceIte,lnF]
 |succ n Q=>
  intro i o l W U Z O;have hi:i<p.length:=by omega
  have L:=cA i (by omega);have J:=iE o;rw[al,da p i hi];unfold lnF;generalize z:p.getD i 0=c at*;have c1:l.length+1<=140737488355328:=by omega
  have c2:(o.length+1)*24<=140737488355328:=by omega
  by_cases E:c=10
  ·subst E
   by_cases y:(l.length:Int)=0
   ·simp only[go_sem,Q0,Q1,Q2,Q3,Q4,Q5,Q6,Q7,Q8,Q9,Qa,Qb,Qc,Qd,Qe,Qf,Qg,Qh,Qi,Qj,Qk,reduceCtorEq,reduceIte,hi,z,y]
   ·by_cases C:(4:Int)<=o.length
    ·simp only[go_sem,Q0,Q1,Q2,Q3,Q4,Q5,Q6,Q7,Q8,Q9,Qa,Qb,Qc,Qd,Qe,Qf,Qg,Qh,Qi,Qj,Qk,reduceCtorEq,reduceIte,hi,z,y,C,J]
    ·have h:=Q (i+1) (o++ [l]) [] (by omega) (by omega) (by simp) (by rw[af,aP];omega)
     rw[B0]at h;simp only[go_sem,Q0,Q1,Q2,Q3,Q4,Q5,Q6,Q7,Q8,Q9,Qa,Qb,Qc,Qd,Qe,Qf,Qg,Qh,Qi,Qj,Qk,reduceCtorEq,reduceIte,hi,z,L,y,C,J,c2,h]
  ·have h:=Q (i+1) o (l++ [c]) (by omega) (by omega) (by rw[af,aP];omega) O
   by_cases y:c<32
   ·simp only[go_sem,Q0,Q1,Q2,Q3,Q4,Q5,Q6,Q7,Q8,Q9,Qa,Qb,Qc,Qd,Qe,Qf,Qg,Qh,Qi,Qj,Qk,reduceCtorEq,reduceIte,hi,z,E,y]
   ·by_cases C:126<c
    ·simp only[go_sem,Q0,Q1,Q2,Q3,Q4,Q5,Q6,Q7,Q8,Q9,Qa,Qb,Qc,Qd,Qe,Qf,Qg,Qh,Qi,Qj,Qk,reduceCtorEq,reduceIte,hi,z,E,y,C]
    ·simp only[go_sem,Q0,Q1,Q2,Q3,Q4,Q5,Q6,Q7,Q8,Q9,Qa,Qb,Qc,Qd,Qe,Qf,Qg,Qh,Qi,Qj,Qk,reduceCtorEq,reduceIte,hi,z,L,E,y,C,c1,h]
theorem f70(x:Img)(F:x.pay.length<=1000000000000):call T 70 [.agg x.sv] [] 0=some ⟨.lst 1 (bls (dk x.pay)) .no,[],[]⟩:=by
 obtain⟨H,C,E,p⟩:=x;have h:=l70 H C E p F _ 0 [] [] rfl (by omega) (by simp) (by simp);simp only[aD,bh]at h;have y:bls []=[]:=rfl;rw[y]at h;rw[au xk8];unfold dk Img.sv;cases hq:lnF p [] []with
 |none=>rw[hq]at h;simp only[go_sem,Q0,Q1,Q2,Q3,Q4,Q5,Q6,Q7,Q8,Q9,Qa,Qb,Qc,Qd,Qe,Qf,Qg,Qh,Qi,Qj,Qk,reduceCtorEq,reduceIte,h,hq,y]
 |some q=>
  obtain⟨o,l⟩:=q;rw[hq]at h
  by_cases z:(0:Int)<l.length
  ·simp only[go_sem,Q0,Q1,Q2,Q3,Q4,Q5,Q6,Q7,Q8,Q9,Qa,Qb,Qc,Qd,Qe,Qf,Qg,Qh,Qi,Qj,Qk,reduceCtorEq,reduceIte,h,hq,y,z]
  ·simp only[go_sem,Q0,Q1,Q2,Q3,Q4,Q5,Q6,Q7,Q8,Q9,Qa,Qb,Qc,Qd,Qe,Qf,Qg,Qh,Qi,Qj,Qk,reduceCtorEq,reduceIte,h,hq,y,z]
def dT(x:Img):Int:=
 if x.role<1 then 1 else if 4<x.role then 1 else if x.ver<0 then 1 else if 1000000<x.ver then 1 else if Pr.nameB x.name=false then 43 else if(64:Int)<x.pay.length then 4 else if x.role=4 then(if((dk x.pay).length:Int)=0 then 40 else 0)else 0
theorem xit(x:Img)(hn:x.name.length<=1000000000000)(W:x.pay.length<=1000000000000):call T 100 [.agg x.sv] [] 0=some ⟨.int .i64 (dT x),[],[]⟩:=by
 have z:=f45 x.name hn;have H:=f70 x W;obtain⟨I,U,O,p⟩:=x;have Q:=iE (dk p);simp only[Img.sv]at z H ⊢;rw[au Ys];unfold dT
 by_cases h:I<1
 ·simp only[go_sem,Q0,Q1,Q2,Q3,Q4,Q5,Q6,Q7,Q8,Q9,Qa,Qb,Qc,Qd,Qe,Qf,Qg,Qh,Qi,Qj,Qk,reduceCtorEq,reduceIte,h]
 by_cases y:4<I
 ·simp only[go_sem,Q0,Q1,Q2,Q3,Q4,Q5,Q6,Q7,Q8,Q9,Qa,Qb,Qc,Qd,Qe,Qf,Qg,Qh,Qi,Qj,Qk,reduceCtorEq,reduceIte,h,y]
 by_cases C:O<0
 ·simp only[go_sem,Q0,Q1,Q2,Q3,Q4,Q5,Q6,Q7,Q8,Q9,Qa,Qb,Qc,Qd,Qe,Qf,Qg,Qh,Qi,Qj,Qk,reduceCtorEq,reduceIte,h,y,C]
 by_cases E:1000000<O
 ·simp only[go_sem,Q0,Q1,Q2,Q3,Q4,Q5,Q6,Q7,Q8,Q9,Qa,Qb,Qc,Qd,Qe,Qf,Qg,Qh,Qi,Qj,Qk,reduceCtorEq,reduceIte,h,y,C,E]
 cases a5:Pr.nameB U with
 |false=>rw[a5]at z;simp only[go_sem,Q0,Q1,Q2,Q3,Q4,Q5,Q6,Q7,Q8,Q9,Qa,Qb,Qc,Qd,Qe,Qf,Qg,Qh,Qi,Qj,Qk,reduceCtorEq,reduceIte,h,y,C,E,a5,z,vk]
 |true=>
  rw[a5]at z
  by_cases F:(64:Int)<p.length
  ·simp only[go_sem,Q0,Q1,Q2,Q3,Q4,Q5,Q6,Q7,Q8,Q9,Qa,Qb,Qc,Qd,Qe,Qf,Qg,Qh,Qi,Qj,Qk,reduceCtorEq,reduceIte,h,y,C,E,a5,z,vk,F]
  by_cases J:I=4
  ·subst J
   by_cases L:((dk p).length:Int)=0
   ·simp only[go_sem,Q0,Q1,Q2,Q3,Q4,Q5,Q6,Q7,Q8,Q9,Qa,Qb,Qc,Qd,Qe,Qf,Qg,Qh,Qi,Qj,Qk,reduceCtorEq,reduceIte,h,y,C,E,a5,z,vk,F,H,Yt,Q,L]
   ·simp only[go_sem,Q0,Q1,Q2,Q3,Q4,Q5,Q6,Q7,Q8,Q9,Qa,Qb,Qc,Qd,Qe,Qf,Qg,Qh,Qi,Qj,Qk,reduceCtorEq,reduceIte,h,y,C,E,a5,z,vk,F,H,Yt,Q,L]
  ·simp only[go_sem,Q0,Q1,Q2,Q3,Q4,Q5,Q6,Q7,Q8,Q9,Qa,Qb,Qc,Qd,Qe,Qf,Qg,Qh,Qi,Qj,Qk,reduceCtorEq,reduceIte,h,y,C,E,a5,z,vk,F,J]
def dN(x:Img):t6:=if dT x=0 then jo (jo (be 1 (aZ.wrap x.role)++be 4 (aZ.wrap x.ver)) x.name) x.pay else []
theorem ey(B X:t6):(jo B X).length=B.length+2+min 65535 X.length:=by unfold jo;rw[af,af,eG,aA]
theorem pF(x:Img)(hn:x.name.length<=1000000)(h:x.pay.length<=1000000):(dN x).length<=10000000:=by
 unfold dN;split
 ·rw[ey,ey,af,eG,eG];omega
 ·simp
theorem f95(x:Img)(hn:x.name.length<=1000000)(J:x.pay.length<=1000000):call T 95 [.agg x.sv] [] 0=some ⟨.byt (dN x) .no,[],[]⟩:=by
 have g0:=xit x (by omega) (by omega);have z:=f57 [] 1 x.role (by omega) (by omega) (by simp);have y:=f57 (be 1 (aZ.wrap x.role)) 4 x.ver (by omega) (by omega) (by rw[eG];omega);have H:=f56 (be 1 (aZ.wrap x.role)++be 4 (aZ.wrap x.ver)) x.name (by rw[af,eG,eG];omega) (by omega);have C:=f56 (jo (be 1 (aZ.wrap x.role)++be 4 (aZ.wrap x.ver)) x.name) x.pay (by rw[ey,af,eG,eG];omega) (by omega);simp only[bW,aK]at z y;obtain⟨F,E,I,p⟩:=x;simp only[Img.sv]at*;rw[au xiD];unfold dN
 by_cases h:dT ⟨F,E,I,p⟩=0
 ·rw[h]at g0
  simp only[go_sem,Q0,Q1,Q2,Q3,Q4,Q5,Q6,Q7,Q8,Q9,Qa,Qb,Qc,Qd,Qe,Qf,Qg,Qh,Qi,Qj,Qk,reduceCtorEq,reduceIte,g0,D2,z,xdd,y,H,xlP,C,h]
 ·simp only[go_sem,Q0,Q1,Q2,Q3,Q4,Q5,Q6,Q7,Q8,Q9,Qa,Qb,Qc,Qd,Qe,Qf,Qg,Qh,Qi,Qj,Qk,reduceCtorEq,reduceIte,g0,D2,h]
def ur(role:Int):Int:=if role=1 then 0 else if role=2 then 4 else if role=3 then 8 else if role=4 then 9 else-1
theorem f82(role:Int):call T 82 [.int .i64 role] [] 0=some ⟨.int .i64 (ur role),[],[]⟩:=by
 rw[au xkY];unfold ur
 by_cases h:role=1
 ·subst h;simp only[go_sem,Q0,Q1,Q2,Q3,Q4,Q5,Q6,Q7,Q8,Q9,Qa,Qb,Qc,Qd,Qe,Qf,Qg,Qh,Qi,Qj,Qk,reduceCtorEq,reduceIte]
 by_cases z:role=2
 ·subst z;simp only[go_sem,Q0,Q1,Q2,Q3,Q4,Q5,Q6,Q7,Q8,Q9,Qa,Qb,Qc,Qd,Qe,Qf,Qg,Qh,Qi,Qj,Qk,reduceCtorEq,reduceIte]
 by_cases y:role=3
 ·subst y;simp only[go_sem,Q0,Q1,Q2,Q3,Q4,Q5,Q6,Q7,Q8,Q9,Qa,Qb,Qc,Qd,Qe,Qf,Qg,Qh,Qi,Qj,Qk,reduceCtorEq,reduceIte]
 by_cases C:role=4
 ·subst C;simp only[go_sem,Q0,Q1,Q2,Q3,Q4,Q5,Q6,Q7,Q8,Q9,Qa,Qb,Qc,Qd,Qe,Qf,Qg,Qh,Qi,Qj,Qk,reduceCtorEq,reduceIte]
 simp only[go_sem,Q0,Q1,Q2,Q3,Q4,Q5,Q6,Q7,Q8,Q9,Qa,Qb,Qc,Qd,Qe,Qf,Qg,Qh,Qi,Qj,Qk,reduceCtorEq,reduceIte,h,z,y,C]
def sm(a:Int)(b:Nat):Bool:=if b=0 then decide (a=1\/a=3)else decide (a=2\/a=3)
def vi(a:Int):Prop:=a=1\/a=2\/a=3
theorem xfU(a:Int)(h:vi a):call T 120 [.int .i64 a,.int .i64 0] [] 0=some ⟨.bool (sm a 0),[],[]⟩:=by rcases h with rfl|rfl|rfl<;>(rw[au Yr];simp only[go_sem,Q0,Q1,Q2,Q3,Q4,Q5,Q6,Q7,Q8,Q9,Qa,Qb,Qc,Qd,Qe,Qf,Qg,Qh,Qi,Qj,Qk,reduceCtorEq,reduceIte];rfl)
theorem xfT(a:Int)(h:vi a):call T 120 [.int .i64 a,.int .i64 1] [] 0=some ⟨.bool (sm a 1),[],[]⟩:=by rcases h with rfl|rfl|rfl<;>(rw[au Yr];simp only[go_sem,Q0,Q1,Q2,Q3,Q4,Q5,Q6,Q7,Q8,Q9,Qa,Qb,Qc,Qd,Qe,Qf,Qg,Qh,Qi,Qj,Qk,reduceCtorEq,reduceIte];rfl)
def nL(b:t6)(a:Int):List t6:=if b=[]then [[],[]]else [if sm a 0 then lg b else [],if sm a 1 then sha b else []]
theorem FX(b:t6)(a:Int):(nL b a).length=2:=by unfold nL;split<;>rfl
theorem xkF(x:Img)(a:Int)(E:vi a)(hn:x.name.length<=1000000)(F:x.pay.length<=1000000):call T 101 [.agg x.sv,.int .i64 a] [] 0=some ⟨.lst 1 (bls (nL (dN x) a)) .no,[],[]⟩:=by
 have g0:=f95 x hn F;have Q:=pF x hn F;have C:=xfU a E;have z:=xfT a E;have H:=xfS (dN x) (by omega);have J:=xfR (dN x) (by omega);have k1:ai.wrap 1=1:=rfl;have k2:ai.wrap 2=2:=rfl;obtain⟨I,L,O,p⟩:=x;simp only[Img.sv]at*;generalize dN ⟨I,L,O,p⟩=b at*;rw[au xgO];unfold nL bls
 by_cases h:b=[]
 ·subst h
  simp only[go_sem,Q0,Q1,Q2,Q3,Q4,Q5,Q6,Q7,Q8,Q9,Qa,Qb,Qc,Qd,Qe,Qf,Qg,Qh,Qi,Qj,Qk,reduceCtorEq,reduceIte,g0,sS,ao]
  iterate 3
   rw[al];simp only[go_sem,Q0,Q1,Q2,Q3,Q4,Q5,Q6,Q7,Q8,Q9,Qa,Qb,Qc,Qd,Qe,Qf,Qg,Qh,Qi,Qj,Qk,reduceCtorEq,reduceIte,k1,k2,ao]
 ·have y:(0:Int)<b.length:=by
   have:b.length≠0:=fun e=>h (cx.1 e)
   omega
  cases q1:sm a 0<;>cases q2:sm a 1<;>rw[q1]at C<;>rw[q2]at z<;>
  ·simp only[go_sem,Q0,Q1,Q2,Q3,Q4,Q5,Q6,Q7,Q8,Q9,Qa,Qb,Qc,Qd,Qe,Qf,Qg,Qh,Qi,Qj,Qk,reduceCtorEq,reduceIte,g0,sS,ao]
   iterate 3
    rw[al];simp only[go_sem,Q0,Q1,Q2,Q3,Q4,Q5,Q6,Q7,Q8,Q9,Qa,Qb,Qc,Qd,Qe,Qf,Qg,Qh,Qi,Qj,Qk,reduceCtorEq,reduceIte,k1,k2,h,y,C,z,H,J,xg3,xg2,fA,ao]
def qR(name:t6)(ver:Int):t6:=name++32::dec ver.toNat
theorem f34(name:t6)(ver:Int)(hn:name.length<=1000000)(h:0<=ver)(y:ver<=1000000):call T 34 [.str name,.int .i64 ver] [] 0=some ⟨.byt (qR name ver) .no,[],[]⟩:=by
 obtain⟨v,rfl⟩:=Int.eq_ofNat_of_zero_le h;have g:=f85 v (by omega);have z:=kg 6 v (by omega);rw[au xlv];unfold qR;have c1:name.length+1<=140737488355328:=by omega
 have c2:name.length+1+(dec v).length<=140737488355328:=by omega
 simp only[go_sem,Q0,Q1,Q2,Q3,Q4,Q5,Q6,Q7,Q8,Q9,Qa,Qb,Qc,Qd,Qe,Qf,Qg,Qh,Qi,Qj,Qk,reduceCtorEq,reduceIte,g,xiN,c1,c2]
end Go.Proofs.YtkcjdeofknkndaaGreatDoor
