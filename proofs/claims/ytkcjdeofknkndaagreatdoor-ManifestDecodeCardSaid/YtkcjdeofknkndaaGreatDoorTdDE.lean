/- Contracts. No condition. -/
import Derived.Test.YtkcjdeofknkndaaGreatDoorTbDE
import Derived.Test.YtkcjdeofknkndaaGreatDoorTcDE
open Int renaming cast_ofNat_Int -> bX, natCast_zero -> aB
open Go.IntKind renaming i64 -> af, u64 -> aQ
open List renaming all_cons -> iG, drop -> jx, drop_length -> ba, drop_zero -> aV, length_append -> ac, length_eq_zero_iff -> cA, length_map -> aS, length_singleton -> aH, length_take -> aw, nil_append -> aG, replicate -> ao
set_option maxRecDepth 100000
set_option maxHeartbeats 16000000
set_option linter.unusedSimpArgs false
set_option linter.unusedVariables false
namespace Go.Proofs.YtkcjdeofknkndaaGreatDoor
open Go.Sy
open UInt8 renaming reduceLT -> Q0, reduceLE -> Q1
open Int renaming reduceToNat -> Q2, reduceLE -> Q3, reduceLT -> Q4, reduceEq -> Q5, reduceNe -> Q6, reduceNeg -> Q7, reduceAdd -> Q8, reduceSub -> Q9, reduceMul -> Qa
open Nat renaming reducePow -> Qb, reduceDiv -> Qc, reduceMod -> Qd, reduceAdd -> Qe, reduceSub -> Qf, reduceMul -> Qg, reduceLT -> Qh, reduceLeDiff -> Qi, reduceEqDiff -> Qj, reduceBEq -> Qk
attribute [go_sem] bX
structure Ev where
 reg:Int
 kind:Int
 dg:List (List UInt8)
 data:List UInt8
def bls(l:List t7):f8:=l.map fun d=> [.byt d .no]
def Ev.sv(e:Ev):LAa:=[.int .i64 e.reg,.int .i64 e.kind,.lst 1 (bls e.dg) .no,.byt e.data .no]
structure Img where
 role:Int
 name:List UInt8
 ver:Int
 pay:List UInt8
def Img.sv(x:Img):LAa:=[.int .i64 x.role,.str x.name,.int .i64 x.ver,.byt x.pay .no]
theorem l45(s:t7)(U:s.length<=1000000000000):∀(n i:Nat),s.length-i=n->i<=s.length->
 run T (.loop PC) ⟨[(0,.str s),(3,.int .i64 i)],[],[]⟩=if(s.drop i).all Pr.okc=true then some (.x 0,⟨[],[],[]⟩)else some (.r,⟨[(2,.bool false)],[],[]⟩):=by
 intro n;induction n with
 |zero=>
  intro i L Q;have hi:i=s.length:=by omega
  subst hi;rw[ai,ba];simp only[go_sem,Q0,Q1,Q2,Q3,Q4,Q5,Q6,Q7,Q8,Q9,Qa,Qb,Qc,Qd,Qe,Qf,Qg,Qh,Qi,Qj,Qk,reduceCtorEq,reduceIte]
 |succ n O=>
  intro i L Q;have hi:i<s.length:=by omega
  have z:=bW i (by omega);have y:=O (i+1) (by omega) (by omega);rw[ai,cH s i hi,iG];unfold Pr.okc at y ⊢;generalize C:s.getD i 0=c at*;generalize List.all (jx (i+1) s) _=q at*
  by_cases H:c<97
  ·by_cases F:c<48
   ·by_cases E:c=45
    ·subst E;simp only[go_sem,Q0,Q1,Q2,Q3,Q4,Q5,Q6,Q7,Q8,Q9,Qa,Qb,Qc,Qd,Qe,Qf,Qg,Qh,Qi,Qj,Qk,reduceCtorEq,reduceIte,hi,C,z,y]
    ·simp only[go_sem,Q0,Q1,Q2,Q3,Q4,Q5,Q6,Q7,Q8,Q9,Qa,Qb,Qc,Qd,Qe,Qf,Qg,Qh,Qi,Qj,Qk,reduceCtorEq,reduceIte,hi,C,z,H,F,E,y]
   ·by_cases I:57<c
    ·by_cases E:c=45
     ·subst E;simp only[go_sem,Q0,Q1,Q2,Q3,Q4,Q5,Q6,Q7,Q8,Q9,Qa,Qb,Qc,Qd,Qe,Qf,Qg,Qh,Qi,Qj,Qk,reduceCtorEq,reduceIte,hi,C,z,y]
     ·simp only[go_sem,Q0,Q1,Q2,Q3,Q4,Q5,Q6,Q7,Q8,Q9,Qa,Qb,Qc,Qd,Qe,Qf,Qg,Qh,Qi,Qj,Qk,reduceCtorEq,reduceIte,hi,C,z,H,F,I,E,y]
    ·simp only[go_sem,Q0,Q1,Q2,Q3,Q4,Q5,Q6,Q7,Q8,Q9,Qa,Qb,Qc,Qd,Qe,Qf,Qg,Qh,Qi,Qj,Qk,reduceCtorEq,reduceIte,hi,C,z,H,F,I,y]
  ·by_cases J:122<c
   ·by_cases F:c<48
    ·exact absurd F (by intro h;have:=UInt8.lt_trans J h;revert this;decide)
    ·by_cases I:57<c
     ·by_cases E:c=45
      ·subst E;simp only[go_sem,Q0,Q1,Q2,Q3,Q4,Q5,Q6,Q7,Q8,Q9,Qa,Qb,Qc,Qd,Qe,Qf,Qg,Qh,Qi,Qj,Qk,reduceCtorEq,reduceIte,hi,C,z,y]
      ·simp only[go_sem,Q0,Q1,Q2,Q3,Q4,Q5,Q6,Q7,Q8,Q9,Qa,Qb,Qc,Qd,Qe,Qf,Qg,Qh,Qi,Qj,Qk,reduceCtorEq,reduceIte,hi,C,z,H,J,F,I,E,y]
     ·simp only[go_sem,Q0,Q1,Q2,Q3,Q4,Q5,Q6,Q7,Q8,Q9,Qa,Qb,Qc,Qd,Qe,Qf,Qg,Qh,Qi,Qj,Qk,reduceCtorEq,reduceIte,hi,C,z,H,J,F,I,y]
   ·simp only[go_sem,Q0,Q1,Q2,Q3,Q4,Q5,Q6,Q7,Q8,Q9,Qa,Qb,Qc,Qd,Qe,Qf,Qg,Qh,Qi,Qj,Qk,reduceCtorEq,reduceIte,hi,C,z,H,J,y]
theorem f45(s:t7)(F:s.length<=1000000000000):call T 45 [.str s] [] 0=some ⟨.bool (Pr.nameB s),[],[]⟩:=by
 have h:=l45 s F _ 0 rfl (by omega);simp only[aB,aV]at h;rw[an xoi];unfold Pr.nameB
 by_cases C:s.length<1
 ·have y:(s.length:Int)<1:=by omega
  simp only[go_sem,Q0,Q1,Q2,Q3,Q4,Q5,Q6,Q7,Q8,Q9,Qa,Qb,Qc,Qd,Qe,Qf,Qg,Qh,Qi,Qj,Qk,reduceCtorEq,reduceIte,C,y]
 ·have y:¬(s.length:Int)<1:=by omega
  by_cases E:12<s.length
  ·have z:(12:Int)<s.length:=by omega
   simp only[go_sem,Q0,Q1,Q2,Q3,Q4,Q5,Q6,Q7,Q8,Q9,Qa,Qb,Qc,Qd,Qe,Qf,Qg,Qh,Qi,Qj,Qk,reduceCtorEq,reduceIte,C,y,E,z]
  ·have z:¬(12:Int)<s.length:=by omega
   cases hq:s.all Pr.okc with
   |true=>rw[if_pos hq]at h;simp only[go_sem,Q0,Q1,Q2,Q3,Q4,Q5,Q6,Q7,Q8,Q9,Qa,Qb,Qc,Qd,Qe,Qf,Qg,Qh,Qi,Qj,Qk,reduceCtorEq,reduceIte,C,y,E,z,h,hq]
   |false=>rw[if_neg (by rw[hq];simp)]at h;simp only[go_sem,Q0,Q1,Q2,Q3,Q4,Q5,Q6,Q7,Q8,Q9,Qa,Qb,Qc,Qd,Qe,Qf,Qg,Qh,Qi,Qj,Qk,reduceCtorEq,reduceIte,C,y,E,z,h,hq]
def lnF:t7->List t7->t7->Option (List t7×t7)
 |[],o,l=>some (o,l)
 |c::r,o,l=>if c=10 then(if(l.length:Int)=0 then none else if(4:Int)<=o.length then none else lnF r (o++ [l]) [])else if c<32 then none else if 126<c then none else lnF r o (l++ [c])
def fB(p:t7):List t7:=match lnF p [] []with
 |some (o,l)=>if(0:Int)<l.length then []else o
 |none=> []
theorem lm(l:List t7):(bls l).length=l.length:=aS ..
theorem CD(l:List t7)(d:t7):bls (l++ [d])=bls l++ [[.byt d .no]]:=by simp[bls]
theorem l70(F:Int)(H:t7)(I:Int)(p:t7)(hp:p.length<=1000000000000):∀(n i:Nat)(o:List t7)(l:t7),p.length-i=n->i<=p.length->l.length<=i->o.length<=4->
 run T (.loop xL) ⟨[(1,.ptr 101 0),(3,.lst 1 (bls o) (.id 103)),(4,.byt l (.id 104)),(5,.int .i64 i)],[(101,.rc [.int .i64 F,.str H,.int .i64 I,.byt p .no])],[103,104]⟩=
 match lnF (p.drop i) o l with
 |some (o',l')=>some (.x 0,⟨[(3,.lst 1 (bls o') (.id 103)),(4,.byt l' (.id 104))],[(101,.rc [.int .i64 F,.str H,.int .i64 I,.byt p .no])],[103,104]⟩)
 |none=>some (.r,⟨[(2,.lst 1 [] .clip)],[(101,.rc [.int .i64 F,.str H,.int .i64 I,.byt p .no])],[103,104]⟩):=by
 intro n;induction n with
 |zero=>
  intro i o l Z W U O;have hi:i=p.length:=by omega
  subst hi;rw[ai,ba];simp only[go_sem,Q0,Q1,Q2,Q3,Q4,Q5,Q6,Q7,Q8,Q9,Qa,Qb,Qc,Qd,Qe,Qf,Qg,Qh,Qi,Qj,Qk,reduceCtorEq,reduceIte,lnF]
 |succ n Q=>
  intro i o l Z W U O;have hi:i<p.length:=by omega
  have J:=bW i (by omega);have L:=lm o;rw[ai,cH p i hi];unfold lnF;generalize z:p.getD i 0=c at*;have c1:l.length+1<=140737488355328:=by omega
  have c2:(o.length+1)*24<=140737488355328:=by omega
  by_cases E:c=10
  ·subst E
   by_cases y:(l.length:Int)=0
   ·simp only[go_sem,Q0,Q1,Q2,Q3,Q4,Q5,Q6,Q7,Q8,Q9,Qa,Qb,Qc,Qd,Qe,Qf,Qg,Qh,Qi,Qj,Qk,reduceCtorEq,reduceIte,hi,z,y]
   ·by_cases C:(4:Int)<=o.length
    ·simp only[go_sem,Q0,Q1,Q2,Q3,Q4,Q5,Q6,Q7,Q8,Q9,Qa,Qb,Qc,Qd,Qe,Qf,Qg,Qh,Qi,Qj,Qk,reduceCtorEq,reduceIte,hi,z,y,C,L]
    ·have h:=Q (i+1) (o++ [l]) [] (by omega) (by omega) (by simp) (by rw[ac,aH];omega)
     rw[CD]at h;simp only[go_sem,Q0,Q1,Q2,Q3,Q4,Q5,Q6,Q7,Q8,Q9,Qa,Qb,Qc,Qd,Qe,Qf,Qg,Qh,Qi,Qj,Qk,reduceCtorEq,reduceIte,hi,z,J,y,C,L,c2,h]
  ·have h:=Q (i+1) o (l++ [c]) (by omega) (by omega) (by rw[ac,aH];omega) O
   by_cases y:c<32
   ·simp only[go_sem,Q0,Q1,Q2,Q3,Q4,Q5,Q6,Q7,Q8,Q9,Qa,Qb,Qc,Qd,Qe,Qf,Qg,Qh,Qi,Qj,Qk,reduceCtorEq,reduceIte,hi,z,E,y]
   ·by_cases C:126<c
    ·simp only[go_sem,Q0,Q1,Q2,Q3,Q4,Q5,Q6,Q7,Q8,Q9,Qa,Qb,Qc,Qd,Qe,Qf,Qg,Qh,Qi,Qj,Qk,reduceCtorEq,reduceIte,hi,z,E,y,C]
    ·simp only[go_sem,Q0,Q1,Q2,Q3,Q4,Q5,Q6,Q7,Q8,Q9,Qa,Qb,Qc,Qd,Qe,Qf,Qg,Qh,Qi,Qj,Qk,reduceCtorEq,reduceIte,hi,z,J,E,y,C,c1,h]
theorem f70(x:Img)(E:x.pay.length<=1000000000000):call T 70 [.agg x.sv] [] 0=some ⟨.lst 1 (bls (fB x.pay)) .no,[],[]⟩:=by
 obtain⟨F,C,H,p⟩:=x;have h:=l70 F C H p E _ 0 [] [] rfl (by omega) (by simp) (by simp);simp only[aB,aV]at h;have y:bls []=[]:=rfl;rw[y]at h;rw[an xnY];unfold fB Img.sv;cases hq:lnF p [] []with
 |none=>rw[hq]at h;simp only[go_sem,Q0,Q1,Q2,Q3,Q4,Q5,Q6,Q7,Q8,Q9,Qa,Qb,Qc,Qd,Qe,Qf,Qg,Qh,Qi,Qj,Qk,reduceCtorEq,reduceIte,h,hq,y]
 |some q=>
  obtain⟨o,l⟩:=q;rw[hq]at h
  by_cases z:(0:Int)<l.length
  ·simp only[go_sem,Q0,Q1,Q2,Q3,Q4,Q5,Q6,Q7,Q8,Q9,Qa,Qb,Qc,Qd,Qe,Qf,Qg,Qh,Qi,Qj,Qk,reduceCtorEq,reduceIte,h,hq,y,z]
  ·simp only[go_sem,Q0,Q1,Q2,Q3,Q4,Q5,Q6,Q7,Q8,Q9,Qa,Qb,Qc,Qd,Qe,Qf,Qg,Qh,Qi,Qj,Qk,reduceCtorEq,reduceIte,h,hq,y,z]
def eX(x:Img):Int:=
 if x.role<1 then 1 else if 4<x.role then 1 else if x.ver<0 then 1 else if 1000000<x.ver then 1 else if Pr.nameB x.name=false then 43 else if(64:Int)<x.pay.length then 4 else if x.role=4 then(if((fB x.pay).length:Int)=0 then 40 else 0)else 0
theorem xlk(x:Img)(hn:x.name.length<=1000000000000)(W:x.pay.length<=1000000000000):call T 100 [.agg x.sv] [] 0=some ⟨.int .i64 (eX x),[],[]⟩:=by
 have z:=f45 x.name hn;have H:=f70 x W;obtain⟨I,U,Q,p⟩:=x;have O:=lm (fB p);simp only[Img.sv]at z H ⊢;rw[an xjG];unfold eX
 by_cases h:I<1
 ·simp only[go_sem,Q0,Q1,Q2,Q3,Q4,Q5,Q6,Q7,Q8,Q9,Qa,Qb,Qc,Qd,Qe,Qf,Qg,Qh,Qi,Qj,Qk,reduceCtorEq,reduceIte,h]
 by_cases y:4<I
 ·simp only[go_sem,Q0,Q1,Q2,Q3,Q4,Q5,Q6,Q7,Q8,Q9,Qa,Qb,Qc,Qd,Qe,Qf,Qg,Qh,Qi,Qj,Qk,reduceCtorEq,reduceIte,h,y]
 by_cases C:Q<0
 ·simp only[go_sem,Q0,Q1,Q2,Q3,Q4,Q5,Q6,Q7,Q8,Q9,Qa,Qb,Qc,Qd,Qe,Qf,Qg,Qh,Qi,Qj,Qk,reduceCtorEq,reduceIte,h,y,C]
 by_cases E:1000000<Q
 ·simp only[go_sem,Q0,Q1,Q2,Q3,Q4,Q5,Q6,Q7,Q8,Q9,Qa,Qb,Qc,Qd,Qe,Qf,Qg,Qh,Qi,Qj,Qk,reduceCtorEq,reduceIte,h,y,C,E]
 cases a5:Pr.nameB U with
 |false=>rw[a5]at z;simp only[go_sem,Q0,Q1,Q2,Q3,Q4,Q5,Q6,Q7,Q8,Q9,Qa,Qb,Qc,Qd,Qe,Qf,Qg,Qh,Qi,Qj,Qk,reduceCtorEq,reduceIte,h,y,C,E,a5,z,ky]
 |true=>
  rw[a5]at z
  by_cases F:(64:Int)<p.length
  ·simp only[go_sem,Q0,Q1,Q2,Q3,Q4,Q5,Q6,Q7,Q8,Q9,Qa,Qb,Qc,Qd,Qe,Qf,Qg,Qh,Qi,Qj,Qk,reduceCtorEq,reduceIte,h,y,C,E,a5,z,ky,F]
  by_cases J:I=4
  ·subst J
   by_cases L:((fB p).length:Int)=0
   ·simp only[go_sem,Q0,Q1,Q2,Q3,Q4,Q5,Q6,Q7,Q8,Q9,Qa,Qb,Qc,Qd,Qe,Qf,Qg,Qh,Qi,Qj,Qk,reduceCtorEq,reduceIte,h,y,C,E,a5,z,ky,F,H,xlH,O,L]
   ·simp only[go_sem,Q0,Q1,Q2,Q3,Q4,Q5,Q6,Q7,Q8,Q9,Qa,Qb,Qc,Qd,Qe,Qf,Qg,Qh,Qi,Qj,Qk,reduceCtorEq,reduceIte,h,y,C,E,a5,z,ky,F,H,xlH,O,L]
  ·simp only[go_sem,Q0,Q1,Q2,Q3,Q4,Q5,Q6,Q7,Q8,Q9,Qa,Qb,Qc,Qd,Qe,Qf,Qg,Qh,Qi,Qj,Qk,reduceCtorEq,reduceIte,h,y,C,E,a5,z,ky,F,J]
def fm(x:Img):t7:=if eX x=0 then eA (eA (be 1 (aQ.wrap x.role)++be 4 (aQ.wrap x.ver)) x.name) x.pay else []
theorem dj(B X:t7):(eA B X).length=B.length+2+min 65535 X.length:=by unfold eA;rw[ac,ac,eE,aw]
theorem me(x:Img)(hn:x.name.length<=1000000)(h:x.pay.length<=1000000):(fm x).length<=10000000:=by
 unfold fm;split
 ·rw[dj,dj,ac,eE,eE];omega
 ·simp
theorem f95(x:Img)(hn:x.name.length<=1000000)(J:x.pay.length<=1000000):call T 95 [.agg x.sv] [] 0=some ⟨.byt (fm x) .no,[],[]⟩:=by
 have g0:=xlk x (by omega) (by omega);have z:=f57 [] 1 x.role (by omega) (by omega) (by simp);have y:=f57 (be 1 (aQ.wrap x.role)) 4 x.ver (by omega) (by omega) (by rw[eE];omega);have E:=f56 (be 1 (aQ.wrap x.role)++be 4 (aQ.wrap x.ver)) x.name (by rw[ac,eE,eE];omega) (by omega);have F:=f56 (eA (be 1 (aQ.wrap x.role)++be 4 (aQ.wrap x.ver)) x.name) x.pay (by rw[dj,ac,eE,eE];omega) (by omega);simp only[bX,aG]at z y;obtain⟨H,C,I,p⟩:=x;simp only[Img.sv]at*;rw[an xnI];unfold fm
 by_cases h:eX ⟨H,C,I,p⟩=0
 ·rw[h]at g0
  simp only[go_sem,Q0,Q1,Q2,Q3,Q4,Q5,Q6,Q7,Q8,Q9,Qa,Qb,Qc,Qd,Qe,Qf,Qg,Qh,Qi,Qj,Qk,reduceCtorEq,reduceIte,g0,P8,z,CJ,y,E,O0,F,h]
 ·simp only[go_sem,Q0,Q1,Q2,Q3,Q4,Q5,Q6,Q7,Q8,Q9,Qa,Qb,Qc,Qd,Qe,Qf,Qg,Qh,Qi,Qj,Qk,reduceCtorEq,reduceIte,g0,P8,h]
def zP(role:Int):Int:=if role=1 then 0 else if role=2 then 4 else if role=3 then 8 else if role=4 then 9 else-1
theorem f82(role:Int):call T 82 [.int .i64 role] [] 0=some ⟨.int .i64 (zP role),[],[]⟩:=by
 rw[an xnO];unfold zP
 by_cases y:role=1
 ·subst y;simp only[go_sem,Q0,Q1,Q2,Q3,Q4,Q5,Q6,Q7,Q8,Q9,Qa,Qb,Qc,Qd,Qe,Qf,Qg,Qh,Qi,Qj,Qk,reduceCtorEq,reduceIte]
 by_cases h:role=2
 ·subst h;simp only[go_sem,Q0,Q1,Q2,Q3,Q4,Q5,Q6,Q7,Q8,Q9,Qa,Qb,Qc,Qd,Qe,Qf,Qg,Qh,Qi,Qj,Qk,reduceCtorEq,reduceIte]
 by_cases z:role=3
 ·subst z;simp only[go_sem,Q0,Q1,Q2,Q3,Q4,Q5,Q6,Q7,Q8,Q9,Qa,Qb,Qc,Qd,Qe,Qf,Qg,Qh,Qi,Qj,Qk,reduceCtorEq,reduceIte]
 by_cases C:role=4
 ·subst C;simp only[go_sem,Q0,Q1,Q2,Q3,Q4,Q5,Q6,Q7,Q8,Q9,Qa,Qb,Qc,Qd,Qe,Qf,Qg,Qh,Qi,Qj,Qk,reduceCtorEq,reduceIte]
 simp only[go_sem,Q0,Q1,Q2,Q3,Q4,Q5,Q6,Q7,Q8,Q9,Qa,Qb,Qc,Qd,Qe,Qf,Qg,Qh,Qi,Qj,Qk,reduceCtorEq,reduceIte,y,h,z,C]
def OL(a:Int)(b:Nat):Bool:=if b=0 then decide (a=1\/a=3)else decide (a=2\/a=3)
def xaB(a:Int):Prop:=a=1\/a=2\/a=3
theorem xiI(a:Int)(h:xaB a):call T 120 [.int .i64 a,.int .i64 0] [] 0=some ⟨.bool (OL a 0),[],[]⟩:=by rcases h with rfl|rfl|rfl<;>(rw[an xaI];simp only[go_sem,Q0,Q1,Q2,Q3,Q4,Q5,Q6,Q7,Q8,Q9,Qa,Qb,Qc,Qd,Qe,Qf,Qg,Qh,Qi,Qj,Qk,reduceCtorEq,reduceIte];rfl)
theorem xiH(a:Int)(h:xaB a):call T 120 [.int .i64 a,.int .i64 1] [] 0=some ⟨.bool (OL a 1),[],[]⟩:=by rcases h with rfl|rfl|rfl<;>(rw[an xaI];simp only[go_sem,Q0,Q1,Q2,Q3,Q4,Q5,Q6,Q7,Q8,Q9,Qa,Qb,Qc,Qd,Qe,Qf,Qg,Qh,Qi,Qj,Qk,reduceCtorEq,reduceIte];rfl)
def sY(b:t7)(a:Int):List t7:=if b=[]then [[],[]]else [if OL a 0 then lA b else [],if OL a 1 then sha b else []]
theorem Gq(b:t7)(a:Int):(sY b a).length=2:=by unfold sY;split<;>rfl
theorem xnx(x:Img)(a:Int)(z:xaB a)(hn:x.name.length<=1000000)(E:x.pay.length<=1000000):call T 101 [.agg x.sv,.int .i64 a] [] 0=some ⟨.lst 1 (bls (sY (fm x) a)) .no,[],[]⟩:=by
 have g0:=f95 x hn E;have Q:=me x hn E;have C:=xiI a z;have F:=xiH a z;have H:=xiG (fm x) (by omega);have L:=xiF (fm x) (by omega);have k1:af.wrap 1=1:=rfl;have k2:af.wrap 2=2:=rfl;obtain⟨I,J,O,p⟩:=x;simp only[Img.sv]at*;generalize fm ⟨I,J,O,p⟩=b at*;rw[an xjF];unfold sY bls
 by_cases y:b=[]
 ·subst y
  simp only[go_sem,Q0,Q1,Q2,Q3,Q4,Q5,Q6,Q7,Q8,Q9,Qa,Qb,Qc,Qd,Qe,Qf,Qg,Qh,Qi,Qj,Qk,reduceCtorEq,reduceIte,g0,CH,ao]
  iterate 3
   rw[ai];simp only[go_sem,Q0,Q1,Q2,Q3,Q4,Q5,Q6,Q7,Q8,Q9,Qa,Qb,Qc,Qd,Qe,Qf,Qg,Qh,Qi,Qj,Qk,reduceCtorEq,reduceIte,k1,k2,ao]
 ·have h:(0:Int)<b.length:=by
   have:b.length≠0:=fun e=>y (cA.1 e)
   omega
  cases q1:OL a 0<;>cases q2:OL a 1<;>rw[q1]at C<;>rw[q2]at F<;>
  ·simp only[go_sem,Q0,Q1,Q2,Q3,Q4,Q5,Q6,Q7,Q8,Q9,Qa,Qb,Qc,Qd,Qe,Qf,Qg,Qh,Qi,Qj,Qk,reduceCtorEq,reduceIte,g0,CH,ao]
   iterate 3
    rw[ai];simp only[go_sem,Q0,Q1,Q2,Q3,Q4,Q5,Q6,Q7,Q8,Q9,Qa,Qb,Qc,Qd,Qe,Qf,Qg,Qh,Qi,Qj,Qk,reduceCtorEq,reduceIte,k1,k2,y,h,C,F,H,L,xjW,xjV,iz,ao]
def wK(name:t7)(ver:Int):t7:=name++32::dec ver.toNat
theorem f34(name:t7)(ver:Int)(hn:name.length<=1000000)(h:0<=ver)(y:ver<=1000000):call T 34 [.str name,.int .i64 ver] [] 0=some ⟨.byt (wK name ver) .no,[],[]⟩:=by
 obtain⟨v,rfl⟩:=Int.eq_ofNat_of_zero_le h;have g:=f85 v (by omega);have z:=mh 6 v (by omega);rw[an xoq];unfold wK;have c1:name.length+1<=140737488355328:=by omega
 have c2:name.length+1+(dec v).length<=140737488355328:=by omega
 simp only[go_sem,Q0,Q1,Q2,Q3,Q4,Q5,Q6,Q7,Q8,Q9,Qa,Qb,Qc,Qd,Qe,Qf,Qg,Qh,Qi,Qj,Qk,reduceCtorEq,reduceIte,g,xlB,c1,c2]
end Go.Proofs.YtkcjdeofknkndaaGreatDoor
