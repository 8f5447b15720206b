/- What the functions come to. No condition. -/
import Derived.Test.YtkcjdeofknkndaaGreatDoorTbIt
import Derived.Test.YtkcjdeofknkndaaGreatDoorTcIt
open Int renaming cast_ofNat_Int -> cr, natCast_zero -> av
open Go.IntKind renaming i64 -> ac, u64 -> aZ
open List renaming all_cons -> gx, drop -> iu, drop_length -> aX, drop_zero -> bh, getD_eq_getElem?_getD -> aa, length_append -> af, length_eq_zero_iff -> bi, length_map -> au, length_singleton -> aM, length_take -> aj, nil_append -> aF, replicate -> am
set_option maxRecDepth 100000
set_option maxHeartbeats 16000000
set_option linter.unusedSimpArgs false
set_option linter.unusedVariables false
namespace Go.Proofs.YtkcjdeofknkndaaGreatDoor
open Go.Sy
open UInt8 renaming reduceLT -> Q0, reduceLE -> Q1
open Int renaming reduceToNat -> Q2, reduceLE -> Q3, reduceLT -> Q4, reduceEq -> Q5, reduceNe -> Q6, reduceNeg -> Q7, reduceAdd -> Q8, reduceSub -> Q9, reduceMul -> Qa
open Nat renaming reducePow -> Qb, reduceDiv -> Qc, reduceMod -> Qd, reduceAdd -> Qe, reduceSub -> Qf, reduceMul -> Qg, reduceLT -> Qh, reduceLeDiff -> Qi, reduceEqDiff -> Qj, reduceBEq -> Qk
attribute [go_sem] cr
structure Ev where
 reg:Int
 kind:Int
 dg:List (List UInt8)
 data:List UInt8
def bls(l:List (List UInt8)):List (List SV):=l.map fun d=> [.byt d .no]
def Ev.sv(e:Ev):List SV:=[.int .i64 e.reg,.int .i64 e.kind,.lst 1 (bls e.dg) .no,.byt e.data .no]
def mJ(l:List Ev):List (List SV):=l.map Ev.sv
theorem kA(l:List Ev):(mJ l).length=l.length:=au ..
theorem GU(l:List Ev)(i:Nat)(h:i<l.length):(mJ l).getD i []=(l.getD i ⟨0,0,[],[]⟩).sv:=by simp[mJ,aa,h]
def ev0:Ev:=⟨0,0,[],[]⟩
theorem r9(l:List Ev)(i:Nat)(h:i<l.length):(mJ l).getD i []=(l.getD i ev0).sv:=GU l i h
structure Img where
 role:Int
 name:List UInt8
 ver:Int
 pay:List UInt8
def Img.sv(x:Img):List SV:=[.int .i64 x.role,.str x.name,.int .i64 x.ver,.byt x.pay .no]
theorem l45(s:List UInt8)(hs:s.length<=1000000000000):∀(n i:Nat),s.length-i=n->i<=s.length->
 run T (.loop P3) ⟨[(0,.str s),(3,.int .i64 i)],[],[]⟩=if(s.drop i).all Pr.okc=true then some (.x 0,⟨[],[],[]⟩)else some (.r,⟨[(2,.bool false)],[],[]⟩):=by
 intro n;induction n with
 |zero=>
  intro i h0 h1;have hi:i=s.length:=by omega
  subst hi;rw[ai,aX];simp only[go_sem,Q0,Q1,Q2,Q3,Q4,Q5,Q6,Q7,Q8,Q9,Qa,Qb,Qc,Qd,Qe,Qf,Qg,Qh,Qi,Qj,Qk,reduceCtorEq,reduceIte]
 |succ n ih=>
  intro i h0 h1;have hi:i<s.length:=by omega
  have e1:=cg i (by omega);have ih':=ih (i+1) (by omega) (by omega);rw[ai,cN s i hi,gx];unfold Pr.okc at ih' ⊢;generalize hc:s.getD i 0=c at*;generalize List.all (iu (i+1) s) _=q at*
  by_cases a1:c<97
  ·by_cases a3:c<48
   ·by_cases a5:c=45
    ·subst a5;simp only[go_sem,Q0,Q1,Q2,Q3,Q4,Q5,Q6,Q7,Q8,Q9,Qa,Qb,Qc,Qd,Qe,Qf,Qg,Qh,Qi,Qj,Qk,reduceCtorEq,reduceIte,hi,hc,e1,ih']
    ·simp only[go_sem,Q0,Q1,Q2,Q3,Q4,Q5,Q6,Q7,Q8,Q9,Qa,Qb,Qc,Qd,Qe,Qf,Qg,Qh,Qi,Qj,Qk,reduceCtorEq,reduceIte,hi,hc,e1,a1,a3,a5,ih']
   ·by_cases a4:57<c
    ·by_cases a5:c=45
     ·subst a5;simp only[go_sem,Q0,Q1,Q2,Q3,Q4,Q5,Q6,Q7,Q8,Q9,Qa,Qb,Qc,Qd,Qe,Qf,Qg,Qh,Qi,Qj,Qk,reduceCtorEq,reduceIte,hi,hc,e1,ih']
     ·simp only[go_sem,Q0,Q1,Q2,Q3,Q4,Q5,Q6,Q7,Q8,Q9,Qa,Qb,Qc,Qd,Qe,Qf,Qg,Qh,Qi,Qj,Qk,reduceCtorEq,reduceIte,hi,hc,e1,a1,a3,a4,a5,ih']
    ·simp only[go_sem,Q0,Q1,Q2,Q3,Q4,Q5,Q6,Q7,Q8,Q9,Qa,Qb,Qc,Qd,Qe,Qf,Qg,Qh,Qi,Qj,Qk,reduceCtorEq,reduceIte,hi,hc,e1,a1,a3,a4,ih']
  ·by_cases a2:122<c
   ·by_cases a3:c<48
    ·exact absurd a3 (by intro h;have:=UInt8.lt_trans a2 h;revert this;decide)
    ·by_cases a4:57<c
     ·by_cases a5:c=45
      ·subst a5;simp only[go_sem,Q0,Q1,Q2,Q3,Q4,Q5,Q6,Q7,Q8,Q9,Qa,Qb,Qc,Qd,Qe,Qf,Qg,Qh,Qi,Qj,Qk,reduceCtorEq,reduceIte,hi,hc,e1,ih']
      ·simp only[go_sem,Q0,Q1,Q2,Q3,Q4,Q5,Q6,Q7,Q8,Q9,Qa,Qb,Qc,Qd,Qe,Qf,Qg,Qh,Qi,Qj,Qk,reduceCtorEq,reduceIte,hi,hc,e1,a1,a2,a3,a4,a5,ih']
     ·simp only[go_sem,Q0,Q1,Q2,Q3,Q4,Q5,Q6,Q7,Q8,Q9,Qa,Qb,Qc,Qd,Qe,Qf,Qg,Qh,Qi,Qj,Qk,reduceCtorEq,reduceIte,hi,hc,e1,a1,a2,a3,a4,ih']
   ·simp only[go_sem,Q0,Q1,Q2,Q3,Q4,Q5,Q6,Q7,Q8,Q9,Qa,Qb,Qc,Qd,Qe,Qf,Qg,Qh,Qi,Qj,Qk,reduceCtorEq,reduceIte,hi,hc,e1,a1,a2,ih']
theorem f45(s:List UInt8)(hs:s.length<=1000000000000):call T 45 [.str s] [] 0=some ⟨.bool (Pr.nameB s),[],[]⟩:=by
 have h:=l45 s hs _ 0 rfl (by omega);simp only[av,bh]at h;rw[ao xnQ];unfold Pr.nameB
 by_cases h1:s.length<1
 ·have h1':(s.length:Int)<1:=by omega
  simp only[go_sem,Q0,Q1,Q2,Q3,Q4,Q5,Q6,Q7,Q8,Q9,Qa,Qb,Qc,Qd,Qe,Qf,Qg,Qh,Qi,Qj,Qk,reduceCtorEq,reduceIte,h1,h1']
 ·have h1':¬(s.length:Int)<1:=by omega
  by_cases h2:12<s.length
  ·have h2':(12:Int)<s.length:=by omega
   simp only[go_sem,Q0,Q1,Q2,Q3,Q4,Q5,Q6,Q7,Q8,Q9,Qa,Qb,Qc,Qd,Qe,Qf,Qg,Qh,Qi,Qj,Qk,reduceCtorEq,reduceIte,h1,h1',h2,h2']
  ·have h2':¬(12:Int)<s.length:=by omega
   cases hq:s.all Pr.okc with
   |true=>rw[if_pos hq]at h;simp only[go_sem,Q0,Q1,Q2,Q3,Q4,Q5,Q6,Q7,Q8,Q9,Qa,Qb,Qc,Qd,Qe,Qf,Qg,Qh,Qi,Qj,Qk,reduceCtorEq,reduceIte,h1,h1',h2,h2',h,hq]
   |false=>rw[if_neg (by rw[hq];simp)]at h;simp only[go_sem,Q0,Q1,Q2,Q3,Q4,Q5,Q6,Q7,Q8,Q9,Qa,Qb,Qc,Qd,Qe,Qf,Qg,Qh,Qi,Qj,Qk,reduceCtorEq,reduceIte,h1,h1',h2,h2',h,hq]
def lnF:List UInt8->List (List UInt8)->List UInt8->Option (List (List UInt8)×List UInt8)
 |[],o,l=>some (o,l)
 |c::r,o,l=>if c=10 then(if(l.length:Int)=0 then none else if(4:Int)<=o.length then none else lnF r (o++ [l]) [])else if c<32 then none else if 126<c then none else lnF r o (l++ [c])
def eQ(p:List UInt8):List (List UInt8):=match lnF p [] []with
 |some (o,l)=>if(0:Int)<l.length then []else o
 |none=> []
theorem lw(l:List (List UInt8)):(bls l).length=l.length:=au ..
theorem Dd(l:List (List UInt8))(d:List UInt8):bls (l++ [d])=bls l++ [[.byt d .no]]:=by simp[bls]
theorem l70(ro:Int)(na:List UInt8)(ve:Int)(p:List UInt8)(hp:p.length<=1000000000000):∀(n i:Nat)(o:List (List UInt8))(l:List UInt8),p.length-i=n->i<=p.length->l.length<=i->o.length<=4->
 run T (.loop ym) ⟨[(1,.ptr 101 0),(3,.lst 1 (bls o) (.id 103)),(4,.byt l (.id 104)),(5,.int .i64 i)],[(101,.rc [.int .i64 ro,.str na,.int .i64 ve,.byt p .no])],[103,104]⟩=
 match lnF (p.drop i) o l with
 |some (o',l')=>some (.x 0,⟨[(3,.lst 1 (bls o') (.id 103)),(4,.byt l' (.id 104))],[(101,.rc [.int .i64 ro,.str na,.int .i64 ve,.byt p .no])],[103,104]⟩)
 |none=>some (.r,⟨[(2,.lst 1 [] .clip)],[(101,.rc [.int .i64 ro,.str na,.int .i64 ve,.byt p .no])],[103,104]⟩):=by
 intro n;induction n with
 |zero=>
  intro i o l h0 h1 h2 h3;have hi:i=p.length:=by omega
  subst hi;rw[ai,aX];simp only[go_sem,Q0,Q1,Q2,Q3,Q4,Q5,Q6,Q7,Q8,Q9,Qa,Qb,Qc,Qd,Qe,Qf,Qg,Qh,Qi,Qj,Qk,reduceCtorEq,reduceIte,lnF]
 |succ n ih=>
  intro i o l h0 h1 h2 h3;have hi:i<p.length:=by omega
  have e1:=cg i (by omega);have hb:=lw o;rw[ai,cN p i hi];unfold lnF;generalize hc:p.getD i 0=c at*;have c1:l.length+1<=140737488355328:=by omega
  have c2:(o.length+1)*24<=140737488355328:=by omega
  by_cases a1:c=10
  ·subst a1
   by_cases a2:(l.length:Int)=0
   ·simp only[go_sem,Q0,Q1,Q2,Q3,Q4,Q5,Q6,Q7,Q8,Q9,Qa,Qb,Qc,Qd,Qe,Qf,Qg,Qh,Qi,Qj,Qk,reduceCtorEq,reduceIte,hi,hc,a2]
   ·by_cases a3:(4:Int)<=o.length
    ·simp only[go_sem,Q0,Q1,Q2,Q3,Q4,Q5,Q6,Q7,Q8,Q9,Qa,Qb,Qc,Qd,Qe,Qf,Qg,Qh,Qi,Qj,Qk,reduceCtorEq,reduceIte,hi,hc,a2,a3,hb]
    ·have ih':=ih (i+1) (o++ [l]) [] (by omega) (by omega) (by simp) (by rw[af,aM];omega)
     rw[Dd]at ih';simp only[go_sem,Q0,Q1,Q2,Q3,Q4,Q5,Q6,Q7,Q8,Q9,Qa,Qb,Qc,Qd,Qe,Qf,Qg,Qh,Qi,Qj,Qk,reduceCtorEq,reduceIte,hi,hc,e1,a2,a3,hb,c2,ih']
  ·have ih':=ih (i+1) o (l++ [c]) (by omega) (by omega) (by rw[af,aM];omega) h3
   by_cases a2:c<32
   ·simp only[go_sem,Q0,Q1,Q2,Q3,Q4,Q5,Q6,Q7,Q8,Q9,Qa,Qb,Qc,Qd,Qe,Qf,Qg,Qh,Qi,Qj,Qk,reduceCtorEq,reduceIte,hi,hc,a1,a2]
   ·by_cases a3:126<c
    ·simp only[go_sem,Q0,Q1,Q2,Q3,Q4,Q5,Q6,Q7,Q8,Q9,Qa,Qb,Qc,Qd,Qe,Qf,Qg,Qh,Qi,Qj,Qk,reduceCtorEq,reduceIte,hi,hc,a1,a2,a3]
    ·simp only[go_sem,Q0,Q1,Q2,Q3,Q4,Q5,Q6,Q7,Q8,Q9,Qa,Qb,Qc,Qd,Qe,Qf,Qg,Qh,Qi,Qj,Qk,reduceCtorEq,reduceIte,hi,hc,e1,a1,a2,a3,c1,ih']
theorem f70(x:Img)(hp:x.pay.length<=1000000000000):call T 70 [.agg x.sv] [] 0=some ⟨.lst 1 (bls (eQ x.pay)) .no,[],[]⟩:=by
 obtain⟨ro,na,ve,p⟩:=x;have h:=l70 ro na ve p hp _ 0 [] [] rfl (by omega) (by simp) (by simp);simp only[av,bh]at h;have hb:bls []=[]:=rfl;rw[hb]at h;rw[ao xny];unfold eQ Img.sv;cases hq:lnF p [] []with
 |none=>rw[hq]at h;simp only[go_sem,Q0,Q1,Q2,Q3,Q4,Q5,Q6,Q7,Q8,Q9,Qa,Qb,Qc,Qd,Qe,Qf,Qg,Qh,Qi,Qj,Qk,reduceCtorEq,reduceIte,h,hq,hb]
 |some q=>
  obtain⟨o,l⟩:=q;rw[hq]at h
  by_cases h1:(0:Int)<l.length
  ·simp only[go_sem,Q0,Q1,Q2,Q3,Q4,Q5,Q6,Q7,Q8,Q9,Qa,Qb,Qc,Qd,Qe,Qf,Qg,Qh,Qi,Qj,Qk,reduceCtorEq,reduceIte,h,hq,hb,h1]
  ·simp only[go_sem,Q0,Q1,Q2,Q3,Q4,Q5,Q6,Q7,Q8,Q9,Qa,Qb,Qc,Qd,Qe,Qf,Qg,Qh,Qi,Qj,Qk,reduceCtorEq,reduceIte,h,hq,hb,h1]
def fv(x:Img):Int:=
 if x.role<1 then 1 else if 4<x.role then 1 else if x.ver<0 then 1 else if 1000000<x.ver then 1 else if Pr.nameB x.name=false then 43 else if(64:Int)<x.pay.length then 4 else if x.role=4 then(if((eQ x.pay).length:Int)=0 then 40 else 0)else 0
theorem xfv(x:Img)(hn:x.name.length<=1000000000000)(hp:x.pay.length<=1000000000000):call T 100 [.agg x.sv] [] 0=some ⟨.int .i64 (fv x),[],[]⟩:=by
 have g1:=f45 x.name hn;have g2:=f70 x hp;obtain⟨ro,na,ve,p⟩:=x;have hb:=lw (eQ p);simp only[Img.sv]at g1 g2 ⊢;rw[ao xjm];unfold fv
 by_cases a1:ro<1
 ·simp only[go_sem,Q0,Q1,Q2,Q3,Q4,Q5,Q6,Q7,Q8,Q9,Qa,Qb,Qc,Qd,Qe,Qf,Qg,Qh,Qi,Qj,Qk,reduceCtorEq,reduceIte,a1]
 by_cases a2:4<ro
 ·simp only[go_sem,Q0,Q1,Q2,Q3,Q4,Q5,Q6,Q7,Q8,Q9,Qa,Qb,Qc,Qd,Qe,Qf,Qg,Qh,Qi,Qj,Qk,reduceCtorEq,reduceIte,a1,a2]
 by_cases a3:ve<0
 ·simp only[go_sem,Q0,Q1,Q2,Q3,Q4,Q5,Q6,Q7,Q8,Q9,Qa,Qb,Qc,Qd,Qe,Qf,Qg,Qh,Qi,Qj,Qk,reduceCtorEq,reduceIte,a1,a2,a3]
 by_cases a4:1000000<ve
 ·simp only[go_sem,Q0,Q1,Q2,Q3,Q4,Q5,Q6,Q7,Q8,Q9,Qa,Qb,Qc,Qd,Qe,Qf,Qg,Qh,Qi,Qj,Qk,reduceCtorEq,reduceIte,a1,a2,a3,a4]
 cases a5:Pr.nameB na with
 |false=>rw[a5]at g1;simp only[go_sem,Q0,Q1,Q2,Q3,Q4,Q5,Q6,Q7,Q8,Q9,Qa,Qb,Qc,Qd,Qe,Qf,Qg,Qh,Qi,Qj,Qk,reduceCtorEq,reduceIte,a1,a2,a3,a4,a5,g1,kF]
 |true=>
  rw[a5]at g1
  by_cases a6:(64:Int)<p.length
  ·simp only[go_sem,Q0,Q1,Q2,Q3,Q4,Q5,Q6,Q7,Q8,Q9,Qa,Qb,Qc,Qd,Qe,Qf,Qg,Qh,Qi,Qj,Qk,reduceCtorEq,reduceIte,a1,a2,a3,a4,a5,g1,kF,a6]
  by_cases a7:ro=4
  ·subst a7
   by_cases a8:((eQ p).length:Int)=0
   ·simp only[go_sem,Q0,Q1,Q2,Q3,Q4,Q5,Q6,Q7,Q8,Q9,Qa,Qb,Qc,Qd,Qe,Qf,Qg,Qh,Qi,Qj,Qk,reduceCtorEq,reduceIte,a1,a2,a3,a4,a5,g1,kF,a6,g2,xfF,hb,a8]
   ·simp only[go_sem,Q0,Q1,Q2,Q3,Q4,Q5,Q6,Q7,Q8,Q9,Qa,Qb,Qc,Qd,Qe,Qf,Qg,Qh,Qi,Qj,Qk,reduceCtorEq,reduceIte,a1,a2,a3,a4,a5,g1,kF,a6,g2,xfF,hb,a8]
  ·simp only[go_sem,Q0,Q1,Q2,Q3,Q4,Q5,Q6,Q7,Q8,Q9,Qa,Qb,Qc,Qd,Qe,Qf,Qg,Qh,Qi,Qj,Qk,reduceCtorEq,reduceIte,a1,a2,a3,a4,a5,g1,kF,a6,a7]
def gk(x:Img):List UInt8:=if fv x=0 then ju (ju (be 1 (aZ.wrap x.role)++be 4 (aZ.wrap x.ver)) x.name) x.pay else []
theorem eG(B X:List UInt8):(ju B X).length=B.length+2+min 65535 X.length:=by unfold ju;rw[af,af,eS,aj]
theorem mu(x:Img)(hn:x.name.length<=1000000)(hp:x.pay.length<=1000000):(gk x).length<=10000000:=by
 unfold gk;split
 ·rw[eG,eG,af,eS,eS];omega
 ·simp
theorem f95(x:Img)(hn:x.name.length<=1000000)(hp:x.pay.length<=1000000):call T 95 [.agg x.sv] [] 0=some ⟨.byt (gk x) .no,[],[]⟩:=by
 have g0:=xfv x (by omega) (by omega);have g1:=f57 [] 1 x.role (by omega) (by omega) (by simp);have g2:=f57 (be 1 (aZ.wrap x.role)) 4 x.ver (by omega) (by omega) (by rw[eS];omega);have g3:=f56 (be 1 (aZ.wrap x.role)++be 4 (aZ.wrap x.ver)) x.name (by rw[af,eS,eS];omega) (by omega);have g4:=f56 (ju (be 1 (aZ.wrap x.role)++be 4 (aZ.wrap x.ver)) x.name) x.pay (by rw[eG,af,eS,eS];omega) (by omega);simp only[cr,aF]at g1 g2;obtain⟨ro,na,ve,p⟩:=x;simp only[Img.sv]at*;rw[ao xnf];unfold gk
 by_cases h:fv ⟨ro,na,ve,p⟩=0
 ·rw[h]at g0
  simp only[go_sem,Q0,Q1,Q2,Q3,Q4,Q5,Q6,Q7,Q8,Q9,Qa,Qb,Qc,Qd,Qe,Qf,Qg,Qh,Qi,Qj,Qk,reduceCtorEq,reduceIte,g0,oa,g1,xfH,g2,g3,xom,g4,h]
 ·simp only[go_sem,Q0,Q1,Q2,Q3,Q4,Q5,Q6,Q7,Q8,Q9,Qa,Qb,Qc,Qd,Qe,Qf,Qg,Qh,Qi,Qj,Qk,reduceCtorEq,reduceIte,g0,oa,h]
def vu(role:Int):Int:=if role=1 then 0 else if role=2 then 4 else if role=3 then 8 else if role=4 then 9 else-1
theorem f82(role:Int):call T 82 [.int .i64 role] [] 0=some ⟨.int .i64 (vu role),[],[]⟩:=by
 rw[ao xno];unfold vu
 by_cases h1:role=1
 ·subst h1;simp only[go_sem,Q0,Q1,Q2,Q3,Q4,Q5,Q6,Q7,Q8,Q9,Qa,Qb,Qc,Qd,Qe,Qf,Qg,Qh,Qi,Qj,Qk,reduceCtorEq,reduceIte]
 by_cases h2:role=2
 ·subst h2;simp only[go_sem,Q0,Q1,Q2,Q3,Q4,Q5,Q6,Q7,Q8,Q9,Qa,Qb,Qc,Qd,Qe,Qf,Qg,Qh,Qi,Qj,Qk,reduceCtorEq,reduceIte]
 by_cases h3:role=3
 ·subst h3;simp only[go_sem,Q0,Q1,Q2,Q3,Q4,Q5,Q6,Q7,Q8,Q9,Qa,Qb,Qc,Qd,Qe,Qf,Qg,Qh,Qi,Qj,Qk,reduceCtorEq,reduceIte]
 by_cases h4:role=4
 ·subst h4;simp only[go_sem,Q0,Q1,Q2,Q3,Q4,Q5,Q6,Q7,Q8,Q9,Qa,Qb,Qc,Qd,Qe,Qf,Qg,Qh,Qi,Qj,Qk,reduceCtorEq,reduceIte]
 simp only[go_sem,Q0,Q1,Q2,Q3,Q4,Q5,Q6,Q7,Q8,Q9,Qa,Qb,Qc,Qd,Qe,Qf,Qg,Qh,Qi,Qj,Qk,reduceCtorEq,reduceIte,h1,h2,h3,h4]
def rV(a:Int)(b:Nat):Bool:=if b=0 then decide (a=1\/a=3)else decide (a=2\/a=3)
def sx(a:Int):Prop:=a=1\/a=2\/a=3
theorem xac(a:Int)(h:sx a):call T 120 [.int .i64 a,.int .i64 0] [] 0=some ⟨.bool (rV a 0),[],[]⟩:=by rcases h with rfl|rfl|rfl<;>(rw[ao xax];simp only[go_sem,Q0,Q1,Q2,Q3,Q4,Q5,Q6,Q7,Q8,Q9,Qa,Qb,Qc,Qd,Qe,Qf,Qg,Qh,Qi,Qj,Qk,reduceCtorEq,reduceIte];rfl)
theorem xab(a:Int)(h:sx a):call T 120 [.int .i64 a,.int .i64 1] [] 0=some ⟨.bool (rV a 1),[],[]⟩:=by rcases h with rfl|rfl|rfl<;>(rw[ao xax];simp only[go_sem,Q0,Q1,Q2,Q3,Q4,Q5,Q6,Q7,Q8,Q9,Qa,Qb,Qc,Qd,Qe,Qf,Qg,Qh,Qi,Qj,Qk,reduceCtorEq,reduceIte];rfl)
def tx(b:List UInt8)(a:Int):List (List UInt8):=if b=[]then [[],[]]else [if rV a 0 then jx b else [],if rV a 1 then sha b else []]
theorem G7(b:List UInt8)(a:Int):(tx b a).length=2:=by unfold tx;split<;>rfl
theorem xm5(x:Img)(a:Int)(ha:sx a)(hn:x.name.length<=1000000)(hp:x.pay.length<=1000000):call T 101 [.agg x.sv,.int .i64 a] [] 0=some ⟨.lst 1 (bls (tx (gk x) a)) .no,[],[]⟩:=by
 have g0:=f95 x hn hp;have hl:=mu x hn hp;have g1:=xac a ha;have g2:=xab a ha;have g3:=Qw (gk x) (by omega);have g4:=Qv (gk x) (by omega);have k1:ac.wrap 1=1:=rfl;have k2:ac.wrap 2=2:=rfl;obtain⟨ro,na,ve,p⟩:=x;simp only[Img.sv]at*;generalize gk ⟨ro,na,ve,p⟩=b at*;rw[ao xjl];unfold tx bls
 by_cases hb:b=[]
 ·subst hb
  simp only[go_sem,Q0,Q1,Q2,Q3,Q4,Q5,Q6,Q7,Q8,Q9,Qa,Qb,Qc,Qd,Qe,Qf,Qg,Qh,Qi,Qj,Qk,reduceCtorEq,reduceIte,g0,Df,am]
  iterate 3
   rw[ai];simp only[go_sem,Q0,Q1,Q2,Q3,Q4,Q5,Q6,Q7,Q8,Q9,Qa,Qb,Qc,Qd,Qe,Qf,Qg,Qh,Qi,Qj,Qk,reduceCtorEq,reduceIte,k1,k2,am]
 ·have hb':(0:Int)<b.length:=by
   have:b.length≠0:=fun e=>hb (bi.1 e)
   omega
  cases q1:rV a 0<;>cases q2:rV a 1<;>rw[q1]at g1<;>rw[q2]at g2<;>
  ·simp only[go_sem,Q0,Q1,Q2,Q3,Q4,Q5,Q6,Q7,Q8,Q9,Qa,Qb,Qc,Qd,Qe,Qf,Qg,Qh,Qi,Qj,Qk,reduceCtorEq,reduceIte,g0,Df,am]
   iterate 3
    rw[ai];simp only[go_sem,Q0,Q1,Q2,Q3,Q4,Q5,Q6,Q7,Q8,Q9,Qa,Qb,Qc,Qd,Qe,Qf,Qg,Qh,Qi,Qj,Qk,reduceCtorEq,reduceIte,k1,k2,hb,hb',g1,g2,g3,g4,QS,pH,fI,am]
def rQ(name:List UInt8)(ver:Int):List UInt8:=name++32::dec ver.toNat
theorem f34(name:List UInt8)(ver:Int)(hn:name.length<=1000000)(h0:0<=ver)(h1:ver<=1000000):call T 34 [.str name,.int .i64 ver] [] 0=some ⟨.byt (rQ name ver) .no,[],[]⟩:=by
 obtain⟨v,rfl⟩:=Int.eq_ofNat_of_zero_le h0;have g:=f85 v (by omega);have hl:=kB 6 v (by omega);rw[ao xnY];unfold rQ;have c1:name.length+1<=140737488355328:=by omega
 have c2:name.length+1+(dec v).length<=140737488355328:=by omega
 simp only[go_sem,Q0,Q1,Q2,Q3,Q4,Q5,Q6,Q7,Q8,Q9,Qa,Qb,Qc,Qd,Qe,Qf,Qg,Qh,Qi,Qj,Qk,reduceCtorEq,reduceIte,g,T1,c1,c2]
end Go.Proofs.YtkcjdeofknkndaaGreatDoor
