/- What the functions come to. No condition. -/
import Derived.Test.YtkggincjigbelaaGreatDoorTbB
import Derived.Test.YtkggincjigbelaaGreatDoorTeB
open Int renaming natCast_zero -> aw
open Go.IntKind renaming u64 -> aN
open List renaming drop -> gJ, drop_length -> bG, drop_zero -> bj, length_append -> ac, length_map -> aP, length_singleton -> aW, length_take -> ax, nil_append -> az
set_option maxRecDepth 100000
set_option maxHeartbeats 16000000
set_option linter.unusedSimpArgs false
set_option linter.unusedVariables false
namespace Go.Proofs.YtkggincjigbelaaGreatDoor
open Go.Sy
open UInt8 renaming reduceLT -> Q0, reduceLE -> Q1
open Int renaming reduceToNat -> Q2, reduceLE -> Q3, reduceLT -> Q4, reduceEq -> Q5, reduceNe -> Q6, reduceNeg -> Q7, reduceAdd -> Q8, reduceSub -> Q9, reduceMul -> Qa
open Nat renaming reducePow -> Qb, reduceDiv -> Qc, reduceMod -> Qd, reduceAdd -> Qe, reduceSub -> Qf, reduceMul -> Qg, reduceLT -> Qh, reduceLeDiff -> Qi, reduceEqDiff -> Qj, reduceBEq -> Qk
attribute [go_sem] Int.cast_ofNat_Int
structure Ev where
 reg:Int
 kind:Int
 dg:List (List UInt8)
 data:List UInt8
def bls(l:List (List UInt8)):List (List SV):=l.map fun d=> [.byt d .no]
def Ev.sv(e:Ev):List SV:=[.int .i64 e.reg,.int .i64 e.kind,.lst 1 (bls e.dg) .no,.byt e.data .no]
structure Img where
 role:Int
 name:List UInt8
 ver:Int
 pay:List UInt8
def Img.sv(x:Img):List SV:=[.int .i64 x.role,.str x.name,.int .i64 x.ver,.byt x.pay .no]
theorem xnQ(s:List UInt8)(hs:s.length<=1000000000000):∀(n i:Nat),s.length-i=n->i<=s.length->
 run T (.loop y3) ⟨[(0,.str s),(3,.int .i64 i)],[],[]⟩=if(s.drop i).all Pr.okc=true then some (.x 0,⟨[],[],[]⟩)else some (.r,⟨[(2,.bool false)],[],[]⟩):=by
 intro n;induction n with
 |zero=>
  intro i h0 h1;have hi:i=s.length:=by omega
  subst hi;rw[ai,bG];simp only[go_sem,Q0,Q1,Q2,Q3,Q4,Q5,Q6,Q7,Q8,Q9,Qa,Qb,Qc,Qd,Qe,Qf,Qg,Qh,Qi,Qj,Qk,reduceCtorEq,reduceIte]
 |succ n ih=>
  intro i h0 h1;have hi:i<s.length:=by omega
  have e1:=cA i (by omega);have ih':=ih (i+1) (by omega) (by omega);rw[ai,cP s i hi,List.all_cons];unfold Pr.okc at ih' ⊢;generalize hc:s.getD i 0=c at*;generalize List.all (gJ (i+1) s) _=q at*
  by_cases a1:c<97
  ·by_cases a3:c<48
   ·by_cases a5:c=45
    ·subst a5;simp only[go_sem,Q0,Q1,Q2,Q3,Q4,Q5,Q6,Q7,Q8,Q9,Qa,Qb,Qc,Qd,Qe,Qf,Qg,Qh,Qi,Qj,Qk,reduceCtorEq,reduceIte,hi,hc,e1,ih']
    ·simp only[go_sem,Q0,Q1,Q2,Q3,Q4,Q5,Q6,Q7,Q8,Q9,Qa,Qb,Qc,Qd,Qe,Qf,Qg,Qh,Qi,Qj,Qk,reduceCtorEq,reduceIte,hi,hc,e1,a1,a3,a5,ih']
   ·by_cases a4:57<c
    ·by_cases a5:c=45
     ·subst a5;simp only[go_sem,Q0,Q1,Q2,Q3,Q4,Q5,Q6,Q7,Q8,Q9,Qa,Qb,Qc,Qd,Qe,Qf,Qg,Qh,Qi,Qj,Qk,reduceCtorEq,reduceIte,hi,hc,e1,ih']
     ·simp only[go_sem,Q0,Q1,Q2,Q3,Q4,Q5,Q6,Q7,Q8,Q9,Qa,Qb,Qc,Qd,Qe,Qf,Qg,Qh,Qi,Qj,Qk,reduceCtorEq,reduceIte,hi,hc,e1,a1,a3,a4,a5,ih']
    ·simp only[go_sem,Q0,Q1,Q2,Q3,Q4,Q5,Q6,Q7,Q8,Q9,Qa,Qb,Qc,Qd,Qe,Qf,Qg,Qh,Qi,Qj,Qk,reduceCtorEq,reduceIte,hi,hc,e1,a1,a3,a4,ih']
  ·by_cases a2:122<c
   ·by_cases a3:c<48
    ·exact absurd a3 (by intro h;have:=UInt8.lt_trans a2 h;revert this;decide)
    ·by_cases a4:57<c
     ·by_cases a5:c=45
      ·subst a5;simp only[go_sem,Q0,Q1,Q2,Q3,Q4,Q5,Q6,Q7,Q8,Q9,Qa,Qb,Qc,Qd,Qe,Qf,Qg,Qh,Qi,Qj,Qk,reduceCtorEq,reduceIte,hi,hc,e1,ih']
      ·simp only[go_sem,Q0,Q1,Q2,Q3,Q4,Q5,Q6,Q7,Q8,Q9,Qa,Qb,Qc,Qd,Qe,Qf,Qg,Qh,Qi,Qj,Qk,reduceCtorEq,reduceIte,hi,hc,e1,a1,a2,a3,a4,a5,ih']
     ·simp only[go_sem,Q0,Q1,Q2,Q3,Q4,Q5,Q6,Q7,Q8,Q9,Qa,Qb,Qc,Qd,Qe,Qf,Qg,Qh,Qi,Qj,Qk,reduceCtorEq,reduceIte,hi,hc,e1,a1,a2,a3,a4,ih']
   ·simp only[go_sem,Q0,Q1,Q2,Q3,Q4,Q5,Q6,Q7,Q8,Q9,Qa,Qb,Qc,Qd,Qe,Qf,Qg,Qh,Qi,Qj,Qk,reduceCtorEq,reduceIte,hi,hc,e1,a1,a2,ih']
theorem xfk(s:List UInt8)(hs:s.length<=1000000000000):call T 126 [.str s] [] 0=some ⟨.bool (Pr.nameB s),[],[]⟩:=by
 have h:=xnQ s hs _ 0 rfl (by omega);simp only[aw,bj]at h;rw[ah xjq];unfold Pr.nameB
 by_cases h1:s.length<1
 ·have h1':(s.length:Int)<1:=by omega
  simp only[go_sem,Q0,Q1,Q2,Q3,Q4,Q5,Q6,Q7,Q8,Q9,Qa,Qb,Qc,Qd,Qe,Qf,Qg,Qh,Qi,Qj,Qk,reduceCtorEq,reduceIte,h1,h1']
 ·have h1':¬(s.length:Int)<1:=by omega
  by_cases h2:12<s.length
  ·have h2':(12:Int)<s.length:=by omega
   simp only[go_sem,Q0,Q1,Q2,Q3,Q4,Q5,Q6,Q7,Q8,Q9,Qa,Qb,Qc,Qd,Qe,Qf,Qg,Qh,Qi,Qj,Qk,reduceCtorEq,reduceIte,h1,h1',h2,h2']
  ·have h2':¬(12:Int)<s.length:=by omega
   cases hq:s.all Pr.okc with
   |true=>rw[if_pos hq]at h;simp only[go_sem,Q0,Q1,Q2,Q3,Q4,Q5,Q6,Q7,Q8,Q9,Qa,Qb,Qc,Qd,Qe,Qf,Qg,Qh,Qi,Qj,Qk,reduceCtorEq,reduceIte,h1,h1',h2,h2',h,hq]
   |false=>rw[if_neg (by rw[hq];simp)]at h;simp only[go_sem,Q0,Q1,Q2,Q3,Q4,Q5,Q6,Q7,Q8,Q9,Qa,Qb,Qc,Qd,Qe,Qf,Qg,Qh,Qi,Qj,Qk,reduceCtorEq,reduceIte,h1,h1',h2,h2',h,hq]
def lnF:List UInt8->List (List UInt8)->List UInt8->Option (List (List UInt8)×List UInt8)
 |[],o,l=>some (o,l)
 |c::r,o,l=>if c=10 then(if(l.length:Int)=0 then none else if(4:Int)<=o.length then none else lnF r (o++ [l]) [])else if c<32 then none else if 126<c then none else lnF r o (l++ [c])
def qr(p:List UInt8):List (List UInt8):=match lnF p [] []with
 |some (o,l)=>if(0:Int)<l.length then []else o
 |none=> []
theorem B9(l:List (List UInt8)):(bls l).length=l.length:=aP ..
theorem Sz(l:List (List UInt8))(d:List UInt8):bls (l++ [d])=bls l++ [[.byt d .no]]:=by simp[bls]
theorem xnH(ro:Int)(na:List UInt8)(ve:Int)(p:List UInt8)(hp:p.length<=1000000000000):∀(n i:Nat)(o:List (List UInt8))(l:List UInt8),p.length-i=n->i<=p.length->l.length<=i->o.length<=4->
 run T (.loop sM) ⟨[(1,.ptr 101 0),(3,.lst 1 (bls o) (.id 103)),(4,.byt l (.id 104)),(5,.int .i64 i)],[(101,.rc [.int .i64 ro,.str na,.int .i64 ve,.byt p .no])],[103,104]⟩=
 match lnF (p.drop i) o l with
 |some (o',l')=>some (.x 0,⟨[(3,.lst 1 (bls o') (.id 103)),(4,.byt l' (.id 104))],[(101,.rc [.int .i64 ro,.str na,.int .i64 ve,.byt p .no])],[103,104]⟩)
 |none=>some (.r,⟨[(2,.lst 1 [] .clip)],[(101,.rc [.int .i64 ro,.str na,.int .i64 ve,.byt p .no])],[103,104]⟩):=by
 intro n;induction n with
 |zero=>
  intro i o l h0 h1 h2 h3;have hi:i=p.length:=by omega
  subst hi;rw[ai,bG];simp only[go_sem,Q0,Q1,Q2,Q3,Q4,Q5,Q6,Q7,Q8,Q9,Qa,Qb,Qc,Qd,Qe,Qf,Qg,Qh,Qi,Qj,Qk,reduceCtorEq,reduceIte,lnF]
 |succ n ih=>
  intro i o l h0 h1 h2 h3;have hi:i<p.length:=by omega
  have e1:=cA i (by omega);have hb:=B9 o;rw[ai,cP p i hi];unfold lnF;generalize hc:p.getD i 0=c at*;have c1:l.length+1<=140737488355328:=by omega
  have c2:(o.length+1)*24<=140737488355328:=by omega
  by_cases a1:c=10
  ·subst a1
   by_cases a2:(l.length:Int)=0
   ·simp only[go_sem,Q0,Q1,Q2,Q3,Q4,Q5,Q6,Q7,Q8,Q9,Qa,Qb,Qc,Qd,Qe,Qf,Qg,Qh,Qi,Qj,Qk,reduceCtorEq,reduceIte,hi,hc,a2]
   ·by_cases a3:(4:Int)<=o.length
    ·simp only[go_sem,Q0,Q1,Q2,Q3,Q4,Q5,Q6,Q7,Q8,Q9,Qa,Qb,Qc,Qd,Qe,Qf,Qg,Qh,Qi,Qj,Qk,reduceCtorEq,reduceIte,hi,hc,a2,a3,hb]
    ·have ih':=ih (i+1) (o++ [l]) [] (by omega) (by omega) (by simp) (by rw[ac,aW];omega)
     rw[Sz]at ih';simp only[go_sem,Q0,Q1,Q2,Q3,Q4,Q5,Q6,Q7,Q8,Q9,Qa,Qb,Qc,Qd,Qe,Qf,Qg,Qh,Qi,Qj,Qk,reduceCtorEq,reduceIte,hi,hc,e1,a2,a3,hb,c2,ih']
  ·have ih':=ih (i+1) o (l++ [c]) (by omega) (by omega) (by rw[ac,aW];omega) h3
   by_cases a2:c<32
   ·simp only[go_sem,Q0,Q1,Q2,Q3,Q4,Q5,Q6,Q7,Q8,Q9,Qa,Qb,Qc,Qd,Qe,Qf,Qg,Qh,Qi,Qj,Qk,reduceCtorEq,reduceIte,hi,hc,a1,a2]
   ·by_cases a3:126<c
    ·simp only[go_sem,Q0,Q1,Q2,Q3,Q4,Q5,Q6,Q7,Q8,Q9,Qa,Qb,Qc,Qd,Qe,Qf,Qg,Qh,Qi,Qj,Qk,reduceCtorEq,reduceIte,hi,hc,a1,a2,a3]
    ·simp only[go_sem,Q0,Q1,Q2,Q3,Q4,Q5,Q6,Q7,Q8,Q9,Qa,Qb,Qc,Qd,Qe,Qf,Qg,Qh,Qi,Qj,Qk,reduceCtorEq,reduceIte,hi,hc,e1,a1,a2,a3,c1,ih']
theorem xos(x:Img)(hp:x.pay.length<=1000000000000):call T 203 [.agg x.sv] [] 0=some ⟨.lst 1 (bls (qr x.pay)) .no,[],[]⟩:=by
 obtain⟨ro,na,ve,p⟩:=x;have h:=xnH ro na ve p hp _ 0 [] [] rfl (by omega) (by simp) (by simp);simp only[aw,bj]at h;have hb:bls []=[]:=rfl;rw[hb]at h;rw[ah xiM];unfold qr Img.sv;cases hq:lnF p [] []with
 |none=>rw[hq]at h;simp only[go_sem,Q0,Q1,Q2,Q3,Q4,Q5,Q6,Q7,Q8,Q9,Qa,Qb,Qc,Qd,Qe,Qf,Qg,Qh,Qi,Qj,Qk,reduceCtorEq,reduceIte,h,hq,hb]
 |some q=>
  obtain⟨o,l⟩:=q;rw[hq]at h
  by_cases h1:(0:Int)<l.length
  ·simp only[go_sem,Q0,Q1,Q2,Q3,Q4,Q5,Q6,Q7,Q8,Q9,Qa,Qb,Qc,Qd,Qe,Qf,Qg,Qh,Qi,Qj,Qk,reduceCtorEq,reduceIte,h,hq,hb,h1]
  ·simp only[go_sem,Q0,Q1,Q2,Q3,Q4,Q5,Q6,Q7,Q8,Q9,Qa,Qb,Qc,Qd,Qe,Qf,Qg,Qh,Qi,Qj,Qk,reduceCtorEq,reduceIte,h,hq,hb,h1]
def Zu(x:Img):Int:=
 if x.role<1 then 1 else if 4<x.role then 1 else if x.ver<0 then 1 else if 1000000<x.ver then 1 else if Pr.nameB x.name=false then 43 else if(64:Int)<x.pay.length then 4 else if x.role=4 then(if((qr x.pay).length:Int)=0 then 40 else 0)else 0
theorem xoz(x:Img)(hn:x.name.length<=1000000000000)(hp:x.pay.length<=1000000000000):call T 182 [.agg x.sv] [] 0=some ⟨.int .i64 (Zu x),[],[]⟩:=by
 have g1:=xfk x.name hn;have g2:=xos x hp;obtain⟨ro,na,ve,p⟩:=x;have hb:=B9 (qr p);simp only[Img.sv]at g1 g2 ⊢;rw[ah xiV];unfold Zu
 by_cases a1:ro<1
 ·simp only[go_sem,Q0,Q1,Q2,Q3,Q4,Q5,Q6,Q7,Q8,Q9,Qa,Qb,Qc,Qd,Qe,Qf,Qg,Qh,Qi,Qj,Qk,reduceCtorEq,reduceIte,a1]
 by_cases a2:4<ro
 ·simp only[go_sem,Q0,Q1,Q2,Q3,Q4,Q5,Q6,Q7,Q8,Q9,Qa,Qb,Qc,Qd,Qe,Qf,Qg,Qh,Qi,Qj,Qk,reduceCtorEq,reduceIte,a1,a2]
 by_cases a3:ve<0
 ·simp only[go_sem,Q0,Q1,Q2,Q3,Q4,Q5,Q6,Q7,Q8,Q9,Qa,Qb,Qc,Qd,Qe,Qf,Qg,Qh,Qi,Qj,Qk,reduceCtorEq,reduceIte,a1,a2,a3]
 by_cases a4:1000000<ve
 ·simp only[go_sem,Q0,Q1,Q2,Q3,Q4,Q5,Q6,Q7,Q8,Q9,Qa,Qb,Qc,Qd,Qe,Qf,Qg,Qh,Qi,Qj,Qk,reduceCtorEq,reduceIte,a1,a2,a3,a4]
 cases a5:Pr.nameB na with
 |false=>rw[a5]at g1;simp only[go_sem,Q0,Q1,Q2,Q3,Q4,Q5,Q6,Q7,Q8,Q9,Qa,Qb,Qc,Qd,Qe,Qf,Qg,Qh,Qi,Qj,Qk,reduceCtorEq,reduceIte,a1,a2,a3,a4,a5,g1,fI]
 |true=>
  rw[a5]at g1
  by_cases a6:(64:Int)<p.length
  ·simp only[go_sem,Q0,Q1,Q2,Q3,Q4,Q5,Q6,Q7,Q8,Q9,Qa,Qb,Qc,Qd,Qe,Qf,Qg,Qh,Qi,Qj,Qk,reduceCtorEq,reduceIte,a1,a2,a3,a4,a5,g1,fI,a6]
  by_cases a7:ro=4
  ·subst a7
   by_cases a8:((qr p).length:Int)=0
   ·simp only[go_sem,Q0,Q1,Q2,Q3,Q4,Q5,Q6,Q7,Q8,Q9,Qa,Qb,Qc,Qd,Qe,Qf,Qg,Qh,Qi,Qj,Qk,reduceCtorEq,reduceIte,a1,a2,a3,a4,a5,g1,fI,a6,g2,Z8,hb,a8]
   ·simp only[go_sem,Q0,Q1,Q2,Q3,Q4,Q5,Q6,Q7,Q8,Q9,Qa,Qb,Qc,Qd,Qe,Qf,Qg,Qh,Qi,Qj,Qk,reduceCtorEq,reduceIte,a1,a2,a3,a4,a5,g1,fI,a6,g2,Z8,hb,a8]
  ·simp only[go_sem,Q0,Q1,Q2,Q3,Q4,Q5,Q6,Q7,Q8,Q9,Qa,Qb,Qc,Qd,Qe,Qf,Qg,Qh,Qi,Qj,Qk,reduceCtorEq,reduceIte,a1,a2,a3,a4,a5,g1,fI,a6,a7]
def xml(x:Img):List UInt8:=if Zu x=0 then lF (lF (be 1 (aN.wrap x.role)++be 4 (aN.wrap x.ver)) x.name) x.pay else []
theorem gG(B X:List UInt8):(lF B X).length=B.length+2+min 65535 X.length:=by unfold lF;rw[ac,ac,hZ,ax]
theorem f129(x:Img)(hn:x.name.length<=1000000)(hp:x.pay.length<=1000000):call T 129 [.agg x.sv] [] 0=some ⟨.byt (xml x) .no,[],[]⟩:=by
 have g0:=xoz x (by omega) (by omega);have g1:=f45 [] 1 x.role (by omega) (by omega) (by simp);have g2:=f45 (be 1 (aN.wrap x.role)) 4 x.ver (by omega) (by omega) (by rw[hZ];omega);have g3:=f82 (be 1 (aN.wrap x.role)++be 4 (aN.wrap x.ver)) x.name (by rw[ac,hZ,hZ];omega) (by omega);have g4:=f82 (lF (be 1 (aN.wrap x.role)++be 4 (aN.wrap x.ver)) x.name) x.pay (by rw[gG,ac,hZ,hZ];omega) (by omega);simp only[Int.cast_ofNat_Int,az]at g1 g2;obtain⟨ro,na,ve,p⟩:=x;simp only[Img.sv]at*;rw[ah xjn];unfold xml
 by_cases h:Zu ⟨ro,na,ve,p⟩=0
 ·rw[h]at g0
  simp only[go_sem,Q0,Q1,Q2,Q3,Q4,Q5,Q6,Q7,Q8,Q9,Qa,Qb,Qc,Qd,Qe,Qf,Qg,Qh,Qi,Qj,Qk,reduceCtorEq,reduceIte,g0,xab,g1,Cl,g2,g3,SU,g4,h]
 ·simp only[go_sem,Q0,Q1,Q2,Q3,Q4,Q5,Q6,Q7,Q8,Q9,Qa,Qb,Qc,Qd,Qe,Qf,Qg,Qh,Qi,Qj,Qk,reduceCtorEq,reduceIte,g0,xab,h]
theorem mI{s:List UInt8}(h:Pr.nameB s=true):1<=s.length/\s.length<=12:=by
 unfold Pr.nameB at h;split at h
 ·cases h
 ·omega
end Go.Proofs.YtkggincjigbelaaGreatDoor
