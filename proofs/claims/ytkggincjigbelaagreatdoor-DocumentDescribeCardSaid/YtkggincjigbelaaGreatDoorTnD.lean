/- What the functions come to. No condition. -/
import Derived.Test.YtkggincjigbelaaGreatDoorTbD
import Derived.Test.YtkggincjigbelaaGreatDoorTeD
open Int renaming natCast_zero -> aB
open Go.IntKind renaming u64 -> aI
open List renaming drop_length -> bP, drop_zero -> bj, getD_eq_getElem?_getD -> aa, length_append -> ac, length_map -> aN, length_singleton -> aV, length_take -> ax, nil_append -> aF
set_option maxRecDepth 100000
set_option maxHeartbeats 16000000
set_option linter.unusedSimpArgs false
set_option linter.unusedVariables false
namespace Go.Proofs.YtkggincjigbelaaGreatDoor
open Go.Sy
open UInt8 renaming reduceLT -> Q0, reduceLE -> Q1
open Int renaming reduceToNat -> Q2, reduceLE -> Q3, reduceLT -> Q4, reduceEq -> Q5, reduceNe -> Q6, reduceNeg -> Q7, reduceAdd -> Q8, reduceSub -> Q9, reduceMul -> Qa
open Nat renaming reducePow -> Qb, reduceDiv -> Qc, reduceMod -> Qd, reduceAdd -> Qe, reduceSub -> Qf, reduceMul -> Qg, reduceLT -> Qh, reduceLeDiff -> Qi, reduceEqDiff -> Qj, reduceBEq -> Qk
attribute [go_sem] Int.cast_ofNat_Int
structure Ev where
 reg:Int
 kind:Int
 dg:List (List UInt8)
 data:List UInt8
def bls(l:List (List UInt8)):List (List SV):=l.map fun d=> [.byt d .no]
def Ev.sv(e:Ev):List SV:=[.int .i64 e.reg,.int .i64 e.kind,.lst 1 (bls e.dg) .no,.byt e.data .no]
structure Img where
 role:Int
 name:List UInt8
 ver:Int
 pay:List UInt8
def Img.sv(x:Img):List SV:=[.int .i64 x.role,.str x.name,.int .i64 x.ver,.byt x.pay .no]
theorem xkL(s:List UInt8)(hs:s.length<=1000000000000):∀(n i:Nat),s.length-i=n->i<=s.length->
 run T (.loop xE) ⟨[(0,.str s),(3,.int .i64 i)],[],[]⟩=if(s.drop i).all Pr.okc=true then some (.x 0,⟨[],[],[]⟩)else some (.r,⟨[(2,.bool false)],[],[]⟩):=by
 intro n;induction n with
 |zero=>
  intro i h0 h1;have hi:i=s.length:=by omega
  subst hi;rw[ah,bP];simp only[go_sem,Q0,Q1,Q2,Q3,Q4,Q5,Q6,Q7,Q8,Q9,Qa,Qb,Qc,Qd,Qe,Qf,Qg,Qh,Qi,Qj,Qk,reduceCtorEq,reduceIte]
 |succ n ih=>
  intro i h0 h1;have hi:i<s.length:=by omega
  have e1:=cR i (by omega);have ih':=ih (i+1) (by omega) (by omega);rw[ah,de s i hi,List.all_cons];unfold Pr.okc at ih' ⊢;generalize hc:s.getD i 0=c at*;generalize List.all (List.drop (i+1) s) _=q at*
  by_cases a1:c<97
  ·by_cases a3:c<48
   ·by_cases a5:c=45
    ·subst a5;simp only[go_sem,Q0,Q1,Q2,Q3,Q4,Q5,Q6,Q7,Q8,Q9,Qa,Qb,Qc,Qd,Qe,Qf,Qg,Qh,Qi,Qj,Qk,reduceCtorEq,reduceIte,hi,hc,e1,ih']
    ·simp only[go_sem,Q0,Q1,Q2,Q3,Q4,Q5,Q6,Q7,Q8,Q9,Qa,Qb,Qc,Qd,Qe,Qf,Qg,Qh,Qi,Qj,Qk,reduceCtorEq,reduceIte,hi,hc,e1,a1,a3,a5,ih']
   ·by_cases a4:57<c
    ·by_cases a5:c=45
     ·subst a5;simp only[go_sem,Q0,Q1,Q2,Q3,Q4,Q5,Q6,Q7,Q8,Q9,Qa,Qb,Qc,Qd,Qe,Qf,Qg,Qh,Qi,Qj,Qk,reduceCtorEq,reduceIte,hi,hc,e1,ih']
     ·simp only[go_sem,Q0,Q1,Q2,Q3,Q4,Q5,Q6,Q7,Q8,Q9,Qa,Qb,Qc,Qd,Qe,Qf,Qg,Qh,Qi,Qj,Qk,reduceCtorEq,reduceIte,hi,hc,e1,a1,a3,a4,a5,ih']
    ·simp only[go_sem,Q0,Q1,Q2,Q3,Q4,Q5,Q6,Q7,Q8,Q9,Qa,Qb,Qc,Qd,Qe,Qf,Qg,Qh,Qi,Qj,Qk,reduceCtorEq,reduceIte,hi,hc,e1,a1,a3,a4,ih']
  ·by_cases a2:122<c
   ·by_cases a3:c<48
    ·exact absurd a3 (by intro h;have:=UInt8.lt_trans a2 h;revert this;decide)
    ·by_cases a4:57<c
     ·by_cases a5:c=45
      ·subst a5;simp only[go_sem,Q0,Q1,Q2,Q3,Q4,Q5,Q6,Q7,Q8,Q9,Qa,Qb,Qc,Qd,Qe,Qf,Qg,Qh,Qi,Qj,Qk,reduceCtorEq,reduceIte,hi,hc,e1,ih']
      ·simp only[go_sem,Q0,Q1,Q2,Q3,Q4,Q5,Q6,Q7,Q8,Q9,Qa,Qb,Qc,Qd,Qe,Qf,Qg,Qh,Qi,Qj,Qk,reduceCtorEq,reduceIte,hi,hc,e1,a1,a2,a3,a4,a5,ih']
     ·simp only[go_sem,Q0,Q1,Q2,Q3,Q4,Q5,Q6,Q7,Q8,Q9,Qa,Qb,Qc,Qd,Qe,Qf,Qg,Qh,Qi,Qj,Qk,reduceCtorEq,reduceIte,hi,hc,e1,a1,a2,a3,a4,ih']
   ·simp only[go_sem,Q0,Q1,Q2,Q3,Q4,Q5,Q6,Q7,Q8,Q9,Qa,Qb,Qc,Qd,Qe,Qf,Qg,Qh,Qi,Qj,Qk,reduceCtorEq,reduceIte,hi,hc,e1,a1,a2,ih']
theorem xlJ(s:List UInt8)(hs:s.length<=1000000000000):call T 126 [.str s] [] 0=some ⟨.bool (Pr.nameB s),[],[]⟩:=by
 have h:=xkL s hs _ 0 rfl (by omega);simp only[aB,bj]at h;rw[aj xgY];unfold Pr.nameB
 by_cases h1:s.length<1
 ·have h1':(s.length:Int)<1:=by omega
  simp only[go_sem,Q0,Q1,Q2,Q3,Q4,Q5,Q6,Q7,Q8,Q9,Qa,Qb,Qc,Qd,Qe,Qf,Qg,Qh,Qi,Qj,Qk,reduceCtorEq,reduceIte,h1,h1']
 ·have h1':¬(s.length:Int)<1:=by omega
  by_cases h2:12<s.length
  ·have h2':(12:Int)<s.length:=by omega
   simp only[go_sem,Q0,Q1,Q2,Q3,Q4,Q5,Q6,Q7,Q8,Q9,Qa,Qb,Qc,Qd,Qe,Qf,Qg,Qh,Qi,Qj,Qk,reduceCtorEq,reduceIte,h1,h1',h2,h2']
  ·have h2':¬(12:Int)<s.length:=by omega
   cases hq:s.all Pr.okc with
   |true=>rw[if_pos hq]at h;simp only[go_sem,Q0,Q1,Q2,Q3,Q4,Q5,Q6,Q7,Q8,Q9,Qa,Qb,Qc,Qd,Qe,Qf,Qg,Qh,Qi,Qj,Qk,reduceCtorEq,reduceIte,h1,h1',h2,h2',h,hq]
   |false=>rw[if_neg (by rw[hq];simp)]at h;simp only[go_sem,Q0,Q1,Q2,Q3,Q4,Q5,Q6,Q7,Q8,Q9,Qa,Qb,Qc,Qd,Qe,Qf,Qg,Qh,Qi,Qj,Qk,reduceCtorEq,reduceIte,h1,h1',h2,h2',h,hq]
def lnF:List UInt8->List (List UInt8)->List UInt8->Option (List (List UInt8)×List UInt8)
 |[],o,l=>some (o,l)
 |c::r,o,l=>if c=10 then(if(l.length:Int)=0 then none else if(4:Int)<=o.length then none else lnF r (o++ [l]) [])else if c<32 then none else if 126<c then none else lnF r o (l++ [c])
def gb(p:List UInt8):List (List UInt8):=match lnF p [] []with
 |some (o,l)=>if(0:Int)<l.length then []else o
 |none=> []
theorem nO(l:List (List UInt8)):(bls l).length=l.length:=aN ..
theorem Bi(l:List (List UInt8))(d:List UInt8):bls (l++ [d])=bls l++ [[.byt d .no]]:=by simp[bls]
theorem xkD(ro:Int)(na:List UInt8)(ve:Int)(p:List UInt8)(hp:p.length<=1000000000000):∀(n i:Nat)(o:List (List UInt8))(l:List UInt8),p.length-i=n->i<=p.length->l.length<=i->o.length<=4->
 run T (.loop qU) ⟨[(1,.ptr 101 0),(3,.lst 1 (bls o) (.id 103)),(4,.byt l (.id 104)),(5,.int .i64 i)],[(101,.rc [.int .i64 ro,.str na,.int .i64 ve,.byt p .no])],[103,104]⟩=
 match lnF (p.drop i) o l with
 |some (o',l')=>some (.x 0,⟨[(3,.lst 1 (bls o') (.id 103)),(4,.byt l' (.id 104))],[(101,.rc [.int .i64 ro,.str na,.int .i64 ve,.byt p .no])],[103,104]⟩)
 |none=>some (.r,⟨[(2,.lst 1 [] .clip)],[(101,.rc [.int .i64 ro,.str na,.int .i64 ve,.byt p .no])],[103,104]⟩):=by
 intro n;induction n with
 |zero=>
  intro i o l h0 h1 h2 h3;have hi:i=p.length:=by omega
  subst hi;rw[ah,bP];simp only[go_sem,Q0,Q1,Q2,Q3,Q4,Q5,Q6,Q7,Q8,Q9,Qa,Qb,Qc,Qd,Qe,Qf,Qg,Qh,Qi,Qj,Qk,reduceCtorEq,reduceIte,lnF]
 |succ n ih=>
  intro i o l h0 h1 h2 h3;have hi:i<p.length:=by omega
  have e1:=cR i (by omega);have hb:=nO o;rw[ah,de p i hi];unfold lnF;generalize hc:p.getD i 0=c at*;have c1:l.length+1<=140737488355328:=by omega
  have c2:(o.length+1)*24<=140737488355328:=by omega
  by_cases a1:c=10
  ·subst a1
   by_cases a2:(l.length:Int)=0
   ·simp only[go_sem,Q0,Q1,Q2,Q3,Q4,Q5,Q6,Q7,Q8,Q9,Qa,Qb,Qc,Qd,Qe,Qf,Qg,Qh,Qi,Qj,Qk,reduceCtorEq,reduceIte,hi,hc,a2]
   ·by_cases a3:(4:Int)<=o.length
    ·simp only[go_sem,Q0,Q1,Q2,Q3,Q4,Q5,Q6,Q7,Q8,Q9,Qa,Qb,Qc,Qd,Qe,Qf,Qg,Qh,Qi,Qj,Qk,reduceCtorEq,reduceIte,hi,hc,a2,a3,hb]
    ·have ih':=ih (i+1) (o++ [l]) [] (by omega) (by omega) (by simp) (by rw[ac,aV];omega)
     rw[Bi]at ih';simp only[go_sem,Q0,Q1,Q2,Q3,Q4,Q5,Q6,Q7,Q8,Q9,Qa,Qb,Qc,Qd,Qe,Qf,Qg,Qh,Qi,Qj,Qk,reduceCtorEq,reduceIte,hi,hc,e1,a2,a3,hb,c2,ih']
  ·have ih':=ih (i+1) o (l++ [c]) (by omega) (by omega) (by rw[ac,aV];omega) h3
   by_cases a2:c<32
   ·simp only[go_sem,Q0,Q1,Q2,Q3,Q4,Q5,Q6,Q7,Q8,Q9,Qa,Qb,Qc,Qd,Qe,Qf,Qg,Qh,Qi,Qj,Qk,reduceCtorEq,reduceIte,hi,hc,a1,a2]
   ·by_cases a3:126<c
    ·simp only[go_sem,Q0,Q1,Q2,Q3,Q4,Q5,Q6,Q7,Q8,Q9,Qa,Qb,Qc,Qd,Qe,Qf,Qg,Qh,Qi,Qj,Qk,reduceCtorEq,reduceIte,hi,hc,a1,a2,a3]
    ·simp only[go_sem,Q0,Q1,Q2,Q3,Q4,Q5,Q6,Q7,Q8,Q9,Qa,Qb,Qc,Qd,Qe,Qf,Qg,Qh,Qi,Qj,Qk,reduceCtorEq,reduceIte,hi,hc,e1,a1,a2,a3,c1,ih']
theorem xlm(x:Img)(hp:x.pay.length<=1000000000000):call T 203 [.agg x.sv] [] 0=some ⟨.lst 1 (bls (gb x.pay)) .no,[],[]⟩:=by
 obtain⟨ro,na,ve,p⟩:=x;have h:=xkD ro na ve p hp _ 0 [] [] rfl (by omega) (by simp) (by simp);simp only[aB,bj]at h;have hb:bls []=[]:=rfl;rw[hb]at h;rw[aj xgl];unfold gb Img.sv;cases hq:lnF p [] []with
 |none=>rw[hq]at h;simp only[go_sem,Q0,Q1,Q2,Q3,Q4,Q5,Q6,Q7,Q8,Q9,Qa,Qb,Qc,Qd,Qe,Qf,Qg,Qh,Qi,Qj,Qk,reduceCtorEq,reduceIte,h,hq,hb]
 |some q=>
  obtain⟨o,l⟩:=q;rw[hq]at h
  by_cases h1:(0:Int)<l.length
  ·simp only[go_sem,Q0,Q1,Q2,Q3,Q4,Q5,Q6,Q7,Q8,Q9,Qa,Qb,Qc,Qd,Qe,Qf,Qg,Qh,Qi,Qj,Qk,reduceCtorEq,reduceIte,h,hq,hb,h1]
  ·simp only[go_sem,Q0,Q1,Q2,Q3,Q4,Q5,Q6,Q7,Q8,Q9,Qa,Qb,Qc,Qd,Qe,Qf,Qg,Qh,Qi,Qj,Qk,reduceCtorEq,reduceIte,h,hq,hb,h1]
def gz(x:Img):Int:=
 if x.role<1 then 1 else if 4<x.role then 1 else if x.ver<0 then 1 else if 1000000<x.ver then 1 else if Pr.nameB x.name=false then 43 else if(64:Int)<x.pay.length then 4 else if x.role=4 then(if((gb x.pay).length:Int)=0 then 40 else 0)else 0
theorem xlt(x:Img)(hn:x.name.length<=1000000000000)(hp:x.pay.length<=1000000000000):call T 182 [.agg x.sv] [] 0=some ⟨.int .i64 (gz x),[],[]⟩:=by
 have g1:=xlJ x.name hn;have g2:=xlm x hp;obtain⟨ro,na,ve,p⟩:=x;have hb:=nO (gb p);simp only[Img.sv]at g1 g2 ⊢;rw[aj xgu];unfold gz
 by_cases a1:ro<1
 ·simp only[go_sem,Q0,Q1,Q2,Q3,Q4,Q5,Q6,Q7,Q8,Q9,Qa,Qb,Qc,Qd,Qe,Qf,Qg,Qh,Qi,Qj,Qk,reduceCtorEq,reduceIte,a1]
 by_cases a2:4<ro
 ·simp only[go_sem,Q0,Q1,Q2,Q3,Q4,Q5,Q6,Q7,Q8,Q9,Qa,Qb,Qc,Qd,Qe,Qf,Qg,Qh,Qi,Qj,Qk,reduceCtorEq,reduceIte,a1,a2]
 by_cases a3:ve<0
 ·simp only[go_sem,Q0,Q1,Q2,Q3,Q4,Q5,Q6,Q7,Q8,Q9,Qa,Qb,Qc,Qd,Qe,Qf,Qg,Qh,Qi,Qj,Qk,reduceCtorEq,reduceIte,a1,a2,a3]
 by_cases a4:1000000<ve
 ·simp only[go_sem,Q0,Q1,Q2,Q3,Q4,Q5,Q6,Q7,Q8,Q9,Qa,Qb,Qc,Qd,Qe,Qf,Qg,Qh,Qi,Qj,Qk,reduceCtorEq,reduceIte,a1,a2,a3,a4]
 cases a5:Pr.nameB na with
 |false=>rw[a5]at g1;simp only[go_sem,Q0,Q1,Q2,Q3,Q4,Q5,Q6,Q7,Q8,Q9,Qa,Qb,Qc,Qd,Qe,Qf,Qg,Qh,Qi,Qj,Qk,reduceCtorEq,reduceIte,a1,a2,a3,a4,a5,g1,wA]
 |true=>
  rw[a5]at g1
  by_cases a6:(64:Int)<p.length
  ·simp only[go_sem,Q0,Q1,Q2,Q3,Q4,Q5,Q6,Q7,Q8,Q9,Qa,Qb,Qc,Qd,Qe,Qf,Qg,Qh,Qi,Qj,Qk,reduceCtorEq,reduceIte,a1,a2,a3,a4,a5,g1,wA,a6]
  by_cases a7:ro=4
  ·subst a7
   by_cases a8:((gb p).length:Int)=0
   ·simp only[go_sem,Q0,Q1,Q2,Q3,Q4,Q5,Q6,Q7,Q8,Q9,Qa,Qb,Qc,Qd,Qe,Qf,Qg,Qh,Qi,Qj,Qk,reduceCtorEq,reduceIte,a1,a2,a3,a4,a5,g1,wA,a6,g2,XU,hb,a8]
   ·simp only[go_sem,Q0,Q1,Q2,Q3,Q4,Q5,Q6,Q7,Q8,Q9,Qa,Qb,Qc,Qd,Qe,Qf,Qg,Qh,Qi,Qj,Qk,reduceCtorEq,reduceIte,a1,a2,a3,a4,a5,g1,wA,a6,g2,XU,hb,a8]
  ·simp only[go_sem,Q0,Q1,Q2,Q3,Q4,Q5,Q6,Q7,Q8,Q9,Qa,Qb,Qc,Qd,Qe,Qf,Qg,Qh,Qi,Qj,Qk,reduceCtorEq,reduceIte,a1,a2,a3,a4,a5,g1,wA,a6,a7]
def v8(x:Img):List UInt8:=if gz x=0 then jv (jv (be 1 (aI.wrap x.role)++be 4 (aI.wrap x.ver)) x.name) x.pay else []
theorem eo(B X:List UInt8):(jv B X).length=B.length+2+min 65535 X.length:=by unfold jv;rw[ac,ac,dQ,ax]
theorem Fg(x:Img)(hn:x.name.length<=1000000)(hp:x.pay.length<=1000000):(v8 x).length<=10000000:=by
 unfold v8;split
 ·rw[eo,eo,ac,dQ,dQ];omega
 ·simp
theorem f129(x:Img)(hn:x.name.length<=1000000)(hp:x.pay.length<=1000000):call T 129 [.agg x.sv] [] 0=some ⟨.byt (v8 x) .no,[],[]⟩:=by
 have g0:=xlt x (by omega) (by omega);have g1:=f45 [] 1 x.role (by omega) (by omega) (by simp);have g2:=f45 (be 1 (aI.wrap x.role)) 4 x.ver (by omega) (by omega) (by rw[dQ];omega);have g3:=f82 (be 1 (aI.wrap x.role)++be 4 (aI.wrap x.ver)) x.name (by rw[ac,dQ,dQ];omega) (by omega);have g4:=f82 (jv (be 1 (aI.wrap x.role)++be 4 (aI.wrap x.ver)) x.name) x.pay (by rw[eo,ac,dQ,dQ];omega) (by omega);simp only[Int.cast_ofNat_Int,aF]at g1 g2;obtain⟨ro,na,ve,p⟩:=x;simp only[Img.sv]at*;rw[aj xgW];unfold v8
 by_cases h:gz ⟨ro,na,ve,p⟩=0
 ·rw[h]at g0
  simp only[go_sem,Q0,Q1,Q2,Q3,Q4,Q5,Q6,Q7,Q8,Q9,Qa,Qb,Qc,Qd,Qe,Qf,Qg,Qh,Qi,Qj,Qk,reduceCtorEq,reduceIte,g0,XX,g1,xdg,g2,g3,xmW,g4,h]
 ·simp only[go_sem,Q0,Q1,Q2,Q3,Q4,Q5,Q6,Q7,Q8,Q9,Qa,Qb,Qc,Qd,Qe,Qf,Qg,Qh,Qi,Qj,Qk,reduceCtorEq,reduceIte,g0,XX,h]
theorem ir{s:List UInt8}(h:Pr.nameB s=true):1<=s.length/\s.length<=12:=by
 unfold Pr.nameB at h;split at h
 ·cases h
 ·omega
theorem rA{x:Img}(h:gz x=0):1<=x.role/\x.role<=4/\0<=x.ver/\x.ver<=1000000/\Pr.nameB x.name=true/\x.pay.length<=64:=by
 unfold gz at h
 repeat' split at h
 all_goals first|omega|skip
 all_goals (cases hq:Pr.nameB x.name with
  |true=>exact⟨by omega,by omega,by omega,by omega,rfl,by omega⟩
  |false=>simp_all)
theorem MD{x:Img}(h:gz x=0):x.name.length<=1000000/\x.pay.length<=1000000:=by obtain⟨_,_,_,_,h1,h2⟩:=rA h;have:=ir h1;omega
def kC(l:List Img):List (List SV):=l.map Img.sv
def im0:Img:=⟨0,[],0,[]⟩
theorem jR(l:List Img):(kC l).length=l.length:=aN ..
theorem uh(l:List Img)(i:Nat)(h:i<l.length):(kC l).getD i []=(l.getD i im0).sv:=by simp[kC,aa,h]
structure lI(l:List Img):Prop where
 n1:1<=l.length
 n8:l.length<=8
 ok:∀i,i<l.length->gz (l.getD i im0)=0
 ord:∀i,i+1<l.length->(l.getD i im0).role<=(l.getD (i+1) im0).role
 dup:∀i,i<l.length->∀k,k<i->(l.getD k im0).role=(l.getD i im0).role->(l.getD k im0).name≠(l.getD i im0).name
 fw:∃i,i<l.length/\(l.getD i im0).role=1
 kn:∃i,i<l.length/\(l.getD i im0).role=3
end Go.Proofs.YtkggincjigbelaaGreatDoor
