/- Contracts. No condition. -/
import Derived.Test.YtmhhnklkcmpdkaaGreatDoorTaPA
open Int renaming cast_ofNat_Int -> dw, natCast_zero -> aA, toNat_natCast -> fX
open Go.IntKind renaming u64 -> aS
open List renaming all_cons -> fV, append_assoc -> ay, append_nil -> aZ, cons_append -> br, drop_length -> bB, drop_zero -> bj, getD_eq_getElem?_getD -> aa, length_append -> ac, length_drop -> aX, length_map -> aC, length_pos_iff -> nq, length_singleton -> aD, length_take -> av, mem_cons -> al, nil_append -> aR, not_mem_nil -> bA, singleton_append -> cf, take -> fg, take_length -> ba
open Nat renaming le_refl -> bc
set_option maxRecDepth 100000
set_option maxHeartbeats 16000000
set_option linter.unusedSimpArgs false
set_option linter.unusedVariables false
namespace Go.Proofs.YtmhhnklkcmpdkaaGreatDoor
open Go.Sy
open UInt8 renaming reduceLT -> Q0, reduceLE -> Q1
open Int renaming reduceToNat -> Q2, reduceLE -> Q3, reduceLT -> Q4, reduceEq -> Q5, reduceNe -> Q6, reduceNeg -> Q7, reduceAdd -> Q8, reduceSub -> Q9, reduceMul -> Qa
open Nat renaming reducePow -> Qb, reduceDiv -> Qc, reduceMod -> Qd, reduceAdd -> Qe, reduceSub -> Qf, reduceMul -> Qg, reduceLT -> Qh, reduceLeDiff -> Qi, reduceEqDiff -> Qj, reduceBEq -> Qk
attribute [go_sem] dw
structure Ev where
 reg:Int
 kind:Int
 dg:List (List UInt8)
 data:List UInt8
def bls(l:List d9):d8:=l.map fun d=> [.byt d .no]
def Ev.sv(e:Ev):t6:=[.int .i64 e.reg,.int .i64 e.kind,.lst 1 (bls e.dg) .no,.byt e.data .no]
structure Img where
 role:Int
 name:List UInt8
 ver:Int
 pay:List UInt8
def Img.sv(x:Img):t6:=[.int .i64 x.role,.str x.name,.int .i64 x.ver,.byt x.pay .no]
theorem xmu(s:d9)(J:s.length<=1000000000000):∀(n i:Nat),s.length-i=n->i<=s.length->
 run T (.loop zk) ⟨[(0,.str s),(3,.int .i64 i)],[],[]⟩=if(s.drop i).all Pr.okc=true then some (.x 0,⟨[],[],[]⟩)else some (.r,⟨[(2,.bool false)],[],[]⟩):=by
 intro n;induction n with
 |zero=>
  intro i I H;have hi:i=s.length:=by omega
  subst hi;rw[aj,bB];simp only[go_sem,Q0,Q1,Q2,Q3,Q4,Q5,Q6,Q7,Q8,Q9,Qa,Qb,Qc,Qd,Qe,Qf,Qg,Qh,Qi,Qj,Qk,reduceCtorEq,reduceIte]
 |succ n F=>
  intro i I H;have hi:i<s.length:=by omega
  have z:=cX i (by omega);have y:=F (i+1) (by omega) (by omega);rw[aj,eE s i hi,fV];unfold Pr.okc at y ⊢;generalize C:s.getD i 0=c at*;generalize List.all (List.drop (i+1) s) _=q at*
  by_cases E:c<97
  ·by_cases a3:c<48
   ·by_cases a5:c=45
    ·subst a5;simp only[go_sem,Q0,Q1,Q2,Q3,Q4,Q5,Q6,Q7,Q8,Q9,Qa,Qb,Qc,Qd,Qe,Qf,Qg,Qh,Qi,Qj,Qk,reduceCtorEq,reduceIte,hi,C,z,y]
    ·simp only[go_sem,Q0,Q1,Q2,Q3,Q4,Q5,Q6,Q7,Q8,Q9,Qa,Qb,Qc,Qd,Qe,Qf,Qg,Qh,Qi,Qj,Qk,reduceCtorEq,reduceIte,hi,C,z,E,a3,a5,y]
   ·by_cases a4:57<c
    ·by_cases a5:c=45
     ·subst a5;simp only[go_sem,Q0,Q1,Q2,Q3,Q4,Q5,Q6,Q7,Q8,Q9,Qa,Qb,Qc,Qd,Qe,Qf,Qg,Qh,Qi,Qj,Qk,reduceCtorEq,reduceIte,hi,C,z,y]
     ·simp only[go_sem,Q0,Q1,Q2,Q3,Q4,Q5,Q6,Q7,Q8,Q9,Qa,Qb,Qc,Qd,Qe,Qf,Qg,Qh,Qi,Qj,Qk,reduceCtorEq,reduceIte,hi,C,z,E,a3,a4,a5,y]
    ·simp only[go_sem,Q0,Q1,Q2,Q3,Q4,Q5,Q6,Q7,Q8,Q9,Qa,Qb,Qc,Qd,Qe,Qf,Qg,Qh,Qi,Qj,Qk,reduceCtorEq,reduceIte,hi,C,z,E,a3,a4,y]
  ·by_cases a2:122<c
   ·by_cases a3:c<48
    ·exact absurd a3 (by intro h;have:=UInt8.lt_trans a2 h;revert this;decide)
    ·by_cases a4:57<c
     ·by_cases a5:c=45
      ·subst a5;simp only[go_sem,Q0,Q1,Q2,Q3,Q4,Q5,Q6,Q7,Q8,Q9,Qa,Qb,Qc,Qd,Qe,Qf,Qg,Qh,Qi,Qj,Qk,reduceCtorEq,reduceIte,hi,C,z,y]
      ·simp only[go_sem,Q0,Q1,Q2,Q3,Q4,Q5,Q6,Q7,Q8,Q9,Qa,Qb,Qc,Qd,Qe,Qf,Qg,Qh,Qi,Qj,Qk,reduceCtorEq,reduceIte,hi,C,z,E,a2,a3,a4,a5,y]
     ·simp only[go_sem,Q0,Q1,Q2,Q3,Q4,Q5,Q6,Q7,Q8,Q9,Qa,Qb,Qc,Qd,Qe,Qf,Qg,Qh,Qi,Qj,Qk,reduceCtorEq,reduceIte,hi,C,z,E,a2,a3,a4,y]
   ·simp only[go_sem,Q0,Q1,Q2,Q3,Q4,Q5,Q6,Q7,Q8,Q9,Qa,Qb,Qc,Qd,Qe,Qf,Qg,Qh,Qi,Qj,Qk,reduceCtorEq,reduceIte,hi,C,z,E,a2,y]
theorem xk7(s:d9)(F:s.length<=1000000000000):call T 179 [.str s] [] 0=some ⟨.bool (Pr.nameB s),[],[]⟩:=by
 have h:=xmu s F _ 0 rfl (by omega);simp only[aA,bj]at h;rw[am Zj];unfold Pr.nameB
 by_cases C:s.length<1
 ·have y:(s.length:Int)<1:=by omega
  simp only[go_sem,Q0,Q1,Q2,Q3,Q4,Q5,Q6,Q7,Q8,Q9,Qa,Qb,Qc,Qd,Qe,Qf,Qg,Qh,Qi,Qj,Qk,reduceCtorEq,reduceIte,C,y]
 ·have y:¬(s.length:Int)<1:=by omega
  by_cases E:12<s.length
  ·have z:(12:Int)<s.length:=by omega
   simp only[go_sem,Q0,Q1,Q2,Q3,Q4,Q5,Q6,Q7,Q8,Q9,Qa,Qb,Qc,Qd,Qe,Qf,Qg,Qh,Qi,Qj,Qk,reduceCtorEq,reduceIte,C,y,E,z]
  ·have z:¬(12:Int)<s.length:=by omega
   cases hq:s.all Pr.okc with
   |true=>rw[if_pos hq]at h;simp only[go_sem,Q0,Q1,Q2,Q3,Q4,Q5,Q6,Q7,Q8,Q9,Qa,Qb,Qc,Qd,Qe,Qf,Qg,Qh,Qi,Qj,Qk,reduceCtorEq,reduceIte,C,y,E,z,h,hq]
   |false=>rw[if_neg (by rw[hq];simp)]at h;simp only[go_sem,Q0,Q1,Q2,Q3,Q4,Q5,Q6,Q7,Q8,Q9,Qa,Qb,Qc,Qd,Qe,Qf,Qg,Qh,Qi,Qj,Qk,reduceCtorEq,reduceIte,C,y,E,z,h,hq]
def lnF:d9->List d9->d9->Option (List d9×d9)
 |[],o,l=>some (o,l)
 |c::r,o,l=>if c=10 then(if(l.length:Int)=0 then none else if(4:Int)<=o.length then none else lnF r (o++ [l]) [])else if c<32 then none else if 126<c then none else lnF r o (l++ [c])
def fS(p:d9):List d9:=match lnF p [] []with
 |some (o,l)=>if(0:Int)<l.length then []else o
 |none=> []
theorem lV(l:List d9):(bls l).length=l.length:=aC ..
theorem Cx(l:List d9)(d:d9):bls (l++ [d])=bls l++ [[.byt d .no]]:=by simp[bls]
theorem xms(E:Int)(C:d9)(F:Int)(p:d9)(Z:p.length<=1000000000000):∀(n i:Nat)(o:List d9)(l:d9),p.length-i=n->i<=p.length->l.length<=i->o.length<=4->
 run T (.loop tv) ⟨[(1,.ptr 101 0),(3,.lst 1 (bls o) (.id 103)),(4,.byt l (.id 104)),(5,.int .i64 i)],[(101,.rc [.int .i64 E,.str C,.int .i64 F,.byt p .no])],[103,104]⟩=
 match lnF (p.drop i) o l with
 |some (o',l')=>some (.x 0,⟨[(3,.lst 1 (bls o') (.id 103)),(4,.byt l' (.id 104))],[(101,.rc [.int .i64 E,.str C,.int .i64 F,.byt p .no])],[103,104]⟩)
 |none=>some (.r,⟨[(2,.lst 1 [] .clip)],[(101,.rc [.int .i64 E,.str C,.int .i64 F,.byt p .no])],[103,104]⟩):=by
 intro n;induction n with
 |zero=>
  intro i o l O W Q L;have hi:i=p.length:=by omega
  subst hi;rw[aj,bB];simp only[go_sem,Q0,Q1,Q2,Q3,Q4,Q5,Q6,Q7,Q8,Q9,Qa,Qb,Qc,Qd,Qe,Qf,Qg,Qh,Qi,Qj,Qk,reduceCtorEq,reduceIte,lnF]
 |succ n I=>
  intro i o l O W Q L;have hi:i<p.length:=by omega
  have H:=cX i (by omega);have J:=lV o;rw[aj,eE p i hi];unfold lnF;generalize y:p.getD i 0=c at*;have c1:l.length+1<=140737488355328:=by omega
  have c2:(o.length+1)*24<=140737488355328:=by omega
  by_cases z:c=10
  ·subst z
   by_cases a2:(l.length:Int)=0
   ·simp only[go_sem,Q0,Q1,Q2,Q3,Q4,Q5,Q6,Q7,Q8,Q9,Qa,Qb,Qc,Qd,Qe,Qf,Qg,Qh,Qi,Qj,Qk,reduceCtorEq,reduceIte,hi,y,a2]
   ·by_cases a3:(4:Int)<=o.length
    ·simp only[go_sem,Q0,Q1,Q2,Q3,Q4,Q5,Q6,Q7,Q8,Q9,Qa,Qb,Qc,Qd,Qe,Qf,Qg,Qh,Qi,Qj,Qk,reduceCtorEq,reduceIte,hi,y,a2,a3,J]
    ·have h:=I (i+1) (o++ [l]) [] (by omega) (by omega) (by simp) (by rw[ac,aD];omega)
     rw[Cx]at h;simp only[go_sem,Q0,Q1,Q2,Q3,Q4,Q5,Q6,Q7,Q8,Q9,Qa,Qb,Qc,Qd,Qe,Qf,Qg,Qh,Qi,Qj,Qk,reduceCtorEq,reduceIte,hi,y,H,a2,a3,J,c2,h]
  ·have h:=I (i+1) o (l++ [c]) (by omega) (by omega) (by rw[ac,aD];omega) L
   by_cases a2:c<32
   ·simp only[go_sem,Q0,Q1,Q2,Q3,Q4,Q5,Q6,Q7,Q8,Q9,Qa,Qb,Qc,Qd,Qe,Qf,Qg,Qh,Qi,Qj,Qk,reduceCtorEq,reduceIte,hi,y,z,a2]
   ·by_cases a3:126<c
    ·simp only[go_sem,Q0,Q1,Q2,Q3,Q4,Q5,Q6,Q7,Q8,Q9,Qa,Qb,Qc,Qd,Qe,Qf,Qg,Qh,Qi,Qj,Qk,reduceCtorEq,reduceIte,hi,y,z,a2,a3]
    ·simp only[go_sem,Q0,Q1,Q2,Q3,Q4,Q5,Q6,Q7,Q8,Q9,Qa,Qb,Qc,Qd,Qe,Qf,Qg,Qh,Qi,Qj,Qk,reduceCtorEq,reduceIte,hi,y,H,z,a2,a3,c1,h]
theorem xk6(x:Img)(C:x.pay.length<=1000000000000):call T 203 [.agg x.sv] [] 0=some ⟨.lst 1 (bls (fS x.pay)) .no,[],[]⟩:=by
 obtain⟨F,E,H,p⟩:=x;have h:=xms F E H p C _ 0 [] [] rfl (by omega) (by simp) (by simp);simp only[aA,bj]at h;have y:bls []=[]:=rfl;rw[y]at h;rw[am xh5];unfold fS Img.sv;cases hq:lnF p [] []with
 |none=>rw[hq]at h;simp only[go_sem,Q0,Q1,Q2,Q3,Q4,Q5,Q6,Q7,Q8,Q9,Qa,Qb,Qc,Qd,Qe,Qf,Qg,Qh,Qi,Qj,Qk,reduceCtorEq,reduceIte,h,hq,y]
 |some q=>
  obtain⟨o,l⟩:=q;rw[hq]at h
  by_cases z:(0:Int)<l.length
  ·simp only[go_sem,Q0,Q1,Q2,Q3,Q4,Q5,Q6,Q7,Q8,Q9,Qa,Qb,Qc,Qd,Qe,Qf,Qg,Qh,Qi,Qj,Qk,reduceCtorEq,reduceIte,h,hq,y,z]
  ·simp only[go_sem,Q0,Q1,Q2,Q3,Q4,Q5,Q6,Q7,Q8,Q9,Qa,Qb,Qc,Qd,Qe,Qf,Qg,Qh,Qi,Qj,Qk,reduceCtorEq,reduceIte,h,hq,y,z]
def eW(x:Img):Int:=
 if x.role<1 then 1 else if 4<x.role then 1 else if x.ver<0 then 1 else if 1000000<x.ver then 1 else if Pr.nameB x.name=false then 43 else if(64:Int)<x.pay.length then 4 else if x.role=4 then(if((fS x.pay).length:Int)=0 then 40 else 0)else 0
theorem f166(x:Img)(hn:x.name.length<=1000000000000)(J:x.pay.length<=1000000000000):call T 166 [.agg x.sv] [] 0=some ⟨.int .i64 (eW x),[],[]⟩:=by
 have g1:=xk7 x.name hn;have z:=xk6 x J;obtain⟨C,L,I,p⟩:=x;have H:=lV (fS p);simp only[Img.sv]at g1 z ⊢;rw[am Zl];unfold eW
 by_cases h:C<1
 ·simp only[go_sem,Q0,Q1,Q2,Q3,Q4,Q5,Q6,Q7,Q8,Q9,Qa,Qb,Qc,Qd,Qe,Qf,Qg,Qh,Qi,Qj,Qk,reduceCtorEq,reduceIte,h]
 by_cases a2:4<C
 ·simp only[go_sem,Q0,Q1,Q2,Q3,Q4,Q5,Q6,Q7,Q8,Q9,Qa,Qb,Qc,Qd,Qe,Qf,Qg,Qh,Qi,Qj,Qk,reduceCtorEq,reduceIte,h,a2]
 by_cases a3:I<0
 ·simp only[go_sem,Q0,Q1,Q2,Q3,Q4,Q5,Q6,Q7,Q8,Q9,Qa,Qb,Qc,Qd,Qe,Qf,Qg,Qh,Qi,Qj,Qk,reduceCtorEq,reduceIte,h,a2,a3]
 by_cases a4:1000000<I
 ·simp only[go_sem,Q0,Q1,Q2,Q3,Q4,Q5,Q6,Q7,Q8,Q9,Qa,Qb,Qc,Qd,Qe,Qf,Qg,Qh,Qi,Qj,Qk,reduceCtorEq,reduceIte,h,a2,a3,a4]
 cases a5:Pr.nameB L with
 |false=>rw[a5]at g1;simp only[go_sem,Q0,Q1,Q2,Q3,Q4,Q5,Q6,Q7,Q8,Q9,Qa,Qb,Qc,Qd,Qe,Qf,Qg,Qh,Qi,Qj,Qk,reduceCtorEq,reduceIte,h,a2,a3,a4,a5,g1,nl]
 |true=>
  rw[a5]at g1
  by_cases y:(64:Int)<p.length
  ·simp only[go_sem,Q0,Q1,Q2,Q3,Q4,Q5,Q6,Q7,Q8,Q9,Qa,Qb,Qc,Qd,Qe,Qf,Qg,Qh,Qi,Qj,Qk,reduceCtorEq,reduceIte,h,a2,a3,a4,a5,g1,nl,y]
  by_cases E:C=4
  ·subst E
   by_cases F:((fS p).length:Int)=0
   ·simp only[go_sem,Q0,Q1,Q2,Q3,Q4,Q5,Q6,Q7,Q8,Q9,Qa,Qb,Qc,Qd,Qe,Qf,Qg,Qh,Qi,Qj,Qk,reduceCtorEq,reduceIte,h,a2,a3,a4,a5,g1,nl,y,z,En,H,F]
   ·simp only[go_sem,Q0,Q1,Q2,Q3,Q4,Q5,Q6,Q7,Q8,Q9,Qa,Qb,Qc,Qd,Qe,Qf,Qg,Qh,Qi,Qj,Qk,reduceCtorEq,reduceIte,h,a2,a3,a4,a5,g1,nl,y,z,En,H,F]
  ·simp only[go_sem,Q0,Q1,Q2,Q3,Q4,Q5,Q6,Q7,Q8,Q9,Qa,Qb,Qc,Qd,Qe,Qf,Qg,Qh,Qi,Qj,Qk,reduceCtorEq,reduceIte,h,a2,a3,a4,a5,g1,nl,y,E]
def iB(x:Img):d9:=if eW x=0 then lW (lW (be 1 (aS.wrap x.role)++be 4 (aS.wrap x.ver)) x.name) x.pay else []
theorem iT(B X:d9):(lW B X).length=B.length+2+min 65535 X.length:=by unfold lW;rw[ac,ac,eO,av]
theorem xnl(x:Img)(hn:x.name.length<=1000000)(F:x.pay.length<=1000000):call T 101 [.agg x.sv] [] 0=some ⟨.byt (iB x) .no,[],[]⟩:=by
 have g0:=f166 x (by omega) (by omega);have g1:=f74 [] 1 x.role (by omega) (by omega) (by simp);have y:=f74 (be 1 (aS.wrap x.role)) 4 x.ver (by omega) (by omega) (by rw[eO];omega);have g3:=xeI (be 1 (aS.wrap x.role)++be 4 (aS.wrap x.ver)) x.name (by rw[ac,eO,eO];omega) (by omega);have g4:=xeI (lW (be 1 (aS.wrap x.role)++be 4 (aS.wrap x.ver)) x.name) x.pay (by rw[iT,ac,eO,eO];omega) (by omega);simp only[dw,aR]at g1 y;obtain⟨C,z,E,p⟩:=x;simp only[Img.sv]at*;rw[am Zq];unfold iB
 by_cases h:eW ⟨C,z,E,p⟩=0
 ·rw[h]at g0
  simp only[go_sem,Q0,Q1,Q2,Q3,Q4,Q5,Q6,Q7,Q8,Q9,Qa,Qb,Qc,Qd,Qe,Qf,Qg,Qh,Qi,Qj,Qk,reduceCtorEq,reduceIte,g0,mi,g1,S2,y,g3,ZP,g4,h]
 ·simp only[go_sem,Q0,Q1,Q2,Q3,Q4,Q5,Q6,Q7,Q8,Q9,Qa,Qb,Qc,Qd,Qe,Qf,Qg,Qh,Qi,Qj,Qk,reduceCtorEq,reduceIte,g0,mi,h]
theorem nX{s:d9}(h:Pr.nameB s=true):1<=s.length/\s.length<=12:=by
 unfold Pr.nameB at h;split at h
 ·cases h
 ·omega
theorem nJ{x:Img}(h:eW x=0):1<=x.role/\x.role<=4/\0<=x.ver/\x.ver<=1000000/\Pr.nameB x.name=true/\x.pay.length<=64:=by
 unfold eW at h
 repeat' split at h
 all_goals first|omega|skip
 all_goals (cases y:Pr.nameB x.name with
  |true=>exact⟨by omega,by omega,by omega,by omega,rfl,by omega⟩
  |false=>simp_all)
theorem NG{x:Img}(h:eW x=0):x.name.length<=1000000/\x.pay.length<=1000000:=by obtain⟨_,_,_,_,y,z⟩:=nJ h;have:=nX y;omega
def cZ(l:List Img):d8:=l.map Img.sv
def im0:Img:=⟨0,[],0,[]⟩
theorem cg(l:List Img):(cZ l).length=l.length:=aC ..
theorem fH(l:List Img)(i:Nat)(h:i<l.length):(cZ l).getD i []=(l.getD i im0).sv:=by simp[cZ,aa,h]
structure qp(l:List Img):Prop where
 n1:1<=l.length
 n8:l.length<=8
 ok:∀i,i<l.length->eW (l.getD i im0)=0
 ord:∀i,i+1<l.length->(l.getD i im0).role<=(l.getD (i+1) im0).role
 dup:∀i,i<l.length->∀k,k<i->(l.getD k im0).role=(l.getD i im0).role->(l.getD k im0).name≠(l.getD i im0).name
 fw:∃i,i<l.length/\(l.getD i im0).role=1
 kn:∃i,i<l.length/\(l.getD i im0).role=3
theorem xhh(s:d9):call T 179 [.str s] [] 0=some ⟨.bool (Pr.nameB s),[],[]⟩:=by
 by_cases z:s.length<=1000000000000
 ·exact xk7 s z
 ·have C:¬s.length<1:=by omega
  have y:¬(s.length:Int)<1:=by omega
  have E:12<s.length:=by omega
  have h:(12:Int)<s.length:=by omega
  rw[am Zj];unfold Pr.nameB;simp only[go_sem,Q0,Q1,Q2,Q3,Q4,Q5,Q6,Q7,Q8,Q9,Qa,Qb,Qc,Qd,Qe,Qf,Qg,Qh,Qi,Qj,Qk,reduceCtorEq,reduceIte,C,y,E,h]
theorem O8(x:Img):call T 166 [.agg x.sv] [] 0=some ⟨.int .i64 (eW x),[],[]⟩:=by
 have g1:=xhh x.name;have J:=fun h=>xk6 x h
 obtain⟨E,O,L,p⟩:=x;have I:=lV (fS p);simp only[Img.sv]at g1 J ⊢;rw[am Zl];unfold eW
 by_cases y:E<1
 ·simp only[go_sem,Q0,Q1,Q2,Q3,Q4,Q5,Q6,Q7,Q8,Q9,Qa,Qb,Qc,Qd,Qe,Qf,Qg,Qh,Qi,Qj,Qk,reduceCtorEq,reduceIte,y]
 by_cases a2:4<E
 ·simp only[go_sem,Q0,Q1,Q2,Q3,Q4,Q5,Q6,Q7,Q8,Q9,Qa,Qb,Qc,Qd,Qe,Qf,Qg,Qh,Qi,Qj,Qk,reduceCtorEq,reduceIte,y,a2]
 by_cases a3:L<0
 ·simp only[go_sem,Q0,Q1,Q2,Q3,Q4,Q5,Q6,Q7,Q8,Q9,Qa,Qb,Qc,Qd,Qe,Qf,Qg,Qh,Qi,Qj,Qk,reduceCtorEq,reduceIte,y,a2,a3]
 by_cases a4:1000000<L
 ·simp only[go_sem,Q0,Q1,Q2,Q3,Q4,Q5,Q6,Q7,Q8,Q9,Qa,Qb,Qc,Qd,Qe,Qf,Qg,Qh,Qi,Qj,Qk,reduceCtorEq,reduceIte,y,a2,a3,a4]
 cases a5:Pr.nameB O with
 |false=>rw[a5]at g1;simp only[go_sem,Q0,Q1,Q2,Q3,Q4,Q5,Q6,Q7,Q8,Q9,Qa,Qb,Qc,Qd,Qe,Qf,Qg,Qh,Qi,Qj,Qk,reduceCtorEq,reduceIte,y,a2,a3,a4,a5,g1,nl]
 |true=>
  rw[a5]at g1
  by_cases C:(64:Int)<p.length
  ·simp only[go_sem,Q0,Q1,Q2,Q3,Q4,Q5,Q6,Q7,Q8,Q9,Qa,Qb,Qc,Qd,Qe,Qf,Qg,Qh,Qi,Qj,Qk,reduceCtorEq,reduceIte,y,a2,a3,a4,a5,g1,nl,C]
  have z:=J (by omega)
  by_cases F:E=4
  ·subst F
   by_cases H:((fS p).length:Int)=0
   ·simp only[go_sem,Q0,Q1,Q2,Q3,Q4,Q5,Q6,Q7,Q8,Q9,Qa,Qb,Qc,Qd,Qe,Qf,Qg,Qh,Qi,Qj,Qk,reduceCtorEq,reduceIte,y,a2,a3,a4,a5,g1,nl,C,z,En,I,H]
   ·simp only[go_sem,Q0,Q1,Q2,Q3,Q4,Q5,Q6,Q7,Q8,Q9,Qa,Qb,Qc,Qd,Qe,Qf,Qg,Qh,Qi,Qj,Qk,reduceCtorEq,reduceIte,y,a2,a3,a4,a5,g1,nl,C,z,En,I,H]
  ·simp only[go_sem,Q0,Q1,Q2,Q3,Q4,Q5,Q6,Q7,Q8,Q9,Qa,Qb,Qc,Qd,Qe,Qf,Qg,Qh,Qi,Qj,Qk,reduceCtorEq,reduceIte,y,a2,a3,a4,a5,g1,nl,C,F]
theorem xhn(x:Img):call T 101 [.agg x.sv] [] 0=some ⟨.byt (iB x) .no,[],[]⟩:=by
 by_cases h:eW x=0
 ·obtain⟨z,y⟩:=NG h
  exact xnl x z y
 ·have g0:=O8 x
  have C:iB x=[]:=if_neg h;rw[C];obtain⟨F,E,H,p⟩:=x;simp only[Img.sv]at g0 ⊢;rw[am Zq];simp only[go_sem,Q0,Q1,Q2,Q3,Q4,Q5,Q6,Q7,Q8,Q9,Qa,Qb,Qc,Qd,Qe,Qf,Qg,Qh,Qi,Qj,Qk,reduceCtorEq,reduceIte,g0,mi,h]
def okp(c:UInt8):Bool:= !(decide (c<32)||decide (126<c))
theorem f276(l:d9)(c:UInt8):call T 276 [.byt l .no,.u8 c] [] 0=some ⟨.int .i64 (tQ l c),[],[]⟩:=by rw[eY xhI];rfl
theorem xmj(l:d9)(I:l.length<=1000000000000):∀(n i:Nat),l.length-i=n->i<=l.length->
 run T (.loop y7) ⟨[(5,.byt l .no),(6,.int .i64 l.length),(7,.int .i64 i)],[],[]⟩=if(l.drop i).all okp=true then some (.x 0,⟨[],[],[]⟩)else some (.r,⟨[(2,.bool false)],[],[]⟩):=by
 intro n;induction n with
 |zero=>
  intro i C H;have hi:i=l.length:=by omega
  subst hi;rw[aj,bB];simp only[go_sem,Q0,Q1,Q2,Q3,Q4,Q5,Q6,Q7,Q8,Q9,Qa,Qb,Qc,Qd,Qe,Qf,Qg,Qh,Qi,Qj,Qk,reduceCtorEq,reduceIte]
 |succ n F=>
  intro i C H;have hi:i<l.length:=by omega
  have E:=cX i (by omega);have h:=F (i+1) (by omega) (by omega);rw[aj,eE l i hi,fV];unfold okp at h ⊢;generalize z:l.getD i 0=c at*;generalize List.all (List.drop (i+1) l) _=q at*
  by_cases y:c<32
  ·simp only[go_sem,Q0,Q1,Q2,Q3,Q4,Q5,Q6,Q7,Q8,Q9,Qa,Qb,Qc,Qd,Qe,Qf,Qg,Qh,Qi,Qj,Qk,reduceCtorEq,reduceIte,hi,z,y]
  ·by_cases a2:126<c
   ·simp only[go_sem,Q0,Q1,Q2,Q3,Q4,Q5,Q6,Q7,Q8,Q9,Qa,Qb,Qc,Qd,Qe,Qf,Qg,Qh,Qi,Qj,Qk,reduceCtorEq,reduceIte,hi,z,y,a2]
   ·simp only[go_sem,Q0,Q1,Q2,Q3,Q4,Q5,Q6,Q7,Q8,Q9,Qa,Qb,Qc,Qd,Qe,Qf,Qg,Qh,Qi,Qj,Qk,reduceCtorEq,reduceIte,hi,z,E,y,a2,h]
theorem f277(l:d9)(y:l.length<=1000000000000):call T 277 [.byt l .no] [] 0=some ⟨.bool (l.all okp),[],[]⟩:=by
 have h:=xmj l y _ 0 rfl (by omega);simp only[aA,bj]at h;rw[am xhH];cases hq:l.all okp with
 |true=>rw[if_pos hq]at h;simp only[go_sem,Q0,Q1,Q2,Q3,Q4,Q5,Q6,Q7,Q8,Q9,Qa,Qb,Qc,Qd,Qe,Qf,Qg,Qh,Qi,Qj,Qk,reduceCtorEq,reduceIte,h,hq]
 |false=>rw[if_neg (by rw[hq];simp)]at h;simp only[go_sem,Q0,Q1,Q2,Q3,Q4,Q5,Q6,Q7,Q8,Q9,Qa,Qb,Qc,Qd,Qe,Qf,Qg,Qh,Qi,Qj,Qk,reduceCtorEq,reduceIte,h,hq]
theorem sD(l:d9)(c:UInt8):(tQ l c= -1/\c∉l)\/∃k:Nat,tQ l c=k/\k<l.length/\l=l.take k++c::l.drop (k+1)/\c∉l.take k:=by
 have e:tQ l c=Lib.indexByte l c:=Lib.firstIdx_eq _ _;rw[e];clear e;induction l with
 |nil=>exact .inl ⟨rfl,bA⟩
 |cons b l E=>
  unfold Lib.indexByte
  by_cases h:b=c
  ·subst h
   exact .inr ⟨0,by simp,by simp,by simp,by simp⟩
  ·have y:¬(b==c)=true:=by simpa using h
   rw[if_neg y];rcases E with⟨C,z⟩|⟨k,C,z,h3,h4⟩
   ·rw[C]
    refine .inl ⟨rfl, ?_⟩;rw[al,not_or];exact⟨fun e=>h e.symm,z⟩
   ·rw[C]
    refine .inr ⟨k+1, ?_,by simpa using z, ?_, ?_⟩
    ·have:¬((k:Int)== -1)=true:=by simp
     rw[if_neg this];omega
    ·rw[List.take_succ_cons,List.drop_succ_cons,br,<-h3]
    ·rw[List.take_succ_cons,al,not_or]
     exact⟨fun e=>h e.symm,h4⟩
def lnP:Nat->d9->List d9->List d9
 |0,_,o=>o
 |n+1,r,o=>if r=[]then o else if tQ r 10<1 then []else if o.length=4 then []else if(r.take (tQ r 10).toNat).all okp=true then lnP n (r.drop ((tQ r 10).toNat+1)) (o++ [r.take (tQ r 10).toNat])else []
theorem zH:∀(a:d9)(o:List d9)(l r:d9),(10:UInt8)∉a->lnF (a++r) o l=if a.all okp=true then lnF r o (l++a)else none
 |[],o,l,r,_=>by simp
 |c::a,o,l,r,h=>by
  rw[al,not_or]at h;rw[br,fV]
  conv=>lhs;unfold lnF
  rw[if_neg (fun e=>h.1 e.symm),zH a o (l++ [c]) r h.2,ay,cf];generalize List.all a okp=q;generalize lnF r o (l++c::a)=z;unfold okp
  by_cases y:c<32
  ·simp[y]
  ·by_cases C:126<c
   ·simp[y,C]
   ·simp[y,C]
def lnW(p:Option (List d9×d9)):List d9:=match p with
 |some (o,l)=>if(0:Int)<l.length then []else o
 |none=> []
theorem NC:∀(n:Nat)(r:d9)(o:List d9),r.length<n->o.length<=4->lnP n r o=lnW (lnF r o [])
 |0,r,o,h,_=>by omega
 |n+1,r,o,h,ho=>by
  unfold lnP
  by_cases z:r=[]
  ·subst z
   rw[if_pos rfl];simp[lnF,lnW]
  ·rw[if_neg z]
   rcases sD r 10 with⟨C,E⟩|⟨k,C,E,h3,h4⟩
   ·rw[C,if_pos (by omega)]
    have e:lnF r o []=if r.all okp=true then some (o,r)else none:=by have:=zH r o [] [] E;rw[aZ]at this;rw[this];simp[lnF]
    rw[e]
    have I:(0:Int)<r.length:=by have:0<r.length:=nq.2 z;omega
    split
    ·simp only[lnW];rw[if_pos I]
    ·rfl
   ·rw[C,fX]
    have e:lnF r o []=if(r.take k).all okp=true then lnF (10::r.drop (k+1)) o (r.take k)else none:=by
     conv=>lhs;rw[h3]
     rw[zH _ o [] _ h4,aR]
    rw[e];have H:(r.take k).length=k:=by rw[av];omega
    unfold lnF;rw[if_pos rfl,H]
    by_cases J:k=0
    ·have y:(k:Int)<1:=by omega
     have i2:(k:Int)=0:=by omega
     simp only[if_pos y,if_pos i2,ite_self];rfl
    ·have y:¬(k:Int)<1:=by omega
     have i2:¬(k:Int)=0:=by omega
     simp only[if_neg y,if_neg i2]
     by_cases F:o.length=4
     ·have i4:(4:Int)<=o.length:=by omega
      simp only[if_pos F,if_pos i4,ite_self];rfl
     ·have i4:¬(4:Int)<=o.length:=by omega
      simp only[if_neg F,if_neg i4];split
      ·exact NC n _ _ (by rw[aX];omega) (by rw[ac,aD];omega)
      ·rfl
theorem xmo(
 ro:Int)(I:d9)(O:Int)(p:d9)(hp:p.length<=1000000000000):∀(n:Nat)(r:d9)(o:List d9),r.length<n->r.length<=p.length->o.length<=4->
 ((
  ∃L,lnP n r o=L/\run T (.loop uQ) ⟨[(3,.lst 1 (bls o) (.id 103)),(4,.byt r .no)],[(101,.rc [.int .i64 ro,.str I,.int .i64 O,.byt p .no])],[103]⟩=some (.x 0,⟨[(3,.lst 1 (bls L) (.id 103))],[(101,.rc [.int .i64 ro,.str I,.int .i64 O,.byt p .no])],[103]⟩))\/
  (lnP n r o=[]/\run T (.loop uQ) ⟨[(3,.lst 1 (bls o) (.id 103)),(4,.byt r .no)],[(101,.rc [.int .i64 ro,.str I,.int .i64 O,.byt p .no])],[103]⟩=some (.r,⟨[(2,.lst 1 [] .clip)],[(101,.rc [.int .i64 ro,.str I,.int .i64 O,.byt p .no])],[103]⟩))):=by
 intro n;induction n with
 |zero=>intro r o h0;omega
 |succ n ih=>
  intro r o h0 h1 h2;have J:=lV o;unfold lnP
  by_cases W:r=[]
  ·subst W
   rw[if_pos rfl];refine .inl ⟨o,rfl, ?_⟩;rw[aj];simp only[go_sem,Q0,Q1,Q2,Q3,Q4,Q5,Q6,Q7,Q8,Q9,Qa,Qb,Qc,Qd,Qe,Qf,Qg,Qh,Qi,Qj,Qk,reduceCtorEq,reduceIte]
  ·rw[if_neg W]
   have y:0<r.length:=nq.2 W;have h:(0:Int)<r.length:=by omega
   have g:=f276 r 10;rcases sD r 10 with⟨Z,_⟩|⟨k,Z,h4,_,_⟩
   ·rw[Z]at g ⊢
    rw[if_pos (by omega)];refine .inr ⟨rfl, ?_⟩;rw[aj];simp only[go_sem,Q0,Q1,Q2,Q3,Q4,Q5,Q6,Q7,Q8,Q9,Qa,Qb,Qc,Qd,Qe,Qf,Qg,Qh,Qi,Qj,Qk,reduceCtorEq,reduceIte,y,h,g,vd]
   ·rw[Z]at g ⊢
    rw[fX]
    by_cases k0:k=0
    ·subst k0
     rw[if_pos (by omega)];refine .inr ⟨rfl, ?_⟩;rw[aj];simp only[go_sem,Q0,Q1,Q2,Q3,Q4,Q5,Q6,Q7,Q8,Q9,Qa,Qb,Qc,Qd,Qe,Qf,Qg,Qh,Qi,Qj,Qk,reduceCtorEq,reduceIte,y,h,g,vd,aA]
    ·have k1:¬(k:Int)<1:=by omega
     have k2:k<=r.length:=by omega
     have C:(k:Int)<=r.length:=by omega
     have F:=f277 (r.take k) (by rw[av];omega);rw[if_neg k1]
     by_cases E:o.length=4
     ·rw[if_pos E]
      have z:(o.length:Int)=4:=by omega
      refine .inr ⟨rfl, ?_⟩;rw[aj];simp only[go_sem,Q0,Q1,Q2,Q3,Q4,Q5,Q6,Q7,Q8,Q9,Qa,Qb,Qc,Qd,Qe,Qf,Qg,Qh,Qi,Qj,Qk,reduceCtorEq,reduceIte,y,h,g,vd,k1,J,E,z]
     ·rw[if_neg E]
      have z:¬(o.length:Int)=4:=by omega
      cases hq:(r.take k).all okp with
      |false=>rw[if_neg (by simp)];rw[hq]at F;refine .inr ⟨rfl, ?_⟩;rw[aj];simp only[go_sem,Q0,Q1,Q2,Q3,Q4,Q5,Q6,Q7,Q8,Q9,Qa,Qb,Qc,Qd,Qe,Qf,Qg,Qh,Qi,Qj,Qk,reduceCtorEq,reduceIte,y,h,g,vd,k1,k2,C,J,E,z,F,PB]
      |true=>
       rw[if_pos rfl];rw[hq]at F;have H:=ih (r.drop (k+1)) (o++ [r.take k]) (by rw[aX];omega) (by rw[aX];omega) (by rw[ac,aD];omega);rw[Cx]at H;have e1:=cX k (by omega);have k3:k+1<=r.length:=by omega
       have tf:fg r.length r=r:=ba;have c2:(o.length+1)*24<=140737488355328:=by omega
       rcases H with⟨L,g1,Q⟩|⟨g1,Q⟩
       ·refine .inl ⟨L,g1, ?_⟩
        rw[aj];simp only[go_sem,Q0,Q1,Q2,Q3,Q4,Q5,Q6,Q7,Q8,Q9,Qa,Qb,Qc,Qd,Qe,Qf,Qg,Qh,Qi,Qj,Qk,reduceCtorEq,reduceIte,y,h,g,vd,k1,k2,C,k3,J,E,z,F,PB,e1,tf,c2,Q]
       ·refine .inr ⟨g1, ?_⟩
        rw[aj];simp only[go_sem,Q0,Q1,Q2,Q3,Q4,Q5,Q6,Q7,Q8,Q9,Qa,Qb,Qc,Qd,Qe,Qf,Qg,Qh,Qi,Qj,Qk,reduceCtorEq,reduceIte,y,h,g,vd,k1,k2,C,k3,J,E,z,F,PB,e1,tf,c2,Q]
theorem xk4(x:Img)(E:x.pay.length<=1000000000000):call T 216 [.agg x.sv] [] 0=some ⟨.lst 1 (bls (fS x.pay)) .no,[],[]⟩:=by
 obtain⟨I,F,J,p⟩:=x;have H:fS p=lnP (p.length+1) p []:=by rw[NC _ _ _ (by omega) (by simp)];rfl
 have h:=xmo I F J p E (p.length+1) p [] (by omega) (bc _) (by simp);rw[<-H]at h;have C:bls []=[]:=rfl;rw[C]at h;rw[am xhZ];simp only[Img.sv];rcases h with⟨L,z,y⟩|⟨z,y⟩
 ·rw[z]
  simp only[go_sem,Q0,Q1,Q2,Q3,Q4,Q5,Q6,Q7,Q8,Q9,Qa,Qb,Qc,Qd,Qe,Qf,Qg,Qh,Qi,Qj,Qk,reduceCtorEq,reduceIte,y]
 ·rw[z,C]
  simp only[go_sem,Q0,Q1,Q2,Q3,Q4,Q5,Q6,Q7,Q8,Q9,Qa,Qb,Qc,Qd,Qe,Qf,Qg,Qh,Qi,Qj,Qk,reduceCtorEq,reduceIte,y]
theorem xnd(x:Img)(J:x.pay.length<=1000000000000):call T 148 [.agg x.sv] [] 0=some ⟨.int .i64 (eW x),[],[]⟩:=by
 have g1:=xk5 x.name;have z:=xk4 x J;obtain⟨C,L,I,p⟩:=x;have H:=lV (fS p);simp only[Img.sv]at g1 z ⊢;rw[am Zn];unfold eW
 by_cases h:C<1
 ·simp only[go_sem,Q0,Q1,Q2,Q3,Q4,Q5,Q6,Q7,Q8,Q9,Qa,Qb,Qc,Qd,Qe,Qf,Qg,Qh,Qi,Qj,Qk,reduceCtorEq,reduceIte,h]
 by_cases a2:4<C
 ·simp only[go_sem,Q0,Q1,Q2,Q3,Q4,Q5,Q6,Q7,Q8,Q9,Qa,Qb,Qc,Qd,Qe,Qf,Qg,Qh,Qi,Qj,Qk,reduceCtorEq,reduceIte,h,a2]
 by_cases a3:I<0
 ·simp only[go_sem,Q0,Q1,Q2,Q3,Q4,Q5,Q6,Q7,Q8,Q9,Qa,Qb,Qc,Qd,Qe,Qf,Qg,Qh,Qi,Qj,Qk,reduceCtorEq,reduceIte,h,a2,a3]
 by_cases a4:1000000<I
 ·simp only[go_sem,Q0,Q1,Q2,Q3,Q4,Q5,Q6,Q7,Q8,Q9,Qa,Qb,Qc,Qd,Qe,Qf,Qg,Qh,Qi,Qj,Qk,reduceCtorEq,reduceIte,h,a2,a3,a4]
 cases a5:Pr.nameB L with
 |false=>rw[a5]at g1;simp only[go_sem,Q0,Q1,Q2,Q3,Q4,Q5,Q6,Q7,Q8,Q9,Qa,Qb,Qc,Qd,Qe,Qf,Qg,Qh,Qi,Qj,Qk,reduceCtorEq,reduceIte,h,a2,a3,a4,a5,g1,nk]
 |true=>
  rw[a5]at g1
  by_cases y:(64:Int)<p.length
  ·simp only[go_sem,Q0,Q1,Q2,Q3,Q4,Q5,Q6,Q7,Q8,Q9,Qa,Qb,Qc,Qd,Qe,Qf,Qg,Qh,Qi,Qj,Qk,reduceCtorEq,reduceIte,h,a2,a3,a4,a5,g1,nk,y]
  by_cases E:C=4
  ·subst E
   by_cases F:((fS p).length:Int)=0
   ·simp only[go_sem,Q0,Q1,Q2,Q3,Q4,Q5,Q6,Q7,Q8,Q9,Qa,Qb,Qc,Qd,Qe,Qf,Qg,Qh,Qi,Qj,Qk,reduceCtorEq,reduceIte,h,a2,a3,a4,a5,g1,nk,y,z,Em,H,F]
   ·simp only[go_sem,Q0,Q1,Q2,Q3,Q4,Q5,Q6,Q7,Q8,Q9,Qa,Qb,Qc,Qd,Qe,Qf,Qg,Qh,Qi,Qj,Qk,reduceCtorEq,reduceIte,h,a2,a3,a4,a5,g1,nk,y,z,Em,H,F]
  ·simp only[go_sem,Q0,Q1,Q2,Q3,Q4,Q5,Q6,Q7,Q8,Q9,Qa,Qb,Qc,Qd,Qe,Qf,Qg,Qh,Qi,Qj,Qk,reduceCtorEq,reduceIte,h,a2,a3,a4,a5,g1,nk,y,E]
theorem xnc(x:Img)(hn:x.name.length<=1000000)(F:x.pay.length<=1000000):call T 152 [.agg x.sv] [] 0=some ⟨.byt (iB x) .no,[],[]⟩:=by
 have g0:=xnd x (by omega);have g1:=Y7 [] 1 x.role (by omega) (by omega) (by simp);have y:=Y7 (be 1 (aS.wrap x.role)) 4 x.ver (by omega) (by omega) (by rw[eO];omega);have g3:=xeH (be 1 (aS.wrap x.role)++be 4 (aS.wrap x.ver)) x.name (by rw[ac,eO,eO];omega) (by omega);have g4:=xeH (lW (be 1 (aS.wrap x.role)++be 4 (aS.wrap x.ver)) x.name) x.pay (by rw[iT,ac,eO,eO];omega) (by omega);simp only[dw,aR]at g1 y;obtain⟨C,z,E,p⟩:=x;simp only[Img.sv]at*;rw[am Zm];unfold iB
 by_cases h:eW ⟨C,z,E,p⟩=0
 ·rw[if_pos h]
  rw[h]at g0;simp only[go_sem,Q0,Q1,Q2,Q3,Q4,Q5,Q6,Q7,Q8,Q9,Qa,Qb,Qc,Qd,Qe,Qf,Qg,Qh,Qi,Qj,Qk,reduceCtorEq,reduceIte,g0,mn,g1,Ep,y,g3,ZL,g4]
 ·rw[if_neg h]
  simp only[go_sem,Q0,Q1,Q2,Q3,Q4,Q5,Q6,Q7,Q8,Q9,Qa,Qb,Qc,Qd,Qe,Qf,Qg,Qh,Qi,Qj,Qk,reduceCtorEq,reduceIte,g0,mn,h]
theorem O9(x:Img):call T 148 [.agg x.sv] [] 0=some ⟨.int .i64 (eW x),[],[]⟩:=by
 have g1:=xk5 x.name;have J:=fun h=>xk4 x h
 obtain⟨E,O,L,p⟩:=x;have I:=lV (fS p);simp only[Img.sv]at g1 J ⊢;rw[am Zn];unfold eW
 by_cases y:E<1
 ·simp only[go_sem,Q0,Q1,Q2,Q3,Q4,Q5,Q6,Q7,Q8,Q9,Qa,Qb,Qc,Qd,Qe,Qf,Qg,Qh,Qi,Qj,Qk,reduceCtorEq,reduceIte,y]
 by_cases a2:4<E
 ·simp only[go_sem,Q0,Q1,Q2,Q3,Q4,Q5,Q6,Q7,Q8,Q9,Qa,Qb,Qc,Qd,Qe,Qf,Qg,Qh,Qi,Qj,Qk,reduceCtorEq,reduceIte,y,a2]
 by_cases a3:L<0
 ·simp only[go_sem,Q0,Q1,Q2,Q3,Q4,Q5,Q6,Q7,Q8,Q9,Qa,Qb,Qc,Qd,Qe,Qf,Qg,Qh,Qi,Qj,Qk,reduceCtorEq,reduceIte,y,a2,a3]
 by_cases a4:1000000<L
 ·simp only[go_sem,Q0,Q1,Q2,Q3,Q4,Q5,Q6,Q7,Q8,Q9,Qa,Qb,Qc,Qd,Qe,Qf,Qg,Qh,Qi,Qj,Qk,reduceCtorEq,reduceIte,y,a2,a3,a4]
 cases a5:Pr.nameB O with
 |false=>rw[a5]at g1;simp only[go_sem,Q0,Q1,Q2,Q3,Q4,Q5,Q6,Q7,Q8,Q9,Qa,Qb,Qc,Qd,Qe,Qf,Qg,Qh,Qi,Qj,Qk,reduceCtorEq,reduceIte,y,a2,a3,a4,a5,g1,nk]
 |true=>
  rw[a5]at g1
  by_cases C:(64:Int)<p.length
  ·simp only[go_sem,Q0,Q1,Q2,Q3,Q4,Q5,Q6,Q7,Q8,Q9,Qa,Qb,Qc,Qd,Qe,Qf,Qg,Qh,Qi,Qj,Qk,reduceCtorEq,reduceIte,y,a2,a3,a4,a5,g1,nk,C]
  have z:=J (by omega)
  by_cases F:E=4
  ·subst F
   by_cases H:((fS p).length:Int)=0
   ·simp only[go_sem,Q0,Q1,Q2,Q3,Q4,Q5,Q6,Q7,Q8,Q9,Qa,Qb,Qc,Qd,Qe,Qf,Qg,Qh,Qi,Qj,Qk,reduceCtorEq,reduceIte,y,a2,a3,a4,a5,g1,nk,C,z,Em,I,H]
   ·simp only[go_sem,Q0,Q1,Q2,Q3,Q4,Q5,Q6,Q7,Q8,Q9,Qa,Qb,Qc,Qd,Qe,Qf,Qg,Qh,Qi,Qj,Qk,reduceCtorEq,reduceIte,y,a2,a3,a4,a5,g1,nk,C,z,Em,I,H]
  ·simp only[go_sem,Q0,Q1,Q2,Q3,Q4,Q5,Q6,Q7,Q8,Q9,Qa,Qb,Qc,Qd,Qe,Qf,Qg,Qh,Qi,Qj,Qk,reduceCtorEq,reduceIte,y,a2,a3,a4,a5,g1,nk,C,F]
theorem xhj(x:Img):call T 152 [.agg x.sv] [] 0=some ⟨.byt (iB x) .no,[],[]⟩:=by
 by_cases h:eW x=0
 ·obtain⟨z,y⟩:=NG h
  exact xnc x z y
 ·have g0:=O9 x
  have C:iB x=[]:=if_neg h;rw[C];generalize eW x=e at*;obtain⟨F,E,H,p⟩:=x;simp only[Img.sv]at*;rw[am Zm];simp only[go_sem,Q0,Q1,Q2,Q3,Q4,Q5,Q6,Q7,Q8,Q9,Qa,Qb,Qc,Qd,Qe,Qf,Qg,Qh,Qi,Qj,Qk,reduceCtorEq,reduceIte,g0,mn,h]
end Go.Proofs.YtmhhnklkcmpdkaaGreatDoor
