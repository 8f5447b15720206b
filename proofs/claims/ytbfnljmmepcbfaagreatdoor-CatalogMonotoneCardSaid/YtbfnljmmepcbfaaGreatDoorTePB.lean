/- Contracts. No condition. -/
import Derived.Test.YtbfnljmmepcbfaaGreatDoorTcPB
open Int renaming natCast_zero -> ay
open Go.IntKind renaming i64 -> af, u64 -> aQ, wrap_u64 -> bO
open List renaming append_assoc -> az, append_nil -> bx, cons_append -> bi, drop -> iD, drop_eq_getElem_cons -> bt, drop_eq_nil_of_le -> bN, drop_length -> bw, drop_zero -> aW, flatten_cons -> cD, foldl_cons -> cR, foldl_nil -> fo, getD_eq_getElem?_getD -> aa, getElem?_eq_getElem -> ac, getElem_mem -> bv, getElem_of_mem -> bp, length_append -> ae, length_cons -> al, length_map -> aY, length_nil -> aA, length_singleton -> aF, length_take -> aq, map_append -> cf, map_cons -> aI, mem_append -> am, mem_cons -> av, mem_cons_of_mem -> aw, mem_cons_self -> aB, mem_singleton -> bj, nil_append -> aE, pairwise_cons -> bV, pairwise_iff_getElem -> iS, take -> eT, take_of_length_le -> aV
open Nat renaming add_mul -> bE, le_refl -> aJ, lt_or_ge -> bK, zero_le -> aX
open Go.Op renaming bytesLess -> bH
open Option renaming some -> ax
open UInt8 renaming ofInt -> b8
set_option maxRecDepth 100000
set_option maxHeartbeats 16000000
set_option linter.unusedSimpArgs false
set_option linter.unusedVariables false
namespace Go.Proofs.YtbfnljmmepcbfaaGreatDoor
open Go.Sy
open UInt8 renaming reduceLT -> Q0, reduceLE -> Q1
open Int renaming reduceToNat -> Q2, reduceLE -> Q3, reduceLT -> Q4, reduceEq -> Q5, reduceNe -> Q6, reduceNeg -> Q7, reduceAdd -> Q8, reduceSub -> Q9, reduceMul -> Qa
open Nat renaming reducePow -> Qb, reduceDiv -> Qc, reduceMod -> Qd, reduceAdd -> Qe, reduceSub -> Qf, reduceMul -> Qg, reduceLT -> Qh, reduceLeDiff -> Qi, reduceEqDiff -> Qj, reduceBEq -> Qk
attribute [go_sem] Int.cast_ofNat_Int
structure Ev where
 reg:Int
 kind:Int
 dg:List (List UInt8)
 data:List UInt8
def bls(l:List d9):d8:=l.map fun d=> [.byt d .no]
def Ev.sv(e:Ev):t8:=[.int .i64 e.reg,.int .i64 e.kind,.lst 1 (bls e.dg) .no,.byt e.data .no]
structure Img where
 role:Int
 name:List UInt8
 ver:Int
 pay:List UInt8
def Img.sv(x:Img):t8:=[.int .i64 x.role,.str x.name,.int .i64 x.ver,.byt x.pay .no]
theorem xxe(s:d9)(Q:s.length<=1000000000000):∀(n i:Nat),s.length-i=n->i<=s.length->
 run T (.loop CB) ⟨[(0,.str s),(3,.int .i64 i)],[],[]⟩=if(s.drop i).all Pr.okc=true then some (.x 0,⟨[],[],[]⟩)else some (.r,⟨[(2,.bool false)],[],[]⟩):=by
 intro n;induction n with
 |zero=>
  intro i J L;have hi:i=s.length:=by omega
  subst hi;rw[ai,bw];simp only[go_sem,Qh,Qj,Qk,reduceCtorEq,reduceIte]
 |succ n O=>
  intro i J L;have hi:i<s.length:=by omega
  have E:=cg i (by omega);have y:=O (i+1) (by omega) (by omega);rw[ai,dB s i hi,List.all_cons];unfold Pr.okc at y ⊢;generalize C:s.getD i 0=c at*;generalize List.all (iD (i+1) s) _=q at*
  by_cases F:c<97
  ·by_cases a3:c<48
   ·by_cases a5:c=45
    ·subst a5;simp only[go_sem,Q0,Qh,Qj,Qk,reduceCtorEq,reduceIte,hi,C,E,y]
    ·simp only[go_sem,Qh,Qj,Qk,reduceCtorEq,reduceIte,hi,C,F,a3,a5]
   ·by_cases a4:57<c
    ·by_cases a5:c=45
     ·subst a5;simp only[go_sem,Q0,Qh,Qj,Qk,reduceCtorEq,reduceIte,hi,C,E,y]
     ·simp only[go_sem,Qh,Qj,Qk,reduceCtorEq,reduceIte,hi,C,F,a3,a4,a5]
    ·simp only[go_sem,Qh,Qj,Qk,reduceCtorEq,reduceIte,hi,C,E,F,a3,a4,y]
  ·by_cases I:122<c
   ·by_cases a3:c<48
    ·exact absurd a3 (by intro h;have:=UInt8.lt_trans I h;revert this;decide)
    ·by_cases a4:57<c
     ·by_cases a5:c=45
      ·subst a5;simp only[go_sem,Q0,Qh,Qj,Qk,reduceCtorEq,reduceIte,hi,C,E,y]
      ·simp only[go_sem,Qh,Qj,Qk,reduceCtorEq,reduceIte,hi,C,F,I,a3,a4,a5]
     ·simp only[go_sem,Qh,Qj,Qk,reduceCtorEq,reduceIte,hi,C,E,F,I,a3,a4,y]
   ·simp only[go_sem,Qh,Qj,Qk,reduceCtorEq,reduceIte,hi,C,E,F,I,y]
theorem xoh(s:d9)(I:s.length<=1000000000000):call T 106 [.str s] [] 0=some ⟨.bool (Pr.nameB s),[],[]⟩:=by
 have h:=xxe s I _ 0 rfl (by omega);simp only[ay,aW]at h;rw[aj xsW];unfold Pr.nameB
 by_cases E:s.length<1
 ·have y:(s.length:Int)<1:=by omega
  simp only[go_sem,Qh,Qi,Qj,Qk,reduceCtorEq,reduceIte,E,y]
 ·have y:¬(s.length:Int)<1:=by omega
  by_cases F:12<s.length
  ·have C:(12:Int)<s.length:=by omega
   simp only[go_sem,Qh,Qi,Qj,Qk,reduceCtorEq,reduceIte,E,y,F,C]
  ·have C:¬(12:Int)<s.length:=by omega
   cases hq:s.all Pr.okc with
   |true=>rw[if_pos hq]at h;simp only[go_sem,Qh,Qi,Qj,Qk,reduceCtorEq,reduceIte,E,y,F,C,h]
   |false=>rw[if_neg (by rw[hq];simp)]at h;simp only[go_sem,Qh,Qi,Qj,Qk,reduceCtorEq,reduceIte,E,y,F,C,h]
def lnF:d9->List d9->d9->Option (List d9×d9)
 |[],o,l=>some (o,l)
 |c::r,o,l=>if c=10 then(if(l.length:Int)=0 then none else if(4:Int)<=o.length then none else lnF r (o++ [l]) [])else if c<32 then none else if 126<c then none else lnF r o (l++ [c])
def kW(p:d9):List d9:=match lnF p [] []with
 |some (o,l)=>if(0:Int)<l.length then []else o
 |none=> []
theorem Gi(l:List d9):(bls l).length=l.length:=aY ..
theorem xaH(l:List d9)(d:d9):bls (l++ [d])=bls l++ [[.byt d .no]]:=by simp[bls]
theorem xwV(J:Int)(F:d9)(I:Int)(p:d9)(hp:p.length<=1000000000000):∀(n i:Nat)(o:List d9)(l:d9),p.length-i=n->i<=p.length->l.length<=i->o.length<=4->
 run T (.loop vu) ⟨[(1,.ptr 101 0),(3,.lst 1 (bls o) (.id 103)),(4,.byt l (.id 104)),(5,.int .i64 i)],[(101,.rc [.int .i64 J,.str F,.int .i64 I,.byt p .no])],[103,104]⟩=
 match lnF (p.drop i) o l with
 |some (o',l')=>some (.x 0,⟨[(3,.lst 1 (bls o') (.id 103)),(4,.byt l' (.id 104))],[(101,.rc [.int .i64 J,.str F,.int .i64 I,.byt p .no])],[103,104]⟩)
 |none=>some (.r,⟨[(2,.lst 1 [] .clip)],[(101,.rc [.int .i64 J,.str F,.int .i64 I,.byt p .no])],[103,104]⟩):=by
 intro n;induction n with
 |zero=>
  intro i o l h0 h1 Z L;have hi:i=p.length:=by omega
  subst hi;rw[ai,bw];simp only[go_sem,Qe,Qh,Qj,Qk,reduceIte,lnF]
 |succ n W=>
  intro i o l h0 h1 Z L;have hi:i<p.length:=by omega
  have Q:=cg i (by omega);have O:=Gi o;rw[ai,dB p i hi];unfold lnF;generalize C:p.getD i 0=c at*;have c1:l.length+1<=140737488355328:=by omega
  have c2:(o.length+1)*24<=140737488355328:=by omega
  by_cases E:c=10
  ·subst E
   by_cases y:(l.length:Int)=0
   ·simp only[go_sem,Q0,Qe,Qh,Qj,Qk,reduceIte,hi,C,y]
   ·by_cases a3:(4:Int)<=o.length
    ·simp only[go_sem,Q0,Qe,Qh,Qj,Qk,reduceIte,hi,C,y,a3,O]
    ·have h:=W (i+1) (o++ [l]) [] (by omega) (by omega) (by simp) (by rw[ae,aF];omega)
     rw[xaH]at h;simp only[go_sem,Q0,Qe,Qh,Qi,Qj,Qk,reduceIte,hi,C,Q,y,a3,O,c2,h]
  ·have h:=W (i+1) o (l++ [c]) (by omega) (by omega) (by rw[ae,aF];omega) L
   by_cases y:c<32
   ·simp only[go_sem,Qe,Qh,Qi,Qj,Qk,reduceIte,hi,C,E,y]
   ·by_cases a3:126<c
    ·simp only[go_sem,Qe,Qh,Qi,Qj,Qk,reduceIte,hi,C,E,y,a3]
    ·simp only[go_sem,Qe,Qh,Qi,Qj,Qk,reduceIte,hi,C,Q,E,y,a3,c1,h]
theorem xxG(x:Img)(I:x.pay.length<=1000000000000):call T 169 [.agg x.sv] [] 0=some ⟨.lst 1 (bls (kW x.pay)) .no,[],[]⟩:=by
 obtain⟨J,E,F,p⟩:=x;have h:=xwV J E F p I _ 0 [] [] rfl (by omega) (by simp) (by simp);simp only[ay,aW]at h;have y:bls []=[]:=rfl;rw[y]at h;rw[aj xsd];unfold kW Img.sv;cases hq:lnF p [] []with
 |none=>rw[hq]at h;simp only[go_sem,Qe,Qh,Qi,Qj,Qk,reduceCtorEq,reduceIte,h,y]
 |some q=>
  obtain⟨o,l⟩:=q;rw[hq]at h
  by_cases C:(0:Int)<l.length
  ·simp only[go_sem,Qe,Qh,Qi,Qj,Qk,reduceCtorEq,reduceIte,h,y,C]
  ·simp only[go_sem,Qe,Qh,Qi,Qj,Qk,reduceCtorEq,reduceIte,h,C]
def kE(x:Img):Int:=
 if x.role<1 then 1 else if 4<x.role then 1 else if x.ver<0 then 1 else if 1000000<x.ver then 1 else if Pr.nameB x.name=false then 43 else if(64:Int)<x.pay.length then 4 else if x.role=4 then(if((kW x.pay).length:Int)=0 then 40 else 0)else 0
theorem xxO(x:Img)(hn:x.name.length<=1000000000000)(Z:x.pay.length<=1000000000000):call T 152 [.agg x.sv] [] 0=some ⟨.int .i64 (kE x),[],[]⟩:=by
 have y:=xoh x.name hn;have F:=xxG x Z;obtain⟨I,W,L,p⟩:=x;have J:=Gi (kW p);simp only[Img.sv]at y F ⊢;rw[aj xso];unfold kE
 by_cases h:I<1
 ·simp only[go_sem,Qe,Qh,Qi,Qj,Qk,reduceCtorEq,reduceIte,h]
 by_cases C:4<I
 ·simp only[go_sem,Qe,Qh,Qi,Qj,Qk,reduceCtorEq,reduceIte,h,C]
 by_cases a3:L<0
 ·simp only[go_sem,Qe,Qh,Qi,Qj,Qk,reduceCtorEq,reduceIte,h,C,a3]
 by_cases a4:1000000<L
 ·simp only[go_sem,Qe,Qh,Qi,Qj,Qk,reduceCtorEq,reduceIte,h,C,a3,a4]
 cases a5:Pr.nameB W with
 |false=>rw[a5]at y;simp only[go_sem,Qe,Qh,Qi,Qj,Qk,reduceCtorEq,reduceIte,h,C,a3,a4,y,gI]
 |true=>
  rw[a5]at y
  by_cases E:(64:Int)<p.length
  ·simp only[go_sem,Qe,Qh,Qi,Qj,Qk,reduceCtorEq,reduceIte,h,C,a3,a4,y,gI,E]
  by_cases O:I=4
  ·subst O
   by_cases Q:((kW p).length:Int)=0
   ·simp only[go_sem,Qe,Qh,Qi,Qj,Qk,reduceCtorEq,reduceIte,h,C,a3,a4,y,gI,E,F,xiG,J,Q]
   ·simp only[go_sem,Qe,Qh,Qi,Qj,Qk,reduceCtorEq,reduceIte,h,C,a3,a4,y,gI,E,F,xiG,J,Q]
  ·simp only[go_sem,Qe,Qh,Qi,Qj,Qk,reduceCtorEq,reduceIte,h,C,a3,a4,y,gI,E,O]
def oq(x:Img):d9:=if kE x=0 then jJ (jJ (be 1 (aQ.wrap x.role)++be 4 (aQ.wrap x.ver)) x.name) x.pay else []
theorem eQ(B X:d9):(jJ B X).length=B.length+2+min 65535 X.length:=by unfold jJ;rw[ae,ae,gr,aq]
theorem zH(x:Img)(hn:x.name.length<=1000000)(h:x.pay.length<=1000000):(oq x).length<=10000000:=by
 unfold oq;split
 ·rw[eQ,eQ,ae,gr,gr];omega
 ·simp
theorem xvi(x:Img)(hn:x.name.length<=1000000)(O:x.pay.length<=1000000):call T 120 [.agg x.sv] [] 0=some ⟨.byt (oq x) .no,[],[]⟩:=by
 have g0:=xxO x (by omega) (by omega);have C:=f64 [] 1 x.role (by omega) (by omega) (by simp);have y:=f64 (be 1 (aQ.wrap x.role)) 4 x.ver (by omega) (by omega) (by rw[gr];omega);have J:=f63 (be 1 (aQ.wrap x.role)++be 4 (aQ.wrap x.ver)) x.name (by rw[ae,gr,gr];omega) (by omega);have L:=f63 (jJ (be 1 (aQ.wrap x.role)++be 4 (aQ.wrap x.ver)) x.name) x.pay (by rw[eQ,ae,gr,gr];omega) (by omega);simp only[Int.cast_ofNat_Int,aE]at C y;obtain⟨I,E,F,p⟩:=x;simp only[Img.sv]at*;rw[aj xsK];unfold oq
 by_cases h:kE ⟨I,E,F,p⟩=0
 ·rw[h]at g0
  simp only[go_sem,Qe,Qg,Qh,Qi,Qj,Qk,reduceCtorEq,reduceIte,g0,xiN,C,Gv,y,J,xaY,L,h]
 ·simp only[go_sem,Qe,Qh,Qi,Qj,Qk,reduceCtorEq,reduceIte,g0,xiN,h]
theorem lU{s:d9}(h:Pr.nameB s=true):1<=s.length/\s.length<=12:=by
 unfold Pr.nameB at h;split at h
 ·cases h
 ·omega
theorem vU{x:Img}(h:kE x=0):1<=x.role/\x.role<=4/\0<=x.ver/\x.ver<=1000000/\Pr.nameB x.name=true/\x.pay.length<=64:=by
 unfold kE at h
 repeat' split at h
 all_goals first|omega|skip
 all_goals (cases y:Pr.nameB x.name with
  |true=>exact⟨by omega,by omega,by omega,by omega,rfl,by omega⟩
  |false=>simp_all)
theorem CL{x:Img}(h:kE x=0):x.name.length<=1000000/\x.pay.length<=1000000:=by obtain⟨_,_,_,_,y,C⟩:=vU h;have:=lU y;omega
def jx(l:List Img):d8:=l.map Img.sv
def im0:Img:=⟨0,[],0,[]⟩
theorem kd(l:List Img):(jx l).length=l.length:=aY ..
theorem rT(l:List Img)(i:Nat)(h:i<l.length):(jx l).getD i []=(l.getD i im0).sv:=by simp[jx,aa,h]
structure iC(l:List Img):Prop where
 n1:1<=l.length
 n8:l.length<=8
 ok:∀i,i<l.length->kE (l.getD i im0)=0
 ord:∀i,i+1<l.length->(l.getD i im0).role<=(l.getD (i+1) im0).role
 dup:∀i,i<l.length->∀k,k<i->(l.getD k im0).role=(l.getD i im0).role->(l.getD k im0).name≠(l.getD i im0).name
 fw:∃i,i<l.length/\(l.getD i im0).role=1
 kn:∃i,i<l.length/\(l.getD i im0).role=3
def qX(a b:Int):Int:=if a<b then-1 else if b<a then 1 else 0
theorem xvc(a:Int):call T 161 [.int .i64 a] [] 0=some ⟨.bool false,[],[]⟩:=by rw[aj xsj];simp only[go_sem,Qh,Qi,Qj,Qk,reduceCtorEq,reduceIte]
theorem xoc(a b:Int):call T 134 [.int .i64 a,.int .i64 b] [] 0=some ⟨.int .i64 (qX a b),[],[]⟩:=by
 have C:=xvc a;have h:=xvc b;rw[aj xsC];unfold qX
 by_cases y:a<b
 ·simp only[go_sem,Q7,Qe,Qh,Qi,Qj,Qk,reduceCtorEq,reduceIte,C,h,XW,y]
 ·by_cases E:b<a
  ·simp only[go_sem,Q7,Qe,Qh,Qi,Qj,Qk,reduceCtorEq,reduceIte,C,h,XW,y,E]
  ·simp only[go_sem,Q7,Qe,Qh,Qi,Qj,Qk,reduceCtorEq,reduceIte,C,h,XW,y,E]
theorem f83(a b:d9):call T 83 [.byt a .no,.byt b .no] [] 0=some ⟨.int .i64 (Lib.compareBytes a b),[],[]⟩:=by rw[fj xyx];rfl
theorem xxz(a b:d9):call T 191 [.str a,.str b] [] 0=some ⟨.int .i64 (Lib.compareBytes a b),[],[]⟩:=by rw[fj xr3];rfl
theorem f189(a:d9):call T 189 [.str a] [] 0=some ⟨.bool (Pr.nameB a),[],[]⟩:=by rw[fj xr4];rfl
theorem xxK(a b:d9):call T 159 [.str a,.str b] [] 0=some ⟨.int .i64 (Lib.compareBytes a b),[],[]⟩:=by have g:=xxz a b;rw[aj xsk];simp only[go_sem,Qe,Qh,Qi,Qj,Qk,reduceCtorEq,reduceIte,g,xs2]
def orI(a b c d:Int):Int:=if a≠0 then a else if b≠0 then b else if c≠0 then c else d
theorem xxW(a b c d:Int):call T 133 [.lst 1 [[.int .i64 a],[.int .i64 b],[.int .i64 c],[.int .i64 d]] .no] [] 0=some ⟨.int .i64 (orI a b c d),[],[]⟩:=by
 have k1:af.wrap 1=1:=rfl;have k2:af.wrap 2=2:=rfl;have y:af.wrap 3=3:=rfl;have I:af.wrap 4=4:=rfl;rw[aj xil];unfold orI
 by_cases F:a=0
 ·subst F
  by_cases C:b=0
  ·subst C
   by_cases h:c=0
   ·subst h
    by_cases E:d=0
    ·subst E
     simp only[go_sem,Qe,Qh,Qi,Qj,Qk,reduceCtorEq,reduceIte]
     iterate 5
      rw[ai];simp only[go_sem,Q2,Q3,Q4,Q8,Qe,Qh,Qj,Qk,reduceIte,k1,k2,y,I]
    ·simp only[go_sem,Qe,Qh,Qi,Qj,Qk,reduceCtorEq,reduceIte]
     iterate 4
      rw[ai];simp only[go_sem,Q2,Q3,Q4,Q8,Qe,Qh,Qj,Qk,reduceIte,k1,k2,y,E]
   ·simp only[go_sem,Qe,Qh,Qi,Qj,Qk,reduceCtorEq,reduceIte]
    iterate 3
     rw[ai];simp only[go_sem,Q2,Q3,Q4,Q8,Qe,Qh,Qj,Qk,reduceIte,k1,k2,h]
  ·simp only[go_sem,Qe,Qh,Qi,Qj,Qk,reduceCtorEq,reduceIte]
   iterate 2
    rw[ai];simp only[go_sem,Q2,Q3,Q4,Q8,Qe,Qh,Qj,Qk,reduceIte,k1,C]
 ·simp only[go_sem,Qe,Qh,Qi,Qj,Qk,reduceCtorEq,reduceIte]
  rw[ai];simp only[go_sem,Q2,Q3,Q4,Qe,Qh,Qj,Qk,reduceIte,F]
structure Ent where
 role:Int
 name:List UInt8
 ver:Int
 dig:List UInt8
def Ent.sv(x:Ent):t8:=[.int .i64 x.role,.str x.name,.int .i64 x.ver,.byt x.dig .no]
def IX(x y:Ent):Int:=orI (qX x.role y.role) (Lib.compareBytes x.name y.name) (qX x.ver y.ver) (Lib.compareBytes x.dig y.dig)
theorem f128(x y:Ent):call T 128 [.agg x.sv,.agg y.sv] [] 0=some ⟨.int .i64 (IX x y),[],[]⟩:=by have E:=xoc x.role y.role;have C:=xxK x.name y.name;have F:=xoc x.ver y.ver;have I:=f83 x.dig y.dig;have h:=xxW (qX x.role y.role) (Lib.compareBytes x.name y.name) (qX x.ver y.ver) (Lib.compareBytes x.dig y.dig);obtain⟨r,n,v,d⟩:=x;obtain⟨L,n2,J,O⟩:=y;simp only[Ent.sv]at*;rw[aj xsE];unfold IX;simp only[go_sem,Qb,Qc,Qd,Qe,Qh,Qi,Qj,Qk,reduceCtorEq,reduceIte,E,xiV,C,xtc,F,I,xon,h,xiW]
def lsF:d9->d9->Option Bool
 |a::x,b::y=>if a=b then lsF x y else some (decide (a<b))
 |_,_=>none
theorem yU:∀x y:d9,bH x y=match lsF x y with|some q=>q|none=>decide (x.length<y.length)
 |[],[]=>by simp[lsF,bH]
 |[],_::_=>by simp[lsF,bH]
 |_::_,[]=>by simp[lsF,bH]
 |a::x,b::y=>by
  unfold lsF bH
  by_cases h:a=b
  ·subst h
   rw[if_pos rfl,yU x y];have:¬a<a:=UInt8.lt_irrefl a;simp[this]
  ·rw[if_neg h]
   simp[h]
theorem l98(a b:d9)(Q:a.length<=1000000000000):∀(n i:Nat),a.length-i=n->i<=a.length->i<=b.length->
 run T (.loop UP) ⟨[(0,.byt a .no),(1,.byt b .no),(5,.int .i64 i)],[],[]⟩=
 match lsF (a.drop i) (b.drop i)with
 |some q=>some (.r,⟨[(4,.bool q)],[],[]⟩)
 |none=>some (.x 0,⟨[(0,.byt a .no),(1,.byt b .no)],[],[]⟩):=by
 intro n;induction n with
 |zero=>
  intro i F J L;have:i=a.length:=by omega
  subst this;have e:lsF [] (b.drop a.length)=none:=by unfold lsF;rfl
  rw[ai,bw,e];simp only[go_sem,Qh,Qj,Qk,reduceCtorEq,reduceIte]
 |succ n O=>
  intro i F J L;have hi:i<a.length:=by omega
  have I:=cg i (by omega);rw[ai,dB a i hi]
  by_cases h:i<b.length
  ·have C:=O (i+1) (by omega) (by omega) (by omega)
   rw[dB b i h];unfold lsF
   by_cases y:a.getD i 0=b.getD i 0
   ·rw[if_pos y]
    simp only[go_sem,Qh,Qj,Qk,reduceCtorEq,reduceIte,hi,h,I,y,C]
   ·rw[if_neg y]
    simp only[go_sem,Qh,Qj,Qk,reduceCtorEq,reduceIte,hi,h,y]
  ·have E:b.drop i=[]:=bN (by omega)
   have e:lsF (a.getD i 0::a.drop (i+1)) []=none:=by unfold lsF;rfl
   rw[E,e];simp only[go_sem,Qh,Qj,Qk,reduceCtorEq,reduceIte,hi,h]
theorem f98(a b:d9)(y:a.length<=1000000000000):call T 98 [.byt a .no,.byt b .no] [] 0=some ⟨.bool (bH a b),[],[]⟩:=by
 have h:=l98 a b y _ 0 rfl (by omega) (by omega);simp only[ay,aW]at h;rw[aj xyk,yU];cases hq:lsF a b with
 |some q=>rw[hq]at h;simp only[go_sem,Qe,Qh,Qi,Qj,Qk,reduceCtorEq,reduceIte,h]
 |none=>rw[hq]at h;simp only[go_sem,Qe,Qh,Qi,Qj,Qk,reduceCtorEq,reduceIte,h]
def jb(x y:Ent):Bool:=if x.role=y.role then(if x.name=y.name then(if x.ver=y.ver then bH x.dig y.dig else decide (x.ver<y.ver))else bH x.name y.name)else decide (x.role<y.role)
theorem xog(x y:Ent)(F:x.dig.length<=1000000000000):call T 107 [.agg x.sv,.agg y.sv] [] 0=some ⟨.bool (jb x y),[],[]⟩:=by
 have g:=f98 x.dig y.dig F;obtain⟨r,n,v,d⟩:=x;obtain⟨J,n2,I,L⟩:=y;simp only[Ent.sv]at*;rw[aj xsV];unfold jb
 by_cases h:r=J
 ·by_cases C:n=n2
  ·by_cases E:v=I
   ·simp only[go_sem,Qe,Qh,Qi,Qj,Qk,reduceCtorEq,reduceIte,h,C,E,g,Gn]
   ·simp only[go_sem,Qe,Qh,Qi,Qj,Qk,reduceCtorEq,reduceIte,h,C,E]
  ·simp only[go_sem,Qe,Qh,Qi,Qj,Qk,reduceCtorEq,reduceIte,h,C]
 ·simp only[go_sem,Qe,Qh,Qi,Qj,Qk,reduceCtorEq,reduceIte,h]
theorem ed:∀x y:d9,Lib.compareBytes x y<0↔bH x y=true
 |[],[]=>by simp[Lib.compareBytes,bH]
 |[],_::_=>by simp[Lib.compareBytes,bH]
 |_::_,[]=>by simp[Lib.compareBytes,bH]
 |a::x,b::y=>by
  unfold Lib.compareBytes bH;have F:=ed x y
  by_cases h:a<b
  ·simp[h]
  ·by_cases E:b<a
   ·have C:¬a=b:=by intro e;subst e;exact h E
    simp[h,E,C]
   ·have C:a=b:=UInt8.le_antisymm (UInt8.not_lt.1 E) (UInt8.not_lt.1 h)
    subst C;simp[h,F]
theorem iz:∀x y:d9,Lib.compareBytes x y=0↔x=y
 |[],[]=>by simp[Lib.compareBytes]
 |[],_::_=>by simp[Lib.compareBytes]
 |_::_,[]=>by simp[Lib.compareBytes]
 |a::x,b::y=>by
  unfold Lib.compareBytes;have F:=iz x y
  by_cases h:a<b
  ·have C:¬a=b:=by intro e;subst e;exact UInt8.lt_irrefl a h
   simp[h,C]
  ·by_cases E:b<a
   ·have C:¬a=b:=by intro e;subst e;exact h E
    simp[h,E,C]
   ·have C:a=b:=UInt8.le_antisymm (UInt8.not_lt.1 E) (UInt8.not_lt.1 h)
    subst C;simp[h,F]
theorem Gc(a b:Int):qX a b<0↔a<b:=by
 unfold qX;repeat' split
 all_goals omega
theorem qW(a b:Int):qX a b=0↔a=b:=by
 unfold qX;repeat' split
 all_goals omega
theorem Zq(x y:Ent):IX x y<0↔jb x y=true:=by
 unfold IX orI jb
 by_cases C:x.role=y.role
 ·rw[if_neg (by simp[qW,C]),if_pos C]
  by_cases E:x.name=y.name
  ·rw[if_neg (by simp[iz,E]),if_pos E]
   by_cases h:x.ver=y.ver
   ·rw[if_neg (by simp[qW,h]),if_pos h];exact ed _ _
   ·rw[if_pos (by simp[qW,h]),if_neg h,decide_eq_true_eq];exact Gc _ _
  ·rw[if_pos (by simp[iz,E]),if_neg E];exact ed _ _
 ·rw[if_pos (by simp[qW,C]),if_neg C,decide_eq_true_eq];exact Gc _ _
theorem xrA(s:d9):call T 158 [.agg [.int .i64 1,.str s,.int .i64 0,.byt [] .no]] [] 0=some ⟨.int .i64 (if Pr.nameB s=true then 0 else 43),[],[]⟩:=by
 have g:=f189 s;rw[aj xsl];cases h:Pr.nameB s with
 |true=>rw[h]at g;simp only[go_sem,Q4,Q5,Qe,Qh,Qi,Qj,Qk,reduceCtorEq,reduceIte,g,xiD]
 |false=>rw[h]at g;simp only[go_sem,Q4,Q5,Qe,Qh,Qi,Qj,Qk,reduceCtorEq,reduceIte,g,xiD]
theorem xvg(s:d9):call T 127 [.str s] [] 0=some ⟨.bool (Pr.nameB s),[],[]⟩:=by
 have g:=xrA s;rw[aj xsF];cases h:Pr.nameB s with
 |true=>rw[h]at g;simp only[go_sem,Qe,Qh,Qi,Qj,Qk,reduceCtorEq,reduceIte,g,xiK]
 |false=>rw[h]at g;simp only[go_sem,Q5,Qe,Qh,Qi,Qj,Qk,reduceCtorEq,reduceIte,g,xiK]
structure Rul where
 kind:Int
 text:List UInt8
 lo:Int
 hi:Int
def Rul.sv(r:Rul):t8:=[.int .i64 r.kind,.str r.text,.int .i64 r.lo,.int .i64 r.hi]
structure Man where
 vendor:List UInt8
 ver:Int
 flr:Int
 frm:Int
 til:Int
 ents:List Ent
 ruls:List Rul
def df(l:List Ent):d8:=l.map Ent.sv
def dS(l:List Rul):d8:=l.map Rul.sv
def Man.sv(m:Man):t8:=[.str m.vendor,.int .i64 m.ver,.int .i64 m.flr,.int .i64 m.frm,.int .i64 m.til,.lst 4 (df m.ents) .no,.lst 4 (dS m.ruls) .no]
def en0:Ent:=⟨0,[],0,[]⟩
def rl0:Rul:=⟨0,[],0,0⟩
theorem dk(l:List Ent):(df l).length=l.length:=aY ..
theorem dP(l:List Rul):(dS l).length=l.length:=aY ..
theorem fU(l:List Ent)(i:Nat)(h:i<l.length):(df l).getD i []=(l.getD i en0).sv:=by simp[df,aa,h]
theorem jY(l:List Rul)(i:Nat)(h:i<l.length):(dS l).getD i []=(l.getD i rl0).sv:=by simp[dS,aa,h]
structure dx(m:Man):Prop where
 v:m.vendor.length<=1000000
 en:m.ents.length<=1000000
 rn:m.ruls.length<=1000000
 e:∀x∈m.ents,x.name.length<=1000000/\x.dig.length<=1000000
 r:∀x∈m.ruls,x.text.length<=1000000
theorem bS{α:Type}(l:List α)(d:α)(i:Nat)(h:i<l.length):l.getD i d∈l:=by rw[aa,ac h];exact bv _
def m6(l:List Ent)(i:Nat):Int:=
 if(l.getD i en0).role<1 then 1 else if 3<(l.getD i en0).role then 1 else if(l.getD i en0).ver<0 then 1 else if 1000000<(l.getD i en0).ver then 1
 else if((l.getD i en0).dig.length:Int)=32 then(if Pr.nameB (l.getD i en0).name=true then(if i=0 then 0 else if jb (l.getD (i-1) en0) (l.getD i en0)=true then 0 else 41)else 43)else 1
def iK(l:List Ent):Nat->Nat->Int
 |0,_=>0
 |n+1,i=>if m6 l i=0 then iK l n (i+1)else m6 l i
def pY(r:Rul):Int:=chk r.kind r.text r.lo r.hi
def iU:List Rul->Int
 |[]=>0
 |r::t=>if pY r=0 then iU t else pY r
def fq(m:Man):Int:=
 if Pr.nameB m.vendor=true then
  (if m.flr<0 then 1 else if m.ver<m.flr then 1 else if 1000000<m.ver then 1 else if m.frm<0 then 1 else if m.til<=m.frm then 1 else if 1099511627776<m.til then 1
  else if(16:Int)<m.ents.length then 4 else if(8:Int)<m.ruls.length then 4 else if iK m.ents m.ents.length 0=0 then iU m.ruls else iK m.ents m.ents.length 0)
 else 43
def DW(m:Man)(i:Nat):CSt:=⟨[(1,.ptr 101 0),(58,.lst 4 (df m.ents) .no),(59,.int .i64 m.ents.length),(60,.int .i64 i)],[(101,.rc m.sv)],[]⟩
theorem s44(m:Man)(hm:dx m)(i:Nat)(hi:i<m.ents.length):
 (m6 m.ents i=0->run T (.loop nf) (DW m i)=run T (.loop nf) (DW m (i+1)))/\
 (m6 m.ents i≠0->∃ob,run T (.loop nf) (DW m i)=some (.r,⟨[(2,.int .i64 (m6 m.ents i))],ob,[]⟩)):=by
 have e1:=cg i (by have:=hm.en;omega);have I:=dk m.ents;have J:=fU m.ents i hi;have W:=xvg (m.ents.getD i en0).name;have g2:=f128 (m.ents.getD (i-1) en0) (m.ents.getD i en0);have hb:=Zq (m.ents.getD (i-1) en0) (m.ents.getD i en0);have es:0<i->af.wrap ((i:Int)-1)=((i-1:Nat):Int):=fun h=>by rw[w64 (by omega) (by have:=hm.en;omega)];omega
 have L:i-1<m.ents.length:=by omega
 have Z:=fU m.ents (i-1) L;unfold m6;obtain⟨O,Q,m2,m3,m4,C,rs⟩:=m;simp only[DW,Man.sv]at*;generalize C.getD i en0=x at*;generalize C.getD (i-1) en0=y at*;obtain⟨r,n,v,d⟩:=x;obtain⟨r2,n2,v2,d2⟩:=y;simp only[Ent.sv]at*
 by_cases E:r<1
 ·refine⟨fun h=>by simp[E]at h,fun _=>⟨[(101,.rc [.str O,.int .i64 Q,.int .i64 m2,.int .i64 m3,.int .i64 m4,.lst 4 (df C) .no,.lst 4 (dS rs) .no]),(104,.rc [.int .i64 r,.str n,.int .i64 v,.byt d .no])], ?_⟩⟩
  rw[ai];simp only[go_sem,Qe,Qh,Qi,Qj,Qk,reduceIte,hi,I,J,E]
 by_cases F:3<r
 ·refine⟨fun h=>by simp[E,F]at h,fun _=>⟨[(101,.rc [.str O,.int .i64 Q,.int .i64 m2,.int .i64 m3,.int .i64 m4,.lst 4 (df C) .no,.lst 4 (dS rs) .no]),(104,.rc [.int .i64 r,.str n,.int .i64 v,.byt d .no])], ?_⟩⟩
  rw[ai];simp only[go_sem,Qe,Qh,Qi,Qj,Qk,reduceIte,hi,I,J,E,F]
 by_cases a3:v<0
 ·refine⟨fun h=>by simp[E,F,a3]at h,fun _=>⟨[(101,.rc [.str O,.int .i64 Q,.int .i64 m2,.int .i64 m3,.int .i64 m4,.lst 4 (df C) .no,.lst 4 (dS rs) .no]),(104,.rc [.int .i64 r,.str n,.int .i64 v,.byt d .no])], ?_⟩⟩
  rw[ai];simp only[go_sem,Qe,Qh,Qi,Qj,Qk,reduceIte,hi,I,J,E,F,a3]
 by_cases a4:1000000<v
 ·refine⟨fun h=>by simp[E,F,a3,a4]at h,fun _=>⟨[(101,.rc [.str O,.int .i64 Q,.int .i64 m2,.int .i64 m3,.int .i64 m4,.lst 4 (df C) .no,.lst 4 (dS rs) .no]),(104,.rc [.int .i64 r,.str n,.int .i64 v,.byt d .no])], ?_⟩⟩
  rw[ai];simp only[go_sem,Qe,Qh,Qi,Qj,Qk,reduceIte,hi,I,J,E,F,a3,a4]
 by_cases a5:(d.length:Int)=32
 ·cases a6:Pr.nameB n with
  |false=>rw[a6]at W;refine⟨fun h=>by simp[E,F,a3,a4,a5]at h,fun _=>⟨[(101,.rc [.str O,.int .i64 Q,.int .i64 m2,.int .i64 m3,.int .i64 m4,.lst 4 (df C) .no,.lst 4 (dS rs) .no]),(104,.rc [.int .i64 r,.str n,.int .i64 v,.byt d .no])], ?_⟩⟩;rw[ai];simp only[go_sem,Qe,Qh,Qi,Qj,Qk,reduceIte,hi,I,J,E,F,a3,a4,a5,W,jr]
  |true=>
   rw[a6]at W
   by_cases a7:i=0
   ·subst a7
    have hp:(0:Int)<C.length:=by omega
    have kw:af.wrap 1=1:=rfl;refine⟨fun _=> ?_,fun h=>by simp[E,F,a3,a4,a5]at h⟩;rw[ai];simp only[go_sem,Q2,Q3,Q4,Q8,Qb,Qc,Qd,Qe,Qh,Qi,Qj,Qk,reduceIte,hp,kw,I,J,E,F,a3,a4,a5,W,jr]
   ·have hp:(0:Int)<(i:Nat):=by omega
    have b1:0<i:=by omega
    have b0:=es b1;cases a8:jb ⟨r2,n2,v2,d2⟩ ⟨r,n,v,d⟩with
    |true=>
     have h9:¬0<=IX ⟨r2,n2,v2,d2⟩ ⟨r,n,v,d⟩:=by have:=hb.2 a8;omega
     refine⟨fun _=> ?_,fun h=>by simp[E,F,a3,a4,a5,a7]at h⟩;rw[ai];simp only[go_sem,Qb,Qc,Qd,Qe,Qh,Qi,Qj,Qk,reduceIte,hi,hp,L,b0,Z,e1,I,J,E,F,a3,a4,a5,W,jr,g2,xiX,h9]
    |false=>
     have h9:0<=IX ⟨r2,n2,v2,d2⟩ ⟨r,n,v,d⟩:=by
      rcases Int.lt_or_le (IX ⟨r2,n2,v2,d2⟩ ⟨r,n,v,d⟩) 0 with h|h
      ·rw[hb.1 h]at a8;cases a8
      ·exact h
     refine⟨fun h=>by simp[E,F,a3,a4,a5,a7]at h,fun _=>⟨[(101,.rc [.str O,.int .i64 Q,.int .i64 m2,.int .i64 m3,.int .i64 m4,.lst 4 (df C) .no,.lst 4 (dS rs) .no]),(104,.rc [.int .i64 r,.str n,.int .i64 v,.byt d .no])], ?_⟩⟩;rw[ai];simp only[go_sem,Qb,Qc,Qd,Qe,Qh,Qi,Qj,Qk,reduceIte,hi,hp,L,b0,Z,I,J,E,F,a3,a4,a5,W,jr,g2,xiX,h9,a7]
 ·refine⟨fun h=>by simp[E,F,a3,a4,a5]at h,fun _=>⟨[(101,.rc [.str O,.int .i64 Q,.int .i64 m2,.int .i64 m3,.int .i64 m4,.lst 4 (df C) .no,.lst 4 (dS rs) .no]),(104,.rc [.int .i64 r,.str n,.int .i64 v,.byt d .no])], ?_⟩⟩
  rw[ai];simp only[go_sem,Qe,Qh,Qi,Qj,Qk,reduceIte,hi,I,J,E,F,a3,a4,a5]
theorem l80(m:Man)(I:dx m):∀(n i:Nat),m.ents.length-i=n->i<=m.ents.length->
 (iK m.ents n i=0->run T (.loop nf) (DW m i)=some (.x 1,⟨[(1,.ptr 101 0)],[(101,.rc m.sv)],[]⟩))/\
 (iK m.ents n i≠0->∃ob,run T (.loop nf) (DW m i)=some (.r,⟨[(2,.int .i64 (iK m.ents n i))],ob,[]⟩)):=by
 intro n;induction n with
 |zero=>
  intro i C F;have:i=m.ents.length:=by omega
  subst this;refine⟨fun _=> ?_,fun h=>absurd rfl h⟩;rw[ai];simp only[DW,go_sem,Qh,Qj,Qk,reduceIte]
 |succ n O=>
  intro i C F;obtain⟨E,y⟩:=s44 m I i (by omega);obtain⟨Q,L⟩:=O (i+1) (by omega) (by omega);unfold iK
  by_cases h:m6 m.ents i=0
  ·rw[if_pos h,E h];exact⟨Q,L⟩
  ·rw[if_neg h];exact⟨fun J=>absurd J h,y⟩
theorem xwC(m:Man)(Q:dx m)(ob:List (Nat×aH))(J:ob=[(101,.rc m.sv)]):∀(n i:Nat),m.ruls.length-i=n->i<=m.ruls.length->
 (iU (m.ruls.drop i)=0->run T (.loop w9) ⟨[(111,.lst 4 (dS m.ruls) .no),(112,.int .i64 m.ruls.length),(113,.int .i64 i)],ob,[]⟩=some (.x 4,⟨[],ob,[]⟩))/\
 (iU (m.ruls.drop i)≠0->∃ob',run T (.loop w9) ⟨[(111,.lst 4 (dS m.ruls) .no),(112,.int .i64 m.ruls.length),(113,.int .i64 i)],ob,[]⟩=some (.r,⟨[(2,.int .i64 (iU (m.ruls.drop i)))],ob',[]⟩)):=by
 intro n;induction n with
 |zero=>
  intro i h0 h1;have:i=m.ruls.length:=by omega
  subst this;rw[bw];refine⟨fun _=> ?_,fun h=>absurd rfl h⟩;rw[ai];simp only[go_sem,Qh,Qj,Qk,reduceIte]
 |succ n ih=>
  intro i h0 h1;have hi:i<m.ruls.length:=by omega
  obtain⟨i1,i2⟩:=ih (i+1) (by omega) (by omega);have W:=cg i (by have:=Q.rn;omega);have F:=dP m.ruls;have L:=jY m.ruls i hi;have hd:m.ruls.drop i=m.ruls.getD i rl0::m.ruls.drop (i+1):=by rw[bt hi,aa,ac hi];rfl
  have hb:=Q.r _ (bS m.ruls rl0 i hi);rw[hd];unfold iU;generalize m.ruls.drop (i+1)=R at*;generalize m.ruls.getD i rl0=x at*;obtain⟨Z,m1,m2,m3,m4,E,rs⟩:=m;obtain⟨k,t,lo,y⟩:=x;simp only[Man.sv,Rul.sv]at*;subst J;have g:=f129 k t lo y (by omega)
  by_cases h:pY ⟨k,t,lo,y⟩=0
  ·rw[if_pos h]
   unfold pY at h;simp only at h;rw[h]at g;refine⟨fun C=> ?_,fun C=> ?_⟩
   ·have I:=i1 C
    rw[ai];simp only[go_sem,Qe,Qh,Qi,Qj,Qk,reduceIte,hi,W,F,L,g,X1,I]
   ·obtain⟨ob',O⟩:=i2 C
    refine⟨ob', ?_⟩;rw[ai];simp only[go_sem,Qe,Qh,Qi,Qj,Qk,reduceIte,hi,W,F,L,g,X1,O]
  ·rw[if_neg h]
   unfold pY at h ⊢;simp only at h ⊢;refine⟨fun C=>absurd C h,fun C=>⟨[(101,.rc [.str Z,.int .i64 m1,.int .i64 m2,.int .i64 m3,.int .i64 m4,.lst 4 (df E) .no,.lst 4 (dS rs) .no]),(106,.rc [.int .i64 k,.str t,.int .i64 lo,.int .i64 y])], ?_⟩⟩;rw[ai];simp only[go_sem,Qe,Qh,Qi,Qj,Qk,reduceIte,hi,F,L,g,X1,h]
theorem f80(m:Man)(hm:dx m):call T 80 [.agg m.sv] [] 0=some ⟨.int .i64 (fq m),[],[]⟩:=by
 have h:=xvg m.vendor;obtain⟨l1,l2⟩:=l80 m hm _ 0 rfl (by omega);obtain⟨r1,r2⟩:=xwC m hm _ rfl _ 0 rfl (by omega);have I:=dk m.ents;have O:=dP m.ruls;obtain⟨mv,m1,m2,m3,m4,E,rs⟩:=m;simp only[DW,Man.sv,ay,aW,Nat.sub_zero]at*;rw[aj xyA];unfold fq;simp only;cases a0:Pr.nameB mv with
 |false=>rw[a0]at h;simp only[go_sem,Qe,Qh,Qi,Qj,Qk,reduceCtorEq,reduceIte,h,jr]
 |true=>
  rw[a0]at h
  by_cases y:m2<0
  ·simp only[go_sem,Qe,Qh,Qi,Qj,Qk,reduceCtorEq,reduceIte,h,jr,y]
  by_cases C:m1<m2
  ·simp only[go_sem,Qe,Qh,Qi,Qj,Qk,reduceCtorEq,reduceIte,h,jr,y,C]
  by_cases a3:1000000<m1
  ·simp only[go_sem,Qe,Qh,Qi,Qj,Qk,reduceCtorEq,reduceIte,h,jr,y,C,a3]
  by_cases a4:m3<0
  ·simp only[go_sem,Qe,Qh,Qi,Qj,Qk,reduceCtorEq,reduceIte,h,jr,y,C,a3,a4]
  by_cases a5:m4<=m3
  ·simp only[go_sem,Qe,Qh,Qi,Qj,Qk,reduceCtorEq,reduceIte,h,jr,y,C,a3,a4,a5]
  by_cases F:1099511627776<m4
  ·simp only[go_sem,Qe,Qh,Qi,Qj,Qk,reduceCtorEq,reduceIte,h,jr,y,C,a3,a4,a5,F]
  by_cases J:(16:Int)<E.length
  ·simp only[go_sem,Qe,Qh,Qi,Qj,Qk,reduceCtorEq,reduceIte,h,jr,y,C,a3,a4,a5,F,J,I]
  by_cases Q:(8:Int)<rs.length
  ·simp only[go_sem,Qe,Qh,Qi,Qj,Qk,reduceCtorEq,reduceIte,h,jr,y,C,a3,a4,a5,F,J,Q,I,O]
  by_cases a9:iK E E.length 0=0
  ·have L:=l1 a9
   by_cases Z:iU rs=0
   ·have b1:=r1 Z
    simp only[go_sem,Qe,Qh,Qi,Qj,Qk,reduceCtorEq,reduceIte,h,jr,y,C,a3,a4,a5,F,J,Q,I,O,L,a9,b1,Z]
   ·obtain⟨ob,W⟩:=r2 Z
    simp only[go_sem,Qe,Qh,Qi,Qj,Qk,reduceCtorEq,reduceIte,h,jr,y,C,a3,a4,a5,F,J,Q,I,O,L,a9,W]
  ·obtain⟨ob,b3⟩:=l2 a9
   simp only[go_sem,Qe,Qh,Qi,Qj,Qk,reduceCtorEq,reduceIte,h,jr,y,C,a3,a4,a5,F,J,Q,I,O,b3,a9]
def DV(m:Man)(i:Nat):CSt:=⟨[(1,.ptr 101 0),(3,.int .i64 i)],[(101,.rc m.sv)],[]⟩
theorem s54(m:Man)(hm:dx m)(i:Nat)(hi:i<m.ents.length):
 (m6 m.ents i=0->run T (.loop nh) (DV m i)=run T (.loop nh) (DV m (i+1)))/\
 (m6 m.ents i≠0->∃ob,run T (.loop nh) (DV m i)=some (.r,⟨[(2,.int .i64 (m6 m.ents i))],ob,[]⟩)):=by
 have e1:=cg i (by have:=hm.en;omega);have J:=dk m.ents;have L:=fU m.ents i hi;have b3:=hm.e _ (bS m.ents en0 i hi);have I:i-1<m.ents.length:=by omega
 have hby:=hm.e _ (bS m.ents en0 (i-1) I);have W:=xoh (m.ents.getD i en0).name (by omega);have g2:=xog (m.ents.getD (i-1) en0) (m.ents.getD i en0) (by omega);have es:0<i->af.wrap ((i:Int)-1)=((i-1:Nat):Int):=fun h=>by rw[w64 (by omega) (by have:=hm.en;omega)];omega
 have Z:=fU m.ents (i-1) I;unfold m6;obtain⟨O,Q,m2,m3,m4,C,rs⟩:=m;simp only[DV,Man.sv]at*;generalize C.getD i en0=x at*;generalize C.getD (i-1) en0=y at*;obtain⟨r,n,v,d⟩:=x;obtain⟨r2,n2,v2,d2⟩:=y;simp only[Ent.sv]at*
 by_cases E:r<1
 ·refine⟨fun h=>by simp[E]at h,fun _=>⟨[(101,.rc [.str O,.int .i64 Q,.int .i64 m2,.int .i64 m3,.int .i64 m4,.lst 4 (df C) .no,.lst 4 (dS rs) .no]),(104,.rc [.int .i64 r,.str n,.int .i64 v,.byt d .no])], ?_⟩⟩
  rw[ai];simp only[go_sem,Qe,Qh,Qi,Qj,Qk,reduceIte,hi,J,L,E]
 by_cases F:3<r
 ·refine⟨fun h=>by simp[E,F]at h,fun _=>⟨[(101,.rc [.str O,.int .i64 Q,.int .i64 m2,.int .i64 m3,.int .i64 m4,.lst 4 (df C) .no,.lst 4 (dS rs) .no]),(104,.rc [.int .i64 r,.str n,.int .i64 v,.byt d .no])], ?_⟩⟩
  rw[ai];simp only[go_sem,Qe,Qh,Qi,Qj,Qk,reduceIte,hi,J,L,E,F]
 by_cases a3:v<0
 ·refine⟨fun h=>by simp[E,F,a3]at h,fun _=>⟨[(101,.rc [.str O,.int .i64 Q,.int .i64 m2,.int .i64 m3,.int .i64 m4,.lst 4 (df C) .no,.lst 4 (dS rs) .no]),(104,.rc [.int .i64 r,.str n,.int .i64 v,.byt d .no])], ?_⟩⟩
  rw[ai];simp only[go_sem,Qe,Qh,Qi,Qj,Qk,reduceIte,hi,J,L,E,F,a3]
 by_cases a4:1000000<v
 ·refine⟨fun h=>by simp[E,F,a3,a4]at h,fun _=>⟨[(101,.rc [.str O,.int .i64 Q,.int .i64 m2,.int .i64 m3,.int .i64 m4,.lst 4 (df C) .no,.lst 4 (dS rs) .no]),(104,.rc [.int .i64 r,.str n,.int .i64 v,.byt d .no])], ?_⟩⟩
  rw[ai];simp only[go_sem,Qe,Qh,Qi,Qj,Qk,reduceIte,hi,J,L,E,F,a3,a4]
 by_cases a5:(d.length:Int)=32
 ·cases a6:Pr.nameB n with
  |false=>rw[a6]at W;refine⟨fun h=>by simp[E,F,a3,a4,a5]at h,fun _=>⟨[(101,.rc [.str O,.int .i64 Q,.int .i64 m2,.int .i64 m3,.int .i64 m4,.lst 4 (df C) .no,.lst 4 (dS rs) .no]),(104,.rc [.int .i64 r,.str n,.int .i64 v,.byt d .no])], ?_⟩⟩;rw[ai];simp only[go_sem,Qe,Qh,Qi,Qj,Qk,reduceIte,hi,J,L,E,F,a3,a4,a5,W,gI]
  |true=>
   rw[a6]at W
   by_cases a7:i=0
   ·subst a7
    have hp:(0:Int)<C.length:=by omega
    have kw:af.wrap 1=1:=rfl;refine⟨fun _=> ?_,fun h=>by simp[E,F,a3,a4,a5]at h⟩;rw[ai];simp only[go_sem,Q2,Q3,Q4,Q8,Qb,Qc,Qd,Qe,Qh,Qi,Qj,Qk,reduceIte,hp,kw,J,L,E,F,a3,a4,a5,W,gI]
   ·have hp:(0:Int)<(i:Nat):=by omega
    have b1:0<i:=by omega
    have b0:=es b1;cases a8:jb ⟨r2,n2,v2,d2⟩ ⟨r,n,v,d⟩with
    |true=>rw[a8]at g2;refine⟨fun _=> ?_,fun h=>by simp[E,F,a3,a4,a5,a7]at h⟩;rw[ai];simp only[go_sem,Qb,Qc,Qd,Qe,Qh,Qi,Qj,Qk,reduceIte,hi,hp,I,b0,Z,e1,J,L,E,F,a3,a4,a5,W,gI,g2,xO]
    |false=>rw[a8]at g2;refine⟨fun h=>by simp[E,F,a3,a4,a5,a7]at h,fun _=>⟨[(101,.rc [.str O,.int .i64 Q,.int .i64 m2,.int .i64 m3,.int .i64 m4,.lst 4 (df C) .no,.lst 4 (dS rs) .no]),(104,.rc [.int .i64 r,.str n,.int .i64 v,.byt d .no])], ?_⟩⟩;rw[ai];simp only[go_sem,Qb,Qc,Qd,Qe,Qh,Qi,Qj,Qk,reduceIte,hi,hp,I,b0,Z,J,L,E,F,a3,a4,a5,W,gI,g2,xO,a7]
 ·refine⟨fun h=>by simp[E,F,a3,a4,a5]at h,fun _=>⟨[(101,.rc [.str O,.int .i64 Q,.int .i64 m2,.int .i64 m3,.int .i64 m4,.lst 4 (df C) .no,.lst 4 (dS rs) .no]),(104,.rc [.int .i64 r,.str n,.int .i64 v,.byt d .no])], ?_⟩⟩
  rw[ai];simp only[go_sem,Qe,Qh,Qi,Qj,Qk,reduceIte,hi,J,L,E,F,a3,a4,a5]
theorem l62(m:Man)(F:dx m):∀(n i:Nat),m.ents.length-i=n->i<=m.ents.length->
 (iK m.ents n i=0->run T (.loop nh) (DV m i)=some (.x 0,⟨[(1,.ptr 101 0)],[(101,.rc m.sv)],[]⟩))/\
 (iK m.ents n i≠0->∃ob,run T (.loop nh) (DV m i)=some (.r,⟨[(2,.int .i64 (iK m.ents n i))],ob,[]⟩)):=by
 intro n;induction n with
 |zero=>
  intro i Q W;have:i=m.ents.length:=by omega
  subst this;refine⟨fun _=> ?_,fun h=>absurd rfl h⟩;rw[ai];have J:=dk m.ents;obtain⟨mv,m1,m2,m3,m4,y,rs⟩:=m;simp only[DV,Man.sv]at*;simp only[go_sem,Qe,Qh,Qi,Qj,Qk,reduceIte,J]
 |succ n Z=>
  intro i Q W;obtain⟨E,C⟩:=s54 m F i (by omega);obtain⟨O,L⟩:=Z (i+1) (by omega) (by omega);unfold iK
  by_cases h:m6 m.ents i=0
  ·rw[if_pos h,E h];exact⟨O,L⟩
  ·rw[if_neg h];exact⟨fun I=>absurd I h,C⟩
theorem xwH(m:Man)(W:dx m)(ob:List (Nat×aH))(I:ob=[(101,.rc m.sv)]):∀(n i:Nat),m.ruls.length-i=n->i<=m.ruls.length->
 (iU (m.ruls.drop i)=0->run T (.loop xa) ⟨[(1,.ptr 101 0),(5,.int .i64 i)],ob,[]⟩=some (.x 2,⟨[],ob,[]⟩))/\
 (iU (m.ruls.drop i)≠0->∃ob',run T (.loop xa) ⟨[(1,.ptr 101 0),(5,.int .i64 i)],ob,[]⟩=some (.r,⟨[(2,.int .i64 (iU (m.ruls.drop i)))],ob',[]⟩)):=by
 intro n;induction n with
 |zero=>
  intro i h0 h1;have:i=m.ruls.length:=by omega
  subst this;rw[bw];refine⟨fun _=> ?_,fun h=>absurd rfl h⟩;have E:=dP m.ruls;obtain⟨Q,m1,m2,m3,m4,C,rs⟩:=m;subst I;simp only[Man.sv]at*;rw[ai];simp only[go_sem,Qe,Qh,Qj,Qk,reduceIte,E]
 |succ n ih=>
  intro i h0 h1;have hi:i<m.ruls.length:=by omega
  obtain⟨i1,i2⟩:=ih (i+1) (by omega) (by omega);have Z:=cg i (by have:=W.rn;omega);have E:=dP m.ruls;have L:=jY m.ruls i hi;have hd:m.ruls.drop i=m.ruls.getD i rl0::m.ruls.drop (i+1):=by rw[bt hi,aa,ac hi];rfl
  have hb:=W.r _ (bS m.ruls rl0 i hi);rw[hd];unfold iU;generalize m.ruls.drop (i+1)=R at*;generalize m.ruls.getD i rl0=x at*;obtain⟨Q,m1,m2,m3,m4,C,rs⟩:=m;obtain⟨k,t,lo,F⟩:=x;simp only[Man.sv,Rul.sv]at*;subst I;have g:=xx4 k t lo F (by omega)
  by_cases h:pY ⟨k,t,lo,F⟩=0
  ·rw[if_pos h]
   unfold pY at h;simp only at h;rw[h]at g;refine⟨fun y=> ?_,fun y=> ?_⟩
   ·have J:=i1 y
    rw[ai];simp only[go_sem,Qe,Qh,Qj,Qk,reduceIte,hi,Z,E,L,g,X4,J]
   ·obtain⟨ob',O⟩:=i2 y
    refine⟨ob', ?_⟩;rw[ai];simp only[go_sem,Qe,Qh,Qj,Qk,reduceIte,hi,Z,E,L,g,X4,O]
  ·rw[if_neg h]
   unfold pY at h ⊢;simp only at h ⊢;refine⟨fun y=>absurd y h,fun y=>⟨[(101,.rc [.str Q,.int .i64 m1,.int .i64 m2,.int .i64 m3,.int .i64 m4,.lst 4 (df C) .no,.lst 4 (dS rs) .no])], ?_⟩⟩;rw[ai];simp only[go_sem,Qe,Qh,Qj,Qk,reduceIte,hi,E,L,g,X4,h]
theorem f62(m:Man)(hm:dx m):call T 62 [.agg m.sv] [] 0=some ⟨.int .i64 (fq m),[],[]⟩:=by
 have h:=xoh m.vendor (by have:=hm.v;omega);obtain⟨l1,l2⟩:=l62 m hm _ 0 rfl (by omega);obtain⟨r1,r2⟩:=xwH m hm _ rfl _ 0 rfl (by omega);have I:=dk m.ents;have O:=dP m.ruls;obtain⟨mv,m1,m2,m3,m4,E,rs⟩:=m;simp only[DV,Man.sv,ay,aW,Nat.sub_zero]at*;rw[aj xyO];unfold fq;simp only;cases a0:Pr.nameB mv with
 |false=>rw[a0]at h;simp only[go_sem,Qe,Qh,Qi,Qj,Qk,reduceCtorEq,reduceIte,h,gI]
 |true=>
  rw[a0]at h
  by_cases y:m2<0
  ·simp only[go_sem,Qe,Qh,Qi,Qj,Qk,reduceCtorEq,reduceIte,h,gI,y]
  by_cases C:m1<m2
  ·simp only[go_sem,Qe,Qh,Qi,Qj,Qk,reduceCtorEq,reduceIte,h,gI,y,C]
  by_cases a3:1000000<m1
  ·simp only[go_sem,Qe,Qh,Qi,Qj,Qk,reduceCtorEq,reduceIte,h,gI,y,C,a3]
  by_cases a4:m3<0
  ·simp only[go_sem,Qe,Qh,Qi,Qj,Qk,reduceCtorEq,reduceIte,h,gI,y,C,a3,a4]
  by_cases a5:m4<=m3
  ·simp only[go_sem,Qe,Qh,Qi,Qj,Qk,reduceCtorEq,reduceIte,h,gI,y,C,a3,a4,a5]
  by_cases F:1099511627776<m4
  ·simp only[go_sem,Qe,Qh,Qi,Qj,Qk,reduceCtorEq,reduceIte,h,gI,y,C,a3,a4,a5,F]
  by_cases J:(16:Int)<E.length
  ·simp only[go_sem,Qe,Qh,Qi,Qj,Qk,reduceCtorEq,reduceIte,h,gI,y,C,a3,a4,a5,F,J,I]
  by_cases Q:(8:Int)<rs.length
  ·simp only[go_sem,Qe,Qh,Qi,Qj,Qk,reduceCtorEq,reduceIte,h,gI,y,C,a3,a4,a5,F,J,Q,I,O]
  by_cases a9:iK E E.length 0=0
  ·have L:=l1 a9
   by_cases Z:iU rs=0
   ·have b1:=r1 Z
    simp only[go_sem,Qe,Qh,Qi,Qj,Qk,reduceCtorEq,reduceIte,h,gI,y,C,a3,a4,a5,F,J,Q,I,O,L,a9,b1,Z]
   ·obtain⟨ob,W⟩:=r2 Z
    simp only[go_sem,Qe,Qh,Qi,Qj,Qk,reduceCtorEq,reduceIte,h,gI,y,C,a3,a4,a5,F,J,Q,I,O,L,a9,W]
  ·obtain⟨ob,b3⟩:=l2 a9
   simp only[go_sem,Qe,Qh,Qi,Qj,Qk,reduceCtorEq,reduceIte,h,gI,y,C,a3,a4,a5,F,J,Q,I,O,b3,a9]
end Go.Proofs.YtbfnljmmepcbfaaGreatDoor
namespace SortT
variable {α : Type}
structure SO(lt:α->α->Bool):Prop where
 irr:∀x,lt x x=false
 tr:∀x y z,lt x y=true->lt y z=true->lt x z=true
 tri:∀x y,lt x y=false->lt y x=false->x=y
def Str(lt:α->α->Bool)(l:List α):Prop:=l.Pairwise fun x y=>lt x y=true
def inn(h:α->α->Bool)(d:α):Nat->List α->Nat->Nat->List α×Nat
 |0,B,k,_=>(B,k)
 |m+1,B,k,p=>if h (B.getD p d) (B.getD (p-1) d)=true then inn h d m B k (p+1)else inn h d m (B.set k (B.getD p d)) (k+1) (p+1)
def A2(lt:α->α->Bool)(x:α):List α->List α
 |[]=> [x]
 |y::r=>if lt y x=true then y::A2 lt x r else if lt x y=true then x::y::r else y::r
theorem rS{lt:α->α->Bool}(h:SO lt)(x:α):∀(l:List α),∀z,z∈A2 lt x l↔z=x\/z∈l
 |[],z=>by simp[A2]
 |y::r,z=>by
  have E:=rS h x r z;unfold A2;split
  ·rw[av,E,av]
   constructor
   ·rintro(h|h|h)<;>simp[h]
   ·rintro(h|h|h)<;>simp[h]
  ·rename_i C
   split
   ·rw[av]
   ·rename_i F
    have:x=y:=h.tri _ _ (by simpa using F) (by simpa using C);subst this;rw[av];constructor
    ·exact .inr
    ·rintro(h|h)
     ·exact .inl h
     ·exact h
theorem y8{lt:α->α->Bool}(h:SO lt)(x:α):∀(l:List α),Str lt l->Str lt (A2 lt x l)
 |[],_=>List.pairwise_singleton _ _
 |y::r,hs=>by
  obtain⟨E,F⟩:=bV.1 hs;unfold A2;split
  ·rename_i C
   refine bV.2 ⟨fun z hz=> ?_,y8 h x r F⟩;rcases (rS h x r z).1 hz with rfl|hz
   ·exact C
   ·exact E z hz
  ·split
   ·rename_i C
    refine bV.2 ⟨fun z hz=> ?_,hs⟩;rcases av.1 hz with rfl|hz
    ·exact C
    ·exact h.tr _ _ _ C (E z hz)
   ·exact hs
end SortT
namespace Go.Proofs.YtbfnljmmepcbfaaGreatDoor
open Go.Sy
open UInt8 renaming reduceLT -> Q0, reduceLE -> Q1
open Int renaming reduceToNat -> Q2, reduceLE -> Q3, reduceLT -> Q4, reduceEq -> Q5, reduceNe -> Q6, reduceNeg -> Q7, reduceAdd -> Q8, reduceSub -> Q9, reduceMul -> Qa
open Nat renaming reducePow -> Qb, reduceDiv -> Qc, reduceMod -> Qd, reduceAdd -> Qe, reduceSub -> Qf, reduceMul -> Qg, reduceLT -> Qh, reduceLeDiff -> Qi, reduceEqDiff -> Qj, reduceBEq -> Qk
section
open SortT
theorem je:∀a:d9,Lib.compareBytes a a=0
 |[]=>rfl
 |x::r=>by have h:=je r;simp[Lib.compareBytes,h]
theorem pD:∀a b c:d9,Lib.compareBytes a b<0->Lib.compareBytes b c<0->Lib.compareBytes a c<0
 |[],[],_,h,_=>by simp[Lib.compareBytes]at h
 |[],_::_,[],_,k=>by simp[Lib.compareBytes]at k
 |[],_::_,_::_,_,_=>by simp[Lib.compareBytes]
 |_::_,[],_,h,_=>by simp[Lib.compareBytes]at h
 |_::_,_::_,[],_,k=>by simp[Lib.compareBytes]at k
 |x::r,y::s,z::t,h,k=>by
  have O:=pD r s t;unfold Lib.compareBytes at h k ⊢;have E:(x<y)=(x.toNat<y.toNat):=rfl;have T:(y<z)=(y.toNat<z.toNat):=rfl;have L:(x<z)=(x.toNat<z.toNat):=rfl;have J:(y<x)=(y.toNat<x.toNat):=rfl;have I:(z<y)=(z.toNat<y.toNat):=rfl;have F:(z<x)=(z.toNat<x.toNat):=rfl;simp only[E,T,L,J,I,F]at h k ⊢
  by_cases Q:x.toNat<y.toNat
  ·by_cases C:y.toNat<z.toNat
   ·rw[if_pos (by omega)];decide
   ·rw[if_neg C]at k
    by_cases a3:z.toNat<y.toNat
    ·rw[if_pos a3]at k;exact absurd k (by decide)
    ·rw[if_pos (by omega)];decide
  ·rw[if_neg Q]at h
   by_cases a4:y.toNat<x.toNat
   ·rw[if_pos a4]at h;exact absurd h (by decide)
   ·rw[if_neg a4]at h
    by_cases C:y.toNat<z.toNat
    ·rw[if_pos (by omega)];decide
    ·rw[if_neg C]at k
     by_cases a3:z.toNat<y.toNat
     ·rw[if_pos a3]at k;exact absurd k (by decide)
     ·rw[if_neg a3]at k
      rw[if_neg (by omega),if_neg (by omega)];exact O h k
theorem kg:∀{a b:d9},¬Lib.compareBytes a b<0->¬Lib.compareBytes a b=0->Lib.compareBytes b a<0
 |[],[],_,k=>absurd rfl k
 |[],_::_,h,_=>absurd (by simp[Lib.compareBytes]) h
 |_::_,[],_,_=>by simp[Lib.compareBytes]
 |x::r,y::s,h,k=>by
  unfold Lib.compareBytes at h k ⊢
  by_cases C:x<y
  ·rw[if_pos C]at h;exact absurd (by decide) h
  ·rw[if_neg C]at h k
   by_cases E:y<x
   ·rw[if_pos E];decide
   ·rw[if_neg E]at h k
    rw[if_neg E,if_neg C];exact kg h k
theorem CP(a:d9):¬bH a a=true:=fun h=>by have:=(ed a a).2 h;rw[je]at this;omega
theorem xid{a b c:d9}(h:bH a b=true)(k:bH b c=true):bH a c=true:=(ed _ _).1 (pD _ _ _ ((ed _ _).2 h) ((ed _ _).2 k))
theorem Up{a b:d9}(h:¬bH a b=true)(k:¬bH b a=true):a=b:=by refine(iz a b).1 (Classical.byContradiction fun e=> ?_);exact k ((ed _ _).1 (kg (fun y=>h ((ed _ _).1 y)) e))
theorem wi(x y:Ent):jb x y=true↔x.role<y.role\/(x.role=y.role/\(bH x.name y.name=true\/(x.name=y.name/\(x.ver<y.ver\/(x.ver=y.ver/\bH x.dig y.dig=true))))):=by
 unfold jb
 by_cases E:x.role=y.role
 ·rw[if_pos E]
  by_cases C:x.name=y.name
  ·rw[if_pos C]
   have n2:¬bH x.name y.name=true:=by rw[C];exact CP _
   by_cases F:x.ver=y.ver
   ·rw[if_pos F]
    constructor
    ·intro h;exact .inr ⟨E,.inr ⟨C,.inr ⟨F,h⟩⟩⟩
    ·rintro(h|⟨-,h|⟨-,h|⟨-,h⟩⟩⟩)
     ·omega
     ·exact absurd h n2
     ·omega
     ·exact h
   ·rw[if_neg F,decide_eq_true_eq]
    constructor
    ·intro h;exact .inr ⟨E,.inr ⟨C,.inl h⟩⟩
    ·rintro(h|⟨-,h|⟨-,h|⟨h, -⟩⟩⟩)
     ·omega
     ·exact absurd h n2
     ·exact h
     ·exact absurd h F
  ·rw[if_neg C]
   constructor
   ·intro h;exact .inr ⟨E,.inl h⟩
   ·rintro(h|⟨-,h|⟨h, -⟩⟩)
    ·omega
    ·exact h
    ·exact absurd h C
 ·rw[if_neg E,decide_eq_true_eq]
  constructor
  ·intro h;exact .inl h
  ·rintro(h|⟨h, -⟩)
   ·exact h
   ·exact absurd h E
theorem Ur:SO jb where
 irr:=fun x=>by
  cases h:jb x x with
  |false=>rfl
  |true=>
   rcases (wi x x).1 h with h|⟨-,h|⟨-,h|⟨-,h⟩⟩⟩
   ·omega
   ·exact absurd h (CP _)
   ·omega
   ·exact absurd h (CP _)
 tr:=fun x y z E C=>by
  rw[wi]at E C ⊢;rcases E with E|⟨F,E⟩
  ·rcases C with C|⟨I,C⟩
   ·left;omega
   ·left;omega
  ·rcases C with C|⟨I,C⟩
   ·left;omega
   ·refine .inr ⟨F.trans I, ?_⟩
    rcases E with E|⟨n1,E⟩
    ·rcases C with C|⟨n2,C⟩
     ·exact .inl (xid E C)
     ·rw[n2]at E;exact .inl E
    ·rcases C with C|⟨n2,C⟩
     ·rw[<-n1]at C;exact .inl C
     ·refine .inr ⟨n1.trans n2, ?_⟩
      rcases E with E|⟨v1,E⟩
      ·rcases C with C|⟨L,C⟩
       ·left;omega
       ·left;omega
      ·rcases C with C|⟨L,C⟩
       ·left;omega
       ·exact .inr ⟨v1.trans L,xid E C⟩
 tri:=fun x y E C=>by
  have n1:¬jb x y=true:=by rw[E];simp
  have n2:¬jb y x=true:=by rw[C];simp
  rw[wi]at n1 n2
  have F:x.role=y.role:=by
   have a:¬x.role<y.role:=fun h=>n1 (.inl h)
   have b:¬y.role<x.role:=fun h=>n2 (.inl h)
   omega
  have I:x.name=y.name:=Up (fun h=>n1 (.inr ⟨F,.inl h⟩)) (fun h=>n2 (.inr ⟨F.symm,.inl h⟩))
  have J:x.ver=y.ver:=by
   have a:¬x.ver<y.ver:=fun h=>n1 (.inr ⟨F,.inr ⟨I,.inl h⟩⟩)
   have b:¬y.ver<x.ver:=fun h=>n2 (.inr ⟨F.symm,.inr ⟨I.symm,.inl h⟩⟩)
   omega
  have O:x.dig=y.dig:=Up (fun h=>n1 (.inr ⟨F,.inr ⟨I,.inr ⟨J,h⟩⟩⟩)) (fun h=>n2 (.inr ⟨F.symm,.inr ⟨I.symm,.inr ⟨J.symm,h⟩⟩⟩));obtain⟨r,n,v,d⟩:=x;obtain⟨Q,n2,L,T⟩:=y;simp only at F I J O;subst F;subst I;subst J;subst O;rfl
structure rA(x:Ent):Prop where
 r1:1<=x.role
 r3:x.role<=3
 v0:0<=x.ver
 v1:x.ver<=1000000
 d:x.dig.length=32
 n:Pr.nameB x.name=true
theorem KO{l:List Ent}(h:∀x∈l,rA x)(E:Str jb l)(i:Nat)(hi:i<l.length):m6 l i=0:=by
 obtain⟨L,O,I,Q,J,F⟩:=h _ (bS l en0 i hi);unfold m6;rw[if_neg (by omega),if_neg (by omega),if_neg (by omega),if_neg (by omega),if_pos (by omega),if_pos F]
 by_cases y:i=0
 ·rw[if_pos y]
 ·have C:jb (l.getD (i-1) en0) (l.getD i en0)=true:=by
   have:=iS.1 E (i-1) i (by omega) hi (by omega);rw[aa,aa,ac (by omega),ac hi];exact this
  rw[if_neg y,if_pos C]
theorem uz{l:List Ent}(h:∀x∈l,rA x)(y:Str jb l):∀(n i:Nat),i+n<=l.length->iK l n i=0
 |0,_,_=>rfl
 |n+1,i,hi=>by unfold iK;rw[if_pos (KO h y i (by omega))];exact uz h y n (i+1) (by omega)
theorem tV:∀{l:List Rul},(∀r∈l,pY r=0)->iU l=0
 |[],_=>rfl
 |r::t,h=>by unfold iU;rw[if_pos (h r aB)];exact tV fun x y=>h x (aw _ y)
theorem nJ{m:Man}(h:Pr.nameB m.vendor=true)(O:0<=m.flr)(F:m.flr<=m.ver)(W:m.ver<=1000000)(J:0<=m.frm)(T:m.frm<m.til)(L:m.til<=1099511627776)(I:m.ents.length<=16)(Q:m.ruls.length<=8)
 (E:∀x∈m.ents,rA x) (C:Str jb m.ents) (y:∀r∈m.ruls,pY r=0):fq m=0:=by
 unfold fq;rw[if_pos h,if_neg (by omega),if_neg (by omega),if_neg (by omega),if_neg (by omega),if_neg (by omega),if_neg (by omega),if_neg (by omega),if_neg (by omega),if_pos (uz E C _ 0 (by omega))];exact tV y
end
def hdM(m:Man):d9:=jJ ([]++bu 1 21) m.vendor++bu 4 m.ver++bu 4 m.flr++bu 6 m.frm++bu 6 m.til++bu 1 (m.ents.length:Int)
theorem cK(k:Nat)(v:Int):(bu k v).length=k:=gr ..
theorem l4(B:d9)(k:Nat)(v:Int)(C:1<=k)(h:k<=8)(y:B.length<=10000000000000):
 call T 101 [.byt B .no,.int .i64 k,.int .i64 v] [] 0=some ⟨.byt (B++bu k v) (.id 60),[],[60]⟩:=xvk B k v C h y
def ot(B:d9)(x:Ent):d9:=jJ (B++bu 1 x.role) x.name++bu 4 x.ver++x.dig
def mH(B:d9)(r:Rul):d9:=jJ (B++bu 1 r.kind) r.text++bu 4 r.lo++bu 4 r.hi
theorem si(B:d9)(x:Ent)(hn:x.name.length<=1000000)(hd:x.dig.length<=1000000):(ot B x).length<=B.length+2000007:=by unfold ot;rw[ae,ae,eQ,ae,cK,cK];omega
theorem rG(B:d9)(x:Rul)(hn:x.text.length<=1000000):(mH B x).length<=B.length+2000007:=by unfold mH;rw[ae,ae,eQ,ae,cK,cK,cK];omega
def tkA:Bool->LAa
 |false=> [103,12060,17060,21060,24060,28060,31060]
 |true=> [103,12060,17060,21060,24060,28060,31060,51060]
theorem xo4(m:Man)(C:dx m)(b:Bool)(i:Nat)(hi:i<m.ents.length)(B:d9)(hB:B.length<=1000000000):
 run T (.loop sI) ⟨[(1,.ptr 101 0),(3,.byt B (.id 103)),(37,.lst 4 (df m.ents) .no),(38,.int .i64 m.ents.length),(39,.int .i64 i)],[(101,.rc m.sv)],tkA b⟩=
 run T (.loop sI) ⟨[(1,.ptr 101 0),(3,.byt (ot B (m.ents.getD i en0)) (.id 103)),(37,.lst 4 (df m.ents) .no),(38,.int .i64 m.ents.length),(39,.int .i64 ((i+1:Nat):Int))],[(101,.rc m.sv)],tkA true⟩:=by
 have k1:((1:Nat):Int)=1:=rfl;have Z:((4:Nat):Int)=4:=rfl;have a1:=C.en;have O:=cg i (by omega);have Q:=fU m.ents i hi;have h:=dk m.ents;obtain⟨a2,W⟩:=C.e _ (bS m.ents en0 i hi);clear C;generalize m.ents.getD i en0=x at*;unfold ot;have E:=l4 B 1 x.role (by omega) (by omega) (by omega);rw[k1]at E;have n1:(B++bu 1 x.role).length<=1000000001:=by rw[ae,cK];omega
 generalize B++bu 1 x.role=I at*;have L:=xoi I x.name (by omega) (by omega);have n2:(jJ I x.name).length<=1010000000:=by rw[eQ];omega
 generalize jJ I x.name=F at*;have y:=l4 F 4 x.ver (by omega) (by omega) (by omega);rw[Z]at y;have n3:(F++bu 4 x.ver).length<=1010000004:=by rw[ae,cK];omega
 generalize F++bu 4 x.ver=B3 at*;have J:B3.length+x.dig.length<=140737488355328:=by omega
 obtain⟨mv,m1,m2,m3,m4,es,rs⟩:=m;obtain⟨x1,x2,x3,x4⟩:=x;simp only[Man.sv,Ent.sv]at*;cases b with
 |false=>rw[ai];simp only[tkA];simp only[go_sem,Qb,Qc,Qd,Qe,Qg,Qh,Qi,Qj,Qk,reduceCtorEq,reduceIte,hi,O,Q,h,E,L,y,J,ma,nU]
 |true=>rw[ai];simp only[tkA];simp only[go_sem,Qb,Qc,Qd,Qe,Qg,Qh,Qi,Qj,Qk,reduceCtorEq,reduceIte,hi,O,Q,h,E,L,y,J,ma,nU]
theorem xwJ(m:Man)(E:dx m)(h16:m.ents.length<=16):∀(n i:Nat)(b:Bool)(B:d9),m.ents.length-i=n->i<=m.ents.length->B.length<=20000000+i*2000007->
 ∃I,run T (.loop sI) ⟨[(1,.ptr 101 0),(3,.byt B (.id 103)),(37,.lst 4 (df m.ents) .no),(38,.int .i64 m.ents.length),(39,.int .i64 i)],[(101,.rc m.sv)],tkA b⟩=
 some (.x 0,⟨[(1,.ptr 101 0),(3,.byt ((m.ents.drop i).foldl ot B) (.id 103))],[(101,.rc m.sv)],tkA I⟩):=by
 intro n;induction n with
 |zero=>
  intro i b B F J L;have:i=m.ents.length:=by omega
  subst this;refine⟨b, ?_⟩;rw[bw,fo,ai];cases b with
  |false=>simp only[tkA];simp only[go_sem,Qh,Qj,Qk,reduceIte]
  |true=>simp only[tkA];simp only[go_sem,Qh,Qj,Qk,reduceIte]
 |succ n O=>
  intro i b B F J L;have hi:i<m.ents.length:=by omega
  have y:m.ents.drop i=m.ents.getD i en0::m.ents.drop (i+1):=by rw[bt hi,aa,ac hi];rfl
  obtain⟨C,h⟩:=E.e _ (bS m.ents en0 i hi);have Q:=si B (m.ents.getD i en0) C h;rw[xo4 m E b i hi B (by omega),y,cR];exact O (i+1) true _ (by omega) (by omega) (by omega)
def tkB:Bool->LAa
 |false=> [103,12060,17060,21060,24060,28060,31060,64060]
 |true=> [103,12060,17060,21060,24060,28060,31060,51060,64060]
def tkC:Bool->LAa
 |false=> [103,12060,17060,21060,24060,28060,31060,64060,79060,86060]
 |true=> [103,12060,17060,21060,24060,28060,31060,51060,64060,79060,86060]
theorem xo3(m:Man)(b:Bool)(t:Nat)(tk:LAa)(ht:(t=64060/\tk=tkB b)\/(t=86060/\tk=tkC b))(rs:List Rul)(Z:∀x∈rs,x.text.length<=1000000)(hn:rs.length<=1000000)(i:Nat)(hi:i<rs.length)(B:d9)(hB:B.length<=1000000000):
 run T (.loop sH) ⟨[(3,.byt B (.id t)),(65,.lst 4 (dS rs) .no),(66,.int .i64 rs.length),(67,.int .i64 i)],[(101,.rc m.sv)],tk⟩=
 run T (.loop sH) ⟨[(3,.byt (mH B (rs.getD i rl0)) (.id 86060)),(65,.lst 4 (dS rs) .no),(66,.int .i64 rs.length),(67,.int .i64 ((i+1:Nat):Int))],[(101,.rc m.sv)],tkC b⟩:=by
 have k1:((1:Nat):Int)=1:=rfl;have Q:((4:Nat):Int)=4:=rfl;have I:=cg i (by omega);have J:=jY rs i hi;have h:=dP rs;have W:=Z _ (bS rs rl0 i hi);generalize rs.getD i rl0=x at*;unfold mH;have E:=l4 B 1 x.kind (by omega) (by omega) (by omega);rw[k1]at E;have n1:(B++bu 1 x.kind).length<=1000000001:=by rw[ae,cK];omega
 generalize B++bu 1 x.kind=L at*;have F:=xoi L x.text (by omega) (by omega);have n2:(jJ L x.text).length<=1010000000:=by rw[eQ];omega
 generalize jJ L x.text=O at*;have y:=l4 O 4 x.lo (by omega) (by omega) (by omega);rw[Q]at y;have n3:(O++bu 4 x.lo).length<=1010000004:=by rw[ae,cK];omega
 generalize O++bu 4 x.lo=B3 at*;have C:=l4 B3 4 x.hi (by omega) (by omega) (by omega);rw[Q]at C;obtain⟨mv,m1,m2,m3,m4,es,a1⟩:=m;obtain⟨x1,x2,x3,x4⟩:=x;simp only[Rul.sv,Man.sv]at*;rcases ht with⟨rfl,rfl⟩|⟨rfl,rfl⟩
 ·cases b with
  |false=>rw[ai];simp only[tkB,tkC];simp only[go_sem,Qb,Qc,Qd,Qe,Qg,Qh,Qi,Qj,Qk,reduceCtorEq,reduceIte,hi,I,J,h,E,F,y,C,ma,nU]
  |true=>rw[ai];simp only[tkB,tkC];simp only[go_sem,Qb,Qc,Qd,Qe,Qg,Qh,Qi,Qj,Qk,reduceCtorEq,reduceIte,hi,I,J,h,E,F,y,C,ma,nU]
 ·cases b with
  |false=>rw[ai];simp only[tkC];simp only[go_sem,Qb,Qc,Qd,Qe,Qg,Qh,Qi,Qj,Qk,reduceCtorEq,reduceIte,hi,I,J,h,E,F,y,C,ma,nU]
  |true=>rw[ai];simp only[tkC];simp only[go_sem,Qb,Qc,Qd,Qe,Qg,Qh,Qi,Qj,Qk,reduceCtorEq,reduceIte,hi,I,J,h,E,F,y,C,ma,nU]
theorem xwI(m:Man)(b:Bool)(rs:List Rul)(E:∀x∈rs,x.text.length<=1000000)(hn:rs.length<=8):∀(n i t:Nat)(tk:LAa)(B:d9),(t=64060/\tk=tkB b)\/(t=86060/\tk=tkC b)->rs.length-i=n->i<=rs.length->B.length<=100000000+i*2000007->
 ∃C tk',((C=64060/\tk'=tkB b)\/(C=86060/\tk'=tkC b))/\run T (.loop sH) ⟨[(3,.byt B (.id t)),(65,.lst 4 (dS rs) .no),(66,.int .i64 rs.length),(67,.int .i64 i)],[(101,.rc m.sv)],tk⟩=
 some (.x 2,⟨[(3,.byt ((rs.drop i).foldl mH B) (.id C))],[(101,.rc m.sv)],tk'⟩):=by
 intro n;induction n with
 |zero=>
  intro i t tk B h I J F;have:i=rs.length:=by omega
  subst this;refine⟨t,tk,h, ?_⟩;rw[bw,fo,ai];rcases h with⟨rfl,rfl⟩|⟨rfl,rfl⟩
  ·cases b with
   |false=>simp only[tkB];simp only[go_sem,Qh,Qj,Qk,reduceIte]
   |true=>simp only[tkB];simp only[go_sem,Qh,Qj,Qk,reduceIte]
  ·cases b with
   |false=>simp only[tkC];simp only[go_sem,Qh,Qj,Qk,reduceIte]
   |true=>simp only[tkC];simp only[go_sem,Qh,Qj,Qk,reduceIte]
 |succ n L=>
  intro i t tk B h I J F;have hi:i<rs.length:=by omega
  have y:rs.drop i=rs.getD i rl0::rs.drop (i+1):=by rw[bt hi,aa,ac hi];rfl
  have O:=rG B (rs.getD i rl0) (E _ (bS rs rl0 i hi));rw[xo3 m b t tk h rs E (by omega) i hi B (by omega),y,cR];exact L (i+1) 86060 _ _ (.inr ⟨rfl,rfl⟩) (by omega) (by omega) (by omega)
def eP(m:Man):d9:=if fq m=0 then m.ruls.foldl mH (m.ents.foldl ot (hdM m)++bu 1 (m.ruls.length:Int))else []
theorem lY:∀(l:List Ent)(B:d9),(∀x∈l,x.name.length<=1000000/\x.dig.length<=1000000)->(l.foldl ot B).length<=B.length+l.length*2000007
 |[],B,_=>by simp
 |x::r,B,h=>by rw[cR,al];have E:=lY r (ot B x) (fun y C=>h y (aw _ C));obtain⟨a,c⟩:=h x aB;have F:=si B x a c;rw[bE];omega
theorem ux:∀(l:List Rul)(B:d9),(∀x∈l,x.text.length<=1000000)->B.length<=(l.foldl mH B).length/\(l.foldl mH B).length<=B.length+l.length*2000007
 |[],B,_=>by simp
 |x::r,B,h=>by
  rw[cR,al];have I:=ux r (mH B x) (fun y C=>h y (aw _ C));have F:=rG B x (h x aB)
  have E:B.length<=(mH B x).length:=by unfold mH;rw[ae,ae,eQ,ae];omega
  rw[bE];omega
theorem jQ{m:Man}(h:fq m=0):m.ents.length<=16/\m.ruls.length<=8:=by
 unfold fq at h
 repeat' split at h
 all_goals first|(exfalso;omega)|skip
 exact⟨by omega,by omega⟩
theorem f59(m:Man)(F:dx m):call T 59 [.agg m.sv] [] 0=some ⟨.byt (eP m) .no,[],[]⟩:=by
 have I:=f80 m F;have k1:((1:Nat):Int)=1:=rfl;have k4:((4:Nat):Int)=4:=rfl;have k6:((6:Nat):Int)=6:=rfl;have b4:=F.v;have b6:=F.rn;have y:=dk m.ents;have C:=dP m.ruls;unfold eP
 by_cases L:fq m=0
 ·obtain⟨h16,h8⟩:=jQ L
  rw[L]at I;rw[if_pos L];unfold hdM;have Z:=l4 [] 1 21 (by omega) (by omega) (by decide);rw[k1]at Z;generalize b3:([]++bu 1 21:d9)=B1 at*;have n1:B1.length<=1000:=by rw[<-b3];simp[cK]
  have u2:=xoi B1 m.vendor (by omega) (by omega);generalize a7:jJ B1 m.vendor=B2 at*;have n2:B2.length<=10000000:=by rw[<-a7,eQ];omega
  have J:=l4 B2 4 m.ver (by omega) (by omega) (by omega);rw[k4]at J;generalize a1:B2++bu 4 m.ver=B3 at*;have n3:B3.length<=10000004:=by rw[<-a1,ae,cK];omega
  have O:=l4 B3 4 m.flr (by omega) (by omega) (by omega);rw[k4]at O;generalize b1:B3++bu 4 m.flr=B4 at*;have n4:B4.length<=10000008:=by rw[<-b1,ae,cK];omega
  have u5:=l4 B4 6 m.frm (by omega) (by omega) (by omega);rw[k6]at u5;generalize a6:B4++bu 6 m.frm=B5 at*;have n5:B5.length<=10000014:=by rw[<-a6,ae,cK];omega
  have W:=l4 B5 6 m.til (by omega) (by omega) (by omega);rw[k6]at W;generalize a2:B5++bu 6 m.til=B6 at*;have n6:B6.length<=10000020:=by rw[<-a2,ae,cK];omega
  have Q:=l4 B6 1 (m.ents.length:Int) (by omega) (by omega) (by omega);rw[k1]at Q;generalize b0:B6++bu 1 (m.ents.length:Int)=B7 at*;have n7:B7.length<=10000021:=by rw[<-b0,ae,cK];omega
  obtain⟨b,h⟩:=xwJ m F h16 _ 0 false B7 rfl (by omega) (by omega);have n8:=lY m.ents B7 F.e;rw[aW,ay]at h;generalize m.ents.foldl ot B7=B8 at*;have u8:=l4 B8 1 (m.ruls.length:Int) (by omega) (by omega) (by omega);rw[k1]at u8;generalize a8:B8++bu 1 (m.ruls.length:Int)=B9 at*;have n9:B9.length<=10000022+16*2000007:=by rw[<-a8,ae,cK];omega
  obtain⟨t',tk',ht,E⟩:=xwI m b m.ruls F.r h8 _ 0 64060 (tkB b) B9 (.inl ⟨rfl,rfl⟩) rfl (by omega) (by omega);rw[aW,ay]at E;generalize m.ruls.foldl mH B9=b5 at*;obtain⟨mv,m1,m2,m3,m4,es,rs⟩:=m;simp only[Man.sv]at*;rw[aj xvx];cases b with
  |false=>
   rcases ht with⟨rfl,rfl⟩|⟨rfl,rfl⟩
   ·simp only[tkA,tkB]at h E
    simp only[go_sem,Qb,Qc,Qd,Qe,Qg,Qh,Qi,Qj,Qk,reduceCtorEq,reduceIte,I,Jb,Z,u2,J,O,u5,W,Q,ma,nU,y,h,u8,C,E]
   ·simp only[tkA,tkB,tkC]at h E
    simp only[go_sem,Qb,Qc,Qd,Qe,Qg,Qh,Qi,Qj,Qk,reduceCtorEq,reduceIte,I,Jb,Z,u2,J,O,u5,W,Q,ma,nU,y,h,u8,C,E]
  |true=>
   rcases ht with⟨rfl,rfl⟩|⟨rfl,rfl⟩
   ·simp only[tkA,tkB]at h E
    simp only[go_sem,Qb,Qc,Qd,Qe,Qg,Qh,Qi,Qj,Qk,reduceCtorEq,reduceIte,I,Jb,Z,u2,J,O,u5,W,Q,ma,nU,y,h,u8,C,E]
   ·simp only[tkA,tkB,tkC]at h E
    simp only[go_sem,Qb,Qc,Qd,Qe,Qg,Qh,Qi,Qj,Qk,reduceCtorEq,reduceIte,I,Jb,Z,u2,J,O,u5,W,Q,ma,nU,y,h,u8,C,E]
 ·rw[if_neg L]
  obtain⟨mv,m1,m2,m3,m4,es,rs⟩:=m;simp only[Man.sv]at*;rw[aj xvx];simp only[go_sem,Qe,Qh,Qi,Qj,Qk,reduceCtorEq,reduceIte,I,Jb,L]
def bX(m:Man):d9:=if eP m=[]then []else xF 21 (eP m)
theorem kf(m:Man)(y:dx m):(eP m).length<=100000000:=by
 unfold eP
 by_cases h:fq m=0
 ·rw[if_pos h]
  obtain⟨h16,F⟩:=jQ h;have I:=lY m.ents (hdM m) y.e;have C:=ux m.ruls (m.ents.foldl ot (hdM m)++bu 1 (m.ruls.length:Int)) y.r
  have E:(hdM m).length<=10000000:=by have:=y.v;unfold hdM;simp only[ae,eQ,cK,aA];omega
  rw[ae,cK]at C;omega
 ·rw[if_neg h];exact aX _
theorem xye(v:Int):b8 (Int.fdiv (aQ.wrap v) (2^0))=b8 v:=by
 rw[show(2:Int)^0=1 from rfl,Int.fdiv_one,bO];unfold b8
 congr 2
 omega
theorem tc(v:Int):bu 1 v=[b8 v]:=by rw[<-xye v];rfl
theorem I0(B:d9)(k:Nat)(v:Int)(C:1<=k)(h:k<=8)(y:B.length<=10000000000000):
 call T 64 [.byt B .no,.int .i64 k,.int .i64 v] [] 0=some ⟨.byt (B++bu k v) (.id 60),[],[60]⟩:=f64 B k v C h y
def tkR:Bool->Bool->LAa
 |false,false=> [103,16060,20060,24060,28060]
 |true,false=> [103,16060,20060,24060,28060,61060]
 |false,true=> [103,16060,20060,24060,28060,97060]
 |true,true=> [103,16060,20060,24060,28060,61060,97060]
theorem xv6(m:Man)(C:dx m)(b:Bool)(i:Nat)(hi:i<m.ents.length)(B:d9)(hB:B.length<=1000000000):
 run T (.loop sO) ⟨[(1,.ptr 101 0),(3,.byt B (.id 103)),(4,.int .i64 i)],[(101,.rc m.sv)],tkR b false⟩=
 run T (.loop sO) ⟨[(1,.ptr 101 0),(3,.byt (ot B (m.ents.getD i en0)) (.id 103)),(4,.int .i64 ((i+1:Nat):Int))],[(101,.rc m.sv)],tkR true false⟩:=by
 have W:((4:Nat):Int)=4:=rfl;have Z:=C.en;have L:=cg i (by omega);have O:=fU m.ents i hi;have h:=dk m.ents;obtain⟨a1,Q⟩:=C.e _ (bS m.ents en0 i hi);clear C;generalize m.ents.getD i en0=x at*;unfold ot;have n1:(B++bu 1 x.role).length<=1000000001:=by rw[ae,cK];omega
 have I:B.length+1<=140737488355328:=by omega
 have E:=f63 (B++bu 1 x.role) x.name (by omega) (by omega);have n2:(jJ (B++bu 1 x.role) x.name).length<=1010000000:=by rw[eQ];omega
 generalize jJ (B++bu 1 x.role) x.name=F at*;rw[tc]at E;have y:=I0 F 4 x.ver (by omega) (by omega) (by omega);rw[W]at y;have n3:(F++bu 4 x.ver).length<=1010000004:=by rw[ae,cK];omega
 generalize F++bu 4 x.ver=B3 at*;have J:B3.length+x.dig.length<=140737488355328:=by omega
 obtain⟨mv,m1,m2,m3,m4,es,rs⟩:=m;obtain⟨x1,x2,x3,x4⟩:=x;simp only[Man.sv,Ent.sv]at*;cases b with
 |false=>rw[ai];simp only[tkR];simp only[go_sem,Qb,Qc,Qd,Qe,Qg,Qh,Qi,Qj,Qk,reduceCtorEq,reduceIte,hi,L,O,h,I,E,y,J,Gv,xaY]
 |true=>rw[ai];simp only[tkR];simp only[go_sem,Qb,Qc,Qd,Qe,Qg,Qh,Qi,Qj,Qk,reduceCtorEq,reduceIte,hi,L,O,h,I,E,y,J,Gv,xaY]
theorem xwR(m:Man)(F:dx m)(h16:m.ents.length<=16):∀(n i:Nat)(b:Bool)(B:d9),m.ents.length-i=n->i<=m.ents.length->B.length<=20000000+i*2000007->
 ∃I,run T (.loop sO) ⟨[(1,.ptr 101 0),(3,.byt B (.id 103)),(4,.int .i64 i)],[(101,.rc m.sv)],tkR b false⟩=
 some (.x 0,⟨[(1,.ptr 101 0),(3,.byt ((m.ents.drop i).foldl ot B) (.id 103))],[(101,.rc m.sv)],tkR I false⟩):=by
 intro n;induction n with
 |zero=>
  intro i b B L O J;have h:=dk m.ents;have:i=m.ents.length:=by omega
  subst this;refine⟨b, ?_⟩;rw[bw,fo,ai];obtain⟨W,m1,m2,m3,m4,es,rs⟩:=m;simp only[Man.sv]at*;cases b with
  |false=>simp only[tkR];simp only[go_sem,Qe,Qh,Qi,Qj,Qk,reduceIte,h]
  |true=>simp only[tkR];simp only[go_sem,Qe,Qh,Qi,Qj,Qk,reduceIte,h]
 |succ n Q=>
  intro i b B L O J;have hi:i<m.ents.length:=by omega
  have C:m.ents.drop i=m.ents.getD i en0::m.ents.drop (i+1):=by rw[bt hi,aa,ac hi];rfl
  obtain⟨E,y⟩:=F.e _ (bS m.ents en0 i hi);have Z:=si B (m.ents.getD i en0) E y;rw[xv6 m F b i hi B (by omega),C,cR];exact Q (i+1) true _ (by omega) (by omega) (by omega)
theorem xv5(m:Man)(J:∀x∈m.ruls,x.text.length<=1000000)(hn:m.ruls.length<=1000000)(b c:Bool)(i:Nat)(hi:i<m.ruls.length)(B:d9)(hB:B.length<=1000000000):
 run T (.loop sN) ⟨[(1,.ptr 101 0),(3,.byt B (.id 103)),(6,.int .i64 i)],[(101,.rc m.sv)],tkR b c⟩=
 run T (.loop sN) ⟨[(1,.ptr 101 0),(3,.byt (mH B (m.ruls.getD i rl0)) (.id 103)),(6,.int .i64 ((i+1:Nat):Int))],[(101,.rc m.sv)],tkR b true⟩:=by
 have F:((4:Nat):Int)=4:=rfl;have O:=cg i (by omega);have W:=jY m.ruls i hi;have h:=dP m.ruls;have Z:=J _ (bS m.ruls rl0 i hi);clear J;generalize m.ruls.getD i rl0=x at*;unfold mH;have n1:(B++bu 1 x.kind).length<=1000000001:=by rw[ae,cK];omega
 have L:B.length+1<=140737488355328:=by omega
 have E:=f63 (B++bu 1 x.kind) x.text (by omega) (by omega);have n2:(jJ (B++bu 1 x.kind) x.text).length<=1010000000:=by rw[eQ];omega
 generalize jJ (B++bu 1 x.kind) x.text=y at*;rw[tc]at E;have C:=I0 y 4 x.lo (by omega) (by omega) (by omega);rw[F]at C;have n3:(y++bu 4 x.lo).length<=1010000004:=by rw[ae,cK];omega
 generalize y++bu 4 x.lo=Q at*;have I:=I0 Q 4 x.hi (by omega) (by omega) (by omega);rw[F]at I;obtain⟨mv,m1,m2,m3,m4,es,rs⟩:=m;obtain⟨x1,x2,x3,x4⟩:=x;simp only[Rul.sv,Man.sv]at*
 cases b<;>cases c<;>
  (rw[ai]
   simp only[tkR];simp only[go_sem,Qb,Qc,Qd,Qe,Qg,Qh,Qi,Qj,Qk,reduceCtorEq,reduceIte,hi,O,W,h,L,E,C,I,Gv,xaY])
theorem xwQ(m:Man)(C:∀x∈m.ruls,x.text.length<=1000000)(hn:m.ruls.length<=8)(b:Bool):∀(n i:Nat)(c:Bool)(B:d9),m.ruls.length-i=n->i<=m.ruls.length->B.length<=100000000+i*2000007->
 ∃J,run T (.loop sN) ⟨[(1,.ptr 101 0),(3,.byt B (.id 103)),(6,.int .i64 i)],[(101,.rc m.sv)],tkR b c⟩=
 some (.x 2,⟨[(3,.byt ((m.ruls.drop i).foldl mH B) (.id 103))],[(101,.rc m.sv)],tkR b J⟩):=by
 intro n;induction n with
 |zero=>
  intro i c B F I E;have h:=dP m.ruls;have:i=m.ruls.length:=by omega
  subst this;refine⟨c, ?_⟩;rw[bw,fo,ai];obtain⟨O,W,m2,m3,m4,es,rs⟩:=m;simp only[Man.sv]at*;cases b<;>cases c<;>(simp only[tkR];simp only[go_sem,Qe,Qh,Qj,Qk,reduceIte,h])
 |succ n L=>
  intro i c B F I E;have hi:i<m.ruls.length:=by omega
  have y:m.ruls.drop i=m.ruls.getD i rl0::m.ruls.drop (i+1):=by rw[bt hi,aa,ac hi];rfl
  have Q:=rG B (m.ruls.getD i rl0) (C _ (bS m.ruls rl0 i hi));rw[xv5 m C (by omega) b c i hi B (by omega),y,cR];exact L (i+1) true _ (by omega) (by omega) (by omega)
theorem f34(m:Man)(y:dx m):call T 34 [.agg m.sv] [] 0=some ⟨.byt (eP m) .no,[],[]⟩:=by
 have g1:=f62 m y;have k4:((4:Nat):Int)=4:=rfl;have k6:((6:Nat):Int)=6:=rfl;have a8:=y.v;have b1:=y.rn;have Q:=dk m.ents;have W:=dP m.ruls;unfold eP
 by_cases C:fq m=0
 ·obtain⟨h16,h8⟩:=jQ C
  rw[C]at g1;rw[if_pos C];unfold hdM;have a6:bu 1 21=[21]:=by rw[tc];rfl
  have u2:=f63 [21] m.vendor (by simp) (by omega);rw[a6,aE];generalize a2:jJ [21] m.vendor=B2 at*;have n2:B2.length<=10000000:=by rw[<-a2,eQ];simp;omega
  have u3:=I0 B2 4 m.ver (by omega) (by omega) (by omega);rw[k4]at u3;generalize J:B2++bu 4 m.ver=B3 at*;have n3:B3.length<=10000004:=by rw[<-J,ae,cK];omega
  have u4:=I0 B3 4 m.flr (by omega) (by omega) (by omega);rw[k4]at u4;generalize a7:B3++bu 4 m.flr=L at*;have n4:L.length<=10000008:=by rw[<-a7,ae,cK];omega
  have u5:=I0 L 6 m.frm (by omega) (by omega) (by omega);rw[k6]at u5;generalize a1:L++bu 6 m.frm=Z at*;have n5:Z.length<=10000014:=by rw[<-a1,ae,cK];omega
  have u6:=I0 Z 6 m.til (by omega) (by omega) (by omega);rw[k6]at u6;generalize O:Z++bu 6 m.til=h at*;have n6:h.length<=10000020:=by rw[<-O,ae,cK];omega
  have r6:h.length+1<=140737488355328:=by omega
  have n7:(h++bu 1 (m.ents.length:Int)).length<=10000021:=by rw[ae,cK];omega
  obtain⟨b,E⟩:=xwR m y h16 _ 0 false (h++bu 1 (m.ents.length:Int)) rfl (by omega) (by omega);have n8:=lY m.ents (h++bu 1 (m.ents.length:Int)) y.e;rw[aW,ay]at E;generalize m.ents.foldl ot (h++bu 1 (m.ents.length:Int))=F at*;rw[tc]at E;have r8:F.length+1<=140737488355328:=by omega
  have n9:(F++bu 1 (m.ruls.length:Int)).length<=10000022+16*2000007:=by rw[ae,cK];omega
  obtain⟨c,I⟩:=xwQ m y.r h8 b _ 0 false (F++bu 1 (m.ruls.length:Int)) rfl (by omega) (by omega);rw[aW,ay]at I;generalize m.ruls.foldl mH (F++bu 1 (m.ruls.length:Int))=b0 at*;rw[tc]at I;obtain⟨mv,m1,m2,m3,m4,es,rs⟩:=m;simp only[Man.sv]at*;rw[aj xvD]
  cases b<;>cases c<;>
   (simp only[tkR]at E I
    simp only[go_sem,Qe,Qg,Qh,Qi,Qj,Qk,reduceCtorEq,reduceIte,g1,xiy,u2,u3,u4,u5,u6,Gv,xaY,Q,r6,E,r8,W,I])
 ·rw[if_neg C]
  obtain⟨mv,m1,m2,m3,m4,es,rs⟩:=m;simp only[Man.sv]at*;rw[aj xvD];simp only[go_sem,Qe,Qh,Qi,Qj,Qk,reduceCtorEq,reduceIte,g1,xiy,C]
def jm(B:d9)(s:Rs):Ent×Rs:=(⟨(uR B 1 s).1,(bR B 12 (uR B 1 s).2).1,(uR B 4 (bR B 12 (uR B 1 s).2).2).1,(wR B 32 (uR B 4 (bR B 12 (uR B 1 s).2).2).2).1⟩,(wR B 32 (uR B 4 (bR B 12 (uR B 1 s).2).2).2).2)
def ji(B:d9)(s:Rs):Rul×Rs:=(⟨(uR B 1 s).1,(bR B 32 (uR B 1 s).2).1,(uR B 4 (bR B 32 (uR B 1 s).2).2).1,(uR B 4 (uR B 4 (bR B 32 (uR B 1 s).2).2).2).1⟩,(uR B 4 (uR B 4 (bR B 32 (uR B 1 s).2).2).2).2)
def fa(B:d9):Nat->List Ent->Rs->List Ent×Rs
 |0,es,s=>(es,s)
 |n+1,es,s=>if s.e=0 then fa B n (es++ [(jm B s).1]) (jm B s).2 else(es,s)
def eZ(B:d9):Nat->List Rul->Rs->List Rul×Rs
 |0,es,s=>(es,s)
 |n+1,es,s=>if s.e=0 then eZ B n (es++ [(ji B s).1]) (ji B s).2 else(es,s)
theorem qS{B:d9}{s:Rs}(h:dU B s):dU B (jm B s).2:=UE (eX (ri (eX h)))
theorem pX{B:d9}{s:Rs}(h:dU B s):dU B (ji B s).2:=eX (eX (ri (eX h)))
theorem zB{B:d9}:∀{n:Nat}{es:List Ent}{s:Rs},dU B s->dU B (fa B n es s).2
 |0,_,_,h=>h
 |n+1,es,s,h=>by
  unfold fa;split
  ·exact zB (qS h)
  ·exact h
theorem yu{B:d9}:∀{n:Nat}{es:List Rul}{s:Rs},dU B s->dU B (eZ B n es s).2
 |0,_,_,h=>h
 |n+1,es,s,h=>by
  unfold eZ;split
  ·exact yu (pX h)
  ·exact h
theorem uB{B:d9}:∀{n:Nat}{es:List Ent}{s:Rs},(fa B n es s).1.length<=es.length+n
 |0,_,_=>aJ _
 |n+1,es,s=>by
  unfold fa;split
  ·have:=uB (B:=B) (n:=n) (es:=es++ [(jm B s).1]) (s:=(jm B s).2)
   rw[ae,aF]at this;omega
  ·show es.length<=_;omega
theorem tX{B:d9}:∀{n:Nat}{es:List Rul}{s:Rs},(eZ B n es s).1.length<=es.length+n
 |0,_,_=>aJ _
 |n+1,es,s=>by
  unfold eZ;split
  ·have:=tX (B:=B) (n:=n) (es:=es++ [(ji B s).1]) (s:=(ji B s).2)
   rw[ae,aF]at this;omega
  ·show es.length<=_;omega
def mR(v:d9)(h fl E C:Int)(es:List Ent)(t:Tok)(rs:List Rul)(y:Tok):aH:= .rc [.str v,.int .i64 h,.int .i64 fl,.int .i64 E,.int .i64 C,.lst 4 (df es) t,.lst 4 (dS rs) y]
def zR:aH:= .rc [.str [],.int .i64 0,.int .i64 0,.int .i64 0,.int .i64 0,.lst 4 [] .clip,.lst 4 [] .clip]
theorem zG(l:List Ent)(x:Ent):df (l++ [x])=df l++ [x.sv]:=by rw[df,df,cf];rfl
theorem yz(l:List Rul)(x:Rul):dS (l++ [x])=dS l++ [x.sv]:=by rw[dS,dS,cf];rfl
theorem xwP(B:d9)(hB:B.length<=1000000000)(v:d9)(ve fl fr ti:Int):∀(n:Nat)(es:List Ent)(s:Rs)(t:Tok)(tk:LAa)(t0:Nat),es.length+n<=1000->dU B s->
 (t= .clip/\tk=[]/\es=[]\/t= .id 160/\tk=[160])->(t0=34060\/t0=55060)->
 ∃(t':Tok)(tk':LAa)(I:Nat),(t'= .clip/\tk'=[]/\(fa B n es s).1=[]\/t'= .id 160/\tk'=[160])/\(I=34060\/I=55060\/I=39060)/\
  run T (.loop BX) ⟨[(2,.ptr 102 0),(4,.ptr 12100 0),(5,.ptr 105 0),(6,.int .i64 n)],[(102,zR),(105,mR v ve fl fr ti es t [] .clip),(12100,rdO B t0 s)],tk++ [t0]⟩=
   some (.x 0,⟨[(2,.ptr 102 0),(4,.ptr 12100 0),(5,.ptr 105 0)],[(102,zR),(105,mR v ve fl fr ti (fa B n es s).1 t' [] .clip),(12100,rdO B I (fa B n es s).2)],tk'++ [I]⟩):=by
 intro n;induction n with
 |zero=>intro es s t tk t0 h1 h2 Q C;refine⟨t,tk,t0,Q,by omega, ?_⟩;unfold fa;rw[ai];rcases Q with⟨rfl,rfl,rfl⟩|⟨rfl,rfl⟩<;>rcases C with rfl|rfl<;>simp only[zR,mR,rdO]<;>simp only[go_sem,Q4,Qe,Qg,Qh,Qi,Qj,Qk,reduceIte,ay]
 |succ n ih=>
  intro es s t tk t0 h1 h2 Q C;have W:(0:Int)<((n+1:Nat):Int):=by omega
  have e1:af.wrap (((n+1:Nat):Int)-1)=(n:Int):=wZ (by omega)
  have g0:=f77 B s
  by_cases O:s.e=0
  ·obtain⟨t',tk',I,q1,q2,h⟩:=ih (es++ [(jm B s).1]) (jm B s).2 (.id 160) [160] 55060 (by rw[ae,aF];omega) (qS h2) (.inr ⟨rfl,rfl⟩) (.inr rfl)
   have hu:fa B (n+1) es s=fa B n (es++ [(jm B s).1]) (jm B s).2:=by
    conv=>lhs;unfold fa
    rw[if_pos O]
   rw[hu];refine⟨t',tk',I,q1,q2, ?_⟩;have hv:=dk es;have b1:(es.length+1)*56<=140737488355328:=by omega
   generalize fa B n (es++ [(jm B s).1]) (jm B s).2=Z at*;have k1:=eX (n:=1) h2;have E:=f75 B hB 1 (by omega) (by omega) s h2;unfold jm mR at h;rw[zG]at h;generalize uR B 1 s=p1 at*;obtain⟨x1,s1⟩:=p1;simp only at k1 E h;have k2:=ri (n:=12) k1;have J:=f76 B hB 12 (by omega) s1 k1;generalize bR B 12 s1=p2 at*;obtain⟨x2,s2⟩:=p2;simp only at k2 J h;have k3:=eX (n:=4) k2;have L:=f75 B hB 4 (by omega) (by omega) s2 k2;generalize uR B 4 s2=p3 at*;obtain⟨x3,s3⟩:=p3;simp only at k3 L h;have F:=f78 B hB 32 (by omega) s3 k3;generalize wR B 32 s3=p4 at*;obtain⟨x4,s4⟩:=p4;simp only at F h;rw[show((1:Nat):Int)=1 from rfl]at E;rw[show((12:Nat):Int)=12 from rfl]at J;rw[show((4:Nat):Int)=4 from rfl]at L;rw[show((32:Nat):Int)=32 from rfl]at F;rw[O]at g0;simp only[zR,mR,rdO,Ent.sv,bi,aE]at g0 E J L F h ⊢;rw[O]at g0 E;rw[O];rw[ai];rcases Q with⟨rfl,rfl,rfl⟩|⟨rfl,rfl⟩<;>rcases C with rfl|rfl
   ·have y:df []=[]:=rfl
    simp only[y,aE]at h ⊢;simp only[go_sem,Qe,Qg,Qh,Qi,Qj,Qk,reduceIte,W,e1,g0,Jc,E,rq,J,Jd,L,F,Bs,h]
   ·have y:df []=[]:=rfl
    simp only[y,aE]at h ⊢;simp only[go_sem,Qe,Qg,Qh,Qi,Qj,Qk,reduceIte,W,e1,g0,Jc,E,rq,J,Jd,L,F,Bs,h]
   ·simp only[bi,aE]
    simp only[go_sem,Qe,Qg,Qh,Qi,Qj,Qk,reduceIte,W,e1,g0,Jc,E,rq,J,Jd,L,F,Bs,hv,b1,h]
   ·simp only[bi,aE]
    simp only[go_sem,Qe,Qg,Qh,Qi,Qj,Qk,reduceIte,W,e1,g0,Jc,E,rq,J,Jd,L,F,Bs,hv,b1,h]
  ·have hu:fa B (n+1) es s=(es,s):=by
    unfold fa;rw[if_neg O]
   rw[hu];refine⟨t,tk,39060,Q,by omega, ?_⟩;rw[ai];simp only[zR,mR,rdO]at g0 ⊢;rcases Q with⟨rfl,rfl,rfl⟩|⟨rfl,rfl⟩<;>rcases C with rfl|rfl<;>simp only[go_sem,Qe,Qg,Qh,Qi,Qj,Qk,reduceIte,W,g0,Jc,O,bi,aE]
theorem xwO(B:d9)(hB:B.length<=1000000000)(v:d9)(ve fl fr ti:Int)(es:List Ent)(t2:Tok)(h:LAa)(I:t2= .clip/\h=[]/\es=[]\/t2= .id 160/\h=[160]):∀(n:Nat)(rs:List Rul)(s:Rs)(t:Tok)(tk:LAa)(t0:Nat),rs.length+n<=1000->dU B s->
 (t= .clip/\tk=[]/\rs=[]\/t= .id 190/\tk=[190])->(t0=64060\/t0=85060)->
 ∃(Q:Tok)(tk':LAa)(E:Nat),(Q= .clip/\tk'=[]/\(eZ B n rs s).1=[]\/Q= .id 190/\tk'=[190])/\(E=64060\/E=85060\/E=69060)/\
  run T (.loop BW) ⟨[(2,.ptr 102 0),(4,.ptr 12100 0),(5,.ptr 105 0),(8,.int .i64 n)],[(102,zR),(105,mR v ve fl fr ti es t2 rs t),(12100,rdO B t0 s)],h++(tk++ [t0])⟩=
   some (.x 2,⟨[(2,.ptr 102 0),(4,.ptr 12100 0),(5,.ptr 105 0)],[(102,zR),(105,mR v ve fl fr ti es t2 (eZ B n rs s).1 Q),(12100,rdO B E (eZ B n rs s).2)],h++(tk'++ [E])⟩):=by
 intro n;induction n with
 |zero=>intro rs s t tk t0 h1 h2 L C;refine⟨t,tk,t0,L,by omega, ?_⟩;unfold eZ;rw[ai];rcases I with⟨rfl,rfl,rfl⟩|⟨rfl,rfl⟩<;>rcases L with⟨rfl,rfl,rfl⟩|⟨rfl,rfl⟩<;>rcases C with rfl|rfl<;>simp only[zR,mR,rdO]<;>simp only[go_sem,Q4,Qe,Qg,Qh,Qi,Qj,Qk,reduceIte,ay]
 |succ n ih=>
  intro rs s t tk t0 h1 h2 L C;have hp:(0:Int)<((n+1:Nat):Int):=by omega
  have e1:af.wrap (((n+1:Nat):Int)-1)=(n:Int):=wZ (by omega)
  have g0:=f77 B s
  by_cases J:s.e=0
  ·obtain⟨Q,tk',E,q1,q2,y⟩:=ih (rs++ [(ji B s).1]) (ji B s).2 (.id 190) [190] 85060 (by rw[ae,aF];omega) (pX h2) (.inr ⟨rfl,rfl⟩) (.inr rfl)
   have hu:eZ B (n+1) rs s=eZ B n (rs++ [(ji B s).1]) (ji B s).2:=by
    conv=>lhs;unfold eZ
    rw[if_pos J]
   rw[hu];refine⟨Q,tk',E,q1,q2, ?_⟩;have hv:=dP rs;have b1:(rs.length+1)*40<=140737488355328:=by omega
   generalize eZ B n (rs++ [(ji B s).1]) (ji B s).2=Z at*;have k1:=eX (n:=1) h2;have W:=f75 B hB 1 (by omega) (by omega) s h2;unfold ji mR at y;rw[yz]at y;generalize uR B 1 s=p1 at*;obtain⟨x1,s1⟩:=p1;simp only at k1 W y;have k2:=ri (n:=32) k1;have g2:=f76 B hB 32 (by omega) s1 k1;generalize bR B 32 s1=p2 at*;obtain⟨x2,s2⟩:=p2;simp only at k2 g2 y;have k3:=eX (n:=4) k2;have g3:=f75 B hB 4 (by omega) (by omega) s2 k2;generalize uR B 4 s2=p3 at*;obtain⟨x3,s3⟩:=p3;simp only at k3 g3 y;have g4:=f75 B hB 4 (by omega) (by omega) s3 k3;generalize uR B 4 s3=p4 at*;obtain⟨x4,s4⟩:=p4;simp only at g4 y;rw[show((1:Nat):Int)=1 from rfl]at W;rw[show((32:Nat):Int)=32 from rfl]at g2;rw[show((4:Nat):Int)=4 from rfl]at g3 g4;rw[J]at g0;simp only[zR,mR,rdO,Rul.sv,bi,aE]at g0 W g2 g3 g4 y ⊢;rw[J]at g0 W;rw[J];rw[ai];rcases I with⟨rfl,rfl,rfl⟩|⟨rfl,rfl⟩<;>rcases L with⟨rfl,rfl,rfl⟩|⟨rfl,rfl⟩<;>rcases C with rfl|rfl
   all_goals
    have O:dS []=[]:=rfl;have F:df []=[]:=rfl;simp only[O,F,aE,bi]at y ⊢;simp only[go_sem,Qe,Qg,Qh,Qi,Qj,Qk,reduceIte,hp,e1,g0,Jc,W,rq,g2,Jd,g3,g4,hv,b1,y]
  ·have hu:eZ B (n+1) rs s=(rs,s):=by
    unfold eZ;rw[if_neg J]
   rw[hu];refine⟨t,tk,69060,L,by omega, ?_⟩;rw[ai];simp only[zR,mR,rdO]at g0 ⊢;rcases I with⟨rfl,rfl,rfl⟩|⟨rfl,rfl⟩<;>rcases L with⟨rfl,rfl,rfl⟩|⟨rfl,rfl⟩<;>rcases C with rfl|rfl<;>simp only[go_sem,Qe,Qg,Qh,Qi,Qj,Qk,reduceIte,hp,g0,Jc,J,bi,aE]
def xqU(x:Ent):Prop:=0<=x.ver/\x.ver<=1000000/\x.name.length<=1000000
theorem xal{l:List Ent}{i:Nat}(h:m6 l i=0):1<=(l.getD i en0).role/\(l.getD i en0).role<=3/\0<=(l.getD i en0).ver/\(l.getD i en0).ver<=1000000/\(l.getD i en0).dig.length=32/\Pr.nameB (l.getD i en0).name=true:=by
 unfold m6 at h;generalize l.getD i en0=x at*
 repeat' split at h
 all_goals first|omega|skip
 all_goals (refine⟨by omega,by omega,by omega,by omega,by omega,by assumption⟩)
theorem zF(l:List Ent):∀(n i:Nat),iK l n i=0->∀k,i<=k->k<i+n->m6 l k=0
 |0,i,_,k,h1,h2=>by omega
 |n+1,i,h,k,h1,h2=>by
  unfold iK at h
  by_cases y:m6 l i=0
  ·rw[if_pos y]at h
   rcases bK i k with C|C
   ·exact zF l n (i+1) h k (by omega) (by omega)
   ·have:k=i:=by omega
    rw[this];exact y
  ·rw[if_neg y]at h;exact absurd h y
theorem vS{m:Man}(h:fq m=0):iK m.ents m.ents.length 0=0/\iU m.ruls=0/\m.ents.length<=16/\m.ruls.length<=8/\Pr.nameB m.vendor=true/\0<=m.flr/\m.flr<=m.ver/\m.ver<=1000000/\0<=m.frm/\m.frm<m.til/\m.til<=1099511627776:=by
 unfold fq at h
 by_cases y:Pr.nameB m.vendor=true
 ·rw[if_pos y]at h
  repeat' split at h
  all_goals first|(exfalso;omega)|skip
  refine⟨by assumption,h,by omega,by omega,y,by omega,by omega,by omega,by omega,by omega,by omega⟩
 ·rw[if_neg y]at h;omega
theorem ZD{m:Man}(h:fq m=0):∀x∈m.ents,1<=x.role/\x.role<=3/\xqU x/\x.dig.length=32/\Pr.nameB x.name=true:=by
 intro x C;obtain⟨i,hi,rfl⟩:=bp C;have y:=xal (zF m.ents _ 0 (vS h).1 i (aX _) (by omega));have e:m.ents.getD i en0=m.ents[i]:=by rw[aa,ac hi];rfl
 rw[e]at y;obtain⟨a,b,c,d,f,g⟩:=y;have:=lU g;exact⟨a,b,⟨c,d,by omega⟩,f,g⟩
theorem VK{B P X S:d9}(m:Nat)(h:B=P++((bu 2 (X.length:Int)++X)++S))(L:X.length<=m)(Q:X.length<65536):bR B m ⟨P.length,0⟩=(X,⟨(P++(bu 2 (X.length:Int)++X)).length,0⟩):=by
 have hn:nB (bu 2 (X.length:Int))=X.length:=by
  have O:((256^2:Nat):Int)=65536:=by decide
  have:=ku 2 (X.length:Int) (by omega) (by rw[O];omega) (by omega);omega
 have C:(bu 2 (X.length:Int)).length=2:=cK ..;have F:B=P++(bu 2 (X.length:Int)++(X++S)):=by rw[h,az (bu 2 _)]
 have y:B=(P++bu 2 (X.length:Int))++(X++S):=by rw[F,az]
 obtain⟨I,J⟩:=rj F;obtain⟨E,b2⟩:=rj y;rw[C]at I J;rw[ae,C]at E b2;unfold bR;rw[if_pos rfl];simp only;rw[if_pos J,I,hn,if_pos L,if_pos b2,E];rw[ae,ae,C]
def qT(x:Ent):d9:=bu 1 x.role++(bu 2 (x.name.length:Int)++x.name)++bu 4 x.ver++x.dig
def uD(r:Rul):d9:=bu 1 r.kind++(bu 2 (r.text.length:Int)++r.text)++bu 4 r.lo++bu 4 r.hi
theorem wh(B X:d9)(h:X.length<65536):jJ B X=B++(bu 2 (X.length:Int)++X):=by unfold jJ bu;rw[aV (by omega),az]
theorem xav(B:d9)(x:Ent)(h:x.name.length<65536):ot B x=B++qT x:=by unfold ot qT;rw[wh _ _ h];simp only[az]
theorem YV(B:d9)(x:Rul)(h:x.text.length<65536):mH B x=B++uD x:=by unfold mH uD;rw[wh _ _ h];simp only[az]
theorem zj:∀(l:List Ent)(B:d9),(∀x∈l,x.name.length<65536)->l.foldl ot B=B++(l.map qT).flatten
 |[],B,_=>by simp
 |x::r,B,h=>by rw[cR,xav _ _ (h x aB),zj r _ (fun y C=>h y (aw _ C)),aI,cD,az]
theorem zi:∀(l:List Rul)(B:d9),(∀x∈l,x.text.length<65536)->l.foldl mH B=B++(l.map uD).flatten
 |[],B,_=>by simp
 |x::r,B,h=>by rw[cR,YV _ _ (h x aB),zi r _ (fun y C=>h y (aw _ C)),aI,cD,az]
structure xoy(x:Ent):Prop where
 r0:0<=x.role
 r1:x.role<256
 n:x.name.length<=12
 v0:0<=x.ver
 v1:x.ver<4294967296
 d:x.dig.length=32
structure xox(x:Rul):Prop where
 r0:0<=x.kind
 r1:x.kind<256
 n:x.text.length<=32
 v0:0<=x.lo
 v1:x.lo<4294967296
 w0:0<=x.hi
 w1:x.hi<4294967296
theorem xaj{B P S:d9}{x:Ent}(y:xoy x)(h:B=P++(qT x++S)):jm B ⟨P.length,0⟩=(x,⟨(P++qT x).length,0⟩):=by unfold qT at h;have C:=jM (B:=B) (P:=P) (X:=bu 1 x.role) (S:=(bu 2 (x.name.length:Int)++x.name)++(bu 4 x.ver++(x.dig++S))) 1 (by rw[h];simp only[az]) (cK ..);have E:=VK (B:=B) (P:=P++bu 1 x.role) (X:=x.name) (S:=bu 4 x.ver++(x.dig++S)) 12 (by rw[h];simp only[az]) y.n (by have:=y.n;omega);have a3:=jM (B:=B) (P:=P++bu 1 x.role++(bu 2 (x.name.length:Int)++x.name)) (X:=bu 4 x.ver) (S:=x.dig++S) 4 (by rw[h];simp only[az]) (cK ..);have a4:=xa6 (B:=B) (P:=P++bu 1 x.role++(bu 2 (x.name.length:Int)++x.name)++bu 4 x.ver) (X:=x.dig) (S:=S) 32 (by rw[h];simp only[az]) y.d;rw[ku 1 x.role y.r0 (by rw[pp1];exact y.r1) (by have:=y.r1;omega)]at C;rw[ku 4 x.ver y.v0 (by rw[pp4];exact y.v1) (by have:=y.v1;omega)]at a3;unfold jm;rw[C];simp only;rw[E];simp only;rw[a3];simp only;rw[a4];unfold qT;simp only[az]
theorem YT{B P S:d9}{x:Rul}(y:xox x)(h:B=P++(uD x++S)):ji B ⟨P.length,0⟩=(x,⟨(P++uD x).length,0⟩):=by unfold uD at h;have C:=jM (B:=B) (P:=P) (X:=bu 1 x.kind) (S:=(bu 2 (x.text.length:Int)++x.text)++(bu 4 x.lo++(bu 4 x.hi++S))) 1 (by rw[h];simp only[az]) (cK ..);have E:=VK (B:=B) (P:=P++bu 1 x.kind) (X:=x.text) (S:=bu 4 x.lo++(bu 4 x.hi++S)) 32 (by rw[h];simp only[az]) y.n (by have:=y.n;omega);have a3:=jM (B:=B) (P:=P++bu 1 x.kind++(bu 2 (x.text.length:Int)++x.text)) (X:=bu 4 x.lo) (S:=bu 4 x.hi++S) 4 (by rw[h];simp only[az]) (cK ..);have a4:=jM (B:=B) (P:=P++bu 1 x.kind++(bu 2 (x.text.length:Int)++x.text)++bu 4 x.lo) (X:=bu 4 x.hi) (S:=S) 4 (by rw[h];simp only[az]) (cK ..);rw[ku 1 x.kind y.r0 (by rw[pp1];exact y.r1) (by have:=y.r1;omega)]at C;rw[ku 4 x.lo y.v0 (by rw[pp4];exact y.v1) (by have:=y.v1;omega)]at a3;rw[ku 4 x.hi y.w0 (by rw[pp4];exact y.w1) (by have:=y.w1;omega)]at a4;unfold ji;rw[C];simp only;rw[E];simp only;rw[a3];simp only;rw[a4];unfold uD;simp only[az]
theorem zE{B:d9}:∀(l:List Ent)(es:List Ent)(P S:d9),(∀x∈l,xoy x)->B=P++((l.map qT).flatten++S)->fa B l.length es ⟨P.length,0⟩=(es++l,⟨(P++(l.map qT).flatten).length,0⟩)
 |[],es,P,S,_,_=>by simp[fa]
 |x::r,es,P,S,hx,h=>by have a:=xaj (B:=B) (P:=P) (S:=(r.map qT).flatten++S) (hx x aB) (by rw[h,aI,cD];simp only[az]);rw[al];unfold fa;rw[if_pos rfl,a];simp only;rw[zE r (es++ [x]) (P++qT x) S (fun y C=>hx y (aw _ C)) (by rw[h,aI,cD];simp only[az]),aI,cD];simp only[az,bi,aE]
theorem yx{B:d9}:∀(l:List Rul)(es:List Rul)(P S:d9),(∀x∈l,xox x)->B=P++((l.map uD).flatten++S)->eZ B l.length es ⟨P.length,0⟩=(es++l,⟨(P++(l.map uD).flatten).length,0⟩)
 |[],es,P,S,_,_=>by simp[eZ]
 |x::r,es,P,S,hx,h=>by have a:=YT (B:=B) (P:=P) (S:=(r.map uD).flatten++S) (hx x aB) (by rw[h,aI,cD];simp only[az]);rw[al];unfold eZ;rw[if_pos rfl,a];simp only;rw[yx r (es++ [x]) (P++uD x) S (fun y C=>hx y (aw _ C)) (by rw[h,aI,cD];simp only[az]),aI,cD];simp only[az,bi,aE]
def hV(B:d9):d9×Rs:=bR B 12 (uR B 1 ⟨0,0⟩).2
def hE(B:d9):Int×Rs:=uR B 4 (hV B).2
def hF(B:d9):Int×Rs:=uR B 4 (hE B).2
def hM(B:d9):Int×Rs:=uR B 6 (hF B).2
def hT(B:d9):Int×Rs:=uR B 6 (hM B).2
def hN(B:d9):Int×Rs:=uR B 1 (hT B).2
def hL(B:d9):List Ent×Rs:=fa B (hN B).1.toNat [] (hN B).2
def hK(B:d9):Int×Rs:=uR B 1 (hL B).2
def hR(B:d9):List Rul×Rs:=eZ B (hK B).1.toNat [] (hK B).2
def oT(B:d9):Man:=⟨(hV B).1,(hE B).1,(hF B).1,(hM B).1,(hT B).1,(hL B).1,(hR B).1⟩
def okP(B:d9):Prop:=(uR B 1 ⟨0,0⟩).1=21/\eR B (hR B).2=0/\fq (oT B)=0
instance (B:List UInt8):Decidable (okP B):=by unfold okP;infer_instance
def jT(B:d9):Option Man:=if okP B then some (oT B)else none
theorem xnP{k:Int}{t:d9}{lo hi:Int}(h:chk k t lo hi=0):1<=k/\k<=4/\t.length<=32/\0<=lo/\lo<=1000000000/\0<=hi/\hi<=1000000000:=by
 unfold chk at h
 repeat' split at h
 all_goals first|(exfalso;omega)|skip
 ·refine⟨by omega,by omega,by omega,by omega,by omega,by omega,by omega⟩
 ·rename_i y
  refine⟨by omega,by omega,by rw[y];simp,by omega,by omega,by omega,by omega⟩
 ·refine⟨by omega,by omega,by omega,by omega,by omega,by omega,by omega⟩
theorem yo:∀{l:List Rul},iU l=0->∀r∈l,pY r=0
 |[],_,r,hr=>by cases hr
 |x::t,h,r,hr=>by
  unfold iU at h
  by_cases y:pY x=0
  ·rw[if_pos y]at h
   rcases av.1 hr with rfl|hr
   ·exact y
   ·exact yo h r hr
  ·rw[if_neg y]at h;exact absurd h y
theorem Kt{m:Man}(h:fq m=0):∀x∈m.ents,xoy x:=by intro x y;obtain⟨F,I,⟨a3,a4,a5⟩,E,C⟩:=ZD h x y;exact⟨by omega,by omega,(lU C).2,a3,by omega,E⟩
theorem Ks{m:Man}(h:fq m=0):∀x∈m.ruls,xox x:=by intro x y;obtain⟨F,I,a3,a4,a5,C,E⟩:=xnP (yo (vS h).2.1 x y);exact⟨by omega,by omega,a3,a4,by omega,C,by omega⟩
theorem mz{m:Man}(h:fq m=0):jT (eP m)=some m:=by
 obtain⟨-, -,hn,hr,hv,u0,u1,u2,u3,u4,u5⟩:=vS h;have y:=Kt h;have C:=Ks h;have I:=(lU hv).2
 have key:eP m=bu 1 21++((bu 2 (m.vendor.length:Int)++m.vendor)++(bu 4 m.ver++(bu 4 m.flr++(bu 6 m.frm++(bu 6 m.til++(bu 1 (m.ents.length:Int)++((m.ents.map qT).flatten++(bu 1 (m.ruls.length:Int)++((m.ruls.map uD).flatten++ []))))))))):=by unfold eP hdM;rw[if_pos h,zj _ _ (fun x J=>by have:=(y x J).n;omega),zi _ _ (fun x J=>by have:=(C x J).n;omega),wh _ _ (by omega)];simp only[az,aE,bx]
 generalize eP m=B at*;have a0:=jM (B:=B) (P:=[]) 1 key (cK 1 21);have a1:=VK (B:=B) (P:=bu 1 21) 12 key I (by omega);have a2:=jM (B:=B) (P:=bu 1 21++(bu 2 (m.vendor.length:Int)++m.vendor)) 4 (by rw[key];simp only[az];rfl) (cK 4 m.ver);have a3:=jM (B:=B) (P:=bu 1 21++(bu 2 (m.vendor.length:Int)++m.vendor)++bu 4 m.ver) 4 (by rw[key];simp only[az];rfl) (cK 4 m.flr);have a4:=jM (B:=B) (P:=bu 1 21++(bu 2 (m.vendor.length:Int)++m.vendor)++bu 4 m.ver++bu 4 m.flr) 6 (by rw[key];simp only[az];rfl) (cK 6 m.frm);have a5:=jM (B:=B) (P:=bu 1 21++(bu 2 (m.vendor.length:Int)++m.vendor)++bu 4 m.ver++bu 4 m.flr++bu 6 m.frm) 6 (by rw[key];simp only[az];rfl) (cK 6 m.til);have a6:=jM (B:=B) (P:=bu 1 21++(bu 2 (m.vendor.length:Int)++m.vendor)++bu 4 m.ver++bu 4 m.flr++bu 6 m.frm++bu 6 m.til) 1 (by rw[key];simp only[az];rfl) (cK 1 (m.ents.length:Int));have a7:=zE (B:=B) m.ents [] (bu 1 21++(bu 2 (m.vendor.length:Int)++m.vendor)++bu 4 m.ver++bu 4 m.flr++bu 6 m.frm++bu 6 m.til++bu 1 (m.ents.length:Int)) _ y (by rw[key];simp only[az];rfl);have a8:=jM (B:=B) (P:=bu 1 21++(bu 2 (m.vendor.length:Int)++m.vendor)++bu 4 m.ver++bu 4 m.flr++bu 6 m.frm++bu 6 m.til++bu 1 (m.ents.length:Int)++(m.ents.map qT).flatten) 1 (by rw[key];simp only[az];rfl) (cK 1 (m.ruls.length:Int));have a9:=yx (B:=B) m.ruls [] (bu 1 21++(bu 2 (m.vendor.length:Int)++m.vendor)++bu 4 m.ver++bu 4 m.flr++bu 6 m.frm++bu 6 m.til++bu 1 (m.ents.length:Int)++(m.ents.map qT).flatten++bu 1 (m.ruls.length:Int)) [] C (by rw[key];simp only[az])
 rw[ku 1 21 (by omega) (by rw[pp1];omega) (by omega)]at a0;rw[ku 4 m.ver (by omega) (by rw[pp4];omega) (by omega)]at a2;rw[ku 4 m.flr (by omega) (by rw[pp4];omega) (by omega)]at a3;rw[ku 6 m.frm (by omega) (by rw[pp6];omega) (by omega)]at a4;rw[ku 6 m.til (by omega) (by rw[pp6];omega) (by omega)]at a5;rw[ku 1 (m.ents.length:Int) (by omega) (by rw[pp1];omega) (by omega)]at a6;rw[ku 1 (m.ruls.length:Int) (by omega) (by rw[pp1];omega) (by omega)]at a8;rw[aA,aE]at a0;have L:=(congrArg (fun z:Int×Rs=>bR B 12 z.2) a0).trans a1;change hV B=_ at L;have F:=(congrArg (fun z:d9×Rs=>uR B 4 z.2) L).trans a2;change hE B=_ at F;have W:=(congrArg (fun z:Int×Rs=>uR B 4 z.2) F).trans a3;change hF B=_ at W;have Q:=(congrArg (fun z:Int×Rs=>uR B 6 z.2) W).trans a4;change hM B=_ at Q;have T:=(congrArg (fun z:Int×Rs=>uR B 6 z.2) Q).trans a5;change hT B=_ at T;have q6:=(congrArg (fun z:Int×Rs=>uR B 1 z.2) T).trans a6;change hN B=_ at q6;have Z:=(congrArg (fun z:Int×Rs=>fa B z.1.toNat [] z.2) q6).trans a7;change hL B=_ at Z;have q8:=(congrArg (fun z:List Ent×Rs=>uR B 1 z.2) Z).trans a8;change hK B=_ at q8;have O:=(congrArg (fun z:Int×Rs=>eZ B z.1.toNat [] z.2) q8).trans a9;change hR B=_ at O
 have hm:oT B=m:=by unfold oT;rw[L,F,W,Q,T,Z,O];rfl
 have E:eR B (hR B).2=0:=by
  rw[O];unfold eR;rw[if_pos rfl,if_neg];simp only
  conv=>rhs;rw[key]
  simp only[az,bx];omega
 unfold jT;rw[if_pos ⟨by rw[a0],E,by rw[hm];exact h⟩,hm]
theorem xam{m n:Man}(y:fq m=0)(hn:fq n=0)(h:eP m=eP n):m=n:=by have:=mz y;rw[h,mz hn]at this;exact(ax.inj this).symm
theorem pE(B:d9)(m:Nat)(s:Rs):(bR B m s).1.length<=m:=by
 unfold bR;split
 ·split
  ·split
   ·split
    ·rename_i h _;show(eT _ _).length<=_;rw[aq];omega
    ·exact aX _
   ·exact aX _
  ·exact aX _
 ·exact aX _
theorem Lo(B:d9)(m:Nat)(s:Rs):(wR B m s).1.length<=m:=by
 unfold wR;split
 ·split
  ·show(eT _ _).length<=_;rw[aq];omega
  ·exact aX _
 ·exact aX _
theorem pA(B:d9)(s:Rs):0<=(uR B 1 s).1/\(uR B 1 s).1<256:=by
 unfold uR;split
 ·split
  ·have h:=Iv ((B.drop s.a).take 1)
   have y:((B.drop s.a).take 1).length<=1:=by rw[aq];omega
   have C:256^((B.drop s.a).take 1).length<=256^1:=Nat.pow_le_pow_right (by decide) y;have E:(256:Nat)^1=256:=by decide
   constructor
   ·exact Int.natCast_nonneg _
   ·show((nB _:Nat):Int)<256;omega
  ·exact⟨Int.le_refl _,by show(0:Int)<256;decide⟩
 ·exact⟨Int.le_refl _,by show(0:Int)<256;decide⟩
theorem zD{B:d9}:∀{n:Nat}{es:List Ent}{s:Rs},(∀x∈es,x.name.length<=12/\x.dig.length<=32)->∀x∈(fa B n es s).1,x.name.length<=12/\x.dig.length<=32
 |0,_,_,h=>h
 |n+1,es,s,h=>by
  unfold fa;split
  ·refine zD fun x y=> ?_
   rw[am,bj]at y;rcases y with y|rfl
   ·exact h x y
   ·exact⟨pE _ _ _,Lo _ _ _⟩
  ·exact h
theorem yw{B:d9}:∀{n:Nat}{es:List Rul}{s:Rs},(∀x∈es,x.text.length<=32)->∀x∈(eZ B n es s).1,x.text.length<=32
 |0,_,_,h=>h
 |n+1,es,s,h=>by
  unfold eZ;split
  ·refine yw fun x y=> ?_
   rw[am,bj]at y;rcases y with y|rfl
   ·exact h x y
   ·exact pE _ _ _
  ·exact h
theorem vR(B:d9):dx (oT B):=by
 have C:=uB (B:=B) (n:=(hN B).1.toNat) (es:=[]) (s:=(hN B).2);have E:=tX (B:=B) (n:=(hK B).1.toNat) (es:=[]) (s:=(hK B).2);have y:=pA B (hT B).2;have F:=pA B (hL B).2;change 0<=(hN B).1/\(hN B).1<256 at y;change 0<=(hK B).1/\(hK B).1<256 at F;rw[aA]at C E
 exact⟨by have:=pE B 12 (uR B 1 ⟨0,0⟩).2;show(hV B).1.length<=_;unfold hV;omega,by show(hL B).1.length<=_;unfold hL;omega,by show(hR B).1.length<=_;unfold hR;omega,
  fun x h=>by have:=zD (B:=B) (n:=(hN B).1.toNat) (es:=[]) (s:=(hN B).2) (fun x h=>by cases h) x h;omega,
  fun x h=>by have:=yw (B:=B) (n:=(hK B).1.toNat) (es:=[]) (s:=(hK B).2) (fun x h=>by cases h) x h;omega⟩
def mnz:Man:=⟨[],0,0,0,0,[],[]⟩
def zL(B:d9):Man:=match jT B with|some m=>m|none=>mnz
def zM(B:d9):Int:=match jT B with|some _=>0|none=>30
theorem xww(B:d9)(J:B.length<=1000000000)(v:d9)(y fl E C:Int)(es:List Ent)(s:Rs)(L:dU B s)(t:Tok)(tk:LAa)(h:Nat)
 (F:t= .clip/\tk=[]/\es=[]\/t= .id 160/\tk=[160]) (I:h=34060\/h=55060\/h=39060):
 run T (.ops sM) ⟨[(2,.ptr 102 0),(4,.ptr 12100 0),(5,.ptr 105 0)],[(102,zR),(105,mR v y fl E C es t [] .clip),(12100,rdO B h s)],tk++ [h]⟩=
  some (.n,⟨[(2,.ptr 102 0),(4,.ptr 12100 0),(5,.ptr 105 0),(8,.int .i64 (uR B 1 s).1)],[(102,zR),(105,mR v y fl E C es t [] .clip),(12100,rdO B 64060 (uR B 1 s).2)],tk++ [64060]⟩):=by
 have g:=f75 B J 1 (by omega) (by omega) s L;rw[show((1:Nat):Int)=1 from rfl]at g;simp only[zR,mR,rdO]at g ⊢;rcases F with⟨rfl,rfl,rfl⟩|⟨rfl,rfl⟩<;>rcases I with rfl|rfl|rfl<;>simp only[go_sem,Qe,Qg,Qh,Qi,Qj,Qk,reduceIte,g,rq]
theorem xwv(B:d9)(W:B.length<=1000000000)(v:d9)(h fl y C:Int)(es:List Ent)(s:Rs)(Z:dU B s)(t:Tok)(tk:LAa)(rs:List Rul)(u:Tok)(F:LAa)(E:Nat)
 (Q:dx ⟨v,h,fl,y,C,es,rs⟩)
 (I:t= .clip/\tk=[]/\es=[]\/t= .id 160/\tk=[160]) (hu:u= .clip/\F=[]/\rs=[]\/u= .id 190/\F=[190]) (J:E=64060\/E=85060\/E=69060):
 run T (.ops sL) ⟨[(2,.ptr 102 0),(4,.ptr 12100 0),(5,.ptr 105 0)],[(102,zR),(105,mR v h fl y C es t rs u),(12100,rdO B E s)],tk++(F++ [E])⟩=
  some (.n,⟨[(2,.ptr 102 0),(5,.ptr 105 0),(99,.bool (!decide (eR B s=0/\fq ⟨v,h,fl,y,C,es,rs⟩=0)))],[(102,zR),(105,mR v h fl y C es t rs u),(12100,rdO B 94060 s)],tk++(F++ [94060])⟩):=by
 have g:=f79 B W s Z;have gm:=f80 ⟨v,h,fl,y,C,es,rs⟩ Q;generalize fq ⟨v,h,fl,y,C,es,rs⟩=q at*;generalize eR B s=p at*
 by_cases O:p=0
 ·subst O
  by_cases L:q=0
  ·subst L
   simp only[zR,mR,rdO,Man.sv]at g gm ⊢;rcases I with⟨rfl,rfl,rfl⟩|⟨rfl,rfl⟩<;>rcases hu with⟨rfl,rfl,rfl⟩|⟨rfl,rfl⟩<;>rcases J with rfl|rfl|rfl<;>simp only[go_sem,Qe,Qg,Qh,Qi,Qj,Qk,reduceIte,g,Gr,gm,Jb]
  ·simp only[zR,mR,rdO,Man.sv]at g gm ⊢
   rcases I with⟨rfl,rfl,rfl⟩|⟨rfl,rfl⟩<;>rcases hu with⟨rfl,rfl,rfl⟩|⟨rfl,rfl⟩<;>rcases J with rfl|rfl|rfl<;>simp only[go_sem,Qe,Qg,Qh,Qi,Qj,Qk,reduceIte,g,Gr,gm,Jb,L]
 ·simp only[zR,mR,rdO,Man.sv]at g gm ⊢
  rcases I with⟨rfl,rfl,rfl⟩|⟨rfl,rfl⟩<;>rcases hu with⟨rfl,rfl,rfl⟩|⟨rfl,rfl⟩<;>rcases J with rfl|rfl|rfl<;>simp only[go_sem,Qe,Qg,Qh,Qi,Qj,Qk,reduceIte,g,Gr,O]
attribute [-go_sem] sM sL
theorem f47(B:d9)(y:B.length<=1000000000):call T 47 [.byt B .no] [] 0=some ⟨.tup [.agg (zL B).sv,.int .i64 (zM B)],[],[]⟩:=by
 have g0:=f74 B y;have k0:dU B ⟨0,0⟩:=⟨aX _⟩;have F:=f75 B y 1 (by omega) (by omega) ⟨0,0⟩ k0;have k1:=eX (n:=1) k0;have Q:=f76 B y 12 (by omega) _ k1;have k2:dU B (hV B).2:=ri (n:=12) k1;have Z:=f75 B y 4 (by omega) (by omega) _ k2;have k3:dU B (hE B).2:=eX (n:=4) k2;have O:=f75 B y 4 (by omega) (by omega) _ k3;have k4:dU B (hF B).2:=eX (n:=4) k3;have g5:=f75 B y 6 (by omega) (by omega) _ k4;have k5:dU B (hM B).2:=eX (n:=6) k4;have g6:=f75 B y 6 (by omega) (by omega) _ k5;have k6:dU B (hT B).2:=eX (n:=6) k5;have W:=f75 B y 1 (by omega) (by omega) _ k6;have k7:dU B (hN B).2:=eX (n:=1) k6;have n1:=pA B (hT B).2;have n2:=pA B (hL B).2;change 0<=(hN B).1/\(hN B).1<256 at n1;change 0<=(hK B).1/\(hK B).1<256 at n2;have nn:(hN B).1=(((hN B).1.toNat:Nat):Int):=by omega
 have nk:(hK B).1=(((hK B).1.toNat:Nat):Int):=by omega
 obtain⟨I,tk',t1,q1,q2,J⟩:=xwP B y (hV B).1 (hE B).1 (hF B).1 (hM B).1 (hT B).1 (hN B).1.toNat [] (hN B).2 .clip [] 34060 (by rw[aA];omega) k7 (.inl ⟨rfl,rfl,rfl⟩) (.inl rfl);have k8:dU B (hL B).2:=zB k7;have g8:=f75 B y 1 (by omega) (by omega) _ k8;have k9:dU B (hK B).2:=eX (n:=1) k8;have gm:=f80 (oT B) (vR B);change (I= .clip/\tk'=[]/\(hL B).1=[]\/I= .id 160/\tk'=[160])at q1;obtain⟨u',a6,u1,r1,r2,r3⟩:=xwO B y (hV B).1 (hE B).1 (hF B).1 (hM B).1 (hT B).1 (hL B).1 I tk' q1 (hK B).1.toNat [] (hK B).2 .clip [] 64060 (by rw[aA];omega) k9 (.inl ⟨rfl,rfl,rfl⟩) (.inl rfl);have a1:dU B (hR B).2:=yu k9;have g9:=f79 B y _ a1;change _/\_/\(hR B).1=[]\/_ at r1;rw[<-nn]at J;rw[<-nk]at r3;change run T _ _=some (Ex.x 0,⟨_,[_,(105,mR _ _ _ _ _ (hL B).1 I [] .clip),(12100,rdO B t1 (hL B).2)],_⟩)at J;change run T _ _=some (Ex.x 2,⟨_,[_,(105,mR _ _ _ _ _ (hL B).1 I (hR B).1 u'),(12100,rdO B u1 (hR B).2)],_⟩)at r3;change call T 75 _ _ _=some ⟨.int .i64 (hE B).1,[(0,rdO B 60 (hE B).2)],[60]⟩at Z;change call T 75 _ _ _=some ⟨.int .i64 (hF B).1,[(0,rdO B 60 (hF B).2)],[60]⟩at O;change call T 75 _ _ _=some ⟨.int .i64 (hM B).1,[(0,rdO B 60 (hM B).2)],[60]⟩at g5;change call T 75 _ _ _=some ⟨.int .i64 (hT B).1,[(0,rdO B 60 (hT B).2)],[60]⟩at g6;change call T 75 _ _ _=some ⟨.int .i64 (hN B).1,[(0,rdO B 60 (hN B).2)],[60]⟩at W;change call T 75 _ _ _=some ⟨.int .i64 (hK B).1,[(0,rdO B 60 (hK B).2)],[60]⟩at g8;change call T 76 _ _ _=some ⟨.byt (hV B).1 .no,[(0,rdO B 60 (hV B).2)],[60]⟩at Q
 have o1:=xww B y (hV B).1 (hE B).1 (hF B).1 (hM B).1 (hT B).1 (hL B).1 (hL B).2 k8 I tk' t1 q1 q2;have L:=xwv B y (hV B).1 (hE B).1 (hF B).1 (hM B).1 (hT B).1 (hL B).1 (hR B).2 a1 I tk' (hR B).1 u' a6 u1 (vR B) q1 r1 r2;change run T _ _=some (Ex.n,⟨[_,_,_,(8,SV.int .i64 (hK B).1)],[_,_,(12100,rdO B 64060 (hK B).2)],_⟩)at o1;change run T _ _=some (Ex.n,⟨[_,_,(99,SV.bool (!decide (eR B (hR B).2=0/\fq (oT B)=0)))],_,_⟩)at L
 have a2:jT B=if(uR B 1 ⟨0,0⟩).1=21/\eR B (hR B).2=0/\fq (oT B)=0 then some (oT B)else none:=by unfold jT okP;rfl
 have a7:(oT B).sv=[.str (hV B).1,.int .i64 (hE B).1,.int .i64 (hF B).1,.int .i64 (hM B).1,.int .i64 (hT B).1,.lst 4 (df (hL B).1) .no,.lst 4 (dS (hR B).1) .no]:=rfl;have C:df []=[]:=rfl;have E:dS []=[]:=rfl;rw[show((1:Nat):Int)=1 from rfl]at F W;rw[show((12:Nat):Int)=12 from rfl]at Q;rw[show((4:Nat):Int)=4 from rfl]at Z O;rw[show((6:Nat):Int)=6 from rfl]at g5 g6;unfold zL zM;rw[a2];rw[aj xyV];simp only[aE]at J r3
 by_cases ht:(uR B 1 ⟨0,0⟩).1=21
 ·by_cases hb:eR B (hR B).2=0/\fq (oT B)=0
  ·rw[if_pos ⟨ht,hb⟩]
   rw[decide_eq_true hb]at L;simp only[a7];simp only[zR,mR,rdO,C,E,ay]at g0 F Q Z O g5 g6 W J r3 o1 L;rw[ht]at F;simp only[go_sem,Qe,Qg,Qh,Qi,Qj,Qk,reduceCtorEq,reduceIte,g0,Gs,F,rq,Q,Jd,Z,O,g5,g6,W,J,o1,r3,L]
  ·rw[if_neg (fun h=>hb h.2)]
   rw[decide_eq_false hb]at L;simp only[zR,mR,rdO,C,E,ay]at g0 F Q Z O g5 g6 W J r3 o1 L;rw[ht]at F;simp only[go_sem,Qe,Qg,Qh,Qi,Qj,Qk,reduceCtorEq,reduceIte,g0,Gs,F,rq,Q,Jd,Z,O,g5,g6,W,J,o1,r3,L];rcases q1 with⟨rfl,rfl,hz⟩|⟨rfl,rfl⟩<;>rcases r1 with⟨rfl,rfl,a8⟩|⟨rfl,rfl⟩<;>simp only[go_sem,C,E,mnz,Man.sv]
 ·rw[if_neg (fun h=>ht h.1)]
  simp only[rdO,ay]at g0 F;simp only[go_sem,Qe,Qg,Qh,Qi,Qj,Qk,reduceCtorEq,reduceIte,g0,Gs,F,rq,ht,mnz,Man.sv,C,E]
attribute [go_sem] sM sL
theorem m9{B:d9}{n:Nat}{s:Rs}(h:¬s.e=0):(uR B n s).2=s:=by unfold uR;rw[if_neg h]
theorem Lp{B:d9}{n:Nat}{s:Rs}(h:¬s.e=0):(wR B n s).2=s:=by unfold wR;rw[if_neg h]
theorem Us{B:d9}{n:Nat}{s:Rs}(h:¬s.e=0):(bR B n s).2=s:=by unfold bR;rw[if_neg h]
theorem KP{B:d9}{s:Rs}(h:¬s.e=0):(jm B s).2=s:=by show(wR B 32 (uR B 4 (bR B 12 (uR B 1 s).2).2).2).2=s;rw[m9 h,Us h,m9 h,Lp h]
theorem J0{B:d9}{s:Rs}(h:¬s.e=0):(ji B s).2=s:=by show(uR B 4 (uR B 4 (bR B 32 (uR B 1 s).2).2).2).2=s;rw[m9 h,Us h,m9 h,m9 h]
def gH(B:d9):Nat->List Ent->Rs->List Ent×Rs
 |0,es,s=>(es,s)
 |n+1,es,s=>gH B n (es++ [(jm B s).1]) (jm B s).2
def gB(B:d9):Nat->List Rul->Rs->List Rul×Rs
 |0,es,s=>(es,s)
 |n+1,es,s=>gB B n (es++ [(ji B s).1]) (ji B s).2
theorem uA{B:d9}:∀{n:Nat}{es:List Ent}{s:Rs},¬s.e=0->(gH B n es s).2=s
 |0,_,_,_=>rfl
 |n+1,es,s,h=>by show(gH B n _ (jm B s).2).2=s;rw[KP h];exact uA h
theorem tW{B:d9}:∀{n:Nat}{es:List Rul}{s:Rs},¬s.e=0->(gB B n es s).2=s
 |0,_,_,_=>rfl
 |n+1,es,s,h=>by show(gB B n _ (ji B s).2).2=s;rw[J0 h];exact tW h
theorem l5{B:d9}:∀{n:Nat}{es:List Ent}{s:Rs},(gH B n es s).1.length=es.length+n
 |0,_,_=>rfl
 |n+1,es,s=>by show(gH B n _ _).1.length=_;rw[l5,ae,aF];omega
theorem lR{B:d9}:∀{n:Nat}{es:List Rul}{s:Rs},(gB B n es s).1.length=es.length+n
 |0,_,_=>rfl
 |n+1,es,s=>by show(gB B n _ _).1.length=_;rw[lR,ae,aF];omega
theorem zx{B:d9}:∀{n:Nat}{es:List Ent}{s:Rs},dU B s->dU B (gH B n es s).2
 |0,_,_,h=>h
 |n+1,es,s,h=>by show dU B (gH B n _ (jm B s).2).2;exact zx (qS h)
theorem yq{B:d9}:∀{n:Nat}{es:List Rul}{s:Rs},dU B s->dU B (gB B n es s).2
 |0,_,_,h=>h
 |n+1,es,s,h=>by show dU B (gB B n _ (ji B s).2).2;exact yq (pX h)
theorem zy{B:d9}:∀{n:Nat}{es:List Ent}{s:Rs},(gH B n es s).2.e=0->fa B n es s=gH B n es s/\s.e=0
 |0,_,_,h=>⟨rfl,h⟩
 |n+1,es,s,h=>by
  by_cases y:s.e=0
  ·refine⟨?_,y⟩
   show(if s.e=0 then _ else _)=_;rw[if_pos y];exact(zy (n:=n) h).1
  ·rw[uA y]at h;exact absurd h y
theorem rF{B:d9}:∀{n:Nat}{es:List Rul}{s:Rs},(gB B n es s).2.e=0->eZ B n es s=gB B n es s/\s.e=0
 |0,_,_,h=>⟨rfl,h⟩
 |n+1,es,s,h=>by
  by_cases y:s.e=0
  ·refine⟨?_,y⟩
   show(if s.e=0 then _ else _)=_;rw[if_pos y];exact(rF (n:=n) h).1
  ·rw[tW y]at h;exact absurd h y
theorem zC{B:d9}:∀{n:Nat}{es:List Ent}{s:Rs},(fa B n es s).2.e=0->fa B n es s=gH B n es s
 |0,_,_,_=>rfl
 |n+1,es,s,h=>by
  have u:fa B (n+1) es s=if s.e=0 then fa B n (es++ [(jm B s).1]) (jm B s).2 else(es,s):=rfl
  by_cases y:s.e=0
  ·rw[u,if_pos y]at h ⊢
   exact zC h
  ·rw[u,if_neg y]at h;exact absurd h y
theorem yv{B:d9}:∀{n:Nat}{es:List Rul}{s:Rs},(eZ B n es s).2.e=0->eZ B n es s=gB B n es s
 |0,_,_,_=>rfl
 |n+1,es,s,h=>by
  have u:eZ B (n+1) es s=if s.e=0 then eZ B n (es++ [(ji B s).1]) (ji B s).2 else(es,s):=rfl
  by_cases y:s.e=0
  ·rw[u,if_pos y]at h ⊢
   exact yv h
  ·rw[u,if_neg y]at h;exact absurd h y
theorem xbb{B:d9}{n:Nat}{s:Rs}(h:(uR B n s).2.e=0):s.e=0:=by
 by_cases y:s.e=0
 ·exact y
 ·rw[m9 y]at h;exact h
theorem VG{B:d9}{s:Rs}(h:eR B s=0):s.e=0:=by
 unfold eR at h;split at h
 ·assumption
 ·exact h
def qN(B:d9):Nat:=min (hN B).1.toNat 17
def qL(B:d9):List Ent×Rs:=gH B (qN B) [] (hN B).2
def qK(B:d9):Int×Rs:=uR B 1 (qL B).2
def qM(B:d9):Nat:=min (qK B).1.toNat 9
def qR(B:d9):List Rul×Rs:=gB B (qM B) [] (qK B).2
def sU(B:d9):Man:=⟨(hV B).1,(hE B).1,(hF B).1,(hM B).1,(hT B).1,(qL B).1,(qR B).1⟩
def okQ(B:d9):Prop:=(uR B 1 ⟨0,0⟩).1=21/\eR B (qR B).2=0/\fq (sU B)=0
instance (B:List UInt8):Decidable (okQ B):=by unfold okQ;infer_instance
theorem xm0{B:d9}(h:okQ B):okP B/\sU B=oT B:=by
 obtain⟨W,F,C⟩:=h;obtain⟨L,J⟩:=jQ C;have T:=VG F;obtain⟨r1,O⟩:=rF (B:=B) (n:=qM B) (es:=[]) (s:=(qK B).2) T;have Q:=xbb (B:=B) (n:=1) (s:=(qL B).2) O;obtain⟨r3,r4⟩:=zy (B:=B) (n:=qN B) (es:=[]) (s:=(hN B).2) Q;have l1:(qL B).1.length=0+qN B:=l5;have l2:(qR B).1.length=0+qM B:=lR
 have n1:qN B=(hN B).1.toNat:=by have:(qL B).1.length<=16:=L;have:qN B=min (hN B).1.toNat 17:=rfl;omega
 have E:hL B=qL B:=by show fa B (hN B).1.toNat [] (hN B).2=gH B (qN B) [] (hN B).2;rw[<-n1];exact r3
 have Z:hK B=qK B:=by unfold hK qK;rw[E]
 have n2:qM B=(qK B).1.toNat:=by have:(qR B).1.length<=8:=J;have:qM B=min (qK B).1.toNat 9:=rfl;omega
 have y:hR B=qR B:=by show eZ B (hK B).1.toNat [] (hK B).2=gB B (qM B) [] (qK B).2;rw[Z,<-n2];exact r1
 have I:sU B=oT B:=by unfold sU oT;rw[E,y]
 exact⟨⟨W,by rw[y];exact F,by rw[<-I];exact C⟩,I⟩
theorem xqT{B:d9}(h:okP B):okQ B:=by
 obtain⟨h1,F,C⟩:=h;obtain⟨O,L⟩:=jQ C;have I:=VG F;have r1:=yv (B:=B) (n:=(hK B).1.toNat) (es:=[]) (s:=(hK B).2) I;have Q:=(rF (B:=B) (n:=(hK B).1.toNat) (es:=[]) (s:=(hK B).2) (by rw[<-r1];exact I)).2;have T:=xbb (B:=B) (n:=1) (s:=(hL B).2) Q;have r3:=zC (B:=B) (n:=(hN B).1.toNat) (es:=[]) (s:=(hN B).2) T
 have l1:(hL B).1.length=0+(hN B).1.toNat:=by show(fa B (hN B).1.toNat [] (hN B).2).1.length=_;rw[r3];exact l5
 have l2:(hR B).1.length=0+(hK B).1.toNat:=by show(eZ B (hK B).1.toNat [] (hK B).2).1.length=_;rw[r1];exact lR
 have W:(hL B).1.length<=16:=O;have a1:(hR B).1.length<=8:=L;have n1:qN B=(hN B).1.toNat:=by unfold qN;omega
 have E:qL B=hL B:=by show gH B (qN B) [] (hN B).2=fa B (hN B).1.toNat [] (hN B).2;rw[n1,r3]
 have J:qK B=hK B:=by unfold hK qK;rw[E]
 have n2:qM B=(hK B).1.toNat:=by unfold qM;rw[J];omega
 have y:qR B=hR B:=by show gB B (qM B) [] (qK B).2=eZ B (hK B).1.toNat [] (hK B).2;rw[J,n2,r1]
 have Z:sU B=oT B:=by unfold sU oT;rw[E,y]
 exact⟨h1,by rw[y];exact F,by rw[Z];exact C⟩
theorem xaz(B:d9):(if okQ B then some (sU B)else none)=jT B:=by
 unfold jT
 by_cases h:okQ B
 ·obtain⟨C,y⟩:=xm0 h
  rw[if_pos h,if_pos C,y]
 ·rw[if_neg h,if_neg (fun k=>h (xqT k))]
theorem zA{B:d9}:∀{n:Nat}{es:List Ent}{s:Rs},(∀x∈es,x.name.length<=12/\x.dig.length<=32)->∀x∈(gH B n es s).1,x.name.length<=12/\x.dig.length<=32
 |0,_,_,h=>h
 |n+1,es,s,h=>zA (n:=n) fun x y=>by
  rcases am.1 y with y|y
  ·exact h x y
  ·rw[bj.1 y];exact⟨pE _ _ _,Lo _ _ _⟩
theorem yr{B:d9}:∀{n:Nat}{es:List Rul}{s:Rs},(∀x∈es,x.text.length<=32)->∀x∈(gB B n es s).1,x.text.length<=32
 |0,_,_,h=>h
 |n+1,es,s,h=>yr (n:=n) fun x y=>by
  rcases am.1 y with y|y
  ·exact h x y
  ·rw[bj.1 y];exact pE _ _ _
theorem ZE(B:d9):dx (sU B):=by
 have C:(qL B).1.length=0+qN B:=l5;have E:(qR B).1.length=0+qM B:=lR;have y:qN B=min (hN B).1.toNat 17:=rfl;have F:qM B=min (qK B).1.toNat 9:=rfl
 exact⟨by have:=pE B 12 (uR B 1 ⟨0,0⟩).2;show(hV B).1.length<=_;unfold hV;omega,by show(qL B).1.length<=_;omega,by show(qR B).1.length<=_;omega,
  fun x h=>by have:=zA (B:=B) (n:=qN B) (es:=[]) (s:=(hN B).2) (fun x h=>by cases h) x h;omega,
  fun x h=>by have:=yr (B:=B) (n:=qM B) (es:=[]) (s:=(qK B).2) (fun x h=>by cases h) x h;omega⟩
theorem xwN(B:d9)(hB:B.length<=1000000000)(v:d9)(ve fl fr ti C:Int)(N:Nat):∀(n i:Nat)(es:List Ent)(s:Rs)(t:Tok)(tk:LAa),min N 17-i=n->i<=min N 17->es.length=i->dU B s->
 (t= .clip/\tk=[]/\es=[]\/t= .id 161/\tk=[161])->
 ∃(I:Tok)(tk':LAa),(I= .clip/\tk'=[]/\(gH B n es s).1=[]\/I= .id 161/\tk'=[161])/\
  run T (.loop BV) ⟨[(2,.ptr 102 0),(4,.ptr 15100 0),(5,.ptr 105 0),(6,.int .i64 C),(7,.int .i64 N),(8,.int .i64 i)],[(102,zR),(105,mR v ve fl fr ti es t [] .clip),(15100,rqO B s)],tk⟩=
   some (.x 0,⟨[(2,.ptr 102 0),(4,.ptr 15100 0),(5,.ptr 105 0),(6,.int .i64 C)],[(102,zR),(105,mR v ve fl fr ti (gH B n es s).1 I [] .clip),(15100,rqO B (gH B n es s).2)],tk'⟩):=by
 intro n;induction n with
 |zero=>
  intro i es s t tk h0 h1 hl h2 O;refine⟨t,tk,O, ?_⟩;unfold gH;rw[ai]
  by_cases J:i<N
  ·have W:¬(i:Int)<=16:=by omega
   rcases O with⟨rfl,rfl,rfl⟩|⟨rfl,rfl⟩<;>simp only[zR,mR,rqO]<;>simp only[go_sem,Qh,Qj,Qk,reduceIte,J,W]
  ·rcases O with⟨rfl,rfl,rfl⟩|⟨rfl,rfl⟩<;>simp only[zR,mR,rqO]<;>simp only[go_sem,Qh,Qj,Qk,reduceIte,J]
 |succ n ih=>
  intro i es s t tk h0 h1 hl h2 O;have J:i<N:=by omega
  have W:(i:Int)<=16:=by omega
  have e1:=cg i (by omega);obtain⟨I,tk',q1,h⟩:=ih (i+1) (es++ [(jm B s).1]) (jm B s).2 (.id 161) [161] (by omega) (by omega) (by rw[ae,aF,hl]) (qS h2) (.inr ⟨rfl,rfl⟩);have hu:gH B (n+1) es s=gH B n (es++ [(jm B s).1]) (jm B s).2:=rfl;rw[hu];refine⟨I,tk',q1, ?_⟩;have hv:=dk es;have b1:(es.length+1)*56<=140737488355328:=by omega
  generalize gH B n (es++ [(jm B s).1]) (jm B s).2=Z at*;have k1:=eX (n:=1) h2;have L:=f94 B hB 1 (by omega) (by omega) s h2;unfold jm mR at h;rw[zG]at h;generalize uR B 1 s=p1 at*;obtain⟨x1,s1⟩:=p1;simp only at k1 L h;have k2:=ri (n:=12) k1;have F:=f95 B hB 12 (by omega) s1 k1;generalize bR B 12 s1=p2 at*;obtain⟨x2,s2⟩:=p2;simp only at k2 F h;have k3:=eX (n:=4) k2;have Q:=f94 B hB 4 (by omega) (by omega) s2 k2;generalize uR B 4 s2=p3 at*;obtain⟨x3,s3⟩:=p3;simp only at k3 Q h;have E:=f96 B hB 32 (by omega) s3 k3;generalize wR B 32 s3=p4 at*;obtain⟨x4,s4⟩:=p4;simp only at E h;rw[show((1:Nat):Int)=1 from rfl]at L;rw[show((12:Nat):Int)=12 from rfl]at F;rw[show((4:Nat):Int)=4 from rfl]at Q;rw[show((32:Nat):Int)=32 from rfl]at E;simp only[zR,mR,rqO,Ent.sv]at L F Q E h ⊢;rw[ai];rcases O with⟨rfl,rfl,rfl⟩|⟨rfl,rfl⟩
  ·have y:df []=[]:=rfl
   simp only[y,aE]at h ⊢;simp only[go_sem,Qe,Qg,Qh,Qi,Qj,Qk,reduceIte,J,W,e1,L,rp,F,Gq,Q,E,I9,h]
  ·simp only[go_sem,Qe,Qg,Qh,Qi,Qj,Qk,reduceIte,J,W,e1,L,rp,F,Gq,Q,E,I9,hv,b1,h]
theorem xwM(B:d9)(hB:B.length<=1000000000)(v:d9)(ve fl fr ti W:Int)(N:Nat)(es:List Ent)(t2:Tok)(C:LAa)(L:t2= .clip/\C=[]/\es=[]\/t2= .id 161/\C=[161]):∀(n i:Nat)(rs:List Rul)(s:Rs)(t:Tok)(tk:LAa),min N 9-i=n->i<=min N 9->rs.length=i->dU B s->
 (t= .clip/\tk=[]/\rs=[]\/t= .id 191/\tk=[191])->
 ∃(t':Tok)(tk':LAa),(t'= .clip/\tk'=[]/\(gB B n rs s).1=[]\/t'= .id 191/\tk'=[191])/\
  run T (.loop BU) ⟨[(2,.ptr 102 0),(4,.ptr 15100 0),(5,.ptr 105 0),(6,.int .i64 W),(10,.int .i64 N),(11,.int .i64 i)],[(102,zR),(105,mR v ve fl fr ti es t2 rs t),(15100,rqO B s)],C++tk⟩=
   some (.x 2,⟨[(2,.ptr 102 0),(4,.ptr 15100 0),(5,.ptr 105 0),(6,.int .i64 W)],[(102,zR),(105,mR v ve fl fr ti es t2 (gB B n rs s).1 t'),(15100,rqO B (gB B n rs s).2)],C++tk'⟩):=by
 intro n;induction n with
 |zero=>
  intro i rs s t tk h0 h1 hl h2 ht;refine⟨t,tk,ht, ?_⟩;unfold gB;rw[ai]
  by_cases I:i<N
  ·have Q:¬(i:Int)<=8:=by omega
   rcases L with⟨rfl,rfl,rfl⟩|⟨rfl,rfl⟩<;>rcases ht with⟨rfl,rfl,rfl⟩|⟨rfl,rfl⟩<;>simp only[zR,mR,rqO]<;>simp only[go_sem,Qh,Qj,Qk,reduceIte,I,Q]
  ·rcases L with⟨rfl,rfl,rfl⟩|⟨rfl,rfl⟩<;>rcases ht with⟨rfl,rfl,rfl⟩|⟨rfl,rfl⟩<;>simp only[zR,mR,rqO]<;>simp only[go_sem,Qh,Qj,Qk,reduceIte,I]
 |succ n ih=>
  intro i rs s t tk h0 h1 hl h2 ht;have I:i<N:=by omega
  have Q:(i:Int)<=8:=by omega
  have e1:=cg i (by omega);obtain⟨t',tk',q1,h⟩:=ih (i+1) (rs++ [(ji B s).1]) (ji B s).2 (.id 191) [191] (by omega) (by omega) (by rw[ae,aF,hl]) (pX h2) (.inr ⟨rfl,rfl⟩);have hu:gB B (n+1) rs s=gB B n (rs++ [(ji B s).1]) (ji B s).2:=rfl;rw[hu];refine⟨t',tk',q1, ?_⟩;have hv:=dP rs;have b1:(rs.length+1)*40<=140737488355328:=by omega
  generalize gB B n (rs++ [(ji B s).1]) (ji B s).2=Z at*;have k1:=eX (n:=1) h2;have J:=f94 B hB 1 (by omega) (by omega) s h2;unfold ji mR at h;rw[yz]at h;generalize uR B 1 s=p1 at*;obtain⟨x1,s1⟩:=p1;simp only at k1 J h;have k2:=ri (n:=32) k1;have F:=f95 B hB 32 (by omega) s1 k1;generalize bR B 32 s1=p2 at*;obtain⟨x2,s2⟩:=p2;simp only at k2 F h;have k3:=eX (n:=4) k2;have O:=f94 B hB 4 (by omega) (by omega) s2 k2;generalize uR B 4 s2=p3 at*;obtain⟨x3,s3⟩:=p3;simp only at k3 O h;have E:=f94 B hB 4 (by omega) (by omega) s3 k3;generalize uR B 4 s3=p4 at*;obtain⟨x4,s4⟩:=p4;simp only at E h;rw[show((1:Nat):Int)=1 from rfl]at J;rw[show((32:Nat):Int)=32 from rfl]at F;rw[show((4:Nat):Int)=4 from rfl]at O E;simp only[zR,mR,rqO,Rul.sv]at J F O E h ⊢;rw[ai];rcases L with⟨rfl,rfl,rfl⟩|⟨rfl,rfl⟩<;>rcases ht with⟨rfl,rfl,rfl⟩|⟨rfl,rfl⟩
  ·have y:dS []=[]:=rfl
   simp only[y,aE]at h ⊢;simp only[go_sem,Qe,Qg,Qh,Qi,Qj,Qk,reduceIte,I,Q,e1,J,rp,F,Gq,O,E,h]
  ·simp only[aE]at h ⊢
   simp only[go_sem,Qe,Qg,Qh,Qi,Qj,Qk,reduceIte,I,Q,e1,J,rp,F,Gq,O,E,hv,b1,h]
  ·have y:dS []=[]:=rfl
   simp only[y,aE,bi]at h ⊢;simp only[go_sem,Qe,Qg,Qh,Qi,Qj,Qk,reduceIte,I,Q,e1,J,rp,F,Gq,O,E,h]
  ·simp only[bi,aE]at h ⊢
   simp only[go_sem,Qe,Qg,Qh,Qi,Qj,Qk,reduceIte,I,Q,e1,J,rp,F,Gq,O,E,hv,b1,h]
theorem xwu(B:d9)(I:B.length<=1000000000)(v:d9)(y fl E C h:Int)(es:List Ent)(s:Rs)(J:dU B s)(t:Tok)(tk:LAa)(F:t= .clip/\tk=[]/\es=[]\/t= .id 161/\tk=[161]):
 run T (.ops sK) ⟨[(2,.ptr 102 0),(4,.ptr 15100 0),(5,.ptr 105 0),(6,.int .i64 h)],[(102,zR),(105,mR v y fl E C es t [] .clip),(15100,rqO B s)],tk⟩=
  some (.n,⟨[(2,.ptr 102 0),(4,.ptr 15100 0),(5,.ptr 105 0),(6,.int .i64 h),(10,.int .i64 (uR B 1 s).1)],[(102,zR),(105,mR v y fl E C es t [] .clip),(15100,rqO B (uR B 1 s).2)],tk⟩):=by
 have g:=f94 B I 1 (by omega) (by omega) s J;rw[show((1:Nat):Int)=1 from rfl]at g;simp only[zR,mR,rqO]at g ⊢;rcases F with⟨rfl,rfl,rfl⟩|⟨rfl,rfl⟩<;>simp only[go_sem,Qe,Qg,Qh,Qi,Qj,Qk,reduceIte,g,rp]
theorem xwt(B:d9)(Q:B.length<=1000000000)(v:d9)(y fl C E h:Int)(es:List Ent)(s:Rs)(W:dU B s)(t:Tok)(tk:LAa)(rs:List Rul)(u:Tok)(F:LAa)
 (O:dx ⟨v,y,fl,C,E,es,rs⟩)
 (I:t= .clip/\tk=[]/\es=[]\/t= .id 161/\tk=[161]) (hu:u= .clip/\F=[]/\rs=[]\/u= .id 191/\F=[191]):
 run T (.ops sJ) ⟨[(2,.ptr 102 0),(4,.ptr 15100 0),(5,.ptr 105 0),(6,.int .i64 h)],[(102,zR),(105,mR v y fl C E es t rs u),(15100,rqO B s)],tk++F⟩=
  some (.n,⟨[(2,.ptr 102 0),(5,.ptr 105 0),(104,.bool (!decide (h=21/\eR B s=0/\fq ⟨v,y,fl,C,E,es,rs⟩=0)))],[(102,zR),(105,mR v y fl C E es t rs u),(15100,rqO B s)],tk++F⟩):=by
 have g:=f97 B Q s W;have gm:=f62 ⟨v,y,fl,C,E,es,rs⟩ O;generalize fq ⟨v,y,fl,C,E,es,rs⟩=q at*;generalize eR B s=p at*;simp only[zR,mR,rqO,Man.sv]at g gm ⊢
 by_cases hT:h=21
 ·subst hT
  by_cases L:p=0
  ·subst L
   by_cases J:q=0
   ·subst J
    rcases I with⟨rfl,rfl,rfl⟩|⟨rfl,rfl⟩<;>rcases hu with⟨rfl,rfl,rfl⟩|⟨rfl,rfl⟩<;>simp only[go_sem,Qe,Qg,Qh,Qi,Qj,Qk,reduceIte,g,Gp,gm,xiy]
   ·rcases I with⟨rfl,rfl,rfl⟩|⟨rfl,rfl⟩<;>rcases hu with⟨rfl,rfl,rfl⟩|⟨rfl,rfl⟩<;>simp only[go_sem,Qe,Qg,Qh,Qi,Qj,Qk,reduceIte,g,Gp,gm,xiy,J]
  ·rcases I with⟨rfl,rfl,rfl⟩|⟨rfl,rfl⟩<;>rcases hu with⟨rfl,rfl,rfl⟩|⟨rfl,rfl⟩<;>simp only[go_sem,Qe,Qg,Qh,Qi,Qj,Qk,reduceIte,g,Gp,L]
 ·rcases I with⟨rfl,rfl,rfl⟩|⟨rfl,rfl⟩<;>rcases hu with⟨rfl,rfl,rfl⟩|⟨rfl,rfl⟩<;>simp only[go_sem,Qe,Qg,Qh,Qi,Qj,Qk,reduceIte,hT]
attribute [-go_sem] sK sJ
theorem f52(B:d9)(h:B.length<=1000000000):call T 52 [.byt B .no] [] 0=some ⟨.tup [.agg (zL B).sv,.int .i64 (zM B)],[],[]⟩:=by
 have g0:=f93 B;have k0:dU B ⟨0,0⟩:=⟨aX _⟩;have g1:=f94 B h 1 (by omega) (by omega) ⟨0,0⟩ k0;have k1:=eX (n:=1) k0;have J:=f95 B h 12 (by omega) _ k1;have k2:dU B (hV B).2:=ri (n:=12) k1;have Q:=f94 B h 4 (by omega) (by omega) _ k2;have k3:dU B (hE B).2:=eX (n:=4) k2;have I:=f94 B h 4 (by omega) (by omega) _ k3;have k4:dU B (hF B).2:=eX (n:=4) k3;have Z:=f94 B h 6 (by omega) (by omega) _ k4;have k5:dU B (hM B).2:=eX (n:=6) k4;have g6:=f94 B h 6 (by omega) (by omega) _ k5;have k6:dU B (hT B).2:=eX (n:=6) k5;have L:=f94 B h 1 (by omega) (by omega) _ k6;have k7:dU B (hN B).2:=eX (n:=1) k6;have n1:=pA B (hT B).2;have n2:=pA B (qL B).2;change 0<=(hN B).1/\(hN B).1<256 at n1;change 0<=(qK B).1/\(qK B).1<256 at n2;have nn:(hN B).1=(((hN B).1.toNat:Nat):Int):=by omega
 have nk:(qK B).1=(((qK B).1.toNat:Nat):Int):=by omega
 obtain⟨E,tk',O,W⟩:=xwN B h (hV B).1 (hE B).1 (hF B).1 (hM B).1 (hT B).1 (uR B 1 ⟨0,0⟩).1 (hN B).1.toNat (qN B) 0 [] (hN B).2 .clip [] rfl (aX _) rfl k7 (.inl ⟨rfl,rfl,rfl⟩);have k8:dU B (qL B).2:=zx k7;have k9:dU B (qK B).2:=eX (n:=1) k8;change (E= .clip/\tk'=[]/\(qL B).1=[]\/E= .id 161/\tk'=[161])at O;obtain⟨u',a6,r1,r3⟩:=xwM B h (hV B).1 (hE B).1 (hF B).1 (hM B).1 (hT B).1 (uR B 1 ⟨0,0⟩).1 (qK B).1.toNat (qL B).1 E tk' O (qM B) 0 [] (qK B).2 .clip [] rfl (aX _) rfl k9 (.inl ⟨rfl,rfl,rfl⟩);have a8:dU B (qR B).2:=yq k9;change _/\_/\(qR B).1=[]\/_ at r1;rw[<-nn]at W;rw[<-nk]at r3;have o1:=xwu B h (hV B).1 (hE B).1 (hF B).1 (hM B).1 (hT B).1 (uR B 1 ⟨0,0⟩).1 (qL B).1 (qL B).2 k8 E tk' O;have F:=xwt B h (hV B).1 (hE B).1 (hF B).1 (hM B).1 (hT B).1 (uR B 1 ⟨0,0⟩).1 (qL B).1 (qR B).2 a8 E tk' (qR B).1 u' a6 (ZE B) O r1;change run T _ _=some (Ex.x 0,⟨_,[_,(105,mR _ _ _ _ _ (qL B).1 E [] .clip),(15100,rqO B (qL B).2)],_⟩)at W;change run T _ _=some (Ex.x 2,⟨_,[_,(105,mR _ _ _ _ _ (qL B).1 E (qR B).1 u'),(15100,rqO B (qR B).2)],_⟩)at r3;change run T _ _=some (Ex.n,⟨[_,_,_,_,(10,SV.int .i64 (qK B).1)],[_,_,(15100,rqO B (qK B).2)],_⟩)at o1;change run T _ _=some (Ex.n,⟨[_,_,(104,SV.bool (!decide ((uR B 1 ⟨0,0⟩).1=21/\eR B (qR B).2=0/\fq (sU B)=0)))],_,_⟩)at F;change call T 94 _ _ _=some ⟨.int .i64 (hE B).1,[(0,rqO B (hE B).2)],[]⟩at Q;change call T 94 _ _ _=some ⟨.int .i64 (hF B).1,[(0,rqO B (hF B).2)],[]⟩at I;change call T 94 _ _ _=some ⟨.int .i64 (hM B).1,[(0,rqO B (hM B).2)],[]⟩at Z
 change call T 94 _ _ _=some ⟨.int .i64 (hT B).1,[(0,rqO B (hT B).2)],[]⟩at g6;change call T 94 _ _ _=some ⟨.int .i64 (hN B).1,[(0,rqO B (hN B).2)],[]⟩at L;change call T 95 _ _ _=some ⟨.byt (hV B).1 .no,[(0,rqO B (hV B).2)],[]⟩at J
 have a2:jT B=if(uR B 1 ⟨0,0⟩).1=21/\eR B (qR B).2=0/\fq (sU B)=0 then some (sU B)else none:=by rw[<-xaz];unfold okQ;rfl
 have a7:(sU B).sv=[.str (hV B).1,.int .i64 (hE B).1,.int .i64 (hF B).1,.int .i64 (hM B).1,.int .i64 (hT B).1,.lst 4 (df (qL B).1) .no,.lst 4 (dS (qR B).1) .no]:=rfl;have y:df []=[]:=rfl;have C:dS []=[]:=rfl;rw[show((1:Nat):Int)=1 from rfl]at g1 L;rw[show((12:Nat):Int)=12 from rfl]at J;rw[show((4:Nat):Int)=4 from rfl]at Q I;rw[show((6:Nat):Int)=6 from rfl]at Z g6;unfold zL zM;rw[a2];rw[aj xyU];simp only[bx]at r3
 by_cases hb:(uR B 1 ⟨0,0⟩).1=21/\eR B (qR B).2=0/\fq (sU B)=0
 ·rw[if_pos hb]
  rw[decide_eq_true hb]at F;simp only[a7];simp only[zR,mR,rqO,y,C,ay]at g0 g1 J Q I Z g6 L W r3 o1 F;simp only[go_sem,Qe,Qg,Qh,Qi,Qj,Qk,reduceCtorEq,reduceIte,g0,Ja,g1,rp,J,Gq,Q,I,Z,g6,L,W,o1,r3,F]
  try (rcases O with⟨rfl,rfl,hz⟩|⟨rfl,rfl⟩<;>rcases r1 with⟨rfl,rfl,a1⟩|⟨rfl,rfl⟩<;>simp only[go_sem,Q0,Q1,Q2,Q3,Q4,Q5,Q6,Q7,Q8,Q9,Qa,Qb,Qc,Qd,Qe,Qf,Qg,Qh,Qi,Qj,Qk,reduceCtorEq,reduceIte,y,C,mnz,Man.sv,hz,a1])
 ·rw[if_neg hb]
  rw[decide_eq_false hb]at F;simp only[zR,mR,rqO,y,C,ay]at g0 g1 J Q I Z g6 L W r3 o1 F;simp only[go_sem,Qe,Qg,Qh,Qi,Qj,Qk,reduceCtorEq,reduceIte,g0,Ja,g1,rp,J,Gq,Q,I,Z,g6,L,W,o1,r3,F];rcases O with⟨rfl,rfl,hz⟩|⟨rfl,rfl⟩<;>rcases r1 with⟨rfl,rfl,a1⟩|⟨rfl,rfl⟩<;>simp only[go_sem,y,C,mnz,Man.sv]
attribute [go_sem] sK sJ
end Go.Proofs.YtbfnljmmepcbfaaGreatDoor
