/- What the functions come to. No condition. -/
import Derived.Test.YtbfnljmmepcbfaaGreatDoorTbPA
open Int renaming natCast_zero -> aD
open Go.IntKind renaming i64 -> ah
open List renaming drop_eq_getElem_cons -> bE, drop_eq_nil_of_le -> bD, drop_length -> bP, drop_zero -> bh, getD_eq_getElem?_getD -> aa, getElem?_eq_getElem -> ac, getElem_mem -> bo, length_append -> af, length_map -> aY, length_take -> ax
open Go.Op renaming bytesLess -> cM
set_option maxRecDepth 100000
set_option maxHeartbeats 16000000
set_option linter.unusedSimpArgs false
set_option linter.unusedVariables false
namespace Go.Proofs.YtbfnljmmepcbfaaGreatDoor
open Go.Sy
open UInt8 renaming reduceLT -> Q0, reduceLE -> Q1
open Int renaming reduceToNat -> Q2, reduceLE -> Q3, reduceLT -> Q4, reduceEq -> Q5, reduceNe -> Q6, reduceNeg -> Q7, reduceAdd -> Q8, reduceSub -> Q9, reduceMul -> Qa
open Nat renaming reducePow -> Qb, reduceDiv -> Qc, reduceMod -> Qd, reduceAdd -> Qe, reduceSub -> Qf, reduceMul -> Qg, reduceLT -> Qh, reduceLeDiff -> Qi, reduceEqDiff -> Qj, reduceBEq -> Qk
attribute [go_sem] Int.cast_ofNat_Int
structure Ev where
 reg:Int
 kind:Int
 dg:List (List UInt8)
 data:List UInt8
def bls(l:List (List UInt8)):List (List SV):=l.map fun d=> [.byt d .no]
def Ev.sv(e:Ev):List SV:=[.int .i64 e.reg,.int .i64 e.kind,.lst 1 (bls e.dg) .no,.byt e.data .no]
structure Img where
 role:Int
 name:List UInt8
 ver:Int
 pay:List UInt8
def Img.sv(x:Img):List SV:=[.int .i64 x.role,.str x.name,.int .i64 x.ver,.byt x.pay .no]
theorem xlj(s:List UInt8)(hs:s.length<=1000000000000):∀(n i:Nat),s.length-i=n->i<=s.length->
 run T (.loop yL) ⟨[(0,.str s),(3,.int .i64 i)],[],[]⟩=if(s.drop i).all Pr.okc=true then some (.x 0,⟨[],[],[]⟩)else some (.r,⟨[(2,.bool false)],[],[]⟩):=by
 intro n;induction n with
 |zero=>
  intro i h0 h1;have hi:i=s.length:=by omega
  subst hi;rw[ai,bP];simp only[go_sem,Qh,Qj,Qk,reduceCtorEq,reduceIte]
 |succ n ih=>
  intro i h0 h1;have hi:i<s.length:=by omega
  have e1:=cZ i (by omega);have ih':=ih (i+1) (by omega) (by omega);rw[ai,eg s i hi,List.all_cons];unfold Pr.okc at ih' ⊢;generalize hc:s.getD i 0=c at*;generalize List.all (List.drop (i+1) s) _=q at*
  by_cases a1:c<97
  ·by_cases a3:c<48
   ·by_cases a5:c=45
    ·subst a5;simp only[go_sem,Q0,Qh,Qj,Qk,reduceCtorEq,reduceIte,hi,hc,e1,ih']
    ·simp only[go_sem,Qh,Qj,Qk,reduceCtorEq,reduceIte,hi,hc,a1,a3,a5]
   ·by_cases a4:57<c
    ·by_cases a5:c=45
     ·subst a5;simp only[go_sem,Q0,Qh,Qj,Qk,reduceCtorEq,reduceIte,hi,hc,e1,ih']
     ·simp only[go_sem,Qh,Qj,Qk,reduceCtorEq,reduceIte,hi,hc,a1,a3,a4,a5]
    ·simp only[go_sem,Qh,Qj,Qk,reduceCtorEq,reduceIte,hi,hc,e1,a1,a3,a4,ih']
  ·by_cases a2:122<c
   ·by_cases a3:c<48
    ·exact absurd a3 (by intro h;have:=UInt8.lt_trans a2 h;revert this;decide)
    ·by_cases a4:57<c
     ·by_cases a5:c=45
      ·subst a5;simp only[go_sem,Q0,Qh,Qj,Qk,reduceCtorEq,reduceIte,hi,hc,e1,ih']
      ·simp only[go_sem,Qh,Qj,Qk,reduceCtorEq,reduceIte,hi,hc,a1,a2,a3,a4,a5]
     ·simp only[go_sem,Qh,Qj,Qk,reduceCtorEq,reduceIte,hi,hc,e1,a1,a2,a3,a4,ih']
   ·simp only[go_sem,Qh,Qj,Qk,reduceCtorEq,reduceIte,hi,hc,e1,a1,a2,ih']
theorem xjI(s:List UInt8)(hs:s.length<=1000000000000):call T 106 [.str s] [] 0=some ⟨.bool (Pr.nameB s),[],[]⟩:=by
 have h:=xlj s hs _ 0 rfl (by omega);simp only[aD,bh]at h;rw[an xhx];unfold Pr.nameB
 by_cases h1:s.length<1
 ·have h1':(s.length:Int)<1:=by omega
  simp only[go_sem,Qh,Qi,Qj,Qk,reduceCtorEq,reduceIte,h1,h1']
 ·have h1':¬(s.length:Int)<1:=by omega
  by_cases h2:12<s.length
  ·have h2':(12:Int)<s.length:=by omega
   simp only[go_sem,Qh,Qi,Qj,Qk,reduceCtorEq,reduceIte,h1,h1',h2,h2']
  ·have h2':¬(12:Int)<s.length:=by omega
   cases hq:s.all Pr.okc with
   |true=>rw[if_pos hq]at h;simp only[go_sem,Qh,Qi,Qj,Qk,reduceCtorEq,reduceIte,h1,h1',h2,h2',h]
   |false=>rw[if_neg (by rw[hq];simp)]at h;simp only[go_sem,Qh,Qi,Qj,Qk,reduceCtorEq,reduceIte,h1,h1',h2,h2',h]
def lnF:List UInt8->List (List UInt8)->List UInt8->Option (List (List UInt8)×List UInt8)
 |[],o,l=>some (o,l)
 |c::r,o,l=>if c=10 then(if(l.length:Int)=0 then none else if(4:Int)<=o.length then none else lnF r (o++ [l]) [])else if c<32 then none else if 126<c then none else lnF r o (l++ [c])
def xcS(p:List UInt8):List (List UInt8):=match lnF p [] []with
 |some (o,l)=>if(0:Int)<l.length then []else o
 |none=> []
def xlo(x:Img):Int:=
 if x.role<1 then 1 else if 4<x.role then 1 else if x.ver<0 then 1 else if 1000000<x.ver then 1 else if Pr.nameB x.name=false then 43 else if(64:Int)<x.pay.length then 4 else if x.role=4 then(if((xcS x.pay).length:Int)=0 then 40 else 0)else 0
theorem fj(B X:List UInt8):(jz B X).length=B.length+2+min 65535 X.length:=by unfold jz;rw[af,af,kJ,ax]
theorem mq{s:List UInt8}(h:Pr.nameB s=true):1<=s.length/\s.length<=12:=by
 unfold Pr.nameB at h;split at h
 ·cases h
 ·omega
def im0:Img:=⟨0,[],0,[]⟩
def oP(a b:Int):Int:=if a<b then-1 else if b<a then 1 else 0
theorem xjB(a:Int):call T 161 [.int .i64 a] [] 0=some ⟨.bool false,[],[]⟩:=by rw[an xg0];simp only[go_sem,Qh,Qi,Qj,Qk,reduceCtorEq,reduceIte]
theorem xdE(a b:Int):call T 134 [.int .i64 a,.int .i64 b] [] 0=some ⟨.int .i64 (oP a b),[],[]⟩:=by
 have g1:=xjB a;have g2:=xjB b;rw[an xhf];unfold oP
 by_cases h1:a<b
 ·simp only[go_sem,Q7,Qe,Qh,Qi,Qj,Qk,reduceCtorEq,reduceIte,g1,g2,OH,h1]
 ·by_cases h2:b<a
  ·simp only[go_sem,Q7,Qe,Qh,Qi,Qj,Qk,reduceCtorEq,reduceIte,g1,g2,OH,h1,h2]
  ·simp only[go_sem,Q7,Qe,Qh,Qi,Qj,Qk,reduceCtorEq,reduceIte,g1,g2,OH,h1,h2]
theorem f83(a b:List UInt8):call T 83 [.byt a .no,.byt b .no] [] 0=some ⟨.int .i64 (Lib.compareBytes a b),[],[]⟩:=by rw[eF xmp];rfl
theorem xlB(a b:List UInt8):call T 191 [.str a,.str b] [] 0=some ⟨.int .i64 (Lib.compareBytes a b),[],[]⟩:=by rw[eF xgL];rfl
theorem f189(a:List UInt8):call T 189 [.str a] [] 0=some ⟨.bool (Pr.nameB a),[],[]⟩:=by rw[eF xgM];rfl
theorem xlL(a b:List UInt8):call T 159 [.str a,.str b] [] 0=some ⟨.int .i64 (Lib.compareBytes a b),[],[]⟩:=by have g:=xlB a b;rw[an xg1];simp only[go_sem,Qe,Qh,Qi,Qj,Qk,reduceCtorEq,reduceIte,g,xhD]
def orI(a b c d:Int):Int:=if a≠0 then a else if b≠0 then b else if c≠0 then c else d
theorem xlV(a b c d:Int):call T 133 [.lst 1 [[.int .i64 a],[.int .i64 b],[.int .i64 c],[.int .i64 d]] .no] [] 0=some ⟨.int .i64 (orI a b c d),[],[]⟩:=by
 have k1:ah.wrap 1=1:=rfl;have k2:ah.wrap 2=2:=rfl;have k3:ah.wrap 3=3:=rfl;have k4:ah.wrap 4=4:=rfl;rw[an Ys];unfold orI
 by_cases h1:a=0
 ·subst h1
  by_cases h2:b=0
  ·subst h2
   by_cases h3:c=0
   ·subst h3
    by_cases h4:d=0
    ·subst h4
     simp only[go_sem,Qe,Qh,Qi,Qj,Qk,reduceCtorEq,reduceIte]
     iterate 5
      rw[ai];simp only[go_sem,Q2,Q3,Q4,Q8,Qe,Qh,Qj,Qk,reduceIte,k1,k2,k3,k4]
    ·simp only[go_sem,Qe,Qh,Qi,Qj,Qk,reduceCtorEq,reduceIte]
     iterate 4
      rw[ai];simp only[go_sem,Q2,Q3,Q4,Q8,Qe,Qh,Qj,Qk,reduceIte,k1,k2,k3,h4]
   ·simp only[go_sem,Qe,Qh,Qi,Qj,Qk,reduceCtorEq,reduceIte]
    iterate 3
     rw[ai];simp only[go_sem,Q2,Q3,Q4,Q8,Qe,Qh,Qj,Qk,reduceIte,k1,k2,h3]
  ·simp only[go_sem,Qe,Qh,Qi,Qj,Qk,reduceCtorEq,reduceIte]
   iterate 2
    rw[ai];simp only[go_sem,Q2,Q3,Q4,Q8,Qe,Qh,Qj,Qk,reduceIte,k1,h2]
 ·simp only[go_sem,Qe,Qh,Qi,Qj,Qk,reduceCtorEq,reduceIte]
  rw[ai];simp only[go_sem,Q2,Q3,Q4,Qe,Qh,Qj,Qk,reduceIte,h1]
structure Ent where
 role:Int
 name:List UInt8
 ver:Int
 dig:List UInt8
def Ent.sv(x:Ent):List SV:=[.int .i64 x.role,.str x.name,.int .i64 x.ver,.byt x.dig .no]
def Ec(x y:Ent):Int:=orI (oP x.role y.role) (Lib.compareBytes x.name y.name) (oP x.ver y.ver) (Lib.compareBytes x.dig y.dig)
theorem f128(x y:Ent):call T 128 [.agg x.sv,.agg y.sv] [] 0=some ⟨.int .i64 (Ec x y),[],[]⟩:=by have g1:=xdE x.role y.role;have g2:=xlL x.name y.name;have g3:=xdE x.ver y.ver;have g4:=f83 x.dig y.dig;have g5:=xlV (oP x.role y.role) (Lib.compareBytes x.name y.name) (oP x.ver y.ver) (Lib.compareBytes x.dig y.dig);obtain⟨r,n,v,d⟩:=x;obtain⟨r2,n2,v2,d2⟩:=y;simp only[Ent.sv]at*;rw[an xhh];unfold Ec;simp only[go_sem,Qb,Qc,Qd,Qe,Qh,Qi,Qj,Qk,reduceCtorEq,reduceIte,g1,YU,g2,xhO,g3,g4,xdP,g5,YV]
def lsF:List UInt8->List UInt8->Option Bool
 |a::x,b::y=>if a=b then lsF x y else some (decide (a<b))
 |_,_=>none
theorem vz:∀x y:List UInt8,cM x y=match lsF x y with|some q=>q|none=>decide (x.length<y.length)
 |[],[]=>by simp[lsF,cM]
 |[],_::_=>by simp[lsF,cM]
 |_::_,[]=>by simp[lsF,cM]
 |a::x,b::y=>by
  unfold lsF cM
  by_cases h:a=b
  ·subst h
   rw[if_pos rfl,vz x y];have:¬a<a:=UInt8.lt_irrefl a;simp[this]
  ·rw[if_neg h]
   simp[h]
theorem l98(a b:List UInt8)(ha:a.length<=1000000000000):∀(n i:Nat),a.length-i=n->i<=a.length->i<=b.length->
 run T (.loop NN) ⟨[(0,.byt a .no),(1,.byt b .no),(5,.int .i64 i)],[],[]⟩=
 match lsF (a.drop i) (b.drop i)with
 |some q=>some (.r,⟨[(4,.bool q)],[],[]⟩)
 |none=>some (.x 0,⟨[(0,.byt a .no),(1,.byt b .no)],[],[]⟩):=by
 intro n;induction n with
 |zero=>
  intro i h0 h1 h2;have:i=a.length:=by omega
  subst this;have e:lsF [] (b.drop a.length)=none:=by unfold lsF;rfl
  rw[ai,bP,e];simp only[go_sem,Qh,Qj,Qk,reduceCtorEq,reduceIte]
 |succ n ih=>
  intro i h0 h1 h2;have hi:i<a.length:=by omega
  have e1:=cZ i (by omega);rw[ai,eg a i hi]
  by_cases hj:i<b.length
  ·have ih':=ih (i+1) (by omega) (by omega) (by omega)
   rw[eg b i hj];unfold lsF
   by_cases hc:a.getD i 0=b.getD i 0
   ·rw[if_pos hc]
    simp only[go_sem,Qh,Qj,Qk,reduceCtorEq,reduceIte,hi,hj,e1,hc,ih']
   ·rw[if_neg hc]
    simp only[go_sem,Qh,Qj,Qk,reduceCtorEq,reduceIte,hi,hj,hc]
  ·have hb:b.drop i=[]:=bD (by omega)
   have e:lsF (a.getD i 0::a.drop (i+1)) []=none:=by unfold lsF;rfl
   rw[hb,e];simp only[go_sem,Qh,Qj,Qk,reduceCtorEq,reduceIte,hi,hj]
theorem f98(a b:List UInt8)(ha:a.length<=1000000000000):call T 98 [.byt a .no,.byt b .no] [] 0=some ⟨.bool (cM a b),[],[]⟩:=by
 have h:=l98 a b ha _ 0 rfl (by omega) (by omega);simp only[aD,bh]at h;rw[an xmi,vz];cases hq:lsF a b with
 |some q=>rw[hq]at h;simp only[go_sem,Qe,Qh,Qi,Qj,Qk,reduceCtorEq,reduceIte,h]
 |none=>rw[hq]at h;simp only[go_sem,Qe,Qh,Qi,Qj,Qk,reduceCtorEq,reduceIte,h]
def Ej(x y:Ent):Bool:=if x.role=y.role then(if x.name=y.name then(if x.ver=y.ver then cM x.dig y.dig else decide (x.ver<y.ver))else cM x.name y.name)else decide (x.role<y.role)
theorem xl4(x y:Ent)(hx:x.dig.length<=1000000000000):call T 107 [.agg x.sv,.agg y.sv] [] 0=some ⟨.bool (Ej x y),[],[]⟩:=by
 have g:=f98 x.dig y.dig hx;obtain⟨r,n,v,d⟩:=x;obtain⟨r2,n2,v2,d2⟩:=y;simp only[Ent.sv]at*;rw[an xhw];unfold Ej
 by_cases h1:r=r2
 ·by_cases h2:n=n2
  ·by_cases h3:v=v2
   ·simp only[go_sem,Qe,Qh,Qi,Qj,Qk,reduceCtorEq,reduceIte,h1,h2,h3,g,xmZ]
   ·simp only[go_sem,Qe,Qh,Qi,Qj,Qk,reduceCtorEq,reduceIte,h1,h2,h3]
  ·simp only[go_sem,Qe,Qh,Qi,Qj,Qk,reduceCtorEq,reduceIte,h1,h2]
 ·simp only[go_sem,Qe,Qh,Qi,Qj,Qk,reduceCtorEq,reduceIte,h1]
theorem mC:∀x y:List UInt8,Lib.compareBytes x y<0↔cM x y=true
 |[],[]=>by simp[Lib.compareBytes,cM]
 |[],_::_=>by simp[Lib.compareBytes,cM]
 |_::_,[]=>by simp[Lib.compareBytes,cM]
 |a::x,b::y=>by
  unfold Lib.compareBytes cM;have ih:=mC x y
  by_cases h1:a<b
  ·simp[h1]
  ·by_cases h2:b<a
   ·have h3:¬a=b:=by intro e;subst e;exact h1 h2
    simp[h1,h2,h3]
   ·have h3:a=b:=UInt8.le_antisymm (UInt8.not_lt.1 h2) (UInt8.not_lt.1 h1)
    subst h3;simp[h1,ih]
theorem hU:∀x y:List UInt8,Lib.compareBytes x y=0↔x=y
 |[],[]=>by simp[Lib.compareBytes]
 |[],_::_=>by simp[Lib.compareBytes]
 |_::_,[]=>by simp[Lib.compareBytes]
 |a::x,b::y=>by
  unfold Lib.compareBytes;have ih:=hU x y
  by_cases h1:a<b
  ·have h3:¬a=b:=by intro e;subst e;exact UInt8.lt_irrefl a h1
   simp[h1,h3]
  ·by_cases h2:b<a
   ·have h3:¬a=b:=by intro e;subst e;exact h1 h2
    simp[h1,h2,h3]
   ·have h3:a=b:=UInt8.le_antisymm (UInt8.not_lt.1 h2) (UInt8.not_lt.1 h1)
    subst h3;simp[h1,ih]
theorem BO(a b:Int):oP a b<0↔a<b:=by
 unfold oP;repeat' split
 all_goals omega
theorem oO(a b:Int):oP a b=0↔a=b:=by
 unfold oP;repeat' split
 all_goals omega
theorem Qr(x y:Ent):Ec x y<0↔Ej x y=true:=by
 unfold Ec orI Ej
 by_cases h1:x.role=y.role
 ·rw[if_neg (by simp[oO,h1]),if_pos h1]
  by_cases h2:x.name=y.name
  ·rw[if_neg (by simp[hU,h2]),if_pos h2]
   by_cases h3:x.ver=y.ver
   ·rw[if_neg (by simp[oO,h3]),if_pos h3];exact mC _ _
   ·rw[if_pos (by simp[oO,h3]),if_neg h3,decide_eq_true_eq];exact BO _ _
  ·rw[if_pos (by simp[hU,h2]),if_neg h2];exact mC _ _
 ·rw[if_pos (by simp[oO,h1]),if_neg h1,decide_eq_true_eq];exact BO _ _
theorem xgj(s:List UInt8):call T 158 [.agg [.int .i64 1,.str s,.int .i64 0,.byt [] .no]] [] 0=some ⟨.int .i64 (if Pr.nameB s=true then 0 else 43),[],[]⟩:=by
 have g:=f189 s;rw[an xg2];cases h:Pr.nameB s with
 |true=>rw[h]at g;simp only[go_sem,Q4,Q5,Qe,Qh,Qi,Qj,Qk,reduceCtorEq,reduceIte,g,YJ]
 |false=>rw[h]at g;simp only[go_sem,Q4,Q5,Qe,Qh,Qi,Qj,Qk,reduceCtorEq,reduceIte,g,YJ]
theorem xjG(s:List UInt8):call T 127 [.str s] [] 0=some ⟨.bool (Pr.nameB s),[],[]⟩:=by
 have g:=xgj s;rw[an xhi];cases h:Pr.nameB s with
 |true=>rw[h]at g;simp only[go_sem,Qe,Qh,Qi,Qj,Qk,reduceCtorEq,reduceIte,g,YN]
 |false=>rw[h]at g;simp only[go_sem,Q5,Qe,Qh,Qi,Qj,Qk,reduceCtorEq,reduceIte,g,YN]
structure Rul where
 kind:Int
 text:List UInt8
 lo:Int
 hi:Int
def Rul.sv(r:Rul):List SV:=[.int .i64 r.kind,.str r.text,.int .i64 r.lo,.int .i64 r.hi]
structure Man where
 vendor:List UInt8
 ver:Int
 flr:Int
 frm:Int
 til:Int
 ents:List Ent
 ruls:List Rul
def eC(l:List Ent):List (List SV):=l.map Ent.sv
def eG(l:List Rul):List (List SV):=l.map Rul.sv
def Man.sv(m:Man):List SV:=[.str m.vendor,.int .i64 m.ver,.int .i64 m.flr,.int .i64 m.frm,.int .i64 m.til,.lst 4 (eC m.ents) .no,.lst 4 (eG m.ruls) .no]
def en0:Ent:=⟨0,[],0,[]⟩
def rl0:Rul:=⟨0,[],0,0⟩
theorem dH(l:List Ent):(eC l).length=l.length:=aY ..
theorem dD(l:List Rul):(eG l).length=l.length:=aY ..
theorem gE(l:List Ent)(i:Nat)(h:i<l.length):(eC l).getD i []=(l.getD i en0).sv:=by simp[eC,aa,h]
theorem iY(l:List Rul)(i:Nat)(h:i<l.length):(eG l).getD i []=(l.getD i rl0).sv:=by simp[eG,aa,h]
structure dz(m:Man):Prop where
 v:m.vendor.length<=1000000
 en:m.ents.length<=1000000
 rn:m.ruls.length<=1000000
 e:∀x∈m.ents,x.name.length<=1000000/\x.dig.length<=1000000
 r:∀x∈m.ruls,x.text.length<=1000000
theorem cE{α:Type}(l:List α)(d:α)(i:Nat)(h:i<l.length):l.getD i d∈l:=by rw[aa,ac h];exact bo _
def mT(l:List Ent)(i:Nat):Int:=
 if(l.getD i en0).role<1 then 1 else if 3<(l.getD i en0).role then 1 else if(l.getD i en0).ver<0 then 1 else if 1000000<(l.getD i en0).ver then 1
 else if((l.getD i en0).dig.length:Int)=32 then(if Pr.nameB (l.getD i en0).name=true then(if i=0 then 0 else if Ej (l.getD (i-1) en0) (l.getD i en0)=true then 0 else 41)else 43)else 1
def gZ(l:List Ent):Nat->Nat->Int
 |0,_=>0
 |n+1,i=>if mT l i=0 then gZ l n (i+1)else mT l i
def uX(r:Rul):Int:=chk r.kind r.text r.lo r.hi
def iq:List Rul->Int
 |[]=>0
 |r::t=>if uX r=0 then iq t else uX r
def fm(m:Man):Int:=
 if Pr.nameB m.vendor=true then
  (if m.flr<0 then 1 else if m.ver<m.flr then 1 else if 1000000<m.ver then 1 else if m.frm<0 then 1 else if m.til<=m.frm then 1 else if 1099511627776<m.til then 1
  else if(16:Int)<m.ents.length then 4 else if(8:Int)<m.ruls.length then 4 else if gZ m.ents m.ents.length 0=0 then iq m.ruls else gZ m.ents m.ents.length 0)
 else 43
def zY(m:Man)(i:Nat):CSt:=⟨[(1,.ptr 101 0),(58,.lst 4 (eC m.ents) .no),(59,.int .i64 m.ents.length),(60,.int .i64 i)],[(101,.rc m.sv)],[]⟩
theorem s44(m:Man)(hm:dz m)(i:Nat)(hi:i<m.ents.length):
 (mT m.ents i=0->run T (.loop ln) (zY m i)=run T (.loop ln) (zY m (i+1)))/\
 (mT m.ents i≠0->∃ob,run T (.loop ln) (zY m i)=some (.r,⟨[(2,.int .i64 (mT m.ents i))],ob,[]⟩)):=by
 have e1:=cZ i (by have:=hm.en;omega);have hv:=dH m.ents;have hg:=gE m.ents i hi;have g1:=xjG (m.ents.getD i en0).name;have g2:=f128 (m.ents.getD (i-1) en0) (m.ents.getD i en0);have hb:=Qr (m.ents.getD (i-1) en0) (m.ents.getD i en0);have es:0<i->ah.wrap ((i:Int)-1)=((i-1:Nat):Int):=fun h=>by rw[w64 (by omega) (by have:=hm.en;omega)];omega
 have hi1:i-1<m.ents.length:=by omega
 have hg1:=gE m.ents (i-1) hi1;unfold mT;obtain⟨mv,m1,m2,m3,m4,es0,rs⟩:=m;simp only[zY,Man.sv]at*;generalize es0.getD i en0=x at*;generalize es0.getD (i-1) en0=y at*;obtain⟨r,n,v,d⟩:=x;obtain⟨r2,n2,v2,d2⟩:=y;simp only[Ent.sv]at*
 by_cases a1:r<1
 ·refine⟨fun h=>by simp[a1]at h,fun _=>⟨[(101,.rc [.str mv,.int .i64 m1,.int .i64 m2,.int .i64 m3,.int .i64 m4,.lst 4 (eC es0) .no,.lst 4 (eG rs) .no]),(104,.rc [.int .i64 r,.str n,.int .i64 v,.byt d .no])], ?_⟩⟩
  rw[ai];simp only[go_sem,Qe,Qh,Qi,Qj,Qk,reduceIte,hi,hv,hg,a1]
 by_cases a2:3<r
 ·refine⟨fun h=>by simp[a1,a2]at h,fun _=>⟨[(101,.rc [.str mv,.int .i64 m1,.int .i64 m2,.int .i64 m3,.int .i64 m4,.lst 4 (eC es0) .no,.lst 4 (eG rs) .no]),(104,.rc [.int .i64 r,.str n,.int .i64 v,.byt d .no])], ?_⟩⟩
  rw[ai];simp only[go_sem,Qe,Qh,Qi,Qj,Qk,reduceIte,hi,hv,hg,a1,a2]
 by_cases a3:v<0
 ·refine⟨fun h=>by simp[a1,a2,a3]at h,fun _=>⟨[(101,.rc [.str mv,.int .i64 m1,.int .i64 m2,.int .i64 m3,.int .i64 m4,.lst 4 (eC es0) .no,.lst 4 (eG rs) .no]),(104,.rc [.int .i64 r,.str n,.int .i64 v,.byt d .no])], ?_⟩⟩
  rw[ai];simp only[go_sem,Qe,Qh,Qi,Qj,Qk,reduceIte,hi,hv,hg,a1,a2,a3]
 by_cases a4:1000000<v
 ·refine⟨fun h=>by simp[a1,a2,a3,a4]at h,fun _=>⟨[(101,.rc [.str mv,.int .i64 m1,.int .i64 m2,.int .i64 m3,.int .i64 m4,.lst 4 (eC es0) .no,.lst 4 (eG rs) .no]),(104,.rc [.int .i64 r,.str n,.int .i64 v,.byt d .no])], ?_⟩⟩
  rw[ai];simp only[go_sem,Qe,Qh,Qi,Qj,Qk,reduceIte,hi,hv,hg,a1,a2,a3,a4]
 by_cases a5:(d.length:Int)=32
 ·cases a6:Pr.nameB n with
  |false=>rw[a6]at g1;refine⟨fun h=>by simp[a1,a2,a3,a4,a5]at h,fun _=>⟨[(101,.rc [.str mv,.int .i64 m1,.int .i64 m2,.int .i64 m3,.int .i64 m4,.lst 4 (eC es0) .no,.lst 4 (eG rs) .no]),(104,.rc [.int .i64 r,.str n,.int .i64 v,.byt d .no])], ?_⟩⟩;rw[ai];simp only[go_sem,Qe,Qh,Qi,Qj,Qk,reduceIte,hi,hv,hg,a1,a2,a3,a4,a5,g1,iy]
  |true=>
   rw[a6]at g1
   by_cases a7:i=0
   ·subst a7
    have hp:(0:Int)<es0.length:=by omega
    have kw:ah.wrap 1=1:=rfl;refine⟨fun _=> ?_,fun h=>by simp[a1,a2,a3,a4,a5]at h⟩;rw[ai];simp only[go_sem,Q2,Q3,Q4,Q8,Qb,Qc,Qd,Qe,Qh,Qi,Qj,Qk,reduceIte,hp,kw,hv,hg,a1,a2,a3,a4,a5,g1,iy]
   ·have hp:(0:Int)<(i:Nat):=by omega
    have hp0:0<i:=by omega
    have es':=es hp0;cases a8:Ej ⟨r2,n2,v2,d2⟩ ⟨r,n,v,d⟩with
    |true=>
     have h9:¬0<=Ec ⟨r2,n2,v2,d2⟩ ⟨r,n,v,d⟩:=by have:=hb.2 a8;omega
     refine⟨fun _=> ?_,fun h=>by simp[a1,a2,a3,a4,a5,a7]at h⟩;rw[ai];simp only[go_sem,Qb,Qc,Qd,Qe,Qh,Qi,Qj,Qk,reduceIte,hi,hp,hi1,es',hg1,e1,hv,hg,a1,a2,a3,a4,a5,g1,iy,g2,YX,h9]
    |false=>
     have h9:0<=Ec ⟨r2,n2,v2,d2⟩ ⟨r,n,v,d⟩:=by
      rcases Int.lt_or_le (Ec ⟨r2,n2,v2,d2⟩ ⟨r,n,v,d⟩) 0 with h|h
      ·rw[hb.1 h]at a8;cases a8
      ·exact h
     refine⟨fun h=>by simp[a1,a2,a3,a4,a5,a7]at h,fun _=>⟨[(101,.rc [.str mv,.int .i64 m1,.int .i64 m2,.int .i64 m3,.int .i64 m4,.lst 4 (eC es0) .no,.lst 4 (eG rs) .no]),(104,.rc [.int .i64 r,.str n,.int .i64 v,.byt d .no])], ?_⟩⟩;rw[ai];simp only[go_sem,Qb,Qc,Qd,Qe,Qh,Qi,Qj,Qk,reduceIte,hi,hp,hi1,es',hg1,hv,hg,a1,a2,a3,a4,a5,g1,iy,g2,YX,h9,a7]
 ·refine⟨fun h=>by simp[a1,a2,a3,a4,a5]at h,fun _=>⟨[(101,.rc [.str mv,.int .i64 m1,.int .i64 m2,.int .i64 m3,.int .i64 m4,.lst 4 (eC es0) .no,.lst 4 (eG rs) .no]),(104,.rc [.int .i64 r,.str n,.int .i64 v,.byt d .no])], ?_⟩⟩
  rw[ai];simp only[go_sem,Qe,Qh,Qi,Qj,Qk,reduceIte,hi,hv,hg,a1,a2,a3,a4,a5]
theorem l80(m:Man)(hm:dz m):∀(n i:Nat),m.ents.length-i=n->i<=m.ents.length->
 (gZ m.ents n i=0->run T (.loop ln) (zY m i)=some (.x 1,⟨[(1,.ptr 101 0)],[(101,.rc m.sv)],[]⟩))/\
 (gZ m.ents n i≠0->∃ob,run T (.loop ln) (zY m i)=some (.r,⟨[(2,.int .i64 (gZ m.ents n i))],ob,[]⟩)):=by
 intro n;induction n with
 |zero=>
  intro i h0 h1;have:i=m.ents.length:=by omega
  subst this;refine⟨fun _=> ?_,fun h=>absurd rfl h⟩;rw[ai];simp only[zY,go_sem,Qh,Qj,Qk,reduceIte]
 |succ n ih=>
  intro i h0 h1;obtain⟨s1,s2⟩:=s44 m hm i (by omega);obtain⟨i1,i2⟩:=ih (i+1) (by omega) (by omega);unfold gZ
  by_cases h:mT m.ents i=0
  ·rw[if_pos h,s1 h];exact⟨i1,i2⟩
  ·rw[if_neg h];exact⟨fun h'=>absurd h' h,s2⟩
theorem xkQ(m:Man)(hm:dz m)(ob:List (Nat×aC))(hob:ob=[(101,.rc m.sv)]):∀(n i:Nat),m.ruls.length-i=n->i<=m.ruls.length->
 (iq (m.ruls.drop i)=0->run T (.loop tH) ⟨[(111,.lst 4 (eG m.ruls) .no),(112,.int .i64 m.ruls.length),(113,.int .i64 i)],ob,[]⟩=some (.x 4,⟨[],ob,[]⟩))/\
 (iq (m.ruls.drop i)≠0->∃ob',run T (.loop tH) ⟨[(111,.lst 4 (eG m.ruls) .no),(112,.int .i64 m.ruls.length),(113,.int .i64 i)],ob,[]⟩=some (.r,⟨[(2,.int .i64 (iq (m.ruls.drop i)))],ob',[]⟩)):=by
 intro n;induction n with
 |zero=>
  intro i h0 h1;have:i=m.ruls.length:=by omega
  subst this;rw[bP];refine⟨fun _=> ?_,fun h=>absurd rfl h⟩;rw[ai];simp only[go_sem,Qh,Qj,Qk,reduceIte]
 |succ n ih=>
  intro i h0 h1;have hi:i<m.ruls.length:=by omega
  obtain⟨i1,i2⟩:=ih (i+1) (by omega) (by omega);have e1:=cZ i (by have:=hm.rn;omega);have hv:=dD m.ruls;have hg:=iY m.ruls i hi;have hd:m.ruls.drop i=m.ruls.getD i rl0::m.ruls.drop (i+1):=by rw[bE hi,aa,ac hi];rfl
  have hb:=hm.r _ (cE m.ruls rl0 i hi);rw[hd];unfold iq;generalize m.ruls.drop (i+1)=R at*;generalize m.ruls.getD i rl0=x at*;obtain⟨mv,m1,m2,m3,m4,es0,rs⟩:=m;obtain⟨k,t,lo,hi'⟩:=x;simp only[Man.sv,Rul.sv]at*;subst hob;have g:=f129 k t lo hi' (by omega)
  by_cases h:uX ⟨k,t,lo,hi'⟩=0
  ·rw[if_pos h]
   unfold uX at h;simp only at h;rw[h]at g;refine⟨fun h2=> ?_,fun h2=> ?_⟩
   ·have i1':=i1 h2
    rw[ai];simp only[go_sem,Qe,Qh,Qi,Qj,Qk,reduceIte,hi,e1,hv,hg,g,OL,i1']
   ·obtain⟨ob',i2'⟩:=i2 h2
    refine⟨ob', ?_⟩;rw[ai];simp only[go_sem,Qe,Qh,Qi,Qj,Qk,reduceIte,hi,e1,hv,hg,g,OL,i2']
  ·rw[if_neg h]
   unfold uX at h ⊢;simp only at h ⊢;refine⟨fun h2=>absurd h2 h,fun h2=>⟨[(101,.rc [.str mv,.int .i64 m1,.int .i64 m2,.int .i64 m3,.int .i64 m4,.lst 4 (eC es0) .no,.lst 4 (eG rs) .no]),(106,.rc [.int .i64 k,.str t,.int .i64 lo,.int .i64 hi'])], ?_⟩⟩;rw[ai];simp only[go_sem,Qe,Qh,Qi,Qj,Qk,reduceIte,hi,hv,hg,g,OL,h]
theorem f80(m:Man)(hm:dz m):call T 80 [.agg m.sv] [] 0=some ⟨.int .i64 (fm m),[],[]⟩:=by
 have g1:=xjG m.vendor;obtain⟨l1,l2⟩:=l80 m hm _ 0 rfl (by omega);obtain⟨r1,r2⟩:=xkQ m hm _ rfl _ 0 rfl (by omega);have hv:=dH m.ents;have hr:=dD m.ruls;obtain⟨mv,m1,m2,m3,m4,es0,rs⟩:=m;simp only[zY,Man.sv,aD,bh,Nat.sub_zero]at*;rw[an xms];unfold fm;simp only;cases a0:Pr.nameB mv with
 |false=>rw[a0]at g1;simp only[go_sem,Qe,Qh,Qi,Qj,Qk,reduceCtorEq,reduceIte,g1,iy]
 |true=>
  rw[a0]at g1
  by_cases a1:m2<0
  ·simp only[go_sem,Qe,Qh,Qi,Qj,Qk,reduceCtorEq,reduceIte,g1,iy,a1]
  by_cases a2:m1<m2
  ·simp only[go_sem,Qe,Qh,Qi,Qj,Qk,reduceCtorEq,reduceIte,g1,iy,a1,a2]
  by_cases a3:1000000<m1
  ·simp only[go_sem,Qe,Qh,Qi,Qj,Qk,reduceCtorEq,reduceIte,g1,iy,a1,a2,a3]
  by_cases a4:m3<0
  ·simp only[go_sem,Qe,Qh,Qi,Qj,Qk,reduceCtorEq,reduceIte,g1,iy,a1,a2,a3,a4]
  by_cases a5:m4<=m3
  ·simp only[go_sem,Qe,Qh,Qi,Qj,Qk,reduceCtorEq,reduceIte,g1,iy,a1,a2,a3,a4,a5]
  by_cases a6:1099511627776<m4
  ·simp only[go_sem,Qe,Qh,Qi,Qj,Qk,reduceCtorEq,reduceIte,g1,iy,a1,a2,a3,a4,a5,a6]
  by_cases a7:(16:Int)<es0.length
  ·simp only[go_sem,Qe,Qh,Qi,Qj,Qk,reduceCtorEq,reduceIte,g1,iy,a1,a2,a3,a4,a5,a6,a7,hv]
  by_cases a8:(8:Int)<rs.length
  ·simp only[go_sem,Qe,Qh,Qi,Qj,Qk,reduceCtorEq,reduceIte,g1,iy,a1,a2,a3,a4,a5,a6,a7,a8,hv,hr]
  by_cases a9:gZ es0 es0.length 0=0
  ·have l1':=l1 a9
   by_cases b0:iq rs=0
   ·have r1':=r1 b0
    simp only[go_sem,Qe,Qh,Qi,Qj,Qk,reduceCtorEq,reduceIte,g1,iy,a1,a2,a3,a4,a5,a6,a7,a8,hv,hr,l1',a9,r1',b0]
   ·obtain⟨ob,r2'⟩:=r2 b0
    simp only[go_sem,Qe,Qh,Qi,Qj,Qk,reduceCtorEq,reduceIte,g1,iy,a1,a2,a3,a4,a5,a6,a7,a8,hv,hr,l1',a9,r2']
  ·obtain⟨ob,l2'⟩:=l2 a9
   simp only[go_sem,Qe,Qh,Qi,Qj,Qk,reduceCtorEq,reduceIte,g1,iy,a1,a2,a3,a4,a5,a6,a7,a8,hv,hr,l2',a9]
def zX(m:Man)(i:Nat):CSt:=⟨[(1,.ptr 101 0),(3,.int .i64 i)],[(101,.rc m.sv)],[]⟩
theorem s54(m:Man)(hm:dz m)(i:Nat)(hi:i<m.ents.length):
 (mT m.ents i=0->run T (.loop lq) (zX m i)=run T (.loop lq) (zX m (i+1)))/\
 (mT m.ents i≠0->∃ob,run T (.loop lq) (zX m i)=some (.r,⟨[(2,.int .i64 (mT m.ents i))],ob,[]⟩)):=by
 have e1:=cZ i (by have:=hm.en;omega);have hv:=dH m.ents;have hg:=gE m.ents i hi;have hbx:=hm.e _ (cE m.ents en0 i hi);have hi1:i-1<m.ents.length:=by omega
 have hby:=hm.e _ (cE m.ents en0 (i-1) hi1);have g1:=xjI (m.ents.getD i en0).name (by omega);have g2:=xl4 (m.ents.getD (i-1) en0) (m.ents.getD i en0) (by omega);have es:0<i->ah.wrap ((i:Int)-1)=((i-1:Nat):Int):=fun h=>by rw[w64 (by omega) (by have:=hm.en;omega)];omega
 have hg1:=gE m.ents (i-1) hi1;unfold mT;obtain⟨mv,m1,m2,m3,m4,es0,rs⟩:=m;simp only[zX,Man.sv]at*;generalize es0.getD i en0=x at*;generalize es0.getD (i-1) en0=y at*;obtain⟨r,n,v,d⟩:=x;obtain⟨r2,n2,v2,d2⟩:=y;simp only[Ent.sv]at*
 by_cases a1:r<1
 ·refine⟨fun h=>by simp[a1]at h,fun _=>⟨[(101,.rc [.str mv,.int .i64 m1,.int .i64 m2,.int .i64 m3,.int .i64 m4,.lst 4 (eC es0) .no,.lst 4 (eG rs) .no]),(104,.rc [.int .i64 r,.str n,.int .i64 v,.byt d .no])], ?_⟩⟩
  rw[ai];simp only[go_sem,Qe,Qh,Qi,Qj,Qk,reduceIte,hi,hv,hg,a1]
 by_cases a2:3<r
 ·refine⟨fun h=>by simp[a1,a2]at h,fun _=>⟨[(101,.rc [.str mv,.int .i64 m1,.int .i64 m2,.int .i64 m3,.int .i64 m4,.lst 4 (eC es0) .no,.lst 4 (eG rs) .no]),(104,.rc [.int .i64 r,.str n,.int .i64 v,.byt d .no])], ?_⟩⟩
  rw[ai];simp only[go_sem,Qe,Qh,Qi,Qj,Qk,reduceIte,hi,hv,hg,a1,a2]
 by_cases a3:v<0
 ·refine⟨fun h=>by simp[a1,a2,a3]at h,fun _=>⟨[(101,.rc [.str mv,.int .i64 m1,.int .i64 m2,.int .i64 m3,.int .i64 m4,.lst 4 (eC es0) .no,.lst 4 (eG rs) .no]),(104,.rc [.int .i64 r,.str n,.int .i64 v,.byt d .no])], ?_⟩⟩
  rw[ai];simp only[go_sem,Qe,Qh,Qi,Qj,Qk,reduceIte,hi,hv,hg,a1,a2,a3]
 by_cases a4:1000000<v
 ·refine⟨fun h=>by simp[a1,a2,a3,a4]at h,fun _=>⟨[(101,.rc [.str mv,.int .i64 m1,.int .i64 m2,.int .i64 m3,.int .i64 m4,.lst 4 (eC es0) .no,.lst 4 (eG rs) .no]),(104,.rc [.int .i64 r,.str n,.int .i64 v,.byt d .no])], ?_⟩⟩
  rw[ai];simp only[go_sem,Qe,Qh,Qi,Qj,Qk,reduceIte,hi,hv,hg,a1,a2,a3,a4]
 by_cases a5:(d.length:Int)=32
 ·cases a6:Pr.nameB n with
  |false=>rw[a6]at g1;refine⟨fun h=>by simp[a1,a2,a3,a4,a5]at h,fun _=>⟨[(101,.rc [.str mv,.int .i64 m1,.int .i64 m2,.int .i64 m3,.int .i64 m4,.lst 4 (eC es0) .no,.lst 4 (eG rs) .no]),(104,.rc [.int .i64 r,.str n,.int .i64 v,.byt d .no])], ?_⟩⟩;rw[ai];simp only[go_sem,Qe,Qh,Qi,Qj,Qk,reduceIte,hi,hv,hg,a1,a2,a3,a4,a5,g1,iz]
  |true=>
   rw[a6]at g1
   by_cases a7:i=0
   ·subst a7
    have hp:(0:Int)<es0.length:=by omega
    have kw:ah.wrap 1=1:=rfl;refine⟨fun _=> ?_,fun h=>by simp[a1,a2,a3,a4,a5]at h⟩;rw[ai];simp only[go_sem,Q2,Q3,Q4,Q8,Qb,Qc,Qd,Qe,Qh,Qi,Qj,Qk,reduceIte,hp,kw,hv,hg,a1,a2,a3,a4,a5,g1,iz]
   ·have hp:(0:Int)<(i:Nat):=by omega
    have hp0:0<i:=by omega
    have es':=es hp0;cases a8:Ej ⟨r2,n2,v2,d2⟩ ⟨r,n,v,d⟩with
    |true=>rw[a8]at g2;refine⟨fun _=> ?_,fun h=>by simp[a1,a2,a3,a4,a5,a7]at h⟩;rw[ai];simp only[go_sem,Qb,Qc,Qd,Qe,Qh,Qi,Qj,Qk,reduceIte,hi,hp,hi1,es',hg1,e1,hv,hg,a1,a2,a3,a4,a5,g1,iz,g2,Y1]
    |false=>rw[a8]at g2;refine⟨fun h=>by simp[a1,a2,a3,a4,a5,a7]at h,fun _=>⟨[(101,.rc [.str mv,.int .i64 m1,.int .i64 m2,.int .i64 m3,.int .i64 m4,.lst 4 (eC es0) .no,.lst 4 (eG rs) .no]),(104,.rc [.int .i64 r,.str n,.int .i64 v,.byt d .no])], ?_⟩⟩;rw[ai];simp only[go_sem,Qb,Qc,Qd,Qe,Qh,Qi,Qj,Qk,reduceIte,hi,hp,hi1,es',hg1,hv,hg,a1,a2,a3,a4,a5,g1,iz,g2,Y1,a7]
 ·refine⟨fun h=>by simp[a1,a2,a3,a4,a5]at h,fun _=>⟨[(101,.rc [.str mv,.int .i64 m1,.int .i64 m2,.int .i64 m3,.int .i64 m4,.lst 4 (eC es0) .no,.lst 4 (eG rs) .no]),(104,.rc [.int .i64 r,.str n,.int .i64 v,.byt d .no])], ?_⟩⟩
  rw[ai];simp only[go_sem,Qe,Qh,Qi,Qj,Qk,reduceIte,hi,hv,hg,a1,a2,a3,a4,a5]
theorem l62(m:Man)(hm:dz m):∀(n i:Nat),m.ents.length-i=n->i<=m.ents.length->
 (gZ m.ents n i=0->run T (.loop lq) (zX m i)=some (.x 0,⟨[(1,.ptr 101 0)],[(101,.rc m.sv)],[]⟩))/\
 (gZ m.ents n i≠0->∃ob,run T (.loop lq) (zX m i)=some (.r,⟨[(2,.int .i64 (gZ m.ents n i))],ob,[]⟩)):=by
 intro n;induction n with
 |zero=>
  intro i h0 h1;have:i=m.ents.length:=by omega
  subst this;refine⟨fun _=> ?_,fun h=>absurd rfl h⟩;rw[ai];have hv:=dH m.ents;obtain⟨mv,m1,m2,m3,m4,es0,rs⟩:=m;simp only[zX,Man.sv]at*;simp only[go_sem,Qe,Qh,Qi,Qj,Qk,reduceIte,hv]
 |succ n ih=>
  intro i h0 h1;obtain⟨s1,s2⟩:=s54 m hm i (by omega);obtain⟨i1,i2⟩:=ih (i+1) (by omega) (by omega);unfold gZ
  by_cases h:mT m.ents i=0
  ·rw[if_pos h,s1 h];exact⟨i1,i2⟩
  ·rw[if_neg h];exact⟨fun h'=>absurd h' h,s2⟩
theorem xkU(m:Man)(hm:dz m)(ob:List (Nat×aC))(hob:ob=[(101,.rc m.sv)]):∀(n i:Nat),m.ruls.length-i=n->i<=m.ruls.length->
 (iq (m.ruls.drop i)=0->run T (.loop tK) ⟨[(1,.ptr 101 0),(5,.int .i64 i)],ob,[]⟩=some (.x 2,⟨[],ob,[]⟩))/\
 (iq (m.ruls.drop i)≠0->∃ob',run T (.loop tK) ⟨[(1,.ptr 101 0),(5,.int .i64 i)],ob,[]⟩=some (.r,⟨[(2,.int .i64 (iq (m.ruls.drop i)))],ob',[]⟩)):=by
 intro n;induction n with
 |zero=>
  intro i h0 h1;have:i=m.ruls.length:=by omega
  subst this;rw[bP];refine⟨fun _=> ?_,fun h=>absurd rfl h⟩;have hv:=dD m.ruls;obtain⟨mv,m1,m2,m3,m4,es0,rs⟩:=m;subst hob;simp only[Man.sv]at*;rw[ai];simp only[go_sem,Qe,Qh,Qj,Qk,reduceIte,hv]
 |succ n ih=>
  intro i h0 h1;have hi:i<m.ruls.length:=by omega
  obtain⟨i1,i2⟩:=ih (i+1) (by omega) (by omega);have e1:=cZ i (by have:=hm.rn;omega);have hv:=dD m.ruls;have hg:=iY m.ruls i hi;have hd:m.ruls.drop i=m.ruls.getD i rl0::m.ruls.drop (i+1):=by rw[bE hi,aa,ac hi];rfl
  have hb:=hm.r _ (cE m.ruls rl0 i hi);rw[hd];unfold iq;generalize m.ruls.drop (i+1)=R at*;generalize m.ruls.getD i rl0=x at*;obtain⟨mv,m1,m2,m3,m4,es0,rs⟩:=m;obtain⟨k,t,lo,hi'⟩:=x;simp only[Man.sv,Rul.sv]at*;subst hob;have g:=xl3 k t lo hi' (by omega)
  by_cases h:uX ⟨k,t,lo,hi'⟩=0
  ·rw[if_pos h]
   unfold uX at h;simp only at h;rw[h]at g;refine⟨fun h2=> ?_,fun h2=> ?_⟩
   ·have i1':=i1 h2
    rw[ai];simp only[go_sem,Qe,Qh,Qj,Qk,reduceIte,hi,e1,hv,hg,g,OP,i1']
   ·obtain⟨ob',i2'⟩:=i2 h2
    refine⟨ob', ?_⟩;rw[ai];simp only[go_sem,Qe,Qh,Qj,Qk,reduceIte,hi,e1,hv,hg,g,OP,i2']
  ·rw[if_neg h]
   unfold uX at h ⊢;simp only at h ⊢;refine⟨fun h2=>absurd h2 h,fun h2=>⟨[(101,.rc [.str mv,.int .i64 m1,.int .i64 m2,.int .i64 m3,.int .i64 m4,.lst 4 (eC es0) .no,.lst 4 (eG rs) .no])], ?_⟩⟩;rw[ai];simp only[go_sem,Qe,Qh,Qj,Qk,reduceIte,hi,hv,hg,g,OP,h]
theorem f62(m:Man)(hm:dz m):call T 62 [.agg m.sv] [] 0=some ⟨.int .i64 (fm m),[],[]⟩:=by
 have g1:=xjI m.vendor (by have:=hm.v;omega);obtain⟨l1,l2⟩:=l62 m hm _ 0 rfl (by omega);obtain⟨r1,r2⟩:=xkU m hm _ rfl _ 0 rfl (by omega);have hv:=dH m.ents;have hr:=dD m.ruls;obtain⟨mv,m1,m2,m3,m4,es0,rs⟩:=m;simp only[zX,Man.sv,aD,bh,Nat.sub_zero]at*;rw[an xmD];unfold fm;simp only;cases a0:Pr.nameB mv with
 |false=>rw[a0]at g1;simp only[go_sem,Qe,Qh,Qi,Qj,Qk,reduceCtorEq,reduceIte,g1,iz]
 |true=>
  rw[a0]at g1
  by_cases a1:m2<0
  ·simp only[go_sem,Qe,Qh,Qi,Qj,Qk,reduceCtorEq,reduceIte,g1,iz,a1]
  by_cases a2:m1<m2
  ·simp only[go_sem,Qe,Qh,Qi,Qj,Qk,reduceCtorEq,reduceIte,g1,iz,a1,a2]
  by_cases a3:1000000<m1
  ·simp only[go_sem,Qe,Qh,Qi,Qj,Qk,reduceCtorEq,reduceIte,g1,iz,a1,a2,a3]
  by_cases a4:m3<0
  ·simp only[go_sem,Qe,Qh,Qi,Qj,Qk,reduceCtorEq,reduceIte,g1,iz,a1,a2,a3,a4]
  by_cases a5:m4<=m3
  ·simp only[go_sem,Qe,Qh,Qi,Qj,Qk,reduceCtorEq,reduceIte,g1,iz,a1,a2,a3,a4,a5]
  by_cases a6:1099511627776<m4
  ·simp only[go_sem,Qe,Qh,Qi,Qj,Qk,reduceCtorEq,reduceIte,g1,iz,a1,a2,a3,a4,a5,a6]
  by_cases a7:(16:Int)<es0.length
  ·simp only[go_sem,Qe,Qh,Qi,Qj,Qk,reduceCtorEq,reduceIte,g1,iz,a1,a2,a3,a4,a5,a6,a7,hv]
  by_cases a8:(8:Int)<rs.length
  ·simp only[go_sem,Qe,Qh,Qi,Qj,Qk,reduceCtorEq,reduceIte,g1,iz,a1,a2,a3,a4,a5,a6,a7,a8,hv,hr]
  by_cases a9:gZ es0 es0.length 0=0
  ·have l1':=l1 a9
   by_cases b0:iq rs=0
   ·have r1':=r1 b0
    simp only[go_sem,Qe,Qh,Qi,Qj,Qk,reduceCtorEq,reduceIte,g1,iz,a1,a2,a3,a4,a5,a6,a7,a8,hv,hr,l1',a9,r1',b0]
   ·obtain⟨ob,r2'⟩:=r2 b0
    simp only[go_sem,Qe,Qh,Qi,Qj,Qk,reduceCtorEq,reduceIte,g1,iz,a1,a2,a3,a4,a5,a6,a7,a8,hv,hr,l1',a9,r2']
  ·obtain⟨ob,l2'⟩:=l2 a9
   simp only[go_sem,Qe,Qh,Qi,Qj,Qk,reduceCtorEq,reduceIte,g1,iz,a1,a2,a3,a4,a5,a6,a7,a8,hv,hr,l2',a9]
end Go.Proofs.YtbfnljmmepcbfaaGreatDoor
namespace SortT
variable {α : Type}
def inn(eq:α->α->Bool)(d:α):Nat->List α->Nat->Nat->List α×Nat
 |0,B,k,_=>(B,k)
 |m+1,B,k,p=>if eq (B.getD p d) (B.getD (p-1) d)=true then inn eq d m B k (p+1)else inn eq d m (B.set k (B.getD p d)) (k+1) (p+1)
end SortT
namespace Go.Proofs.YtbfnljmmepcbfaaGreatDoor
open Go.Sy
open UInt8 renaming reduceLT -> Q0, reduceLE -> Q1
open Int renaming reduceToNat -> Q2, reduceLE -> Q3, reduceLT -> Q4, reduceEq -> Q5, reduceNe -> Q6, reduceNeg -> Q7, reduceAdd -> Q8, reduceSub -> Q9, reduceMul -> Qa
open Nat renaming reducePow -> Qb, reduceDiv -> Qc, reduceMod -> Qd, reduceAdd -> Qe, reduceSub -> Qf, reduceMul -> Qg, reduceLT -> Qh, reduceLeDiff -> Qi, reduceEqDiff -> Qj, reduceBEq -> Qk
section
open SortT
theorem i9:∀a:List UInt8,Lib.compareBytes a a=0
 |[]=>rfl
 |x::r=>by have h:=i9 r;simp[Lib.compareBytes,h]
theorem qp:∀a b c:List UInt8,Lib.compareBytes a b<0->Lib.compareBytes b c<0->Lib.compareBytes a c<0
 |[],[],_,h,_=>by simp[Lib.compareBytes]at h
 |[],_::_,[],_,k=>by simp[Lib.compareBytes]at k
 |[],_::_,_::_,_,_=>by simp[Lib.compareBytes]
 |_::_,[],_,h,_=>by simp[Lib.compareBytes]at h
 |_::_,_::_,[],_,k=>by simp[Lib.compareBytes]at k
 |x::r,y::s,z::t,h,k=>by
  have ih:=qp r s t;unfold Lib.compareBytes at h k ⊢;have e1:(x<y)=(x.toNat<y.toNat):=rfl;have e2:(y<z)=(y.toNat<z.toNat):=rfl;have e3:(x<z)=(x.toNat<z.toNat):=rfl;have e4:(y<x)=(y.toNat<x.toNat):=rfl;have e5:(z<y)=(z.toNat<y.toNat):=rfl;have e6:(z<x)=(z.toNat<x.toNat):=rfl;simp only[e1,e2,e3,e4,e5,e6]at h k ⊢
  by_cases a1:x.toNat<y.toNat
  ·by_cases a2:y.toNat<z.toNat
   ·rw[if_pos (by omega)];decide
   ·rw[if_neg a2]at k
    by_cases a3:z.toNat<y.toNat
    ·rw[if_pos a3]at k;exact absurd k (by decide)
    ·rw[if_pos (by omega)];decide
  ·rw[if_neg a1]at h
   by_cases a4:y.toNat<x.toNat
   ·rw[if_pos a4]at h;exact absurd h (by decide)
   ·rw[if_neg a4]at h
    by_cases a2:y.toNat<z.toNat
    ·rw[if_pos (by omega)];decide
    ·rw[if_neg a2]at k
     by_cases a3:z.toNat<y.toNat
     ·rw[if_pos a3]at k;exact absurd k (by decide)
     ·rw[if_neg a3]at k
      rw[if_neg (by omega),if_neg (by omega)];exact ih h k
theorem j6:∀{a b:List UInt8},¬Lib.compareBytes a b<0->¬Lib.compareBytes a b=0->Lib.compareBytes b a<0
 |[],[],_,k=>absurd rfl k
 |[],_::_,h,_=>absurd (by simp[Lib.compareBytes]) h
 |_::_,[],_,_=>by simp[Lib.compareBytes]
 |x::r,y::s,h,k=>by
  unfold Lib.compareBytes at h k ⊢
  by_cases a1:x<y
  ·rw[if_pos a1]at h;exact absurd (by decide) h
  ·rw[if_neg a1]at h k
   by_cases a2:y<x
   ·rw[if_pos a2];decide
   ·rw[if_neg a2]at h k
    rw[if_neg a2,if_neg a1];exact j6 h k
end
end Go.Proofs.YtbfnljmmepcbfaaGreatDoor
