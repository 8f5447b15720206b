/- What the functions come to. No condition. -/
import Derived.Test.YtkggincjigbelaaGreatDoorTnD
open Int renaming natCast_zero -> aB
open Go.IntKind renaming i64 -> af
open List renaming Pairwise -> gY, append_assoc -> av, append_nil -> aZ, drop_eq_getElem_cons -> bq, drop_eq_nil_of_le -> bO, drop_length -> bP, drop_zero -> bj, eq_nil_of_length_eq_zero -> ku, foldl_cons -> cr, getD_eq_getElem?_getD -> aa, getElem?_drop -> br, getElem?_eq_getElem -> ab, getElem_mem -> bi, length_map -> aN, length_set -> cZ, mem_append -> al, mem_cons -> an, mem_cons_of_mem -> ao, mem_cons_self -> ay, mem_singleton -> aY, not_mem_nil -> bU, pairwise_append -> dF, pairwise_cons -> bE, pairwise_iff_getElem -> mN, pairwise_singleton -> qH, take_length -> bY
open Nat renaming add_sub_cancel -> je, le_refl -> aH
open Go.Op renaming bytesLess -> bV
set_option maxRecDepth 100000
set_option maxHeartbeats 16000000
set_option linter.unusedSimpArgs false
set_option linter.unusedVariables false
namespace Go.Proofs.YtkggincjigbelaaGreatDoor
open Go.Sy
open UInt8 renaming reduceLT -> Q0, reduceLE -> Q1
open Int renaming reduceToNat -> Q2, reduceLE -> Q3, reduceLT -> Q4, reduceEq -> Q5, reduceNe -> Q6, reduceNeg -> Q7, reduceAdd -> Q8, reduceSub -> Q9, reduceMul -> Qa
open Nat renaming reducePow -> Qb, reduceDiv -> Qc, reduceMod -> Qd, reduceAdd -> Qe, reduceSub -> Qf, reduceMul -> Qg, reduceLT -> Qh, reduceLeDiff -> Qi, reduceEqDiff -> Qj, reduceBEq -> Qk
def qk(a b:Int):Int:=if a<b then-1 else if b<a then 1 else 0
theorem xja(a:Int):call T 176 [.int .i64 a] [] 0=some ⟨.bool false,[],[]⟩:=by rw[aj xgy];simp only[go_sem,Q0,Q1,Q2,Q3,Q4,Q5,Q6,Q7,Q8,Q9,Qa,Qb,Qc,Qd,Qe,Qf,Qg,Qh,Qi,Qj,Qk,reduceCtorEq,reduceIte]
theorem xjj(a b:Int):call T 110 [.int .i64 a,.int .i64 b] [] 0=some ⟨.int .i64 (qk a b),[],[]⟩:=by
 have g1:=xja a;have g2:=xja b;rw[aj xhd];unfold qk
 by_cases h1:a<b
 ·simp only[go_sem,Q0,Q1,Q2,Q3,Q4,Q5,Q6,Q7,Q8,Q9,Qa,Qb,Qc,Qd,Qe,Qf,Qg,Qh,Qi,Qj,Qk,reduceCtorEq,reduceIte,g1,g2,NP,h1]
 ·by_cases h2:b<a
  ·simp only[go_sem,Q0,Q1,Q2,Q3,Q4,Q5,Q6,Q7,Q8,Q9,Qa,Qb,Qc,Qd,Qe,Qf,Qg,Qh,Qi,Qj,Qk,reduceCtorEq,reduceIte,g1,g2,NP,h1,h2]
  ·simp only[go_sem,Q0,Q1,Q2,Q3,Q4,Q5,Q6,Q7,Q8,Q9,Qa,Qb,Qc,Qd,Qe,Qf,Qg,Qh,Qi,Qj,Qk,reduceCtorEq,reduceIte,g1,g2,NP,h1,h2]
theorem xlR(a b:List UInt8):call T 112 [.byt a .no,.byt b .no] [] 0=some ⟨.int .i64 (Lib.compareBytes a b),[],[]⟩:=by rw[ix xhb];rfl
theorem xlw(a b:List UInt8):call T 177 [.str a,.str b] [] 0=some ⟨.int .i64 (Lib.compareBytes a b),[],[]⟩:=by rw[ix xgx];rfl
theorem xjk(a:List UInt8):call T 102 [.str a] [] 0=some ⟨.bool (Pr.nameB a),[],[]⟩:=by rw[ix xhj];rfl
theorem xlS(a b:List UInt8):call T 111 [.str a,.str b] [] 0=some ⟨.int .i64 (Lib.compareBytes a b),[],[]⟩:=by have g:=xlw a b;rw[aj xhc];simp only[go_sem,Q0,Q1,Q2,Q3,Q4,Q5,Q6,Q7,Q8,Q9,Qa,Qb,Qc,Qd,Qe,Qf,Qg,Qh,Qi,Qj,Qk,reduceCtorEq,reduceIte,g,xht]
def orI(a b c d:Int):Int:=if a≠0 then a else if b≠0 then b else if c≠0 then c else d
theorem xlT(a b c d:Int):call T 109 [.lst 1 [[.int .i64 a],[.int .i64 b],[.int .i64 c],[.int .i64 d]] .no] [] 0=some ⟨.int .i64 (orI a b c d),[],[]⟩:=by
 have k1:af.wrap 1=1:=rfl;have k2:af.wrap 2=2:=rfl;have k3:af.wrap 3=3:=rfl;have k4:af.wrap 4=4:=rfl;rw[aj xhe];unfold orI
 by_cases h1:a=0
 ·subst h1
  by_cases h2:b=0
  ·subst h2
   by_cases h3:c=0
   ·subst h3
    by_cases h4:d=0
    ·subst h4
     simp only[go_sem,Q0,Q1,Q2,Q3,Q4,Q5,Q6,Q7,Q8,Q9,Qa,Qb,Qc,Qd,Qe,Qf,Qg,Qh,Qi,Qj,Qk,reduceCtorEq,reduceIte]
     iterate 5
      rw[ah];simp only[go_sem,Q0,Q1,Q2,Q3,Q4,Q5,Q6,Q7,Q8,Q9,Qa,Qb,Qc,Qd,Qe,Qf,Qg,Qh,Qi,Qj,Qk,reduceCtorEq,reduceIte,k1,k2,k3,k4]
    ·simp only[go_sem,Q0,Q1,Q2,Q3,Q4,Q5,Q6,Q7,Q8,Q9,Qa,Qb,Qc,Qd,Qe,Qf,Qg,Qh,Qi,Qj,Qk,reduceCtorEq,reduceIte]
     iterate 4
      rw[ah];simp only[go_sem,Q0,Q1,Q2,Q3,Q4,Q5,Q6,Q7,Q8,Q9,Qa,Qb,Qc,Qd,Qe,Qf,Qg,Qh,Qi,Qj,Qk,reduceCtorEq,reduceIte,k1,k2,k3,k4,h4]
   ·simp only[go_sem,Q0,Q1,Q2,Q3,Q4,Q5,Q6,Q7,Q8,Q9,Qa,Qb,Qc,Qd,Qe,Qf,Qg,Qh,Qi,Qj,Qk,reduceCtorEq,reduceIte]
    iterate 3
     rw[ah];simp only[go_sem,Q0,Q1,Q2,Q3,Q4,Q5,Q6,Q7,Q8,Q9,Qa,Qb,Qc,Qd,Qe,Qf,Qg,Qh,Qi,Qj,Qk,reduceCtorEq,reduceIte,k1,k2,k3,k4,h3]
  ·simp only[go_sem,Q0,Q1,Q2,Q3,Q4,Q5,Q6,Q7,Q8,Q9,Qa,Qb,Qc,Qd,Qe,Qf,Qg,Qh,Qi,Qj,Qk,reduceCtorEq,reduceIte]
   iterate 2
    rw[ah];simp only[go_sem,Q0,Q1,Q2,Q3,Q4,Q5,Q6,Q7,Q8,Q9,Qa,Qb,Qc,Qd,Qe,Qf,Qg,Qh,Qi,Qj,Qk,reduceCtorEq,reduceIte,k1,k2,k3,k4,h2]
 ·simp only[go_sem,Q0,Q1,Q2,Q3,Q4,Q5,Q6,Q7,Q8,Q9,Qa,Qb,Qc,Qd,Qe,Qf,Qg,Qh,Qi,Qj,Qk,reduceCtorEq,reduceIte]
  rw[ah];simp only[go_sem,Q0,Q1,Q2,Q3,Q4,Q5,Q6,Q7,Q8,Q9,Qa,Qb,Qc,Qd,Qe,Qf,Qg,Qh,Qi,Qj,Qk,reduceCtorEq,reduceIte,k1,k2,k3,k4,h1]
structure Ent where
 role:Int
 name:List UInt8
 ver:Int
 dig:List UInt8
def Ent.sv(x:Ent):List SV:=[.int .i64 x.role,.str x.name,.int .i64 x.ver,.byt x.dig .no]
def rk(x y:Ent):Int:=orI (qk x.role y.role) (Lib.compareBytes x.name y.name) (qk x.ver y.ver) (Lib.compareBytes x.dig y.dig)
theorem f67(x y:Ent):call T 67 [.agg x.sv,.agg y.sv] [] 0=some ⟨.int .i64 (rk x y),[],[]⟩:=by have g1:=xjj x.role y.role;have g2:=xlS x.name y.name;have g3:=xjj x.ver y.ver;have g4:=xlR x.dig y.dig;have g5:=xlT (qk x.role y.role) (Lib.compareBytes x.name y.name) (qk x.ver y.ver) (Lib.compareBytes x.dig y.dig);obtain⟨r,n,v,d⟩:=x;obtain⟨r2,n2,v2,d2⟩:=y;simp only[Ent.sv]at*;rw[aj xms];unfold rk;simp only[go_sem,Q0,Q1,Q2,Q3,Q4,Q5,Q6,Q7,Q8,Q9,Qa,Qb,Qc,Qd,Qe,Qf,Qg,Qh,Qi,Qj,Qk,reduceCtorEq,reduceIte,g1,xhI,g2,xhH,g3,g4,xhG,g5,xhJ]
def eL(x y:Ent):Bool:=if x.role=y.role then(if x.name=y.name then(if x.ver=y.ver then bV x.dig y.dig else decide (x.ver<y.ver))else bV x.name y.name)else decide (x.role<y.role)
theorem eB:∀x y:List UInt8,Lib.compareBytes x y<0↔bV x y=true
 |[],[]=>by simp[Lib.compareBytes,bV]
 |[],_::_=>by simp[Lib.compareBytes,bV]
 |_::_,[]=>by simp[Lib.compareBytes,bV]
 |a::x,b::y=>by
  unfold Lib.compareBytes bV;have ih:=eB x y
  by_cases h1:a<b
  ·simp[h1]
  ·by_cases h2:b<a
   ·have h3:¬a=b:=by intro e;subst e;exact h1 h2
    simp[h1,h2,h3]
   ·have h3:a=b:=UInt8.le_antisymm (UInt8.not_lt.1 h2) (UInt8.not_lt.1 h1)
    subst h3;simp[h1,ih]
theorem ii:∀x y:List UInt8,Lib.compareBytes x y=0↔x=y
 |[],[]=>by simp[Lib.compareBytes]
 |[],_::_=>by simp[Lib.compareBytes]
 |_::_,[]=>by simp[Lib.compareBytes]
 |a::x,b::y=>by
  unfold Lib.compareBytes;have ih:=ii x y
  by_cases h1:a<b
  ·have h3:¬a=b:=by intro e;subst e;exact UInt8.lt_irrefl a h1
   simp[h1,h3]
  ·by_cases h2:b<a
   ·have h3:¬a=b:=by intro e;subst e;exact h1 h2
    simp[h1,h2,h3]
   ·have h3:a=b:=UInt8.le_antisymm (UInt8.not_lt.1 h2) (UInt8.not_lt.1 h1)
    subst h3;simp[h1,ih]
theorem Bf(a b:Int):qk a b<0↔a<b:=by
 unfold qk;repeat' split
 all_goals omega
theorem ig(a b:Int):qk a b=0↔a=b:=by
 unfold qk;repeat' split
 all_goals omega
theorem rj(x y:Ent):rk x y<0↔eL x y=true:=by
 unfold rk orI eL
 by_cases h1:x.role=y.role
 ·rw[if_neg (by simp[ig,h1]),if_pos h1]
  by_cases h2:x.name=y.name
  ·rw[if_neg (by simp[ii,h2]),if_pos h2]
   by_cases h3:x.ver=y.ver
   ·rw[if_neg (by simp[ig,h3]),if_pos h3];exact eB _ _
   ·rw[if_pos (by simp[ig,h3]),if_neg h3,decide_eq_true_eq];exact Bf _ _
  ·rw[if_pos (by simp[ii,h2]),if_neg h2];exact eB _ _
 ·rw[if_pos (by simp[ig,h1]),if_neg h1,decide_eq_true_eq];exact Bf _ _
theorem xla(s:List UInt8):call T 63 [.agg [.int .i64 1,.str s,.int .i64 0,.byt [] .no]] [] 0=some ⟨.int .i64 (if Pr.nameB s=true then 0 else 43),[],[]⟩:=by
 have g:=xjk s;rw[aj xjw];cases h:Pr.nameB s with
 |true=>rw[h]at g;simp only[go_sem,Q0,Q1,Q2,Q3,Q4,Q5,Q6,Q7,Q8,Q9,Qa,Qb,Qc,Qd,Qe,Qf,Qg,Qh,Qi,Qj,Qk,reduceCtorEq,reduceIte,g,pz]
 |false=>rw[h]at g;simp only[go_sem,Q0,Q1,Q2,Q3,Q4,Q5,Q6,Q7,Q8,Q9,Qa,Qb,Qc,Qd,Qe,Qf,Qg,Qh,Qi,Qj,Qk,reduceCtorEq,reduceIte,g,pz]
theorem xji(s:List UInt8):call T 115 [.str s] [] 0=some ⟨.bool (Pr.nameB s),[],[]⟩:=by
 have g:=xla s;rw[aj xg8];cases h:Pr.nameB s with
 |true=>rw[h]at g;simp only[go_sem,Q0,Q1,Q2,Q3,Q4,Q5,Q6,Q7,Q8,Q9,Qa,Qb,Qc,Qd,Qe,Qf,Qg,Qh,Qi,Qj,Qk,reduceCtorEq,reduceIte,g,uM]
 |false=>rw[h]at g;simp only[go_sem,Q0,Q1,Q2,Q3,Q4,Q5,Q6,Q7,Q8,Q9,Qa,Qb,Qc,Qd,Qe,Qf,Qg,Qh,Qi,Qj,Qk,reduceCtorEq,reduceIte,g,uM]
structure Rul where
 kind:Int
 text:List UInt8
 lo:Int
 hi:Int
def Rul.sv(r:Rul):List SV:=[.int .i64 r.kind,.str r.text,.int .i64 r.lo,.int .i64 r.hi]
structure Man where
 vendor:List UInt8
 ver:Int
 flr:Int
 frm:Int
 til:Int
 ents:List Ent
 ruls:List Rul
def dh(l:List Ent):List (List SV):=l.map Ent.sv
def gP(l:List Rul):List (List SV):=l.map Rul.sv
def Man.sv(m:Man):List SV:=[.str m.vendor,.int .i64 m.ver,.int .i64 m.flr,.int .i64 m.frm,.int .i64 m.til,.lst 4 (dh m.ents) .no,.lst 4 (gP m.ruls) .no]
def en0:Ent:=⟨0,[],0,[]⟩
def rl0:Rul:=⟨0,[],0,0⟩
theorem dP(l:List Ent):(dh l).length=l.length:=aN ..
theorem jJ(l:List Rul):(gP l).length=l.length:=aN ..
theorem fg(l:List Ent)(i:Nat)(h:i<l.length):(dh l).getD i []=(l.getD i en0).sv:=by simp[dh,aa,h]
theorem tK(l:List Rul)(i:Nat)(h:i<l.length):(gP l).getD i []=(l.getD i rl0).sv:=by simp[gP,aa,h]
structure kF(m:Man):Prop where
 v:m.vendor.length<=1000000
 en:m.ents.length<=1000000
 rn:m.ruls.length<=1000000
 e:∀x∈m.ents,x.name.length<=1000000/\x.dig.length<=1000000
 r:∀x∈m.ruls,x.text.length<=1000000
theorem fB{α:Type}(l:List α)(d:α)(i:Nat)(h:i<l.length):l.getD i d∈l:=by rw[aa,ab h];exact bi _
def o8(l:List Ent)(i:Nat):Int:=
 if(l.getD i en0).role<1 then 1 else if 3<(l.getD i en0).role then 1 else if(l.getD i en0).ver<0 then 1 else if 1000000<(l.getD i en0).ver then 1
 else if((l.getD i en0).dig.length:Int)=32 then(if Pr.nameB (l.getD i en0).name=true then(if i=0 then 0 else if eL (l.getD (i-1) en0) (l.getD i en0)=true then 0 else 41)else 43)else 1
def jn(l:List Ent):Nat->Nat->Int
 |0,_=>0
 |n+1,i=>if o8 l i=0 then jn l n (i+1)else o8 l i
def vv(r:Rul):Int:=chk r.kind r.text r.lo r.hi
def jZ:List Rul->Int
 |[]=>0
 |r::t=>if vv r=0 then jZ t else vv r
def jb(m:Man):Int:=
 if Pr.nameB m.vendor=true then
  (if m.flr<0 then 1 else if m.ver<m.flr then 1 else if 1000000<m.ver then 1 else if m.frm<0 then 1 else if m.til<=m.frm then 1 else if 1099511627776<m.til then 1
  else if(16:Int)<m.ents.length then 4 else if(8:Int)<m.ruls.length then 4 else if jn m.ents m.ents.length 0=0 then jZ m.ruls else jn m.ents m.ents.length 0)
 else 43
def y0(m:Man)(i:Nat):CSt:=⟨[(1,.ptr 101 0),(58,.lst 4 (dh m.ents) .no),(59,.int .i64 m.ents.length),(60,.int .i64 i)],[(101,.rc m.sv)],[]⟩
theorem s44(m:Man)(hm:kF m)(i:Nat)(hi:i<m.ents.length):
 (o8 m.ents i=0->run T (.loop kP) (y0 m i)=run T (.loop kP) (y0 m (i+1)))/\
 (o8 m.ents i≠0->∃ob,run T (.loop kP) (y0 m i)=some (.r,⟨[(2,.int .i64 (o8 m.ents i))],ob,[]⟩)):=by
 have e1:=cR i (by have:=hm.en;omega);have hv:=dP m.ents;have hg:=fg m.ents i hi;have g1:=xji (m.ents.getD i en0).name;have g2:=f67 (m.ents.getD (i-1) en0) (m.ents.getD i en0);have hb:=rj (m.ents.getD (i-1) en0) (m.ents.getD i en0);have es:0<i->af.wrap ((i:Int)-1)=((i-1:Nat):Int):=fun h=>by rw[w64 (by omega) (by have:=hm.en;omega)];omega
 have hi1:i-1<m.ents.length:=by omega
 have hg1:=fg m.ents (i-1) hi1;unfold o8;obtain⟨mv,m1,m2,m3,m4,es0,rs⟩:=m;simp only[y0,Man.sv]at*;generalize es0.getD i en0=x at*;generalize es0.getD (i-1) en0=y at*;obtain⟨r,n,v,d⟩:=x;obtain⟨r2,n2,v2,d2⟩:=y;simp only[Ent.sv]at*
 by_cases a1:r<1
 ·refine⟨fun h=>by simp[a1]at h,fun _=>⟨[(101,.rc [.str mv,.int .i64 m1,.int .i64 m2,.int .i64 m3,.int .i64 m4,.lst 4 (dh es0) .no,.lst 4 (gP rs) .no]),(104,.rc [.int .i64 r,.str n,.int .i64 v,.byt d .no])], ?_⟩⟩
  rw[ah];simp only[go_sem,Q0,Q1,Q2,Q3,Q4,Q5,Q6,Q7,Q8,Q9,Qa,Qb,Qc,Qd,Qe,Qf,Qg,Qh,Qi,Qj,Qk,reduceCtorEq,reduceIte,hi,e1,hv,hg,a1]
 by_cases a2:3<r
 ·refine⟨fun h=>by simp[a1,a2]at h,fun _=>⟨[(101,.rc [.str mv,.int .i64 m1,.int .i64 m2,.int .i64 m3,.int .i64 m4,.lst 4 (dh es0) .no,.lst 4 (gP rs) .no]),(104,.rc [.int .i64 r,.str n,.int .i64 v,.byt d .no])], ?_⟩⟩
  rw[ah];simp only[go_sem,Q0,Q1,Q2,Q3,Q4,Q5,Q6,Q7,Q8,Q9,Qa,Qb,Qc,Qd,Qe,Qf,Qg,Qh,Qi,Qj,Qk,reduceCtorEq,reduceIte,hi,e1,hv,hg,a1,a2]
 by_cases a3:v<0
 ·refine⟨fun h=>by simp[a1,a2,a3]at h,fun _=>⟨[(101,.rc [.str mv,.int .i64 m1,.int .i64 m2,.int .i64 m3,.int .i64 m4,.lst 4 (dh es0) .no,.lst 4 (gP rs) .no]),(104,.rc [.int .i64 r,.str n,.int .i64 v,.byt d .no])], ?_⟩⟩
  rw[ah];simp only[go_sem,Q0,Q1,Q2,Q3,Q4,Q5,Q6,Q7,Q8,Q9,Qa,Qb,Qc,Qd,Qe,Qf,Qg,Qh,Qi,Qj,Qk,reduceCtorEq,reduceIte,hi,e1,hv,hg,a1,a2,a3]
 by_cases a4:1000000<v
 ·refine⟨fun h=>by simp[a1,a2,a3,a4]at h,fun _=>⟨[(101,.rc [.str mv,.int .i64 m1,.int .i64 m2,.int .i64 m3,.int .i64 m4,.lst 4 (dh es0) .no,.lst 4 (gP rs) .no]),(104,.rc [.int .i64 r,.str n,.int .i64 v,.byt d .no])], ?_⟩⟩
  rw[ah];simp only[go_sem,Q0,Q1,Q2,Q3,Q4,Q5,Q6,Q7,Q8,Q9,Qa,Qb,Qc,Qd,Qe,Qf,Qg,Qh,Qi,Qj,Qk,reduceCtorEq,reduceIte,hi,e1,hv,hg,a1,a2,a3,a4]
 by_cases a5:(d.length:Int)=32
 ·cases a6:Pr.nameB n with
  |false=>rw[a6]at g1;refine⟨fun h=>by simp[a1,a2,a3,a4,a5,a6]at h,fun _=>⟨[(101,.rc [.str mv,.int .i64 m1,.int .i64 m2,.int .i64 m3,.int .i64 m4,.lst 4 (dh es0) .no,.lst 4 (gP rs) .no]),(104,.rc [.int .i64 r,.str n,.int .i64 v,.byt d .no])], ?_⟩⟩;rw[ah];simp only[go_sem,Q0,Q1,Q2,Q3,Q4,Q5,Q6,Q7,Q8,Q9,Qa,Qb,Qc,Qd,Qe,Qf,Qg,Qh,Qi,Qj,Qk,reduceCtorEq,reduceIte,hi,e1,hv,hg,a1,a2,a3,a4,a5,a6,g1,gO]
  |true=>
   rw[a6]at g1
   by_cases a7:i=0
   ·subst a7
    have hp:(0:Int)<es0.length:=by omega
    have kw:af.wrap 1=1:=rfl;refine⟨fun _=> ?_,fun h=>by simp[a1,a2,a3,a4,a5,a6]at h⟩;rw[ah];simp only[go_sem,Q0,Q1,Q2,Q3,Q4,Q5,Q6,Q7,Q8,Q9,Qa,Qb,Qc,Qd,Qe,Qf,Qg,Qh,Qi,Qj,Qk,reduceCtorEq,reduceIte,hi,hp,kw,e1,hv,hg,a1,a2,a3,a4,a5,a6,g1,gO]
   ·have hp:(0:Int)<(i:Nat):=by omega
    have hp0:0<i:=by omega
    have es':=es hp0;cases a8:eL ⟨r2,n2,v2,d2⟩ ⟨r,n,v,d⟩with
    |true=>
     have h9:¬0<=rk ⟨r2,n2,v2,d2⟩ ⟨r,n,v,d⟩:=by have:=hb.2 a8;omega
     refine⟨fun _=> ?_,fun h=>by simp[a1,a2,a3,a4,a5,a6,a7,a8]at h⟩;rw[ah];simp only[go_sem,Q0,Q1,Q2,Q3,Q4,Q5,Q6,Q7,Q8,Q9,Qa,Qb,Qc,Qd,Qe,Qf,Qg,Qh,Qi,Qj,Qk,reduceCtorEq,reduceIte,hi,hp,hp0,hi1,es',hg1,e1,hv,hg,a1,a2,a3,a4,a5,a6,g1,gO,g2,Rf,h9]
    |false=>
     have h9:0<=rk ⟨r2,n2,v2,d2⟩ ⟨r,n,v,d⟩:=by
      rcases Int.lt_or_le (rk ⟨r2,n2,v2,d2⟩ ⟨r,n,v,d⟩) 0 with h|h
      ·rw[hb.1 h]at a8;cases a8
      ·exact h
     refine⟨fun h=>by simp[a1,a2,a3,a4,a5,a6,a7,a8]at h,fun _=>⟨[(101,.rc [.str mv,.int .i64 m1,.int .i64 m2,.int .i64 m3,.int .i64 m4,.lst 4 (dh es0) .no,.lst 4 (gP rs) .no]),(104,.rc [.int .i64 r,.str n,.int .i64 v,.byt d .no])], ?_⟩⟩;rw[ah];simp only[go_sem,Q0,Q1,Q2,Q3,Q4,Q5,Q6,Q7,Q8,Q9,Qa,Qb,Qc,Qd,Qe,Qf,Qg,Qh,Qi,Qj,Qk,reduceCtorEq,reduceIte,hi,hp,hp0,hi1,es',hg1,e1,hv,hg,a1,a2,a3,a4,a5,a6,g1,gO,g2,Rf,h9,a7,a8]
 ·refine⟨fun h=>by simp[a1,a2,a3,a4,a5]at h,fun _=>⟨[(101,.rc [.str mv,.int .i64 m1,.int .i64 m2,.int .i64 m3,.int .i64 m4,.lst 4 (dh es0) .no,.lst 4 (gP rs) .no]),(104,.rc [.int .i64 r,.str n,.int .i64 v,.byt d .no])], ?_⟩⟩
  rw[ah];simp only[go_sem,Q0,Q1,Q2,Q3,Q4,Q5,Q6,Q7,Q8,Q9,Qa,Qb,Qc,Qd,Qe,Qf,Qg,Qh,Qi,Qj,Qk,reduceCtorEq,reduceIte,hi,e1,hv,hg,a1,a2,a3,a4,a5]
theorem l71(m:Man)(hm:kF m):∀(n i:Nat),m.ents.length-i=n->i<=m.ents.length->
 (jn m.ents n i=0->run T (.loop kP) (y0 m i)=some (.x 1,⟨[(1,.ptr 101 0)],[(101,.rc m.sv)],[]⟩))/\
 (jn m.ents n i≠0->∃ob,run T (.loop kP) (y0 m i)=some (.r,⟨[(2,.int .i64 (jn m.ents n i))],ob,[]⟩)):=by
 intro n;induction n with
 |zero=>
  intro i h0 h1;have:i=m.ents.length:=by omega
  subst this;refine⟨fun _=> ?_,fun h=>absurd rfl h⟩;rw[ah];simp only[y0,go_sem,Q0,Q1,Q2,Q3,Q4,Q5,Q6,Q7,Q8,Q9,Qa,Qb,Qc,Qd,Qe,Qf,Qg,Qh,Qi,Qj,Qk,reduceCtorEq,reduceIte]
 |succ n ih=>
  intro i h0 h1;obtain⟨s1,s2⟩:=s44 m hm i (by omega);obtain⟨i1,i2⟩:=ih (i+1) (by omega) (by omega);unfold jn
  by_cases h:o8 m.ents i=0
  ·rw[if_pos h,s1 h];exact⟨i1,i2⟩
  ·rw[if_neg h];exact⟨fun h'=>absurd h' h,s2⟩
theorem xkt(m:Man)(hm:kF m)(ob:List (Nat×aE))(hob:ob=[(101,.rc m.sv)]):∀(n i:Nat),m.ruls.length-i=n->i<=m.ruls.length->
 (jZ (m.ruls.drop i)=0->run T (.loop sx) ⟨[(111,.lst 4 (gP m.ruls) .no),(112,.int .i64 m.ruls.length),(113,.int .i64 i)],ob,[]⟩=some (.x 4,⟨[],ob,[]⟩))/\
 (jZ (m.ruls.drop i)≠0->∃ob',run T (.loop sx) ⟨[(111,.lst 4 (gP m.ruls) .no),(112,.int .i64 m.ruls.length),(113,.int .i64 i)],ob,[]⟩=some (.r,⟨[(2,.int .i64 (jZ (m.ruls.drop i)))],ob',[]⟩)):=by
 intro n;induction n with
 |zero=>
  intro i h0 h1;have:i=m.ruls.length:=by omega
  subst this;rw[bP];refine⟨fun _=> ?_,fun h=>absurd rfl h⟩;rw[ah];simp only[go_sem,Q0,Q1,Q2,Q3,Q4,Q5,Q6,Q7,Q8,Q9,Qa,Qb,Qc,Qd,Qe,Qf,Qg,Qh,Qi,Qj,Qk,reduceCtorEq,reduceIte]
 |succ n ih=>
  intro i h0 h1;have hi:i<m.ruls.length:=by omega
  obtain⟨i1,i2⟩:=ih (i+1) (by omega) (by omega);have e1:=cR i (by have:=hm.rn;omega);have hv:=jJ m.ruls;have hg:=tK m.ruls i hi;have hd:m.ruls.drop i=m.ruls.getD i rl0::m.ruls.drop (i+1):=by rw[bq hi,aa,ab hi];rfl
  have hb:=hm.r _ (fB m.ruls rl0 i hi);rw[hd];unfold jZ;generalize m.ruls.drop (i+1)=R at*;generalize m.ruls.getD i rl0=x at*;obtain⟨mv,m1,m2,m3,m4,es0,rs⟩:=m;obtain⟨k,t,lo,hi'⟩:=x;simp only[Man.sv,Rul.sv]at*;subst hob;have g:=xlO k t lo hi' (by omega)
  by_cases h:vv ⟨k,t,lo,hi'⟩=0
  ·rw[if_pos h]
   unfold vv at h;simp only at h;rw[h]at g;refine⟨fun h2=> ?_,fun h2=> ?_⟩
   ·have i1':=i1 h2
    rw[ah];simp only[go_sem,Q0,Q1,Q2,Q3,Q4,Q5,Q6,Q7,Q8,Q9,Qa,Qb,Qc,Qd,Qe,Qf,Qg,Qh,Qi,Qj,Qk,reduceCtorEq,reduceIte,hi,e1,hv,hg,g,N0,i1']
   ·obtain⟨ob',i2'⟩:=i2 h2
    refine⟨ob', ?_⟩;rw[ah];simp only[go_sem,Q0,Q1,Q2,Q3,Q4,Q5,Q6,Q7,Q8,Q9,Qa,Qb,Qc,Qd,Qe,Qf,Qg,Qh,Qi,Qj,Qk,reduceCtorEq,reduceIte,hi,e1,hv,hg,g,N0,i2']
  ·rw[if_neg h]
   unfold vv at h ⊢;simp only at h ⊢;refine⟨fun h2=>absurd h2 h,fun h2=>⟨[(101,.rc [.str mv,.int .i64 m1,.int .i64 m2,.int .i64 m3,.int .i64 m4,.lst 4 (dh es0) .no,.lst 4 (gP rs) .no]),(106,.rc [.int .i64 k,.str t,.int .i64 lo,.int .i64 hi'])], ?_⟩⟩;rw[ah];simp only[go_sem,Q0,Q1,Q2,Q3,Q4,Q5,Q6,Q7,Q8,Q9,Qa,Qb,Qc,Qd,Qe,Qf,Qg,Qh,Qi,Qj,Qk,reduceCtorEq,reduceIte,hi,e1,hv,hg,g,N0,h]
theorem f71(m:Man)(hm:kF m):call T 71 [.agg m.sv] [] 0=some ⟨.int .i64 (jb m),[],[]⟩:=by
 have g1:=xji m.vendor;obtain⟨l1,l2⟩:=l71 m hm _ 0 rfl (by omega);obtain⟨r1,r2⟩:=xkt m hm _ rfl _ 0 rfl (by omega);have hv:=dP m.ents;have hr:=jJ m.ruls;obtain⟨mv,m1,m2,m3,m4,es0,rs⟩:=m;simp only[y0,Man.sv,aB,bj,Nat.sub_zero]at*;rw[aj xmq];unfold jb;simp only;cases a0:Pr.nameB mv with
 |false=>rw[a0]at g1;simp only[go_sem,Q0,Q1,Q2,Q3,Q4,Q5,Q6,Q7,Q8,Q9,Qa,Qb,Qc,Qd,Qe,Qf,Qg,Qh,Qi,Qj,Qk,reduceCtorEq,reduceIte,g1,gO,a0]
 |true=>
  rw[a0]at g1
  by_cases a1:m2<0
  ·simp only[go_sem,Q0,Q1,Q2,Q3,Q4,Q5,Q6,Q7,Q8,Q9,Qa,Qb,Qc,Qd,Qe,Qf,Qg,Qh,Qi,Qj,Qk,reduceCtorEq,reduceIte,g1,gO,a0,a1]
  by_cases a2:m1<m2
  ·simp only[go_sem,Q0,Q1,Q2,Q3,Q4,Q5,Q6,Q7,Q8,Q9,Qa,Qb,Qc,Qd,Qe,Qf,Qg,Qh,Qi,Qj,Qk,reduceCtorEq,reduceIte,g1,gO,a0,a1,a2]
  by_cases a3:1000000<m1
  ·simp only[go_sem,Q0,Q1,Q2,Q3,Q4,Q5,Q6,Q7,Q8,Q9,Qa,Qb,Qc,Qd,Qe,Qf,Qg,Qh,Qi,Qj,Qk,reduceCtorEq,reduceIte,g1,gO,a0,a1,a2,a3]
  by_cases a4:m3<0
  ·simp only[go_sem,Q0,Q1,Q2,Q3,Q4,Q5,Q6,Q7,Q8,Q9,Qa,Qb,Qc,Qd,Qe,Qf,Qg,Qh,Qi,Qj,Qk,reduceCtorEq,reduceIte,g1,gO,a0,a1,a2,a3,a4]
  by_cases a5:m4<=m3
  ·simp only[go_sem,Q0,Q1,Q2,Q3,Q4,Q5,Q6,Q7,Q8,Q9,Qa,Qb,Qc,Qd,Qe,Qf,Qg,Qh,Qi,Qj,Qk,reduceCtorEq,reduceIte,g1,gO,a0,a1,a2,a3,a4,a5]
  by_cases a6:1099511627776<m4
  ·simp only[go_sem,Q0,Q1,Q2,Q3,Q4,Q5,Q6,Q7,Q8,Q9,Qa,Qb,Qc,Qd,Qe,Qf,Qg,Qh,Qi,Qj,Qk,reduceCtorEq,reduceIte,g1,gO,a0,a1,a2,a3,a4,a5,a6]
  by_cases a7:(16:Int)<es0.length
  ·simp only[go_sem,Q0,Q1,Q2,Q3,Q4,Q5,Q6,Q7,Q8,Q9,Qa,Qb,Qc,Qd,Qe,Qf,Qg,Qh,Qi,Qj,Qk,reduceCtorEq,reduceIte,g1,gO,a0,a1,a2,a3,a4,a5,a6,a7,hv]
  by_cases a8:(8:Int)<rs.length
  ·simp only[go_sem,Q0,Q1,Q2,Q3,Q4,Q5,Q6,Q7,Q8,Q9,Qa,Qb,Qc,Qd,Qe,Qf,Qg,Qh,Qi,Qj,Qk,reduceCtorEq,reduceIte,g1,gO,a0,a1,a2,a3,a4,a5,a6,a7,a8,hv,hr]
  by_cases a9:jn es0 es0.length 0=0
  ·have l1':=l1 a9
   by_cases b0:jZ rs=0
   ·have r1':=r1 b0
    simp only[go_sem,Q0,Q1,Q2,Q3,Q4,Q5,Q6,Q7,Q8,Q9,Qa,Qb,Qc,Qd,Qe,Qf,Qg,Qh,Qi,Qj,Qk,reduceCtorEq,reduceIte,g1,gO,a0,a1,a2,a3,a4,a5,a6,a7,a8,hv,hr,l1',a9,r1',b0]
   ·obtain⟨ob,r2'⟩:=r2 b0
    simp only[go_sem,Q0,Q1,Q2,Q3,Q4,Q5,Q6,Q7,Q8,Q9,Qa,Qb,Qc,Qd,Qe,Qf,Qg,Qh,Qi,Qj,Qk,reduceCtorEq,reduceIte,g1,gO,a0,a1,a2,a3,a4,a5,a6,a7,a8,hv,hr,l1',a9,r2']
  ·obtain⟨ob,l2'⟩:=l2 a9
   simp only[go_sem,Q0,Q1,Q2,Q3,Q4,Q5,Q6,Q7,Q8,Q9,Qa,Qb,Qc,Qd,Qe,Qf,Qg,Qh,Qi,Qj,Qk,reduceCtorEq,reduceIte,g1,gO,a0,a1,a2,a3,a4,a5,a6,a7,a8,hv,hr,l2',a9]
end Go.Proofs.YtkggincjigbelaaGreatDoor
namespace SortT
variable {α : Type}
structure SO(lt:α->α->Bool):Prop where
 irr:∀x,lt x x=false
 tr:∀x y z,lt x y=true->lt y z=true->lt x z=true
 tri:∀x y,lt x y=false->lt y x=false->x=y
def Str(lt:α->α->Bool)(l:List α):Prop:=l.Pairwise fun x y=>lt x y=true
def Wk(lt:α->α->Bool)(l:List α):Prop:=l.Pairwise fun x y=>lt y x=false
theorem yX{lt:α->α->Bool}(h:SO lt):∀{a b:List α},Str lt a->Str lt b->(∀x,x∈a↔x∈b)->a=b
 |[],[],_,_,_=>rfl
 |[],y::b,_,_,he=>absurd ((he y).2 ay) bU
 |x::a,[],_,_,he=>absurd ((he x).1 ay) bU
 |x::a,y::b,ha,hb,he=>by
  obtain⟨h1,h2⟩:=bE.1 ha;obtain⟨h3,h4⟩:=bE.1 hb
  have hxy:x=y:=by
   rcases an.1 ((he x).1 ay)with e|hx
   ·exact e
   ·rcases an.1 ((he y).2 ay)with e|hy
    ·exact e.symm
    ·have:=h.tr x y x (h1 y hy) (h3 x hx)
     rw[h.irr]at this;cases this
  subst hxy
  have key:∀z,z∈a↔z∈b:=by
   intro z;constructor
   ·intro hz
    rcases an.1 ((he z).1 (ao _ hz))with e|hz'
    ·subst e
     have:=h1 z hz;rw[h.irr]at this;cases this
    ·exact hz'
   ·intro hz
    rcases an.1 ((he z).2 (ao _ hz))with e|hz'
    ·subst e
     have:=h3 z hz;rw[h.irr]at this;cases this
    ·exact hz'
  rw[yX h h2 h4 key]
def swp(d:α)(L:List α)(j:Nat):List α:=(L.set j (L.getD (j-1) d)).set (j-1) (L.getD j d)
def bub(lt:α->α->Bool)(d:α):Nat->List α->List α
 |0,L=>L
 |j+1,L=>if lt (L.getD (j+1) d) (L.getD j d)=true then bub lt d j (swp d L (j+1))else L
def isr(lt:α->α->Bool)(d:α):Nat->Nat->List α->List α
 |0,_,L=>L
 |m+1,i,L=>isr lt d m (i+1) (bub lt d i L)
theorem mT(d:α)(L:List α)(j:Nat):(swp d L j).length=L.length:=by simp[swp]
theorem lD(lt:α->α->Bool)(d:α):∀(j:Nat)(L:List α),(bub lt d j L).length=L.length
 |0,L=>rfl
 |j+1,L=>by
  unfold bub;split
  ·rw[lD lt d j,mT]
  ·rfl
theorem AY(lt:α->α->Bool)(d:α):∀(m i:Nat)(L:List α),(isr lt d m i L).length=L.length
 |0,_,L=>rfl
 |m+1,i,L=>by unfold isr;rw[AY lt d m,lD]
theorem Oq(d:α)(A:List α)(y x:α)(B:List α):swp d (A++y::x::B) (A.length+1)=A++x::y::B:=by
 unfold swp;rw[je];have e1:(A++y::x::B).getD A.length d=y:=by simp[aa]
 have e2:(A++y::x::B).getD (A.length+1) d=x:=by simp[aa]
 rw[e1,e2,List.set_append_right _ _ (by omega),List.set_append_right _ _ (by omega)];simp
theorem Ov:∀(A:List α)(n:Nat),A.length=n+1->∃A' y,A=A'++ [y]/\A'.length=n:=by
 intro A n h;have hne:A≠ []:=by intro e;subst e;simp at h
 refine⟨A.dropLast,A.getLast hne,(List.dropLast_concat_getLast hne).symm, ?_⟩;rw[List.length_dropLast];omega
theorem QM{lt:α->α->Bool}(h:SO lt)(d:α):∀(n:Nat)(A:List α)(x:α)(B:List α),A.length=n->Wk lt A->
 ∃A',bub lt d n (A++x::B)=A'++B/\Wk lt A'/\A'.length=n+1/\∀z,z∈A'↔z=x\/z∈A:=by
 intro n;induction n with
 |zero=>intro A x B hA hs;have:A=[]:=ku hA;subst this;exact⟨[x],rfl,qH _ _,rfl,fun z=>by simp⟩
 |succ n ih=>
  intro A x B hA hs;obtain⟨A',y,rfl,hl⟩:=Ov A n hA;have e1:(A'++ [y]++x::B).getD n d=y:=by subst hl;simp[aa]
  have e2:(A'++ [y]++x::B).getD (n+1) d=x:=by subst hl;simp[aa]
  obtain⟨hs1, -,hs2⟩:=dF.1 hs;unfold bub;rw[e1,e2]
  by_cases hc:lt x y=true
  ·rw[if_pos hc]
   have e3:A'++ [y]++x::B=A'++y::x::B:=by simp
   rw[e3,<-hl,Oq,hl];obtain⟨A2,g1,g2,g3,g4⟩:=ih A' x (y::B) hl hs1;refine⟨A2++ [y],by rw[g1];simp, ?_,by simp[g3],fun z=> ?_⟩
   ·refine dF.2 ⟨g2,qH _ _,fun a ha b hb=> ?_⟩
    rw[aY]at hb;subst hb;rcases (g4 a).1 ha with rfl|ha
    ·cases hq:lt b a with
     |false=>rfl
     |true=>have:=h.tr _ _ _ hc hq;rw[h.irr]at this;cases this
    ·exact hs2 a ha b (aY.2 rfl)
   ·rw[al,aY,g4,al,aY,or_assoc]
  ·rw[if_neg hc]
   have hc':lt x y=false:=by simpa using hc
   refine⟨A'++ [y]++ [x],by simp, ?_,by simp[hl],fun z=>by simp only[al,aY];constructor<;>(intro h;rcases h with h|h<;>simp[h])⟩;refine dF.2 ⟨hs,qH _ _,fun a ha b hb=> ?_⟩;rw[aY]at hb;subst hb;rcases al.1 ha with ha|ha
   ·have h1:=hs2 a ha y (aY.2 rfl)
    cases hq:lt b a with
    |false=>rfl
    |true=>
     cases hr:lt a y with
     |true=>have:=h.tr _ _ _ hq hr;rw[hc']at this;cases this
     |false=>have:=h.tri _ _ hr h1;subst this;rw[hc']at hq;cases hq
   ·rw[aY]at ha
    subst ha;exact hc'
theorem xcm{lt:α->α->Bool}(h:SO lt)(d:α):∀(m i:Nat)(A B:List α),A.length=i->B.length=m->Wk lt A->
 Wk lt (isr lt d m i (A++B))/\∀z,z∈isr lt d m i (A++B)↔z∈A++B:=by
 intro m;induction m with
 |zero=>intro i A B hA hB hs;have:B=[]:=ku hB;subst this;rw[aZ];exact⟨hs,fun z=>Iff.rfl⟩
 |succ m ih=>
  intro i A B hA hB hs;cases B with
  |nil=>simp at hB
  |cons x B=>
   obtain⟨A',g1,g2,g3,g4⟩:=QM h d i A x B hA hs;unfold isr;rw[g1];obtain⟨k1,k2⟩:=ih (i+1) A' B g3 (by simpa using hB) g2;refine⟨k1,fun z=> ?_⟩;rw[k2,al,g4,al,an];constructor
   ·rintro((h|h)|h)<;>simp[h]
   ·rintro(h|h|h)<;>simp[h]
def cp(eq:α->α->Bool):α->List α->List α
 |_,[]=> []
 |p,x::r=>if eq x p=true then cp eq x r else x::cp eq x r
def cpt(eq:α->α->Bool):List α->List α
 |[]=> []
 |x::r=>x::cp eq x r
theorem xU{lt eq:α->α->Bool}(h:SO lt)(hq:∀x y,eq x y=true↔x=y):∀(l:List α)(p:α),∀z,z∈p::cp eq p l↔z∈p::l
 |[],p,z=>Iff.rfl
 |x::r,p,z=>by
  have ih:=xU h hq r x z;unfold cp;split
  ·rename_i he
   have:x=p:=(hq _ _).1 he;subst this;rw[ih,an (l:=x::r)];constructor
   ·intro h;exact .inr h
   ·rintro(h|h)
    ·subst h;exact ay
    ·exact h
  ·rw[an,ih,an (l:=x::r)]
theorem ML{lt eq:α->α->Bool}(h:SO lt)(hq:∀x y,eq x y=true↔x=y):∀(l:List α)(p:α),Wk lt (p::l)->Str lt (p::cp eq p l)
 |[],_,_=>qH _ _
 |x::r,p,hw=>by
  obtain⟨h1,h2⟩:=bE.1 hw;have ih:=ML h hq r x h2;unfold cp;split
  ·rename_i he
   have:x=p:=(hq _ _).1 he;subst this;exact ih
  ·rename_i he
   have hne:¬x=p:=fun e=>he ((hq _ _).2 e)
   have hpx:lt p x=true:=by
    cases hc:lt p x with
    |true=>rfl
    |false=>exact absurd (h.tri _ _ (h1 x ay) hc) hne
   refine bE.2 ⟨fun z hz=> ?_,ih⟩;rcases an.1 ((xU h hq r x z).1 hz)with rfl|hz
   ·exact hpx
   ·have h3:=(bE.1 h2).1 z hz
    cases hc:lt x z with
    |true=>exact h.tr _ _ _ hpx hc
    |false=>have:=h.tri _ _ hc h3;subst this;exact hpx
theorem QH{lt eq:α->α->Bool}(h:SO lt)(hq:∀x y,eq x y=true↔x=y)(l:List α):∀z,z∈cpt eq l↔z∈l:=by
 cases l with
 |nil=>exact fun z=>Iff.rfl
 |cons x r=>exact xU h hq r x
theorem QG{lt eq:α->α->Bool}(h:SO lt)(hq:∀x y,eq x y=true↔x=y)(l:List α)(hw:Wk lt l):Str lt (cpt eq l):=by
 cases l with
 |nil=>exact gY.nil
 |cons x r=>exact ML h hq r x hw
def inn(eq:α->α->Bool)(d:α):Nat->List α->Nat->Nat->List α×Nat
 |0,B,k,_=>(B,k)
 |m+1,B,k,p=>if eq (B.getD p d) (B.getD (p-1) d)=true then inn eq d m B k (p+1)else inn eq d m (B.set k (B.getD p d)) (k+1) (p+1)
theorem rz(eq:α->α->Bool)(d:α):∀(m:Nat)(B:List α)(k p:Nat),(inn eq d m B k p).1.length=B.length/\(inn eq d m B k p).2<=k+m
 |0,B,k,p=>⟨rfl,aH _⟩
 |m+1,B,k,p=>by
  unfold inn;split
  ·have:=rz eq d m B k (p+1);omega
  ·have:=rz eq d m (B.set k (B.getD p d)) (k+1) (p+1)
   rw[cZ]at this;omega
theorem iZ(l:List α)(d:α)(p q:Nat)(h:p<=q):(l.drop p).getD (q-p) d=l.getD q d:=by
 simp only[aa,br]
 congr 2;omega
theorem xcn(eq:α->α->Bool)(d:α)(S:List α):∀(m:Nat)(B:List α)(k p:Nat),p+m=S.length->B.length=S.length->1<=p->k<=p-1->B.drop (p-1)=S.drop (p-1)->
 (inn eq d m B k p).1.take (inn eq d m B k p).2=B.take k++cp eq (S.getD (p-1) d) (S.drop p):=by
 intro m;induction m with
 |zero=>intro B k p h1 h2 h3 h4 h5;have:S.drop p=[]:=bO (by omega);rw[this];simp[inn,cp]
 |succ m ih=>
  intro B k p h1 h2 h3 h4 h5;have e1:B.getD (p-1) d=S.getD (p-1) d:=by rw[<-iZ B d (p-1) (p-1) (aH _),h5,iZ S d _ _ (aH _)]
  have e2:B.getD p d=S.getD p d:=by rw[<-iZ B d (p-1) p (by omega),h5,iZ S d _ _ (by omega)]
  have e3:S.drop p=S.getD p d::S.drop (p+1):=by rw[bq (by omega),aa,ab (by omega)];rfl
  have e4:B.drop p=S.drop p:=by
   have:∀l:List α,l.drop p=(l.drop (p-1)).drop 1:=fun l=>by rw[List.drop_drop];congr 1;omega
   rw[this B,this S,h5]
  unfold inn;rw[e1,e2,e3];unfold cp;split
  ·rw[ih B k (p+1) (by omega) h2 (by omega) (by omega) (by rw[je];exact e4),je]
  ·rw[ih (B.set k (S.getD p d)) (k+1) (p+1) (by omega) (by rw[cZ];exact h2) (by omega) (by omega) (by
    rw[je,List.drop_set_of_lt (by omega)];exact e4),je]
   have e5:(B.set k (S.getD p d)).take (k+1)=B.take k++ [S.getD p d]:=by rw[List.take_succ_eq_append_getElem (by rw[cZ];omega),List.take_set_of_le (aH _)];simp
   rw[e5];simp
theorem xcN(eq:α->α->Bool)(d:α)(S:List α)(k:Nat)(h0:1<=k)(hk:k<S.length)(h:S.take k++cp eq (S.getD (k-1) d) (S.drop k)=cpt eq S)(hn:¬eq (S.getD k d) (S.getD (k-1) d)=true):
 S.take (k+1)++cp eq (S.getD (k+1-1) d) (S.drop (k+1))=cpt eq S:=by
 have e3:S.drop k=S.getD k d::S.drop (k+1):=by rw[bq (by omega),aa,ab (by omega)];rfl
 rw[<-h,e3,je]
 conv=>rhs;unfold cp
 rw[if_neg hn,List.take_succ_eq_append_getElem (by omega),aa,ab (by omega),av];rfl
theorem xcM(eq:α->α->Bool)(d:α)(S:List α)(k:Nat)(h0:1<=k)(hk:k<S.length)(h:S.take k++cp eq (S.getD (k-1) d) (S.drop k)=cpt eq S)(hy:eq (S.getD k d) (S.getD (k-1) d)=true):
 (inn eq d (S.length-(k+1)) S k (k+1)).1.take (inn eq d (S.length-(k+1)) S k (k+1)).2=cpt eq S:=by
 have e3:S.drop k=S.getD k d::S.drop (k+1):=by rw[bq (by omega),aa,ab (by omega)];rfl
 rw[xcn eq d S _ S k (k+1) (by omega) rfl (by omega) (by omega) rfl,<-h,e3,je]
 conv=>rhs;unfold cp
 rw[if_pos hy]
theorem QI(eq:α->α->Bool)(d:α)(S:List α)(h:S.take S.length++cp eq (S.getD (S.length-1) d) (S.drop S.length)=cpt eq S):cpt eq S=S:=by rw[<-h,bP,bY];simp[cp]
def nD(lt:α->α->Bool)(x:α):List α->List α
 |[]=> [x]
 |y::r=>if lt y x=true then y::nD lt x r else if lt x y=true then x::y::r else y::r
theorem lf{lt:α->α->Bool}(h:SO lt)(x:α):∀(l:List α),∀z,z∈nD lt x l↔z=x\/z∈l
 |[],z=>by simp[nD]
 |y::r,z=>by
  have ih:=lf h x r z;unfold nD;split
  ·rw[an,ih,an]
   constructor
   ·rintro(h|h|h)<;>simp[h]
   ·rintro(h|h|h)<;>simp[h]
  ·rename_i h1
   split
   ·rw[an]
   ·rename_i h2
    have:x=y:=h.tri _ _ (by simpa using h2) (by simpa using h1);subst this;rw[an];constructor
    ·exact .inr
    ·rintro(h|h)
     ·exact .inl h
     ·exact h
theorem ot{lt:α->α->Bool}(h:SO lt)(x:α):∀(l:List α),Str lt l->Str lt (nD lt x l)
 |[],_=>qH _ _
 |y::r,hs=>by
  obtain⟨h1,h2⟩:=bE.1 hs;unfold nD;split
  ·rename_i hc
   refine bE.2 ⟨fun z hz=> ?_,ot h x r h2⟩;rcases (lf h x r z).1 hz with rfl|hz
   ·exact hc
   ·exact h1 z hz
  ·split
   ·rename_i hc
    refine bE.2 ⟨fun z hz=> ?_,hs⟩;rcases an.1 hz with rfl|hz
    ·exact hc
    ·exact h.tr _ _ _ hc (h1 z hz)
   ·exact hs
theorem ul{lt:α->α->Bool}(h:SO lt):∀(es l:List α),Str lt l->Str lt (es.foldl (fun a x=>nD lt x a) l)
 |[],_,hs=>hs
 |x::es,l,hs=>ul h es _ (ot h x l hs)
theorem um{lt:α->α->Bool}(h:SO lt):∀(es l:List α),∀z,z∈es.foldl (fun a x=>nD lt x a) l↔z∈es\/z∈l
 |[],l,z=>by simp
 |x::es,l,z=>by
  rw[cr,um h es,lf h,an];constructor
  ·rintro(h|h|h)<;>simp[h]
  ·rintro((h|h)|h)<;>simp[h]
theorem DY{lt eq:α->α->Bool}(h:SO lt)(hq:∀x y,eq x y=true↔x=y)(d:α)(es:List α):cpt eq (isr lt d (es.length-1) 1 es)=es.foldl (fun a x=>nD lt x a) []:=by
 have key:Wk lt (isr lt d (es.length-1) 1 es)/\∀z,z∈isr lt d (es.length-1) 1 es↔z∈es:=by
  cases es with
  |nil=>exact⟨gY.nil,fun z=>Iff.rfl⟩
  |cons x r=>exact xcm h d r.length 1 [x] r rfl rfl (qH _ _)
 refine yX h (QG h hq _ key.1) (ul h es [] gY.nil) fun z=> ?_
 rw[QH h hq,key.2,um h];simp
end SortT
namespace Go.Proofs.YtkggincjigbelaaGreatDoor
open Go.Sy
open UInt8 renaming reduceLT -> Q0, reduceLE -> Q1
open Int renaming reduceToNat -> Q2, reduceLE -> Q3, reduceLT -> Q4, reduceEq -> Q5, reduceNe -> Q6, reduceNeg -> Q7, reduceAdd -> Q8, reduceSub -> Q9, reduceMul -> Qa
open Nat renaming reducePow -> Qb, reduceDiv -> Qc, reduceMod -> Qd, reduceAdd -> Qe, reduceSub -> Qf, reduceMul -> Qg, reduceLT -> Qh, reduceLeDiff -> Qi, reduceEqDiff -> Qj, reduceBEq -> Qk
section
open SortT
theorem uG:∀a:List UInt8,Lib.compareBytes a a=0
 |[]=>rfl
 |x::r=>by have h:=uG r;simp[Lib.compareBytes,h]
theorem MM:∀a b c:List UInt8,Lib.compareBytes a b<0->Lib.compareBytes b c<0->Lib.compareBytes a c<0
 |[],[],_,h,_=>by simp[Lib.compareBytes]at h
 |[],_::_,[],_,k=>by simp[Lib.compareBytes]at k
 |[],_::_,_::_,_,_=>by simp[Lib.compareBytes]
 |_::_,[],_,h,_=>by simp[Lib.compareBytes]at h
 |_::_,_::_,[],_,k=>by simp[Lib.compareBytes]at k
 |x::r,y::s,z::t,h,k=>by
  have ih:=MM r s t;unfold Lib.compareBytes at h k ⊢;have e1:(x<y)=(x.toNat<y.toNat):=rfl;have e2:(y<z)=(y.toNat<z.toNat):=rfl;have e3:(x<z)=(x.toNat<z.toNat):=rfl;have e4:(y<x)=(y.toNat<x.toNat):=rfl;have e5:(z<y)=(z.toNat<y.toNat):=rfl;have e6:(z<x)=(z.toNat<x.toNat):=rfl;simp only[e1,e2,e3,e4,e5,e6]at h k ⊢
  by_cases a1:x.toNat<y.toNat
  ·by_cases a2:y.toNat<z.toNat
   ·rw[if_pos (by omega)];decide
   ·rw[if_neg a2]at k
    by_cases a3:z.toNat<y.toNat
    ·rw[if_pos a3]at k;exact absurd k (by decide)
    ·rw[if_pos (by omega)];decide
  ·rw[if_neg a1]at h
   by_cases a4:y.toNat<x.toNat
   ·rw[if_pos a4]at h;exact absurd h (by decide)
   ·rw[if_neg a4]at h
    by_cases a2:y.toNat<z.toNat
    ·rw[if_pos (by omega)];decide
    ·rw[if_neg a2]at k
     by_cases a3:z.toNat<y.toNat
     ·rw[if_pos a3]at k;exact absurd k (by decide)
     ·rw[if_neg a3]at k
      rw[if_neg (by omega),if_neg (by omega)];exact ih h k
theorem uH:∀{a b:List UInt8},¬Lib.compareBytes a b<0->¬Lib.compareBytes a b=0->Lib.compareBytes b a<0
 |[],[],_,k=>absurd rfl k
 |[],_::_,h,_=>absurd (by simp[Lib.compareBytes]) h
 |_::_,[],_,_=>by simp[Lib.compareBytes]
 |x::r,y::s,h,k=>by
  unfold Lib.compareBytes at h k ⊢
  by_cases a1:x<y
  ·rw[if_pos a1]at h;exact absurd (by decide) h
  ·rw[if_neg a1]at h k
   by_cases a2:y<x
   ·rw[if_pos a2];decide
   ·rw[if_neg a2]at h k
    rw[if_neg a2,if_neg a1];exact uH h k
theorem xW(a:List UInt8):¬bV a a=true:=fun h=>by have:=(eB a a).2 h;rw[uG]at this;omega
theorem XA{a b c:List UInt8}(h:bV a b=true)(k:bV b c=true):bV a c=true:=(eB _ _).1 (MM _ _ _ ((eB _ _).2 h) ((eB _ _).2 k))
theorem MN{a b:List UInt8}(h:¬bV a b=true)(k:¬bV b a=true):a=b:=by refine(ii a b).1 (Classical.byContradiction fun e=> ?_);exact k ((eB _ _).1 (uH (fun h2=>h ((eB _ _).1 h2)) e))
theorem rJ(x y:Ent):eL x y=true↔x.role<y.role\/(x.role=y.role/\(bV x.name y.name=true\/(x.name=y.name/\(x.ver<y.ver\/(x.ver=y.ver/\bV x.dig y.dig=true))))):=by
 unfold eL
 by_cases h1:x.role=y.role
 ·rw[if_pos h1]
  by_cases h2:x.name=y.name
  ·rw[if_pos h2]
   have n2:¬bV x.name y.name=true:=by rw[h2];exact xW _
   by_cases h3:x.ver=y.ver
   ·rw[if_pos h3]
    constructor
    ·intro h;exact .inr ⟨h1,.inr ⟨h2,.inr ⟨h3,h⟩⟩⟩
    ·rintro(h|⟨-,h|⟨-,h|⟨-,h⟩⟩⟩)
     ·omega
     ·exact absurd h n2
     ·omega
     ·exact h
   ·rw[if_neg h3,decide_eq_true_eq]
    constructor
    ·intro h;exact .inr ⟨h1,.inr ⟨h2,.inl h⟩⟩
    ·rintro(h|⟨-,h|⟨-,h|⟨h, -⟩⟩⟩)
     ·omega
     ·exact absurd h n2
     ·exact h
     ·exact absurd h h3
  ·rw[if_neg h2]
   constructor
   ·intro h;exact .inr ⟨h1,.inl h⟩
   ·rintro(h|⟨-,h|⟨h, -⟩⟩)
    ·omega
    ·exact h
    ·exact absurd h h2
 ·rw[if_neg h1,decide_eq_true_eq]
  constructor
  ·intro h;exact .inl h
  ·rintro(h|⟨h, -⟩)
   ·exact h
   ·exact absurd h h1
theorem pj:SO eL where
 irr:=fun x=>by
  cases h:eL x x with
  |false=>rfl
  |true=>
   rcases (rJ x x).1 h with h|⟨-,h|⟨-,h|⟨-,h⟩⟩⟩
   ·omega
   ·exact absurd h (xW _)
   ·omega
   ·exact absurd h (xW _)
 tr:=fun x y z h1 h2=>by
  rw[rJ]at h1 h2 ⊢;rcases h1 with h1|⟨e1,h1⟩
  ·rcases h2 with h2|⟨e2,h2⟩
   ·left;omega
   ·left;omega
  ·rcases h2 with h2|⟨e2,h2⟩
   ·left;omega
   ·refine .inr ⟨e1.trans e2, ?_⟩
    rcases h1 with h1|⟨n1,h1⟩
    ·rcases h2 with h2|⟨n2,h2⟩
     ·exact .inl (XA h1 h2)
     ·rw[n2]at h1;exact .inl h1
    ·rcases h2 with h2|⟨n2,h2⟩
     ·rw[<-n1]at h2;exact .inl h2
     ·refine .inr ⟨n1.trans n2, ?_⟩
      rcases h1 with h1|⟨v1,h1⟩
      ·rcases h2 with h2|⟨v2,h2⟩
       ·left;omega
       ·left;omega
      ·rcases h2 with h2|⟨v2,h2⟩
       ·left;omega
       ·exact .inr ⟨v1.trans v2,XA h1 h2⟩
 tri:=fun x y h1 h2=>by
  have n1:¬eL x y=true:=by rw[h1];simp
  have n2:¬eL y x=true:=by rw[h2];simp
  rw[rJ]at n1 n2
  have e1:x.role=y.role:=by
   have a:¬x.role<y.role:=fun h=>n1 (.inl h)
   have b:¬y.role<x.role:=fun h=>n2 (.inl h)
   omega
  have e2:x.name=y.name:=MN (fun h=>n1 (.inr ⟨e1,.inl h⟩)) (fun h=>n2 (.inr ⟨e1.symm,.inl h⟩))
  have e3:x.ver=y.ver:=by
   have a:¬x.ver<y.ver:=fun h=>n1 (.inr ⟨e1,.inr ⟨e2,.inl h⟩⟩)
   have b:¬y.ver<x.ver:=fun h=>n2 (.inr ⟨e1.symm,.inr ⟨e2.symm,.inl h⟩⟩)
   omega
  have e4:x.dig=y.dig:=MN (fun h=>n1 (.inr ⟨e1,.inr ⟨e2,.inr ⟨e3,h⟩⟩⟩)) (fun h=>n2 (.inr ⟨e1.symm,.inr ⟨e2.symm,.inr ⟨e3.symm,h⟩⟩⟩));obtain⟨r,n,v,d⟩:=x;obtain⟨r2,n2,v2,d2⟩:=y;simp only at e1 e2 e3 e4;subst e1;subst e2;subst e3;subst e4;rfl
def eqE(x y:Ent):Bool:=decide (rk x y=0)
theorem Qn(x y:Ent):eqE x y=true↔x=y:=by
 unfold eqE;rw[decide_eq_true_eq];constructor
 ·intro h
  have h1:¬eL x y=true:=fun k=>by have:=(rj x y).2 k;omega
  refine pj.tri x y (by simpa using h1) ?_;unfold rk orI at h;obtain⟨r,n,v,d⟩:=x;obtain⟨r2,n2,v2,d2⟩:=y;simp only at h
  by_cases a1:qk r r2=0
  ·rw[if_neg (by simp[a1])]at h
   by_cases a2:Lib.compareBytes n n2=0
   ·rw[if_neg (by simp[a2])]at h
    by_cases a3:qk v v2=0
    ·rw[if_neg (by simp[a3])]at h
     have e1:=(ig _ _).1 a1;have e2:=(ii _ _).1 a2;have e3:=(ig _ _).1 a3;have e4:=(ii _ _).1 h;subst e1;subst e2;subst e3;subst e4;exact pj.irr _
    ·rw[if_pos a3]at h;exact absurd h a3
   ·rw[if_pos a2]at h;exact absurd h a2
  ·rw[if_pos a1]at h;exact absurd h a1
 ·rintro rfl
  unfold rk orI;have e1:=(ig x.role x.role).2 rfl;have e2:=(ii x.name x.name).2 rfl;have e3:=(ig x.ver x.ver).2 rfl;have e4:=(ii x.dig x.dig).2 rfl;rw[e1,e2,e3,e4];rfl
structure nW(x:Ent):Prop where
 r1:1<=x.role
 r3:x.role<=3
 v0:0<=x.ver
 v1:x.ver<=1000000
 d:x.dig.length=32
 n:Pr.nameB x.name=true
theorem Fc{l:List Ent}(h:∀x∈l,nW x)(hs:Str eL l)(i:Nat)(hi:i<l.length):o8 l i=0:=by
 obtain⟨h1,h2,h3,h4,h5,h6⟩:=h _ (fB l en0 i hi);unfold o8;rw[if_neg (by omega),if_neg (by omega),if_neg (by omega),if_neg (by omega),if_pos (by omega),if_pos h6]
 by_cases h0:i=0
 ·rw[if_pos h0]
 ·have hb:eL (l.getD (i-1) en0) (l.getD i en0)=true:=by
   have:=mN.1 hs (i-1) i (by omega) hi (by omega);rw[aa,aa,ab (by omega),ab hi];exact this
  rw[if_neg h0,if_pos hb]
theorem qc{l:List Ent}(h:∀x∈l,nW x)(hs:Str eL l):∀(n i:Nat),i+n<=l.length->jn l n i=0
 |0,_,_=>rfl
 |n+1,i,hi=>by unfold jn;rw[if_pos (Fc h hs i (by omega))];exact qc h hs n (i+1) (by omega)
theorem pH:∀{l:List Rul},(∀r∈l,vv r=0)->jZ l=0
 |[],_=>rfl
 |r::t,h=>by unfold jZ;rw[if_pos (h r ay)];exact pH fun x hx=>h x (ao _ hx)
theorem EO{m:Man}(h1:Pr.nameB m.vendor=true)(h2:0<=m.flr)(h3:m.flr<=m.ver)(h4:m.ver<=1000000)(h5:0<=m.frm)(h6:m.frm<m.til)(h7:m.til<=1099511627776)(h8:m.ents.length<=16)(h9:m.ruls.length<=8)
 (he:∀x∈m.ents,nW x) (hs:Str eL m.ents) (hr:∀r∈m.ruls,vv r=0):jb m=0:=by
 unfold jb;rw[if_pos h1,if_neg (by omega),if_neg (by omega),if_neg (by omega),if_neg (by omega),if_neg (by omega),if_neg (by omega),if_neg (by omega),if_neg (by omega),if_pos (qc he hs _ 0 (by omega))];exact pH hr
end
end Go.Proofs.YtkggincjigbelaaGreatDoor
