/- What the functions come to. No condition. -/
import Derived.Test.YtkggincjigbelaaGreatDoorTaD
open Int renaming natCast_zero -> aB
open Go.IntKind renaming i64 -> af
open List renaming getD_eq_getElem?_getD -> aa, length_map -> aN
open Nat renaming zero_add -> cg
set_option maxRecDepth 100000
set_option maxHeartbeats 16000000
set_option linter.unusedSimpArgs false
set_option linter.unusedVariables false
namespace Go.Proofs.YtkggincjigbelaaGreatDoor
open Go.Sy
open UInt8 renaming reduceLT -> Q0, reduceLE -> Q1
open Int renaming reduceToNat -> Q2, reduceLE -> Q3, reduceLT -> Q4, reduceEq -> Q5, reduceNe -> Q6, reduceNeg -> Q7, reduceAdd -> Q8, reduceSub -> Q9, reduceMul -> Qa
open Nat renaming reducePow -> Qb, reduceDiv -> Qc, reduceMod -> Qd, reduceAdd -> Qe, reduceSub -> Qf, reduceMul -> Qg, reduceLT -> Qh, reduceLeDiff -> Qi, reduceEqDiff -> Qj, reduceBEq -> Qk
structure Au where
 id:Int
 key:List UInt8
def Au.sv(a:Au):List SV:=[.int .i64 a.id,.byt a.key .no]
def au0:Au:=⟨0,[]⟩
structure Tr where
 au:List Au
 thr:Int
def uJ(l:List Au):List (List SV):=l.map Au.sv
def Tr.sv(t:Tr):List SV:=[.lst 2 (uJ t.au) .no,.int .i64 t.thr]
theorem ln(l:List Au):(uJ l).length=l.length:=aN ..
theorem lq(l:List Au)(i:Nat)(h:i<l.length):(uJ l).getD i []=(l.getD i au0).sv:=by simp[uJ,aa,h]
def auE(l:List Au)(i:Nat):Int:=
 if(l.getD i au0).id<1 then 1 else if 1000<(l.getD i au0).id then 1 else if((l.getD i au0).key.length:Int)=17 then(if i=0 then 0 else if(l.getD i au0).id<=(l.getD (i-1) au0).id then 41 else 0)else 1
def mI(l:List Au):Nat->Nat->Int
 |0,_=>0
 |n+1,i=>if auE l i=0 then mI l n (i+1)else auE l i
def trE(t:Tr):Int:=
 if(4:Int)<t.au.length then 4 else if mI t.au t.au.length 0=0 then(if t.thr<1 then 1 else if(t.au.length:Int)<t.thr then 1 else 0)else mI t.au t.au.length 0
def uY(t:Tr)(i:Nat):CSt:=⟨[(1,.ptr 101 0),(10,.lst 2 (uJ t.au) .no),(11,.int .i64 t.au.length),(12,.int .i64 i)],[(101,.rc t.sv)],[]⟩
theorem s23(t:Tr)(hn:t.au.length<=100)(i:Nat)(hi:i<t.au.length):
 (auE t.au i=0->run T (.loop kQ) (uY t i)=run T (.loop kQ) (uY t (i+1)))/\
 (auE t.au i≠0->∃ob,run T (.loop kQ) (uY t i)=some (.r,⟨[(2,.int .i64 (auE t.au i))],ob,[]⟩)):=by
 have e1:=cR i (by omega);have hv:=ln t.au;have hg:=lq t.au i hi;have es:0<i->af.wrap ((i:Int)-1)=((i-1:Nat):Int):=fun h=>by rw[w64 (by omega) (by omega)];omega
 have hi1:i-1<t.au.length:=by omega
 have hg1:=lq t.au (i-1) hi1;unfold auE;obtain⟨au,th⟩:=t;simp only[uY,Tr.sv]at*;generalize au.getD i au0=x at*;generalize au.getD (i-1) au0=y at*;obtain⟨d,k⟩:=x;obtain⟨d2,k2⟩:=y;simp only[Au.sv]at*
 by_cases a1:d<1
 ·refine⟨fun h=>by simp[a1]at h,fun _=>⟨[(101,.rc [.lst 2 (uJ au) .no,.int .i64 th]),(104,.rc [.int .i64 d,.byt k .no])], ?_⟩⟩
  rw[ah];simp only[go_sem,Q0,Q1,Q2,Q3,Q4,Q5,Q6,Q7,Q8,Q9,Qa,Qb,Qc,Qd,Qe,Qf,Qg,Qh,Qi,Qj,Qk,reduceCtorEq,reduceIte,hi,e1,hv,hg,a1]
 by_cases a2:1000<d
 ·refine⟨fun h=>by simp[a1,a2]at h,fun _=>⟨[(101,.rc [.lst 2 (uJ au) .no,.int .i64 th]),(104,.rc [.int .i64 d,.byt k .no])], ?_⟩⟩
  rw[ah];simp only[go_sem,Q0,Q1,Q2,Q3,Q4,Q5,Q6,Q7,Q8,Q9,Qa,Qb,Qc,Qd,Qe,Qf,Qg,Qh,Qi,Qj,Qk,reduceCtorEq,reduceIte,hi,e1,hv,hg,a1,a2]
 by_cases a3:(k.length:Int)=17
 ·by_cases a7:i=0
  ·subst a7
   have hp:(0:Int)<au.length:=by omega
   refine⟨fun _=> ?_,fun h=>by simp[a1,a2,a3]at h⟩;simp only[aB]at*;have k1:af.wrap 1=((0+1:Nat):Int):=rfl;rw[ah];simp only[go_sem,Q0,Q1,Q2,Q3,Q4,Q5,Q6,Q7,Q8,Q9,Qa,Qb,Qc,Qd,Qe,Qf,Qg,Qh,Qi,Qj,Qk,reduceCtorEq,reduceIte,hi,hp,e1,hv,hg,a1,a2,a3,k1]
  ·have hp:0<i:=by omega
   have hpI:(0:Int)<(i:Int):=by omega
   have hiI:(i:Int)<(au.length:Int):=by omega
   have e2:=es hp
   by_cases a8:d<=d2
   ·refine⟨fun h=>by simp[a1,a2,a3,a7,a8]at h,fun _=>⟨[(101,.rc [.lst 2 (uJ au) .no,.int .i64 th]),(104,.rc [.int .i64 d,.byt k .no])], ?_⟩⟩
    rw[ah];simp only[go_sem,Q0,Q1,Q2,Q3,Q4,Q5,Q6,Q7,Q8,Q9,Qa,Qb,Qc,Qd,Qe,Qf,Qg,Qh,Qi,Qj,Qk,reduceCtorEq,reduceIte,hi,hiI,hp,hpI,e1,e2,hi1,hv,hg,hg1,a1,a2,a3,a7,a8]
   ·refine⟨fun _=> ?_,fun h=>by simp[a1,a2,a3,a7,a8]at h⟩
    rw[ah];simp only[go_sem,Q0,Q1,Q2,Q3,Q4,Q5,Q6,Q7,Q8,Q9,Qa,Qb,Qc,Qd,Qe,Qf,Qg,Qh,Qi,Qj,Qk,reduceCtorEq,reduceIte,hi,hiI,hp,hpI,e1,e2,hi1,hv,hg,hg1,a1,a2,a3,a7,a8]
 ·refine⟨fun h=>by simp[a1,a2,a3]at h,fun _=>⟨[(101,.rc [.lst 2 (uJ au) .no,.int .i64 th]),(104,.rc [.int .i64 d,.byt k .no])], ?_⟩⟩
  rw[ah];simp only[go_sem,Q0,Q1,Q2,Q3,Q4,Q5,Q6,Q7,Q8,Q9,Qa,Qb,Qc,Qd,Qe,Qf,Qg,Qh,Qi,Qj,Qk,reduceCtorEq,reduceIte,hi,e1,hv,hg,a1,a2,a3]
theorem l23(t:Tr)(hn:t.au.length<=100):∀(n i:Nat),i+n=t.au.length->
 (mI t.au n i=0->run T (.loop kQ) (uY t i)=some (.x 0,⟨[(1,.ptr 101 0)],[(101,.rc t.sv)],[]⟩))/\
 (mI t.au n i≠0->∃ob,run T (.loop kQ) (uY t i)=some (.r,⟨[(2,.int .i64 (mI t.au n i))],ob,[]⟩))
 |0,i,h=>by
  have hi:i=t.au.length:=by omega
  refine⟨fun _=> ?_,fun h=>absurd rfl h⟩;subst hi;unfold uY;rw[ah];simp only[go_sem,Q0,Q1,Q2,Q3,Q4,Q5,Q6,Q7,Q8,Q9,Qa,Qb,Qc,Qd,Qe,Qf,Qg,Qh,Qi,Qj,Qk,reduceCtorEq,reduceIte]
 |n+1,i,h=>by
  obtain⟨h1,h2⟩:=s23 t hn i (by omega);obtain⟨k1,k2⟩:=l23 t hn n (i+1) (by omega);show(_->_)/\(_->_);simp only[mI]
  by_cases e:auE t.au i=0
  ·rw[if_pos e,h1 e];exact⟨k1,k2⟩
  ·rw[if_neg e];exact⟨fun h=>absurd h e,fun _=>h2 e⟩
theorem f23(t:Tr):call T 23 [.agg t.sv] [] 0=some ⟨.int .i64 (trE t),[],[]⟩:=by
 have hl:=ln t.au;rw[aj xmP];unfold trE
 by_cases h4:(4:Int)<t.au.length
 ·rw[if_pos h4]
  have h4n:4<t.au.length:=by omega
  simp only[Tr.sv,go_sem,Q0,Q1,Q2,Q3,Q4,Q5,Q6,Q7,Q8,Q9,Qa,Qb,Qc,Qd,Qe,Qf,Qg,Qh,Qi,Qj,Qk,reduceCtorEq,reduceIte,hl,h4,h4n]
 ·rw[if_neg h4]
  have h4n:¬4<t.au.length:=by omega
  obtain⟨k1,k2⟩:=l23 t (by omega) t.au.length 0 (cg _)
  by_cases e:mI t.au t.au.length 0=0
  ·have k:=k1 e
   rw[if_pos e];simp only[uY,Tr.sv,aB]at k
   by_cases b1:t.thr<1
   ·simp only[Tr.sv,go_sem,Q0,Q1,Q2,Q3,Q4,Q5,Q6,Q7,Q8,Q9,Qa,Qb,Qc,Qd,Qe,Qf,Qg,Qh,Qi,Qj,Qk,reduceCtorEq,reduceIte,hl,h4,h4n,k,b1]
   ·by_cases b2:(t.au.length:Int)<t.thr
    ·simp only[Tr.sv,go_sem,Q0,Q1,Q2,Q3,Q4,Q5,Q6,Q7,Q8,Q9,Qa,Qb,Qc,Qd,Qe,Qf,Qg,Qh,Qi,Qj,Qk,reduceCtorEq,reduceIte,hl,h4,h4n,k,b1,b2]
    ·simp only[Tr.sv,go_sem,Q0,Q1,Q2,Q3,Q4,Q5,Q6,Q7,Q8,Q9,Qa,Qb,Qc,Qd,Qe,Qf,Qg,Qh,Qi,Qj,Qk,reduceCtorEq,reduceIte,hl,h4,h4n,k,b1,b2]
  ·obtain⟨ob,k⟩:=k2 e
   rw[if_neg e];simp only[uY,Tr.sv,aB]at k;simp only[Tr.sv,go_sem,Q0,Q1,Q2,Q3,Q4,Q5,Q6,Q7,Q8,Q9,Qa,Qb,Qc,Qd,Qe,Qf,Qg,Qh,Qi,Qj,Qk,reduceCtorEq,reduceIte,hl,h4,h4n,k]
end Go.Proofs.YtkggincjigbelaaGreatDoor
