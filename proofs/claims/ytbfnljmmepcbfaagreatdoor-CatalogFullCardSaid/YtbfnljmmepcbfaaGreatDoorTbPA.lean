/- What the functions come to. No condition. -/
import Derived.Test.YtbfnljmmepcbfaaGreatDoorTaPA
open Int renaming natCast_zero -> aD
open Go.IntKind renaming i64 -> ah
open List renaming drop_length -> bP, drop_zero -> bh, getD_eq_getElem?_getD -> aa, getElem?_eq_getElem -> ac, getElem_mem -> bo, length_map -> aY, length_nil -> aB, mem_cons_of_mem -> av, mem_cons_self -> aE, mem_map -> aT, mem_range -> dJ, range -> bA
open Nat renaming add_assoc -> ep, add_zero -> gx, zero_add -> bS, zero_mul -> fo
open UInt8 renaming ofNat -> gw
set_option maxRecDepth 100000
set_option maxHeartbeats 16000000
set_option linter.unusedSimpArgs false
set_option linter.unusedVariables false
namespace Go.Proofs.YtbfnljmmepcbfaaGreatDoor
open Go.Sy
open UInt8 renaming reduceLT -> Q0, reduceLE -> Q1
open Int renaming reduceToNat -> Q2, reduceLE -> Q3, reduceLT -> Q4, reduceEq -> Q5, reduceNe -> Q6, reduceNeg -> Q7, reduceAdd -> Q8, reduceSub -> Q9, reduceMul -> Qa
open Nat renaming reducePow -> Qb, reduceDiv -> Qc, reduceMod -> Qd, reduceAdd -> Qe, reduceSub -> Qf, reduceMul -> Qg, reduceLT -> Qh, reduceLeDiff -> Qi, reduceEqDiff -> Qj, reduceBEq -> Qk
def prn:List UInt8->Bool
 |[]=>true
 |c::r=>if c<32 then false else if 126<c then false else prn r
def chk(k:Int)(t:List UInt8)(lo hi:Int):Int:=
 if k<1 then 1 else if 4<k then 1 else if prn t then
  (if k=4 then(if lo<0 then 1 else if hi<lo then 1 else if 1000000000<hi then 1 else if 32<t.length then 4 else 0)
   else if lo=0 then(if hi=0 then(if k=1 then(if t=[]then 0 else 1)else if 32<t.length then 4 else 0)else 1)else 1)
 else 1
theorem xld(k:Int)(t:List UInt8)(lo hi:Int)(hl:t.length<=1000000000000):∀(n i:Nat),t.length-i=n->i<=t.length->
 run T (.loop si) ⟨[(1,.ptr 101 0),(15,.int .i64 t.length),(16,.int .i64 i)],[(101,.rc [.int .i64 k,.str t,.int .i64 lo,.int .i64 hi])],[]⟩=
 if prn (t.drop i)then some (.x 0,⟨[(1,.ptr 101 0)],[(101,.rc [.int .i64 k,.str t,.int .i64 lo,.int .i64 hi])],[]⟩)
 else some (.r,⟨[(2,.int .i64 1)],[(101,.rc [.int .i64 k,.str t,.int .i64 lo,.int .i64 hi])],[]⟩):=by
 intro n;induction n with
 |zero=>
  intro i h0 h1;have hi:i=t.length:=by omega
  subst hi;rw[ai];simp only[go_sem,Qh,Qj,Qk,reduceIte,bP,prn]
 |succ n ih=>
  intro i h0 h1;have hi:i<t.length:=by omega
  have e1:=cZ i (by omega);have ih':=ih (i+1) (by omega) (by omega);rw[ai,eg t i hi]
  by_cases h2:t.getD i 0<32
  ·simp only[go_sem,Qe,Qh,Qi,Qj,Qk,reduceIte,hi,prn,h2]
  ·by_cases h3:126<t.getD i 0
   ·simp only[go_sem,Qe,Qh,Qi,Qj,Qk,reduceIte,hi,prn,h2,h3]
   ·simp only[go_sem,Qe,Qh,Qi,Qj,Qk,reduceIte,hi,e1,prn,h2,h3,ih']
theorem xli(k:Int)(t:List UInt8)(lo hi:Int)(hl:t.length<=1000000000000):∀(n i:Nat),t.length-i=n->i<=t.length->
 run T (.loop yK) ⟨[(1,.ptr 101 0),(3,.int .i64 i)],[(101,.rc [.int .i64 k,.str t,.int .i64 lo,.int .i64 hi])],[]⟩=
 if prn (t.drop i)then some (.x 0,⟨[(1,.ptr 101 0)],[(101,.rc [.int .i64 k,.str t,.int .i64 lo,.int .i64 hi])],[]⟩)
 else some (.r,⟨[(2,.int .i64 1)],[(101,.rc [.int .i64 k,.str t,.int .i64 lo,.int .i64 hi])],[]⟩):=by
 intro n;induction n with
 |zero=>
  intro i h0 h1;have hi:i=t.length:=by omega
  subst hi;rw[ai];simp only[go_sem,Qe,Qh,Qi,Qj,Qk,reduceIte,bP,prn]
 |succ n ih=>
  intro i h0 h1;have hi:i<t.length:=by omega
  have e1:=cZ i (by omega);have ih':=ih (i+1) (by omega) (by omega);rw[ai,eg t i hi]
  by_cases h2:t.getD i 0<32
  ·simp only[go_sem,Qe,Qh,Qi,Qj,Qk,reduceIte,hi,prn,h2]
  ·by_cases h3:126<t.getD i 0
   ·simp only[go_sem,Qe,Qh,Qi,Qj,Qk,reduceIte,hi,prn,h2,h3]
   ·simp only[go_sem,Qe,Qh,Qi,Qj,Qk,reduceIte,hi,e1,prn,h2,h3,ih']
theorem oy(t:List UInt8):((32:Int)<(t.length:Int))↔32<t.length:=by omega
theorem f129(k:Int)(t:List UInt8)(lo hi:Int)(hl:t.length<=1000000000000):call T 129 [.agg [.int .i64 k,.str t,.int .i64 lo,.int .i64 hi]] [] 0=some ⟨.int .i64 (chk k t lo hi),[],[]⟩:=by
 rw[an xhg];have h:=xld k t lo hi hl _ 0 rfl (by omega);simp only[aD,bh]at h;unfold chk
 by_cases c1:k<1
 ·simp only[go_sem,Qe,Qh,Qi,Qj,Qk,reduceCtorEq,reduceIte,c1]
 by_cases c2:4<k
 ·simp only[go_sem,Qe,Qh,Qi,Qj,Qk,reduceCtorEq,reduceIte,c1,c2]
 cases c3:prn t with
 |false=>simp only[go_sem,Qe,Qh,Qi,Qj,Qk,reduceCtorEq,reduceIte,h,c1,c2,c3]
 |true=>
  by_cases c4:k=4
  ·subst c4
   by_cases c5:lo<0
   ·simp only[go_sem,Q4,Q5,Qe,Qh,Qi,Qj,Qk,reduceCtorEq,reduceIte,h,c3,c5]
   by_cases c6:hi<lo
   ·simp only[go_sem,Q4,Q5,Qe,Qh,Qi,Qj,Qk,reduceCtorEq,reduceIte,h,c3,c5,c6]
   by_cases c7:1000000000<hi
   ·simp only[go_sem,Q4,Q5,Qe,Qh,Qi,Qj,Qk,reduceCtorEq,reduceIte,h,c3,c5,c6,c7]
   by_cases c8:32<t.length
   ·simp only[go_sem,Q4,Q5,Qe,Qh,Qi,Qj,Qk,reduceCtorEq,reduceIte,h,c3,c5,c6,c7,c8,oy]
   ·simp only[go_sem,Q4,Q5,Qe,Qh,Qi,Qj,Qk,reduceCtorEq,reduceIte,h,c3,c5,c6,c7,c8,oy]
  ·by_cases c5:lo=0
   ·subst c5
    by_cases c6:hi=0
    ·subst c6
     by_cases c7:k=1
     ·subst c7
      by_cases c8:t=[]
      ·subst c8
       try simp only[aB,aD]at h
       simp only[go_sem,Q4,Q5,Qe,Qh,Qi,Qj,Qk,reduceCtorEq,reduceIte,h,c3,aB,aD]
      ·simp only[go_sem,Q4,Q5,Qe,Qh,Qi,Qj,Qk,reduceCtorEq,reduceIte,h,c3,c8]
     ·by_cases c8:32<t.length
      ·simp only[go_sem,Q4,Qe,Qh,Qi,Qj,Qk,reduceCtorEq,reduceIte,h,c1,c2,c3,c4,c7,c8,oy]
      ·simp only[go_sem,Q4,Qe,Qh,Qi,Qj,Qk,reduceCtorEq,reduceIte,h,c1,c2,c3,c4,c7,c8,oy]
    ·simp only[go_sem,Q4,Qe,Qh,Qi,Qj,Qk,reduceCtorEq,reduceIte,h,c1,c2,c3,c4,c6]
   ·simp only[go_sem,Qe,Qh,Qi,Qj,Qk,reduceCtorEq,reduceIte,h,c1,c2,c3,c4,c5]
theorem xl3(k:Int)(t:List UInt8)(lo hi:Int)(hl:t.length<=1000000000000):call T 108 [.agg [.int .i64 k,.str t,.int .i64 lo,.int .i64 hi]] [] 0=some ⟨.int .i64 (chk k t lo hi),[],[]⟩:=by
 rw[an xhv];have h:=xli k t lo hi hl _ 0 rfl (by omega);simp only[aD,bh]at h;unfold chk
 by_cases c1:k<1
 ·simp only[go_sem,Qe,Qh,Qi,Qj,Qk,reduceCtorEq,reduceIte,c1]
 by_cases c2:4<k
 ·simp only[go_sem,Qe,Qh,Qi,Qj,Qk,reduceCtorEq,reduceIte,c1,c2]
 cases c3:prn t with
 |false=>simp only[go_sem,Qe,Qh,Qi,Qj,Qk,reduceCtorEq,reduceIte,h,c1,c2,c3]
 |true=>
  by_cases c4:k=4
  ·subst c4
   by_cases c5:lo<0
   ·simp only[go_sem,Q4,Q5,Qe,Qh,Qi,Qj,Qk,reduceCtorEq,reduceIte,h,c3,c5]
   by_cases c6:hi<lo
   ·simp only[go_sem,Q4,Q5,Qe,Qh,Qi,Qj,Qk,reduceCtorEq,reduceIte,h,c3,c5,c6]
   by_cases c7:1000000000<hi
   ·simp only[go_sem,Q4,Q5,Qe,Qh,Qi,Qj,Qk,reduceCtorEq,reduceIte,h,c3,c5,c6,c7]
   by_cases c8:32<t.length
   ·simp only[go_sem,Q4,Q5,Qe,Qh,Qi,Qj,Qk,reduceCtorEq,reduceIte,h,c3,c5,c6,c7,c8,oy]
   ·simp only[go_sem,Q4,Q5,Qe,Qh,Qi,Qj,Qk,reduceCtorEq,reduceIte,h,c3,c5,c6,c7,c8,oy]
  ·by_cases c5:lo=0
   ·subst c5
    by_cases c6:hi=0
    ·subst c6
     by_cases c7:k=1
     ·subst c7
      by_cases c8:t=[]
      ·subst c8
       try simp only[aB,aD]at h
       simp only[go_sem,Q4,Q5,Qe,Qh,Qi,Qj,Qk,reduceCtorEq,reduceIte,h,c3,aB,aD]
      ·simp only[go_sem,Q4,Q5,Qe,Qh,Qi,Qj,Qk,reduceCtorEq,reduceIte,h,c3,c8]
     ·by_cases c8:32<t.length
      ·simp only[go_sem,Q4,Qe,Qh,Qi,Qj,Qk,reduceCtorEq,reduceIte,h,c1,c2,c3,c4,c7,c8,oy]
      ·simp only[go_sem,Q4,Qe,Qh,Qi,Qj,Qk,reduceCtorEq,reduceIte,h,c1,c2,c3,c4,c7,c8,oy]
    ·simp only[go_sem,Q4,Qe,Qh,Qi,Qj,Qk,reduceCtorEq,reduceIte,h,c1,c2,c3,c4,c6]
   ·simp only[go_sem,Qe,Qh,Qi,Qj,Qk,reduceCtorEq,reduceIte,h,c1,c2,c3,c4,c5]


structure Au where
 id:Int
 key:List UInt8
def Au.sv(a:Au):List SV:=[.int .i64 a.id,.byt a.key .no]
def au0:Au:=⟨0,[]⟩
structure Tr where
 au:List Au
 thr:Int
def kX(l:List Au):List (List SV):=l.map Au.sv
def Tr.sv(t:Tr):List SV:=[.lst 2 (kX t.au) .no,.int .i64 t.thr]
theorem fk(l:List Au):(kX l).length=l.length:=aY ..
theorem ij(l:List Au)(i:Nat)(h:i<l.length):(kX l).getD i []=(l.getD i au0).sv:=by simp[kX,aa,h]
def auE(l:List Au)(i:Nat):Int:=
 if(l.getD i au0).id<1 then 1 else if 1000<(l.getD i au0).id then 1 else if((l.getD i au0).key.length:Int)=17 then(if i=0 then 0 else if(l.getD i au0).id<=(l.getD (i-1) au0).id then 41 else 0)else 1
def kY(l:List Au):Nat->Nat->Int
 |0,_=>0
 |n+1,i=>if auE l i=0 then kY l n (i+1)else auE l i
def trE(t:Tr):Int:=
 if(4:Int)<t.au.length then 4 else if kY t.au t.au.length 0=0 then(if t.thr<1 then 1 else if(t.au.length:Int)<t.thr then 1 else 0)else kY t.au t.au.length 0
def wD(t:Tr)(i:Nat):CSt:=⟨[(1,.ptr 101 0),(10,.lst 2 (kX t.au) .no),(11,.int .i64 t.au.length),(12,.int .i64 i)],[(101,.rc t.sv)],[]⟩
theorem s23(t:Tr)(hn:t.au.length<=100)(i:Nat)(hi:i<t.au.length):
 (auE t.au i=0->run T (.loop ls) (wD t i)=run T (.loop ls) (wD t (i+1)))/\
 (auE t.au i≠0->∃ob,run T (.loop ls) (wD t i)=some (.r,⟨[(2,.int .i64 (auE t.au i))],ob,[]⟩)):=by
 have e1:=cZ i (by omega);have hv:=fk t.au;have hg:=ij t.au i hi;have es:0<i->ah.wrap ((i:Int)-1)=((i-1:Nat):Int):=fun h=>by rw[w64 (by omega) (by omega)];omega
 have hi1:i-1<t.au.length:=by omega
 have hg1:=ij t.au (i-1) hi1;unfold auE;obtain⟨au,th⟩:=t;simp only[wD,Tr.sv]at*;generalize au.getD i au0=x at*;generalize au.getD (i-1) au0=y at*;obtain⟨d,k⟩:=x;obtain⟨d2,k2⟩:=y;simp only[Au.sv]at*
 by_cases a1:d<1
 ·refine⟨fun h=>by simp[a1]at h,fun _=>⟨[(101,.rc [.lst 2 (kX au) .no,.int .i64 th]),(104,.rc [.int .i64 d,.byt k .no])], ?_⟩⟩
  rw[ai];simp only[go_sem,Qe,Qh,Qi,Qj,Qk,reduceIte,hi,hv,hg,a1]
 by_cases a2:1000<d
 ·refine⟨fun h=>by simp[a1,a2]at h,fun _=>⟨[(101,.rc [.lst 2 (kX au) .no,.int .i64 th]),(104,.rc [.int .i64 d,.byt k .no])], ?_⟩⟩
  rw[ai];simp only[go_sem,Qe,Qh,Qi,Qj,Qk,reduceIte,hi,hv,hg,a1,a2]
 by_cases a3:(k.length:Int)=17
 ·by_cases a7:i=0
  ·subst a7
   have hp:(0:Int)<au.length:=by omega
   refine⟨fun _=> ?_,fun h=>by simp[a1,a2,a3]at h⟩;simp only[aD]at*;have k1:ah.wrap 1=((0+1:Nat):Int):=rfl;rw[ai];simp only[go_sem,Q2,Q3,Q4,Q8,Qe,Qh,Qi,Qj,Qk,reduceIte,hp,hv,hg,a1,a2,a3,k1]
  ·have hp:0<i:=by omega
   have hpI:(0:Int)<(i:Int):=by omega
   have hiI:(i:Int)<(au.length:Int):=by omega
   have e2:=es hp
   by_cases a8:d<=d2
   ·refine⟨fun h=>by simp[a1,a2,a3,a7,a8]at h,fun _=>⟨[(101,.rc [.lst 2 (kX au) .no,.int .i64 th]),(104,.rc [.int .i64 d,.byt k .no])], ?_⟩⟩
    rw[ai];simp only[go_sem,Qe,Qh,Qi,Qj,Qk,reduceIte,hiI,hpI,e2,hi1,hv,hg,hg1,a1,a2,a3,a7,a8]
   ·refine⟨fun _=> ?_,fun h=>by simp[a1,a2,a3,a7,a8]at h⟩
    rw[ai];simp only[go_sem,Qe,Qh,Qi,Qj,Qk,reduceIte,hiI,hpI,e1,e2,hi1,hv,hg,hg1,a1,a2,a3,a8]
 ·refine⟨fun h=>by simp[a1,a2,a3]at h,fun _=>⟨[(101,.rc [.lst 2 (kX au) .no,.int .i64 th]),(104,.rc [.int .i64 d,.byt k .no])], ?_⟩⟩
  rw[ai];simp only[go_sem,Qe,Qh,Qi,Qj,Qk,reduceIte,hi,hv,hg,a1,a2,a3]
theorem l39(t:Tr)(hn:t.au.length<=100):∀(n i:Nat),i+n=t.au.length->
 (kY t.au n i=0->run T (.loop ls) (wD t i)=some (.x 0,⟨[(1,.ptr 101 0)],[(101,.rc t.sv)],[]⟩))/\
 (kY t.au n i≠0->∃ob,run T (.loop ls) (wD t i)=some (.r,⟨[(2,.int .i64 (kY t.au n i))],ob,[]⟩))
 |0,i,h=>by
  have hi:i=t.au.length:=by omega
  refine⟨fun _=> ?_,fun h=>absurd rfl h⟩;subst hi;unfold wD;rw[ai];simp only[go_sem,Qh,Qj,Qk,reduceIte]
 |n+1,i,h=>by
  obtain⟨h1,h2⟩:=s23 t hn i (by omega);obtain⟨k1,k2⟩:=l39 t hn n (i+1) (by omega);show(_->_)/\(_->_);simp only[kY]
  by_cases e:auE t.au i=0
  ·rw[if_pos e,h1 e];exact⟨k1,k2⟩
  ·rw[if_neg e];exact⟨fun h=>absurd h e,fun _=>h2 e⟩
theorem f39(t:Tr):call T 39 [.agg t.sv] [] 0=some ⟨.int .i64 (trE t),[],[]⟩:=by
 have hl:=fk t.au;rw[an xmK];unfold trE
 by_cases h4:(4:Int)<t.au.length
 ·rw[if_pos h4]
  have h4n:4<t.au.length:=by omega
  simp only[Tr.sv,go_sem,Qe,Qh,Qi,Qj,Qk,reduceCtorEq,reduceIte,hl,h4]
 ·rw[if_neg h4]
  have h4n:¬4<t.au.length:=by omega
  obtain⟨k1,k2⟩:=l39 t (by omega) t.au.length 0 (bS _)
  by_cases e:kY t.au t.au.length 0=0
  ·have k:=k1 e
   rw[if_pos e];simp only[wD,Tr.sv,aD]at k
   by_cases b1:t.thr<1
   ·simp only[Tr.sv,go_sem,Qe,Qh,Qi,Qj,Qk,reduceCtorEq,reduceIte,hl,h4,k,b1]
   ·by_cases b2:(t.au.length:Int)<t.thr
    ·simp only[Tr.sv,go_sem,Qe,Qh,Qi,Qj,Qk,reduceCtorEq,reduceIte,hl,h4,k,b1,b2]
    ·simp only[Tr.sv,go_sem,Qe,Qh,Qi,Qj,Qk,reduceCtorEq,reduceIte,hl,h4,k,b1,b2]
  ·obtain⟨ob,k⟩:=k2 e
   rw[if_neg e];simp only[wD,Tr.sv,aD]at k;simp only[Tr.sv,go_sem,Qe,Qh,Qi,Qj,Qk,reduceCtorEq,reduceIte,hl,h4,k]
def wC(t:Tr)(i:Nat):CSt:=⟨[(1,.ptr 101 0),(3,.int .i64 i)],[(101,.rc t.sv)],[]⟩
theorem s24(t:Tr)(hn:t.au.length<=100)(i:Nat)(hi:i<t.au.length):
 (auE t.au i=0->run T (.loop lr) (wC t i)=run T (.loop lr) (wC t (i+1)))/\
 (auE t.au i≠0->∃ob,run T (.loop lr) (wC t i)=some (.r,⟨[(2,.int .i64 (auE t.au i))],ob,[]⟩)):=by
 have e1:=cZ i (by omega);have hv:=fk t.au;have hg:=ij t.au i hi;have es:0<i->ah.wrap ((i:Int)-1)=((i-1:Nat):Int):=fun h=>by rw[w64 (by omega) (by omega)];omega
 have hi1:i-1<t.au.length:=by omega
 have hg1:=ij t.au (i-1) hi1;unfold auE;obtain⟨au,th⟩:=t;simp only[wC,Tr.sv]at*;generalize au.getD i au0=x at*;generalize au.getD (i-1) au0=y at*;obtain⟨d,k⟩:=x;obtain⟨d2,k2⟩:=y;simp only[Au.sv]at*
 by_cases a1:d<1
 ·refine⟨fun h=>by simp[a1]at h,fun _=>⟨[(101,.rc [.lst 2 (kX au) .no,.int .i64 th]),(104,.rc [.int .i64 d,.byt k .no])], ?_⟩⟩
  rw[ai];simp only[go_sem,Qe,Qh,Qi,Qj,Qk,reduceIte,hi,hv,hg,a1]
 by_cases a2:1000<d
 ·refine⟨fun h=>by simp[a1,a2]at h,fun _=>⟨[(101,.rc [.lst 2 (kX au) .no,.int .i64 th]),(104,.rc [.int .i64 d,.byt k .no])], ?_⟩⟩
  rw[ai];simp only[go_sem,Qe,Qh,Qi,Qj,Qk,reduceIte,hi,hv,hg,a1,a2]
 by_cases a3:(k.length:Int)=17
 ·by_cases a7:i=0
  ·subst a7
   have hp:(0:Int)<au.length:=by omega
   refine⟨fun _=> ?_,fun h=>by simp[a1,a2,a3]at h⟩;simp only[aD]at*;have k1:ah.wrap 1=((0+1:Nat):Int):=rfl;rw[ai];simp only[go_sem,Q2,Q3,Q4,Q8,Qe,Qh,Qi,Qj,Qk,reduceIte,hp,hv,hg,a1,a2,a3,k1]
  ·have hp:0<i:=by omega
   have hpI:(0:Int)<(i:Int):=by omega
   have hiI:(i:Int)<(au.length:Int):=by omega
   have e2:=es hp
   by_cases a8:d<=d2
   ·refine⟨fun h=>by simp[a1,a2,a3,a7,a8]at h,fun _=>⟨[(101,.rc [.lst 2 (kX au) .no,.int .i64 th]),(104,.rc [.int .i64 d,.byt k .no])], ?_⟩⟩
    rw[ai];simp only[go_sem,Qe,Qh,Qi,Qj,Qk,reduceIte,hiI,hpI,e2,hi1,hv,hg,hg1,a1,a2,a3,a7,a8]
   ·refine⟨fun _=> ?_,fun h=>by simp[a1,a2,a3,a7,a8]at h⟩
    rw[ai];simp only[go_sem,Qe,Qh,Qi,Qj,Qk,reduceIte,hiI,hpI,e1,e2,hi1,hv,hg,hg1,a1,a2,a3,a8]
 ·refine⟨fun h=>by simp[a1,a2,a3]at h,fun _=>⟨[(101,.rc [.lst 2 (kX au) .no,.int .i64 th]),(104,.rc [.int .i64 d,.byt k .no])], ?_⟩⟩
  rw[ai];simp only[go_sem,Qe,Qh,Qi,Qj,Qk,reduceIte,hi,hv,hg,a1,a2,a3]
theorem l40(t:Tr)(hn:t.au.length<=100):∀(n i:Nat),i+n=t.au.length->
 (kY t.au n i=0->run T (.loop lr) (wC t i)=some (.x 0,⟨[(1,.ptr 101 0)],[(101,.rc t.sv)],[]⟩))/\
 (kY t.au n i≠0->∃ob,run T (.loop lr) (wC t i)=some (.r,⟨[(2,.int .i64 (kY t.au n i))],ob,[]⟩))
 |0,i,h=>by
  have hi:i=t.au.length:=by omega
  have hl:=fk t.au;refine⟨fun _=> ?_,fun h=>absurd rfl h⟩;subst hi;unfold wC Tr.sv;rw[ai];simp only[go_sem,Qe,Qh,Qi,Qj,Qk,reduceIte,hl]
 |n+1,i,h=>by
  obtain⟨h1,h2⟩:=s24 t hn i (by omega);obtain⟨k1,k2⟩:=l40 t hn n (i+1) (by omega);show(_->_)/\(_->_);simp only[kY]
  by_cases e:auE t.au i=0
  ·rw[if_pos e,h1 e];exact⟨k1,k2⟩
  ·rw[if_neg e];exact⟨fun h=>absurd h e,fun _=>h2 e⟩
theorem f40(t:Tr):call T 40 [.agg t.sv] [] 0=some ⟨.int .i64 (trE t),[],[]⟩:=by
 have hl:=fk t.au;rw[an xmJ];unfold trE
 by_cases h4:(4:Int)<t.au.length
 ·rw[if_pos h4]
  have h4n:4<t.au.length:=by omega
  simp only[Tr.sv,go_sem,Qe,Qh,Qi,Qj,Qk,reduceCtorEq,reduceIte,hl,h4]
 ·rw[if_neg h4]
  have h4n:¬4<t.au.length:=by omega
  obtain⟨k1,k2⟩:=l40 t (by omega) t.au.length 0 (bS _)
  by_cases e:kY t.au t.au.length 0=0
  ·have k:=k1 e
   rw[if_pos e];simp only[wC,Tr.sv,aD]at k
   by_cases b1:t.thr<1
   ·simp only[Tr.sv,go_sem,Qe,Qh,Qi,Qj,Qk,reduceCtorEq,reduceIte,hl,h4,k,b1]
   ·by_cases b2:(t.au.length:Int)<t.thr
    ·simp only[Tr.sv,go_sem,Qe,Qh,Qi,Qj,Qk,reduceCtorEq,reduceIte,hl,h4,k,b1,b2]
    ·simp only[Tr.sv,go_sem,Qe,Qh,Qi,Qj,Qk,reduceCtorEq,reduceIte,hl,h4,k,b1,b2]
  ·obtain⟨ob,k⟩:=k2 e
   rw[if_neg e];simp only[wC,Tr.sv,aD]at k;simp only[Tr.sv,go_sem,Qe,Qh,Qi,Qj,Qk,reduceCtorEq,reduceIte,hl,h4,k]
end Go.Proofs.YtbfnljmmepcbfaaGreatDoor
namespace Go.Sy
open Go.ChangeShapes Go.WideShapes
section
variable {H : Type} {enc : TypeId × Value -> H} {P : Program} {w : World} {base : Nat} {hd : Bool} {r : Reach} {b0 : Nat} {t e : TypeId} {v : Value} {d : DataW H} {ps : List MemPlace}
theorem lc{a:Addr}{v:Value}(h:w.cell? a=some v):a.spot=none:=by
 unfold World.cell? at h;split at h
 ·by_cases hs:a.spot.isSome=true
  ·rw[if_pos hs]at h;cases h
  ·simpa using hs
 ·cases h
theorem rJ(a:Addr):a.add 0=a:=by unfold Addr.add;rw[if_pos rfl]
variable [bf]
theorem xn{fuel:Nat}{v:Value}{x:DataW H×List MemPlace}(ht:P.underlying t=some (.slice e))(he:P.underlying e=some (.int .u8))(hc:P.cellsOf e=1)(h:DataW.trod enc P w base (fun _=>true) hd fuel t [v]=some x):
 ∃l:List UInt8,co (nC w).G (.byt l .no) v:=by
 rcases open_ints ht he hc h with⟨hcs,_⟩|⟨a,len,cap,zs,hcs,_,hl,hm,hz,_,hcell,hwf⟩
 ·obtain rfl:v= .slice none 0 0:=by simpa using hcs
  exact⟨[],.bytN .no⟩
 ·obtain rfl:v= .slice (some a) len cap:=by simpa using hcs
  simp only[if_true]at hz
  by_cases h0:cap=0
  ·obtain rfl:len=0:=by omega
   subst h0;exact⟨[],.bytE .no a⟩
  ·have hs:a.spot=none:=by
    have:=lc (hcell 0 (by omega));rwa[rJ]at this
   obtain⟨b,off,spot⟩:=a;simp only at hs;subst hs;refine⟨(zs.take len).map fun n=>gw n.toNat,.byt _ .no b off cap len (by simp;omega) hl (fun i hi=> ?_)⟩;have h1:=hcell i (by omega);have hi':i<zs.length:=by omega
   rw[add_plain]at h1
   have e1:((zs.take len).map fun n=>gw n.toNat).getD i 0=gw (zs.getD i 0).toNat:=by simp[aa,hi',hi]
   show w.cell? _=_;rw[h1,e1]
   congr 2
   refine(xaB (hwf _ ?_)).symm;rw[aa,ac hi'];exact bo hi'
omit [bf] in
theorem CY{K:List SV->Prop}{c:Nat}(hc0:0<c){fuel:Nat}{v:Value}{x:DataW H×List MemPlace}(ht:P.underlying t=some (.slice e))(ce:P.cellsOf e=c)
 (row:∀(n:Nat)(cs:List Value)(y:DataW H×List MemPlace),cs.length=c->DataW.trod enc P w base (fun _=>true) hd n e cs=some y->∃q:List SV,K q/\q.length=c/\∀j,j<c->co (nC w).G (q.getD j .undef) (cs.getD j Go.undef))
 (h:DataW.trod enc P w base (fun _=>true) hd fuel t [v]=some x):
 ∃l:List (List SV),(∀q∈l,K q)/\co (nC w).G (.lst c l .no) v:=by
 rcases Go.Deep.open_slice ht h with⟨hcs,_⟩|⟨a,len,cap,m,n,D,Pl,hcs,_,hl,hm,hmm,_,hx⟩
 ·obtain rfl:v= .slice none 0 0:=by simpa using hcs
  exact⟨[],fun q hq=>(by cases hq),.lstN c .no⟩
 ·obtain rfl:v= .slice (some a) len cap:=by simpa using hcs
  simp only[if_true]at hmm;subst hmm
  by_cases h0:m=0
  ·obtain rfl:len=0:=by omega
   subst h0;exact⟨[],fun q hq=>(by cases hq),.lstE c .no a⟩
  ·have each:∀i,i<m->∃p:List SV×List Value,K p.1/\p.1.length=c/\(∀j,j<c->co (nC w).G (p.1.getD j .undef) (p.2.getD j Go.undef))/\∀j,j<c->w.cell? (a.add (i*c+j))=some (p.2.getD j Go.undef):=by
    intro i hi;obtain⟨cs',h1,h2⟩:=hx i hi;rw[ce]at h1;obtain⟨_,hlen,hcell⟩:=World.cells?_some h1;obtain⟨q,k1,k2,k3⟩:=row n cs' _ hlen h2;refine⟨(q,cs'),k1,k2,k3,fun j hj=> ?_⟩;have:=hcell j (by omega);rw[Go.Deep.add_add]at this;rw[this,aa,ac (by omega)];rfl
   obtain⟨p,hp⟩:=Go.Deep.choose_lt each
   have hs:a.spot=none:=by have:=lc ((hp 0 (by omega)).2.2.2 0 hc0);rwa[fo,gx,rJ]at this
   obtain⟨b,off,spot⟩:=a;simp only at hs;subst hs
   have hrow:∀i,i<len->((bA len).map fun i=>(p i).1).getD i []=(p i).1:=fun i hi=>by simp[aa,hi]
   refine⟨(bA len).map fun i=>(p i).1,fun q hq=> ?_,.lst c _ .no b off m len (fun i j=>(p i).2.getD j Go.undef) (by simp) hl (fun i hi=>by rw[hrow i hi];exact(hp i (by omega)).2.1) (fun i j hi hj=> ?_) (fun i j hi hj=> ?_)⟩
   ·obtain⟨i,hi,rfl⟩:=aT.1 hq
    exact(hp i (by have:=dJ.1 hi;omega)).1
   ·have:=(hp i (by omega)).2.2.2 j hj
    rw[add_plain]at this;show w.cell? _=_;rw[ep];exact this
   ·rw[hrow i hi]
    exact(hp i (by omega)).2.2.1 j hj
def xdA(q:List SV):Prop:=∃(a:Int)(b:List UInt8),q=[.int .i64 a,.byt b .no]
theorem xaL{fa fb:Field}(he:P.underlying e=some (.struct #[fa,fb]))(o0:fa.offset=0)(o1:fb.offset=1)
 (c0:P.cellsOf fa.type=1) (c1:P.cellsOf fb.type=1) (t0:P.underlying fa.type=some (.int .i64)) {u:TypeId} (t1:P.underlying fb.type=some (.slice u)) (hu:P.underlying u=some (.int .u8)) (cu:P.cellsOf u=1)
 (n:Nat) (cs:List Value) (y:DataW H×List MemPlace) (hlen:cs.length=2) (h:DataW.trod enc P w base (fun _=>true) hd n e cs=some y):
 ∃q:List SV,xdA q/\q.length=2/\∀j,j<2->co (nC w).G (q.getD j .undef) (cs.getD j Go.undef):=by
 obtain⟨xs,k,_,_,_,hxl,hf⟩:=DataW.trod_struct he h
 match cs,hlen,xs,hxl with
 |[v0,v1],_,[y0,y1],_=>
  have g0:=hf 0 fa rfl;have g1:=hf 1 fb rfl;simp[o0,o1,c0,c1]at g0 g1;obtain⟨a,e0,_,_⟩:=DataW.trod_int t0 g0;obtain⟨l,hl⟩:=xn t1 hu cu g1;obtain rfl:v0= .int .i64 a:=by simpa using e0
  refine⟨[.int .i64 a,.byt l .no],⟨a,l,rfl⟩,rfl,fun j hj=> ?_⟩
  match j,hj with
  |0,_=>exact .int _ _
  |1,_=>exact hl
end
end Go.Sy
namespace Go.Proofs.YtbfnljmmepcbfaaGreatDoor
open Go.Sy
open UInt8 renaming reduceLT -> Q0, reduceLE -> Q1
open Int renaming reduceToNat -> Q2, reduceLE -> Q3, reduceLT -> Q4, reduceEq -> Q5, reduceNe -> Q6, reduceNeg -> Q7, reduceAdd -> Q8, reduceSub -> Q9, reduceMul -> Qa
open Nat renaming reducePow -> Qb, reduceDiv -> Qc, reduceMod -> Qd, reduceAdd -> Qe, reduceSub -> Qf, reduceMul -> Qg, reduceLT -> Qh, reduceLeDiff -> Qi, reduceEqDiff -> Qj, reduceBEq -> Qk
section
theorem Nu:∀(l:List (List SV)),(∀q∈l,xdA q)->∃es:List Au,kX es=l
 |[],_=>⟨[],rfl⟩
 |q::r,h=>by
  obtain⟨es,he⟩:=Nu r fun x hx=>h x (av _ hx)
  obtain⟨a,b,rfl⟩:=h q aE;exact⟨⟨a,b⟩::es,by rw[<-he];rfl⟩
section
open Go.ChangeShapes Go.WideShapes
variable {H : Type} {enc : TypeId × Value -> H} {w : World} {base : Nat} {hd : Bool} {r : Reach} {b0 : Nat} {v : Value} {d : DataW H} {ps : List MemPlace}
theorem xds(hval:Value.okWide Tryz.prog w r b0 24 v)(h:DataW.Trod enc Tryz.prog w base (fun _=>true) hd 24 v d ps):∃m:Tr,Rep (nC w) (.agg m.sv) v:=by
 obtain⟨cs,rfl,hcs⟩:=okWide_struct Tryz.underlying24 hval;rw[show Tryz.prog.cellsOf 24=2 by kernel_rfl]at hcs;obtain⟨fuel,hf⟩:=h;obtain⟨xs,n,_,_,hl,hlen,hf⟩:=DataW.trod_struct Tryz.underlying24 hf;have c3:Tryz.prog.cellsOf 3=1:=by kernel_rfl
 have c5:Tryz.prog.cellsOf 5=1:=by kernel_rfl
 have c36:Tryz.prog.cellsOf 36=1:=by kernel_rfl
 have c22:Tryz.prog.cellsOf 22=1:=by kernel_rfl
 have c76:Tryz.prog.cellsOf 76=2:=by kernel_rfl
 simp only[Value.cells]at hl hf;have hx:xs.length=2:=hlen;obtain⟨l⟩:=cs;have hl2:l.length=2:=by simpa using hcs
 match xs,hx,l,hl2 with
 |[y0,y1],_,[v0,v1],_=>
  have g0:=hf 0 _ rfl;have g1:=hf 1 _ rfl;simp[c3,c22]at g0 g1;obtain⟨le,he1,he2⟩:=CY (K:=xdA) (by decide:0<2) Tryz.underlying22 c76 (xaL Tryz.underlying76 rfl rfl c3 c36 Tryz.underlying3 Tryz.underlying36 Tryz.underlying5 c5) g0;obtain⟨a1,e1,_,_⟩:=DataW.trod_int Tryz.underlying3 g1;obtain⟨es,rfl⟩:=Nu le he1;obtain rfl:v1= .int .i64 a1:=by simpa using e1
  refine⟨⟨es,a1⟩,.agg _ _ rfl fun i hi=> ?_⟩
  match i,hi with
  |0,_=>exact .dat _ _ he2 trivial
  |1,_=>exact .dat _ _ (.int _ _) trivial
  |i+2,hi=>exact absurd hi (by simp[Tr.sv])
end
end
end Go.Proofs.YtbfnljmmepcbfaaGreatDoor
