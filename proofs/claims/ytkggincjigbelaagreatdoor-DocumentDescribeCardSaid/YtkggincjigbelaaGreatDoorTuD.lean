/- What the functions come to. No condition. -/
import Derived.Test.YtkggincjigbelaaGreatDoorToD
open List renaming Pairwise -> gY, cons_append -> aS, drop_zero -> bj, getD_eq_getElem?_getD -> aa, getElem?_eq_getElem -> ab, getElem_of_mem -> bM, length_append -> ac, length_cons -> ai, length_drop -> aQ, length_take -> ax, mem_append -> al, mem_cons -> an, mem_cons_of_mem -> ao, mem_cons_self -> ay, mem_of_mem_drop -> CW, mem_of_mem_take -> b8, nil_append -> aF
open Nat renaming le_refl -> aH
set_option maxRecDepth 100000
set_option maxHeartbeats 16000000
set_option linter.unusedSimpArgs false
set_option linter.unusedVariables false
namespace Go.Proofs.YtkggincjigbelaaGreatDoor
open Go.Sy
open UInt8 renaming reduceLT -> Q0, reduceLE -> Q1
open Int renaming reduceToNat -> Q2, reduceLE -> Q3, reduceLT -> Q4, reduceEq -> Q5, reduceNe -> Q6, reduceNeg -> Q7, reduceAdd -> Q8, reduceSub -> Q9, reduceMul -> Qa
open Nat renaming reducePow -> Qb, reduceDiv -> Qc, reduceMod -> Qd, reduceAdd -> Qe, reduceSub -> Qf, reduceMul -> Qg, reduceLT -> Qh, reduceLeDiff -> Qi, reduceEqDiff -> Qj, reduceBEq -> Qk
def mG(x:Ent):List Ent->Nat
 |[]=>0
 |y::r=>if eL y x=true then mG x r+1 else 0
theorem AG(x:Ent):∀l,mG x l<=l.length
 |[]=>aH _
 |y::r=>by have:=AG x r;rw[mG,ai];split<;>omega
def mZ:aE:= .rc [.str [],.int .i64 0,.int .i64 0,.int .i64 0,.int .i64 0,.lst 4 [] .clip,.lst 4 [] .clip]
def Qq(y:Img):Ent:=⟨y.role,y.name,y.ver,sha (v8 y)⟩
def AZ(x:Ent)(l:List Ent):List Ent:=if mG x l<l.length/\eL x (l.getD (mG x l) en0)=false then l else l.take (mG x l)++x::l.drop (mG x l)
def r6(y:Img)(l:List Ent):List Ent:=if y.role=4 then l else AZ (Qq y) l
structure pl(l:List Ent)(n:Nat):Prop where
 len:l.length<=n
 e:∀x∈l,x.name.length<=1000000/\x.dig.length=32
theorem EM{x z:Ent}{l:List Ent}(h:z∈AZ x l):z=x\/z∈l:=by
 unfold AZ at h;split at h
 ·exact .inr h
 ·rw[al,an]at h
  rcases h with h|h|h
  ·exact .inr (b8 h)
  ·exact .inl h
  ·exact .inr (CW h)
theorem EV(x:Ent)(l:List Ent):(AZ x l).length<=l.length+1:=by
 unfold AZ;have:=AG x l;split
 ·omega
 ·rw[ac,ai,ax,aQ];omega
theorem E2{y:Img}(h:gz y=0):y.name.length<=1000000:=(MD h).1
theorem QZ{y:Img}(hy:gz y=0){l:List Ent}{n:Nat}(h:pl l n):pl (r6 y l) (n+1):=by
 unfold r6;split
 ·exact⟨Nat.le_succ_of_le h.len,h.e⟩
 ·refine⟨?_,fun x hx=> ?_⟩
  ·have:=EV (Qq y) l
   have:=h.len;omega
  ·rcases EM hx with rfl|hx
   ·exact⟨E2 hy,i9 _⟩
   ·exact h.e x hx
def uD(l:List Img)(es:List Ent):List Ent:=l.foldl (fun a y=>r6 y a) es
theorem A8:∀(l:List Img)(es:List Ent)(n:Nat),(∀y∈l,gz y=0)->pl es n->pl (uD l es) (n+l.length)
 |[],es,n,_,h=>h
 |y::r,es,n,hl,h=>by have:=A8 r (r6 y es) (n+1) (fun z hz=>hl z (ao _ hz)) (QZ (hl y ay) h);rw[ai,show n+(r.length+1)=n+1+r.length from by omega];exact this
theorem QD{ch:List Img}(hc:lI ch):pl (uD ch []) 8:=by
 have:=A8 ch [] 0 (fun y hy=>by obtain⟨i,hi,rfl⟩:=bM hy;have:=hc.ok i hi;rwa[aa,ab hi]at this) ⟨aH _,fun x hx=>by cases hx⟩
 have n8:=hc.n8;exact⟨by have:=this.len;omega,this.e⟩
section
open SortT
theorem ry(x:Ent):∀l:List Ent,AZ x l=nD eL x l
 |[]=>by simp[AZ,nD,mG]
 |y::r=>by
  have ih:=ry x r;unfold nD;rw[<-ih];unfold AZ
  by_cases h:eL y x=true
  ·have hp:mG x (y::r)=mG x r+1:=by rw[mG,if_pos h]
   rw[hp,if_pos h,List.getD_cons_succ,List.take_succ_cons,List.drop_succ_cons,ai]
   by_cases hc:mG x r<r.length/\eL x (r.getD (mG x r) en0)=false
   ·rw[if_pos hc,if_pos ⟨by omega,hc.2⟩]
   ·rw[if_neg hc,if_neg (fun k=>hc ⟨by omega,k.2⟩),aS]
  ·have hp:mG x (y::r)=0:=by rw[mG,if_neg h]
   rw[hp,if_neg h,List.getD_cons_zero,List.take_zero,bj,aF]
   by_cases hb:eL x y=true
   ·rw[if_pos hb,if_neg (fun k=>by rw[hb]at k;exact absurd k.2 (by simp))]
   ·rw[if_neg hb,if_pos ⟨by simp,by simpa using hb⟩]
theorem Qp{y:Img}(h:gz y=0)(h4:¬y.role=4):nW (Qq y):=by obtain⟨a1,a2,a3,a4,a5,a6⟩:=rA h;exact⟨a1,by show y.role<=3;omega,a3,a4,i9 _,a5⟩
theorem A7:∀(l:List Img)(es:List Ent),(∀y∈l,gz y=0)->(∀x∈es,nW x)->Str eL es->(∀x∈uD l es,nW x)/\Str eL (uD l es)
 |[],es,_,h1,h2=>⟨h1,h2⟩
 |y::r,es,h0,h1,h2=>by
  have hy:=h0 y ay
  have key:(∀x∈r6 y es,nW x)/\Str eL (r6 y es):=by
   unfold r6
   by_cases h4:y.role=4
   ·rw[if_pos h4];exact⟨h1,h2⟩
   ·rw[if_neg h4,ry]
    refine⟨fun x hx=> ?_,ot pj _ _ h2⟩;rcases (lf pj _ _ _).1 hx with rfl|hx
    ·exact Qp hy h4
    ·exact h1 x hx
  exact A7 r (r6 y es) (fun z hz=>h0 z (ao _ hz)) key.1 key.2
theorem lV{ch:List Img}(hc:lI ch):∀y∈ch,gz y=0:=by intro y hy;obtain⟨i,hi,rfl⟩:=bM hy;have:=hc.ok i hi;rwa[aa,ab hi]at this
theorem xcK{ch:List Img}(hc:lI ch):(∀x∈uD ch [],nW x)/\Str eL (uD ch []):=A7 ch [] (lV hc) (fun x hx=>by cases hx) gY.nil
end
end Go.Proofs.YtkggincjigbelaaGreatDoor
