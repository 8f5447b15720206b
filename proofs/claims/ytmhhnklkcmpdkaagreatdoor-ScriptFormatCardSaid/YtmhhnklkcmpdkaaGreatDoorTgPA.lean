/- Contracts. No condition. -/
import Derived.Test.YtmhhnklkcmpdkaaGreatDoorTePA
open Bool renaming false_eq_true -> az
open Int renaming cast_ofNat_Int -> dw, natCast_zero -> aA
open Go.IntKind renaming i64 -> ai, u64 -> aS
open List renaming drop_eq_getElem_cons -> aF, drop_eq_nil_of_le -> ct, drop_length -> bB, drop_zero -> bj, getD_eq_getElem?_getD -> aa, getElem?_eq_getElem -> ab, getElem?_take -> bG, getElem_of_mem -> bH, length_append -> ac, length_cons -> ah, length_take -> av, mem_cons_of_mem -> af, mem_cons_self -> aq, nil_append -> aR, replicate -> aJ
open Nat renaming lt_or_ge -> bP, zero_le -> bC
set_option maxRecDepth 100000
set_option maxHeartbeats 16000000
set_option linter.unusedSimpArgs false
set_option linter.unusedVariables false
namespace Go.Proofs.YtmhhnklkcmpdkaaGreatDoor
open Go.Sy
open UInt8 renaming reduceLT -> Q0, reduceLE -> Q1
open Int renaming reduceToNat -> Q2, reduceLE -> Q3, reduceLT -> Q4, reduceEq -> Q5, reduceNe -> Q6, reduceNeg -> Q7, reduceAdd -> Q8, reduceSub -> Q9, reduceMul -> Qa
open Nat renaming reducePow -> Qb, reduceDiv -> Qc, reduceMod -> Qd, reduceAdd -> Qe, reduceSub -> Qf, reduceMul -> Qg, reduceLT -> Qh, reduceLeDiff -> Qi, reduceEqDiff -> Qj, reduceBEq -> Qk
def smI(x y:Img):Bool:=decide (y.role=x.role)&&decide (y.name=x.name)
def anR(l:List Img)(r:Int)(i:Nat):Bool:=(l.take i).any fun y=>decide (y.role=r)
def xlb(l:List Img)(i:Nat):Bool:=(l.take i).any (smI (l.getD i im0))
def stE(l:List Img)(i:Nat):Int:=
 if eW (l.getD i im0)≠0 then eW (l.getD i im0)else if 0<i/\(l.getD i im0).role<(l.getD (i-1) im0).role then 41 else if xlb l i=true then 42 else 0
def chR(l:List Img):Nat->Nat->Int
 |0,_=>0
 |n+1,i=>if stE l i≠0 then stE l i else chR l n (i+1)
def chE(l:List Img):Int:=
 if l.length=0\/8<l.length then 1 else if chR l l.length 0≠0 then chR l l.length 0 else if anR l 1 l.length=true/\anR l 3 l.length=true then 0 else 40
theorem wX(l:List Img)(i:Nat)(h:i<l.length):l.take (i+1)=l.take i++ [l.getD i im0]:=by rw[List.take_add_one,ab h,aa,ab h];rfl
theorem jP(l:List Img)(r:Int)(i:Nat)(h:i<l.length):anR l r (i+1)=(anR l r i||decide ((l.getD i im0).role=r)):=by unfold anR;rw[wX l i h,List.any_append];simp
theorem xl9(l:List Img)(hl:l.length<=8)(Z:d8)(i:Nat)(hi:i<l.length):∀(n j:Nat),i-j=n->j<=i->
 ((
  (l.take i).drop j).any (smI (l.getD i im0))=false->run T (.loop uL) ⟨[(0,.lst 4 (cZ l) .no),(3,.ptr 103 0),(5,.ptr 105 0),(17,.lst 4 (cZ l) .no),(18,.int .i64 l.length),(19,.int .i64 i),(44,.lst 4 ((cZ l).take i) .no),(45,.int .i64 i),(46,.int .i64 j)],[(103,.arr 1 Z),(105,.rc (l.getD i im0).sv)],[]⟩=
  some (.x 2,⟨[(0,.lst 4 (cZ l) .no),(3,.ptr 103 0),(5,.ptr 105 0),(17,.lst 4 (cZ l) .no),(18,.int .i64 l.length),(19,.int .i64 i)],[(103,.arr 1 Z),(105,.rc (l.getD i im0).sv)],[]⟩))/\
 ((
  (l.take i).drop j).any (smI (l.getD i im0))=true->∃ob,run T (.loop uL) ⟨[(0,.lst 4 (cZ l) .no),(3,.ptr 103 0),(5,.ptr 105 0),(17,.lst 4 (cZ l) .no),(18,.int .i64 l.length),(19,.int .i64 i),(44,.lst 4 ((cZ l).take i) .no),(45,.int .i64 i),(46,.int .i64 j)],[(103,.arr 1 Z),(105,.rc (l.getD i im0).sv)],[]⟩=
  some (.r,⟨[(2,.int .i64 42)],ob,[]⟩)):=by
 intro n;induction n with
 |zero=>
  intro j h0 h1;have:j=i:=by omega
  subst this;have e:(l.take j).drop j=[]:=ct (by rw[av];omega);rw[e];refine⟨fun _=> ?_,fun h=>by cases h⟩;generalize l.getD j im0=x at*;obtain⟨ro,na,ve,p⟩:=x;rw[aj];simp only[Img.sv];simp only[go_sem,Q0,Q1,Q2,Q3,Q4,Q5,Q6,Q7,Q8,Q9,Qa,Qb,Qc,Qd,Qe,Qf,Qg,Qh,Qi,Qj,Qk,reduceCtorEq,reduceIte]
 |succ n ih=>
  intro j h0 h1;have H:j<i:=by omega
  have W:j<l.length:=by omega
  have O:=cX j (by omega);have a6:=ih (j+1) (by omega) (by omega);have hv:=cg l;have E:((cZ l).take i).length=i:=by rw[av,hv];omega
  have C:((cZ l).take i).getD j []=(l.getD j im0).sv:=by rw[aa,bG,if_pos H,<-aa];exact fH l j W
  have hd:(l.take i).drop j=l.getD j im0::(l.take i).drop (j+1):=by rw[aF (by rw[av];omega),List.getElem_take,aa,ab W];rfl
  rw[hd,List.any_cons];generalize ((l.take i).drop (j+1)).any (smI (l.getD i im0))=Q at*;generalize (cZ l).take i=I at*;generalize l.getD i im0=x at*;generalize l.getD j im0=y at*;obtain⟨ro,na,ve,p⟩:=x;obtain⟨z,F,a1,p2⟩:=y;simp only[Img.sv,smI]at*;obtain⟨q1,J⟩:=a6
  by_cases L:z=ro
  ·by_cases hn:F=na
   ·subst L hn
    refine⟨fun h=>by simp at h,fun _=>⟨[(103,.arr 1 Z),(105,.rc [.int .i64 z,.str F,.int .i64 ve,.byt p .no]),(108,.rc [.int .i64 z,.str F,.int .i64 a1,.byt p2 .no])], ?_⟩⟩;rw[aj];simp only[go_sem,Q0,Q1,Q2,Q3,Q4,Q5,Q6,Q7,Q8,Q9,Qa,Qb,Qc,Qd,Qe,Qf,Qg,Qh,Qi,Qj,Qk,reduceCtorEq,reduceIte,H,E,O,C]
   ·have hz:(decide (z=ro)&&decide (F=na)||Q)=Q:=by simp[hn]
    rw[hz];refine⟨fun h=> ?_,fun h=> ?_⟩
    ·rw[aj]
     simp only[go_sem,Q0,Q1,Q2,Q3,Q4,Q5,Q6,Q7,Q8,Q9,Qa,Qb,Qc,Qd,Qe,Qf,Qg,Qh,Qi,Qj,Qk,reduceCtorEq,reduceIte,H,E,O,C,L,hn,q1 h]
    ·obtain⟨ob,J⟩:=J h
     refine⟨ob, ?_⟩;rw[aj];simp only[go_sem,Q0,Q1,Q2,Q3,Q4,Q5,Q6,Q7,Q8,Q9,Qa,Qb,Qc,Qd,Qe,Qf,Qg,Qh,Qi,Qj,Qk,reduceCtorEq,reduceIte,H,E,O,C,L,hn,J]
  ·have hz:(decide (z=ro)&&decide (F=na)||Q)=Q:=by simp[L]
   rw[hz];refine⟨fun h=> ?_,fun h=> ?_⟩
   ·rw[aj]
    simp only[go_sem,Q0,Q1,Q2,Q3,Q4,Q5,Q6,Q7,Q8,Q9,Qa,Qb,Qc,Qd,Qe,Qf,Qg,Qh,Qi,Qj,Qk,reduceCtorEq,reduceIte,H,E,O,C,L,q1 h]
   ·obtain⟨ob,J⟩:=J h
    refine⟨ob, ?_⟩;rw[aj];simp only[go_sem,Q0,Q1,Q2,Q3,Q4,Q5,Q6,Q7,Q8,Q9,Qa,Qb,Qc,Qd,Qe,Qf,Qg,Qh,Qi,Qj,Qk,reduceCtorEq,reduceIte,H,E,O,C,L,J]
def snO(l:List Img)(i:Nat):aB:= .arr 1 [[.bool false],[.bool (anR l 1 i)],[.bool (anR l 2 i)],[.bool (anR l 3 i)],[.bool (anR l 4 i)]]
theorem l78(l:List Img)(hl:l.length<=8):∀(n i:Nat),l.length-i=n->i<=l.length->
 (chR l n i=0->run T (.loop oT) ⟨[(0,.lst 4 (cZ l) .no),(3,.ptr 103 0),(17,.lst 4 (cZ l) .no),(18,.int .i64 l.length),(19,.int .i64 i)],[(103,snO l i)],[]⟩=
  some (.x 0,⟨[(3,.ptr 103 0)],[(103,snO l l.length)],[]⟩))/\
 (chR l n i≠0->∃ob,run T (.loop oT) ⟨[(0,.lst 4 (cZ l) .no),(3,.ptr 103 0),(17,.lst 4 (cZ l) .no),(18,.int .i64 l.length),(19,.int .i64 i)],[(103,snO l i)],[]⟩=
  some (.r,⟨[(2,.int .i64 (chR l n i))],ob,[]⟩)):=by
 intro n;induction n with
 |zero=>
  intro i h0 h1;have:i=l.length:=by omega
  subst this;refine⟨fun _=> ?_,fun h=>absurd rfl h⟩;rw[aj];unfold snO;simp only[go_sem,Q0,Q1,Q2,Q3,Q4,Q5,Q6,Q7,Q8,Q9,Qa,Qb,Qc,Qd,Qe,Qf,Qg,Qh,Qi,Qj,Qk,reduceCtorEq,reduceIte]
 |succ n ih=>
  intro i h0 h1;have hi:i<l.length:=by omega
  have H:(i:Int)<(l.length:Int):=by omega
  have e1:=cX i (by omega);obtain⟨p1,W⟩:=ih (i+1) (by omega) (by omega);have hv:=cg l;have hg:=fH l i hi;have g:=O9 (l.getD i im0);have ha:=xl9 l hl [[.bool false],[.bool (anR l 1 i)],[.bool (anR l 2 i)],[.bool (anR l 3 i)],[.bool (anR l 4 i)]] i hi _ 0 rfl (by omega);rw[aA,bj]at ha;obtain⟨a1,a2⟩:=ha;have hc:chR l (n+1) i=if stE l i≠0 then stE l i else chR l n (i+1):=rfl
  have z:stE l i=if eW (l.getD i im0)≠0 then eW (l.getD i im0)else if 0<i/\(l.getD i im0).role<(l.getD (i-1) im0).role then 41 else if(l.take i).any (smI (l.getD i im0))=true then 42 else 0:=rfl
  have Q:eW (l.getD i im0)=0->(l.getD i im0).role=1\/(l.getD i im0).role=2\/(l.getD i im0).role=3\/(l.getD i im0).role=4:=fun h=>by obtain⟨r1,r2,_⟩:=nJ h;omega
  rw[hc];clear hc;unfold snO at p1 W ⊢;rw[jP l 1 i hi,jP l 2 i hi,jP l 3 i hi,jP l 4 i hi]at p1 W;have O:((cZ l).take i).length=i:=by rw[av,hv];omega
  have Z:i<=l.length:=by omega
  have F:(i:Int)<=(l.length:Int):=by omega
  have C:0<i->ai.wrap ((i:Int)-1)=((i-1:Nat):Int):=fun h=>by rw[w64 (by omega) (by omega)];omega
  have a7:=fH l (i-1) (by omega);have a6:i-1<l.length:=by omega
  generalize b6:chR l n (i+1)=c at*;generalize b7:stE l i=s at*;generalize (l.take i).any (smI (l.getD i im0))=D at*;generalize anR l 1 l.length=z1 at*;generalize anR l 2 l.length=z2 at*;generalize anR l 3 l.length=z3 at*;generalize anR l 4 l.length=z4 at*;generalize anR l 1 i=y1 at*;generalize anR l 2 i=y2 at*;generalize anR l 3 i=y3 at*;generalize anR l 4 i=y4 at*;generalize l.getD i im0=x at*;generalize l.getD (i-1) im0=y at*
  by_cases hE:eW x=0
  ·have Q:=Q hE
   rw[if_neg (by rw[hE];simp)]at z;rw[hE]at g
   by_cases ho:0<i/\x.role<y.role
   ·rw[if_pos ho]at z
    subst z;refine⟨fun h=>by simp at h,fun _=>⟨[(103,.arr 1 [[.bool false],[.bool y1],[.bool y2],[.bool y3],[.bool y4]]),(105,.rc x.sv)], ?_⟩⟩;obtain⟨J,o2⟩:=ho;have I:(0:Int)<(i:Int):=by omega
    have C:=C J;obtain⟨ro,na,ve,p⟩:=x;obtain⟨L,b4,b5,W⟩:=y;simp only[Img.sv]at*;rw[aj];simp only[go_sem,Q0,Q1,Q2,Q3,Q4,Q5,Q6,Q7,Q8,Q9,Qa,Qb,Qc,Qd,Qe,Qf,Qg,Qh,Qi,Qj,Qk,reduceCtorEq,reduceIte,hi,H,hv,hg,a7,g,mn,J,I,C,a6,o2]
   ·rw[if_neg ho]at z
    cases D with
    |true=>
     rw[if_pos rfl]at z;subst z;obtain⟨ob,b2⟩:=a2 rfl;clear a2 a1;refine⟨fun h=>by simp at h,fun _=>⟨ob, ?_⟩⟩;obtain⟨ro,na,ve,p⟩:=x;obtain⟨L,b4,b5,W⟩:=y;simp only[Img.sv]at*
     by_cases a8:i=0
     ·subst a8
      rw[aA]at*;rw[List.take_zero]at b2;rw[aj];simp only[go_sem,Q0,Q1,Q2,Q3,Q4,Q5,Q6,Q7,Q8,Q9,Qa,Qb,Qc,Qd,Qe,Qf,Qg,Qh,Qi,Qj,Qk,reduceCtorEq,reduceIte,hi,H,hv,hg,g,mn,b2,O,Z,F]
     ·have J:0<i:=by omega
      have I:(0:Int)<(i:Int):=by omega
      have C:=C J;have o2:¬ro<L:=fun h=>ho ⟨J,h⟩
      rw[aj];simp only[go_sem,Q0,Q1,Q2,Q3,Q4,Q5,Q6,Q7,Q8,Q9,Qa,Qb,Qc,Qd,Qe,Qf,Qg,Qh,Qi,Qj,Qk,reduceCtorEq,reduceIte,hi,H,hv,hg,a7,g,mn,J,I,C,a6,o2,b2,O,Z,F]
    |false=>
     rw[if_neg (by simp)]at z;subst z;have b1:=a1 rfl;clear a1 a2;rw[if_neg (by simp)]
     have b3:∀R,run T (.loop oT) ⟨[(0,.lst 4 (cZ l) .no),(3,.ptr 103 0),(17,.lst 4 (cZ l) .no),(18,.int .i64 l.length),(19,.int .i64 ((i+1:Nat):Int))],[(103,.arr 1 [[.bool false],[.bool (y1||decide (x.role=1))],[.bool (y2||decide (x.role=2))],[.bool (y3||decide (x.role=3))],[.bool (y4||decide (x.role=4))]])],[]⟩=R->
      run T (.loop oT) ⟨[(0,.lst 4 (cZ l) .no),(3,.ptr 103 0),(17,.lst 4 (cZ l) .no),(18,.int .i64 l.length),(19,.int .i64 i)],[(103,.arr 1 [[.bool false],[.bool y1],[.bool y2],[.bool y3],[.bool y4]])],[]⟩=R:=by
      intro R hR;clear p1 W;obtain⟨ro,na,ve,p⟩:=x;obtain⟨L,b4,b5,W⟩:=y;simp only[Img.sv]at*
      by_cases a8:i=0
      ·subst a8
       have c1:((0+1:Nat):Int)=1:=rfl;have kw:ai.wrap 1=1:=rfl;rw[c1]at hR;rw[aA]at*;rw[List.take_zero]at b1;rw[aj];rcases Q with rfl|rfl|rfl|rfl<;>
       ·simp only[Bool.or_false,Bool.or_true,decide_true,decide_false,Int.reduceEq,eq_self]at*
        simp only[go_sem,Q0,Q1,Q2,Q3,Q4,Q5,Q6,Q7,Q8,Q9,Qa,Qb,Qc,Qd,Qe,Qf,Qg,Qh,Qi,Qj,Qk,reduceCtorEq,reduceIte,hi,H,kw,hv,O,Z,F,hg,g,mn,b1,iJ,hR]
      ·have J:0<i:=by omega
       have I:(0:Int)<(i:Int):=by omega
       have C:=C J;have o2:¬ro<L:=fun h=>ho ⟨J,h⟩
       rw[aj];rcases Q with rfl|rfl|rfl|rfl<;>
       ·simp only[Bool.or_false,Bool.or_true,decide_true,decide_false,Int.reduceEq,eq_self]at*
        simp only[go_sem,Q0,Q1,Q2,Q3,Q4,Q5,Q6,Q7,Q8,Q9,Qa,Qb,Qc,Qd,Qe,Qf,Qg,Qh,Qi,Qj,Qk,reduceCtorEq,reduceIte,hi,H,e1,hv,hg,a7,g,mn,J,I,C,a6,o2,b1,O,Z,F,iJ,hR]
     refine⟨fun h=>b3 _ (p1 h),fun h=> ?_⟩;obtain⟨ob,W⟩:=W h;exact⟨ob,b3 _ W⟩
  ·rw[if_pos hE]at z
   subst z;rw[if_pos hE];refine⟨fun h=>absurd h hE,fun _=>⟨[(103,.arr 1 [[.bool false],[.bool y1],[.bool y2],[.bool y3],[.bool y4]]),(105,.rc x.sv)], ?_⟩⟩;generalize eW x=E at*;obtain⟨ro,na,ve,p⟩:=x;simp only[Img.sv]at*;rw[aj];simp only[go_sem,Q0,Q1,Q2,Q3,Q4,Q5,Q6,Q7,Q8,Q9,Qa,Qb,Qc,Qd,Qe,Qf,Qg,Qh,Qi,Qj,Qk,reduceCtorEq,reduceIte,hi,H,hv,hg,g,mn,hE]
theorem f78(l:List Img):call T 78 [.lst 4 (cZ l) .no] [] 0=some ⟨.int .i64 (chE l),[],[]⟩:=by
 have hv:=cg l;unfold chE
 by_cases F:l.length=0
 ·have h:(l.length:Int)=0:=by omega
  rw[if_pos (.inl F),am Zf];simp only[go_sem,Q0,Q1,Q2,Q3,Q4,Q5,Q6,Q7,Q8,Q9,Qa,Qb,Qc,Qd,Qe,Qf,Qg,Qh,Qi,Qj,Qk,reduceCtorEq,reduceIte,hv,h]
 ·have h:¬(l.length:Int)=0:=by omega
  by_cases E:8<l.length
  ·have y:(8:Int)<l.length:=by omega
   rw[if_pos (.inr E),am Zf];simp only[go_sem,Q0,Q1,Q2,Q3,Q4,Q5,Q6,Q7,Q8,Q9,Qa,Qb,Qc,Qd,Qe,Qf,Qg,Qh,Qi,Qj,Qk,reduceCtorEq,reduceIte,hv,h,y]
  ·have y:¬(8:Int)<l.length:=by omega
   rw[if_neg (by omega)];have g:=l78 l (by omega) _ 0 rfl (by omega);rw[aA]at g;unfold snO at g;have H:anR l 1 0=false:=rfl;have z2:anR l 2 0=false:=rfl;have z3:anR l 3 0=false:=rfl;have z4:anR l 4 0=false:=rfl;rw[H,z2,z3,z4,Nat.sub_zero]at g;obtain⟨g1,C⟩:=g;generalize chR l l.length 0=c at*
   by_cases z:c=0
   ·rw[if_neg (by rw[z];simp)]
    have g1:=g1 z;rw[am Zf];cases h1:anR l 1 l.length with
    |false=>rw[h1]at g1;simp only[go_sem,Q0,Q1,Q2,Q3,Q4,Q5,Q6,Q7,Q8,Q9,Qa,Qb,Qc,Qd,Qe,Qf,Qg,Qh,Qi,Qj,Qk,reduceCtorEq,reduceIte,hv,h,y,g1,aJ]
    |true=>
     rw[h1]at g1;cases h3:anR l 3 l.length with
     |false=>rw[h3]at g1;simp only[go_sem,Q0,Q1,Q2,Q3,Q4,Q5,Q6,Q7,Q8,Q9,Qa,Qb,Qc,Qd,Qe,Qf,Qg,Qh,Qi,Qj,Qk,reduceCtorEq,reduceIte,hv,h,y,g1,aJ]
     |true=>rw[h3]at g1;simp only[go_sem,Q0,Q1,Q2,Q3,Q4,Q5,Q6,Q7,Q8,Q9,Qa,Qb,Qc,Qd,Qe,Qf,Qg,Qh,Qi,Qj,Qk,reduceCtorEq,reduceIte,hv,h,y,g1,aJ]
   ·rw[if_pos z]
    obtain⟨ob,C⟩:=C z;rw[am Zf];simp only[go_sem,Q0,Q1,Q2,Q3,Q4,Q5,Q6,Q7,Q8,Q9,Qa,Qb,Qc,Qd,Qe,Qf,Qg,Qh,Qi,Qj,Qk,reduceCtorEq,reduceIte,hv,h,y,C,aJ]
theorem xgU(l:List Img)(hl:l.length<=8)(f k:Bool)(i:Nat)(hi:i<l.length):∀(n j:Nat),i-j=n->j<=i->
 run T (.loop tE) ⟨[(0,.lst 4 (cZ l) .no),(3,.bool f),(4,.bool k),(5,.int .i64 i),(7,.int .i64 j)],[],[]⟩=
  if((l.take i).drop j).any (smI (l.getD i im0))=true then some (.r,⟨[(2,.int .i64 42)],[],[]⟩)else some (.x 2,⟨[(0,.lst 4 (cZ l) .no),(3,.bool f),(4,.bool k),(5,.int .i64 i)],[],[]⟩):=by
 intro n;induction n with
 |zero=>
  intro j h0 h1;have:j=i:=by omega
  subst this;have e:(l.take j).drop j=[]:=ct (by rw[av];omega);rw[e,aj];simp only[go_sem,Q0,Q1,Q2,Q3,Q4,Q5,Q6,Q7,Q8,Q9,Qa,Qb,Qc,Qd,Qe,Qf,Qg,Qh,Qi,Qj,Qk,reduceCtorEq,reduceIte,List.any_nil]
 |succ n ih=>
  intro j h0 h1;have Z:j<i:=by omega
  have h:j<l.length:=by omega
  have W:=cX j (by omega);have H:=ih (j+1) (by omega) (by omega);have hv:=cg l;have O:=fH l i hi;have E:=fH l j h
  have hd:(l.take i).drop j=l.getD j im0::(l.take i).drop (j+1):=by rw[aF (by rw[av];omega),List.getElem_take,aa,ab h];rfl
  rw[hd,List.any_cons,aj];generalize ((l.take i).drop (j+1)).any (smI (l.getD i im0))=Q at*;generalize l.getD i im0=x at*;generalize l.getD j im0=y at*;obtain⟨L,J,ve,p⟩:=x;obtain⟨z,C,F,p2⟩:=y;simp only[Img.sv]at*
  by_cases I:z=L
  ·by_cases hn:C=J
   ·have hz:(smI ⟨L,J,ve,p⟩ ⟨z,C,F,p2⟩||Q)=true:=by simp[smI,I,hn]
    rw[hz];subst I hn;simp only[go_sem,Q0,Q1,Q2,Q3,Q4,Q5,Q6,Q7,Q8,Q9,Qa,Qb,Qc,Qd,Qe,Qf,Qg,Qh,Qi,Qj,Qk,reduceCtorEq,reduceIte,Z,h,hi,W,hv,O,E]
   ·have hz:(smI ⟨L,J,ve,p⟩ ⟨z,C,F,p2⟩||Q)=Q:=by simp[smI,hn]
    rw[hz];simp only[go_sem,Q0,Q1,Q2,Q3,Q4,Q5,Q6,Q7,Q8,Q9,Qa,Qb,Qc,Qd,Qe,Qf,Qg,Qh,Qi,Qj,Qk,reduceCtorEq,reduceIte,Z,h,hi,W,hv,O,E,I,hn,H]
  ·have hz:(smI ⟨L,J,ve,p⟩ ⟨z,C,F,p2⟩||Q)=Q:=by simp[smI,I]
   rw[hz];simp only[go_sem,Q0,Q1,Q2,Q3,Q4,Q5,Q6,Q7,Q8,Q9,Qa,Qb,Qc,Qd,Qe,Qf,Qg,Qh,Qi,Qj,Qk,reduceCtorEq,reduceIte,Z,h,hi,W,hv,O,E,I,H]
theorem xmz(
 l:List Img)(hl:l.length<=8):∀(n i:Nat),l.length-i=n->i<=l.length->
 run T (.loop tD) ⟨[(0,.lst 4 (cZ l) .no),(3,.bool (anR l 1 i)),(4,.bool (anR l 3 i)),(5,.int .i64 i)],[],[]⟩=
  if chR l n i=0 then some (.x 0,⟨[(3,.bool (anR l 1 l.length)),(4,.bool (anR l 3 l.length))],[],[]⟩)else some (.r,⟨[(2,.int .i64 (chR l n i))],[],[]⟩):=by
 intro n;induction n with
 |zero=>
  intro i h0 h1;have:i=l.length:=by omega
  subst this;have hv:=cg l;rw[aj];simp only[go_sem,Q0,Q1,Q2,Q3,Q4,Q5,Q6,Q7,Q8,Q9,Qa,Qb,Qc,Qd,Qe,Qf,Qg,Qh,Qi,Qj,Qk,reduceCtorEq,reduceIte,hv,chR]
 |succ n ih=>
  intro i h0 h1;have hi:i<l.length:=by omega
  have e1:=cX i (by omega);have a1:=ih (i+1) (by omega) (by omega);rw[jP l 1 i hi,jP l 3 i hi]at a1;have hv:=cg l;have Z:=fH l i hi;have g:=O8 (l.getD i im0);have Q:=fun f k=>xgU l hl f k i hi _ 0 rfl (by omega)
  have hc:chR l (n+1) i=if stE l i≠0 then stE l i else chR l n (i+1):=rfl
  have z:stE l i=if eW (l.getD i im0)≠0 then eW (l.getD i im0)else if 0<i/\(l.getD i im0).role<(l.getD (i-1) im0).role then 41 else if(l.take i).any (smI (l.getD i im0))=true then 42 else 0:=rfl
  rw[hc];clear hc;have C:0<i->ai.wrap ((i:Int)-1)=((i-1:Nat):Int):=fun h=>by rw[w64 (by omega) (by omega)];omega
  have L:=fH l (i-1) (by omega);have J:i-1<l.length:=by omega
  simp only[aA,bj]at Q;rw[aj];generalize chR l n (i+1)=c at*;generalize stE l i=s at*;generalize (l.take i).any (smI (l.getD i im0))=D at*;generalize anR l 1 l.length=z1 at*;generalize anR l 3 l.length=z3 at*;generalize anR l 1 i=y1 at*;generalize anR l 3 i=y3 at*;generalize l.getD i im0=x at*;generalize l.getD (i-1) im0=y at*;generalize eW x=E at*;obtain⟨ro,na,ve,p⟩:=x;obtain⟨I,a7,a8,p2⟩:=y;simp only[Img.sv]at*
  by_cases hE:E=0
  ·subst hE
   rw[if_neg (by simp)]at z
   by_cases ho:0<i/\ro<I
   ·rw[if_pos ho]at z
    subst z;obtain⟨H,o2⟩:=ho;have F:(0:Int)<(i:Int):=by omega
    have C:=C H;have q:(if(41:Int)≠0 then(41:Int)else c)=41:=if_pos (by decide);rw[q,if_neg (by decide)];simp only[go_sem,Q0,Q1,Q2,Q3,Q4,Q5,Q6,Q7,Q8,Q9,Qa,Qb,Qc,Qd,Qe,Qf,Qg,Qh,Qi,Qj,Qk,reduceCtorEq,reduceIte,hi,hv,Z,L,g,mi,H,F,C,J,o2]
   ·rw[if_neg ho]at z
    have a6:∀(R:hJ),(D=true->R=some (.r,⟨[(2,.int .i64 42)],[],[]⟩))->(D=false->R=if c=0 then some (.x 0,⟨[(3,.bool z1),(4,.bool z3)],[],[]⟩)else some (.r,⟨[(2,.int .i64 c)],[],[]⟩))->
     R=if(if s≠0 then s else c)=0 then some (.x 0,⟨[(3,.bool z1),(4,.bool z3)],[],[]⟩)else some (.r,⟨[(2,.int .i64 (if s≠0 then s else c))],[],[]⟩):=by
     intro R q1 q2;cases D with
     |true=>rw[if_pos rfl]at z;subst z;rw[q1 rfl];rfl
     |false=>rw[if_neg (by simp)]at z;subst z;rw[q2 rfl];simp
    apply a6
    ·intro hD
     subst hD;simp only[if_true]at Q
     by_cases O:i=0
     ·subst O
      rw[aA]at*;have W:(0:Int)<(l.length:Int):=by omega
      simp only[go_sem,Q0,Q1,Q2,Q3,Q4,Q5,Q6,Q7,Q8,Q9,Qa,Qb,Qc,Qd,Qe,Qf,Qg,Qh,Qi,Qj,Qk,reduceCtorEq,reduceIte,hi,W,hv,Z,g,mi,Q]
     ·have H:0<i:=by omega
      have F:(0:Int)<(i:Int):=by omega
      have C:=C H;have o2:¬ro<I:=fun h=>ho ⟨H,h⟩
      simp only[go_sem,Q0,Q1,Q2,Q3,Q4,Q5,Q6,Q7,Q8,Q9,Qa,Qb,Qc,Qd,Qe,Qf,Qg,Qh,Qi,Qj,Qk,reduceCtorEq,reduceIte,hi,hv,Z,L,g,mi,H,F,C,J,o2,Q]
    ·intro hD
     subst hD;simp only[az,if_false]at Q;rw[<-a1]
     by_cases O:i=0
     ·subst O
      have c1:((0+1:Nat):Int)=1:=rfl;have kw:ai.wrap 1=1:=rfl;rw[aA]at*;rw[c1];have W:(0:Int)<(l.length:Int):=by omega
      cases y1<;>cases y3<;>
       simp only[go_sem,Q0,Q1,Q2,Q3,Q4,Q5,Q6,Q7,Q8,Q9,Qa,Qb,Qc,Qd,Qe,Qf,Qg,Qh,Qi,Qj,Qk,reduceCtorEq,reduceIte,hi,W,hv,Z,g,mi,Q,kw]
     ·have H:0<i:=by omega
      have F:(0:Int)<(i:Int):=by omega
      have C:=C H;have o2:¬ro<I:=fun h=>ho ⟨H,h⟩
      cases y1<;>cases y3<;>
       simp only[go_sem,Q0,Q1,Q2,Q3,Q4,Q5,Q6,Q7,Q8,Q9,Qa,Qb,Qc,Qd,Qe,Qf,Qg,Qh,Qi,Qj,Qk,reduceCtorEq,reduceIte,hi,hv,Z,L,g,mi,H,F,C,J,o2,Q,e1]
  ·rw[if_pos hE]at z
   subst z;rw[if_pos hE,if_neg hE];simp only[go_sem,Q0,Q1,Q2,Q3,Q4,Q5,Q6,Q7,Q8,Q9,Qa,Qb,Qc,Qd,Qe,Qf,Qg,Qh,Qi,Qj,Qk,reduceCtorEq,reduceIte,hi,hv,Z,g,mi,hE]
theorem xla(l:List Img):call T 154 [.lst 4 (cZ l) .no] [] 0=some ⟨.int .i64 (chE l),[],[]⟩:=by
 have hv:=cg l;unfold chE
 by_cases E:l.length=0
 ·have h:(l.length:Int)=0:=by omega
  rw[if_pos (.inl E),am Ek];simp only[go_sem,Q0,Q1,Q2,Q3,Q4,Q5,Q6,Q7,Q8,Q9,Qa,Qb,Qc,Qd,Qe,Qf,Qg,Qh,Qi,Qj,Qk,reduceCtorEq,reduceIte,hv,h]
 ·have h:¬(l.length:Int)=0:=by omega
  by_cases C:8<l.length
  ·have y:(8:Int)<l.length:=by omega
   rw[if_pos (.inr C),am Ek];simp only[go_sem,Q0,Q1,Q2,Q3,Q4,Q5,Q6,Q7,Q8,Q9,Qa,Qb,Qc,Qd,Qe,Qf,Qg,Qh,Qi,Qj,Qk,reduceCtorEq,reduceIte,hv,h,y]
  ·have y:¬(8:Int)<l.length:=by omega
   rw[if_neg (by omega)];have g:=xmz l (by omega) _ 0 rfl (by omega);rw[aA]at g;have F:anR l 1 0=false:=rfl;have z3:anR l 3 0=false:=rfl;rw[F,z3,Nat.sub_zero]at g;generalize chR l l.length 0=c at*
   by_cases z:c=0
   ·rw[if_neg (by rw[z];simp)]
    rw[if_pos z]at g;rw[am Ek];cases h1:anR l 1 l.length with
    |false=>rw[h1]at g;simp only[go_sem,Q0,Q1,Q2,Q3,Q4,Q5,Q6,Q7,Q8,Q9,Qa,Qb,Qc,Qd,Qe,Qf,Qg,Qh,Qi,Qj,Qk,reduceCtorEq,reduceIte,hv,h,y,g]
    |true=>
     rw[h1]at g;cases h3:anR l 3 l.length with
     |false=>rw[h3]at g;simp only[go_sem,Q0,Q1,Q2,Q3,Q4,Q5,Q6,Q7,Q8,Q9,Qa,Qb,Qc,Qd,Qe,Qf,Qg,Qh,Qi,Qj,Qk,reduceCtorEq,reduceIte,hv,h,y,g]
     |true=>rw[h3]at g;simp only[go_sem,Q0,Q1,Q2,Q3,Q4,Q5,Q6,Q7,Q8,Q9,Qa,Qb,Qc,Qd,Qe,Qf,Qg,Qh,Qi,Qj,Qk,reduceCtorEq,reduceIte,hv,h,y,g]
   ·rw[if_neg z]at g
    rw[if_pos z,am Ek];simp only[go_sem,Q0,Q1,Q2,Q3,Q4,Q5,Q6,Q7,Q8,Q9,Qa,Qb,Qc,Qd,Qe,Qf,Qg,Qh,Qi,Qj,Qk,reduceCtorEq,reduceIte,hv,h,y,g]
def pW:d9->List Img->d9
 |b,[]=>b
 |b,x::r=>pW (lW b (iB x)) r
def bK(l:List Img):d9:=if chE l=0 then pW (be 1 (aS.wrap l.length)) l else []
theorem P9{l:List Img}{i:Nat}(h:stE l i=0):eW (l.getD i im0)=0:=by
 unfold stE at h;split at h
 ·exact h
 ·rename_i y;simpa using y
theorem Ct{l:List Img}:∀{n i:Nat},chR l n i=0->∀j,i<=j->j<i+n->eW (l.getD j im0)=0
 |0,i,_,j,h1,h2=>by omega
 |n+1,i,h,j,h1,h2=>by
  have z:stE l i=0/\chR l n (i+1)=0:=by
   unfold chR at h;split at h
   ·rename_i y;exact absurd h y
   ·rename_i y;exact⟨by simpa using y,h⟩
  rcases bP i j with y|y
  ·exact Ct z.2 j y (by omega)
  ·rw[show j=i from by omega];exact P9 z.1
theorem mJ{l:List Img}(h:chE l=0):1<=l.length/\l.length<=8/\∀j,j<l.length->eW (l.getD j im0)=0:=by
 unfold chE at h;split at h
 ·cases h
 ·rename_i C
  split at h
  ·rename_i y;exact absurd h y
  ·rename_i y
   exact⟨by omega,by omega,fun j z=>Ct (by simpa using y) j (bC _) (by omega)⟩
theorem gP{x:Img}(h:eW x=0):(iB x).length<=85:=by obtain⟨_,_,_,_,hn,y⟩:=nJ h;have:=nX hn;unfold iB;rw[if_pos h,iT,iT,ac,eO,eO];omega
theorem wB(l:List Img)(i:Nat)(h:i<l.length):l.drop i=l.getD i im0::l.drop (i+1):=by rw[aF h,aa,ab h];rfl
theorem l83(l:List Img)(hl:l.length<=8)(hI:∀j,j<l.length->eW (l.getD j im0)=0):∀(n i:Nat)(b:d9)(t:Nat)(tk:t7),l.length-i=n->i<=l.length->b.length+100*n<=100000->((t=12060/\tk=[12060])\/(t=22060/\tk=[12060,22060]))->
 ∃z tk',run T (.loop Ox) ⟨[(3,.byt b (.id t)),(12,.lst 4 (cZ l) .no),(13,.int .i64 l.length),(14,.int .i64 i)],[],tk⟩=some (.x 0,⟨[(3,.byt (pW b (l.drop i)) z)],[],tk'⟩):=by
 intro n;induction n with
 |zero=>
  intro i b t tk H h1 Z C;have:i=l.length:=by omega
  subst this;refine⟨.id t,tk, ?_⟩;rw[aj,bB];simp only[go_sem,Q0,Q1,Q2,Q3,Q4,Q5,Q6,Q7,Q8,Q9,Qa,Qb,Qc,Qd,Qe,Qf,Qg,Qh,Qi,Qj,Qk,reduceCtorEq,reduceIte,pW]
 |succ n L=>
  intro i b t tk H h1 Z C;have hi:i<l.length:=by omega
  have h:(i:Int)<(l.length:Int):=by omega
  have J:=cX i (by omega);have hv:=cg l;have F:=fH l i hi;have W:=hI i hi;have Q:=gP W;have I:=iT b (iB (l.getD i im0));obtain⟨z,tk',y⟩:=L (i+1) (lW b (iB (l.getD i im0))) 22060 [12060,22060] (by omega) (by omega) (by omega) (.inr ⟨rfl,rfl⟩);have g1:=xhj (l.getD i im0);have O:=xeH b (iB (l.getD i im0)) (by omega) (by omega);refine⟨z,tk', ?_⟩;rw[wB l i hi,pW,aj];generalize iB (l.getD i im0)=E at*;generalize lW b E=b' at*;generalize l.getD i im0=x at*;obtain⟨ro,na,ve,p⟩:=x;simp only[Img.sv]at*
  rcases C with⟨rfl,rfl⟩|⟨rfl,rfl⟩<;>
   simp only[go_sem,Q0,Q1,Q2,Q3,Q4,Q5,Q6,Q7,Q8,Q9,Qa,Qb,Qc,Qd,Qe,Qf,Qg,Qh,Qi,Qj,Qk,reduceCtorEq,reduceIte,hi,h,J,hv,F,g1,xiM,O,ZL,y]
theorem f83(l:List Img):call T 83 [.lst 4 (cZ l) .no] [] 0=some ⟨.byt (bK l) .no,[],[]⟩:=by
 have g0:=f78 l;have hv:=cg l;unfold bK
 by_cases h:chE l=0
 ·obtain⟨E,z,C⟩:=mJ h
  rw[h]at g0;have g1:=Y7 [] 1 l.length (by omega) (by omega) (by simp);simp only[dw,aR]at g1;obtain⟨F,tk',y⟩:=l83 l z C _ 0 (be 1 (aS.wrap l.length)) 12060 [12060] rfl (bC _) (by rw[eO];omega) (.inl ⟨rfl,rfl⟩);rw[bj,aA]at y;rw[if_pos h,am xlh];simp only[go_sem,Q0,Q1,Q2,Q3,Q4,Q5,Q6,Q7,Q8,Q9,Qa,Qb,Qc,Qd,Qe,Qf,Qg,Qh,Qi,Qj,Qk,reduceCtorEq,reduceIte,g0,N6,hv,g1,Ep,y]
 ·rw[if_neg h,am xlh]
  simp only[go_sem,Q0,Q1,Q2,Q3,Q4,Q5,Q6,Q7,Q8,Q9,Qa,Qb,Qc,Qd,Qe,Qf,Qg,Qh,Qi,Qj,Qk,reduceCtorEq,reduceIte,g0,N6,h]
theorem l89(l:List Img)(hl:l.length<=8)(Z:∀j,j<l.length->eW (l.getD j im0)=0):∀(n i:Nat)(b:d9)(t:Nat)(tk:t7),l.length-i=n->i<=l.length->b.length+100*n<=100000->((t=11060/\tk=[11060])\/(t=24060/\tk=[11060,24060]))->
 ∃y tk',run T (.loop Ov) ⟨[(0,.lst 4 (cZ l) .no),(3,.byt b (.id t)),(4,.int .i64 i)],[],tk⟩=some (.x 0,⟨[(3,.byt (pW b (l.drop i)) y)],[],tk'⟩):=by
 intro n;induction n with
 |zero=>
  intro i b t tk F h1 W z;have:i=l.length:=by omega
  subst this;have hv:=cg l;refine⟨.id t,tk, ?_⟩;rw[aj,bB];simp only[go_sem,Q0,Q1,Q2,Q3,Q4,Q5,Q6,Q7,Q8,Q9,Qa,Qb,Qc,Qd,Qe,Qf,Qg,Qh,Qi,Qj,Qk,reduceCtorEq,reduceIte,pW,hv]
 |succ n J=>
  intro i b t tk F h1 W z;have hi:i<l.length:=by omega
  have I:=cX i (by omega);have hv:=cg l;have C:=fH l i hi;have Q:=Z i hi;have O:=gP Q;have H:=iT b (iB (l.getD i im0));obtain⟨y,tk',h⟩:=J (i+1) (lW b (iB (l.getD i im0))) 24060 [11060,24060] (by omega) (by omega) (by omega) (.inr ⟨rfl,rfl⟩);have g1:=xhn (l.getD i im0);have L:=xeI b (iB (l.getD i im0)) (by omega) (by omega);refine⟨y,tk', ?_⟩;rw[wB l i hi,pW,aj];generalize iB (l.getD i im0)=E at*;generalize lW b E=b' at*;generalize l.getD i im0=x at*;obtain⟨ro,na,ve,p⟩:=x;simp only[Img.sv]at*
  rcases z with⟨rfl,rfl⟩|⟨rfl,rfl⟩<;>
   simp only[go_sem,Q0,Q1,Q2,Q3,Q4,Q5,Q6,Q7,Q8,Q9,Qa,Qb,Qc,Qd,Qe,Qf,Qg,Qh,Qi,Qj,Qk,reduceCtorEq,reduceIte,hi,I,hv,C,g1,xiR,L,ZP,h]
theorem f89(l:List Img):call T 89 [.lst 4 (cZ l) .no] [] 0=some ⟨.byt (bK l) .no,[],[]⟩:=by
 have g0:=xla l;have hv:=cg l;unfold bK
 by_cases h:chE l=0
 ·obtain⟨E,z,C⟩:=mJ h
  rw[h]at g0;have g1:=f74 [] 1 l.length (by omega) (by omega) (by simp);simp only[dw,aR]at g1;obtain⟨F,tk',y⟩:=l89 l z C _ 0 (be 1 (aS.wrap l.length)) 11060 [11060] rfl (bC _) (by rw[eO];omega) (.inl ⟨rfl,rfl⟩);rw[bj,aA]at y;rw[if_pos h,am xlg];simp only[go_sem,Q0,Q1,Q2,Q3,Q4,Q5,Q6,Q7,Q8,Q9,Qa,Qb,Qc,Qd,Qe,Qf,Qg,Qh,Qi,Qj,Qk,reduceCtorEq,reduceIte,g0,Eo,hv,g1,S2,y]
 ·rw[if_neg h,am xlg]
  simp only[go_sem,Q0,Q1,Q2,Q3,Q4,Q5,Q6,Q7,Q8,Q9,Qa,Qb,Qc,Qd,Qe,Qf,Qg,Qh,Qi,Qj,Qk,reduceCtorEq,reduceIte,g0,Eo,h]
theorem wA:∀(l:List Img)(b:d9),(∀x∈l,eW x=0)->(pW b l).length<=b.length+87*l.length
 |[],b,_=>by simp[pW]
 |x::r,b,h=>by have z:=wA r (lW b (iB x)) (fun y C=>h y (af _ C));have E:=gP (h x aq);rw[iT]at z;rw[pW,ah];omega
theorem im(l:List Img):(bK l).length<=1000:=by
 unfold bK;split
 ·rename_i h
  obtain⟨E,C,z⟩:=mJ h
  have:=wA l (be 1 (aS.wrap l.length)) (fun x y=>by obtain⟨i,hi,rfl⟩:=bH y;have:=z i hi;rwa[aa,ab hi]at this)
  rw[eO]at this;omega
 ·simp
end Go.Proofs.YtmhhnklkcmpdkaaGreatDoor
