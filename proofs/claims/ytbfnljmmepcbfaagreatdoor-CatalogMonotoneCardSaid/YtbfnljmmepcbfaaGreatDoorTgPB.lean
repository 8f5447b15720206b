/- Contracts. No condition. -/
import Derived.Test.YtbfnljmmepcbfaaGreatDoorTfPB
open Bool renaming and_eq_true -> aC, false_eq_true -> aO, false_or -> jC, not_eq_true' -> cT
open Int renaming natCast_zero -> ay
open Go.IntKind renaming i64 -> af, u64 -> aQ
open List renaming Pairwise -> fP, append_assoc -> az, append_nil -> bx, drop -> iD, drop_length -> bw, drop_zero -> aW, filter_cons -> fe, foldl_cons -> cR, foldl_nil -> fo, getD_eq_getElem?_getD -> aa, getElem?_eq_getElem -> ac, getElem_of_mem -> bp, length_append -> ae, length_cons -> al, length_drop -> aG, length_map -> aY, length_nil -> aA, length_replicate -> dJ, length_singleton -> aF, length_take -> aq, map_append -> cf, map_cons -> aI, map_drop -> tH, map_nil -> bJ, map_take -> ic, mem_append -> am, mem_cons -> av, mem_cons_of_mem -> aw, mem_cons_self -> aB, mem_singleton -> bj, nil_append -> aE, replicate -> aL, singleton_append -> dI, take -> eT, take_of_length_le -> aV
open Nat renaming le_refl -> aJ, le_trans -> mC, lt_or_ge -> bK, zero_le -> aX
open Option renaming getD_some -> aM, some -> ax
open UInt8 renaming ofInt -> b8
set_option maxRecDepth 100000
set_option maxHeartbeats 16000000
set_option linter.unusedSimpArgs false
set_option linter.unusedVariables false
namespace Go.Proofs.YtbfnljmmepcbfaaGreatDoor
open Go.Sy
open UInt8 renaming reduceLT -> Q0, reduceLE -> Q1
open Int renaming reduceToNat -> Q2, reduceLE -> Q3, reduceLT -> Q4, reduceEq -> Q5, reduceNe -> Q6, reduceNeg -> Q7, reduceAdd -> Q8, reduceSub -> Q9, reduceMul -> Qa
open Nat renaming reducePow -> Qb, reduceDiv -> Qc, reduceMod -> Qd, reduceAdd -> Qe, reduceSub -> Qf, reduceMul -> Qg, reduceLT -> Qh, reduceLeDiff -> Qi, reduceEqDiff -> Qj, reduceBEq -> Qk
def qP(v:d9)(h a:Int)(m:Man):Int:=if m.vendor=v/\m.frm<=h then(if a<m.flr then m.flr else a)else a
def flr(L:List Man)(v:d9)(h:Int):Int:=L.foldl (qP v h) 0
theorem l25(c:Cat)(v:d9)(C:Int)(hn:c.ms.length<=1000000):∀(n i:Nat)(a:Int),c.ms.length-i=n->i<=c.ms.length->
 run T (.loop Vu) ⟨[(1,.str v),(2,.int .i64 C),(7,.int .i64 a),(11,.lst 7 (dn c.ms) .no),(12,.int .i64 c.ms.length),(13,.int .i64 i)],[(103,.rc c.sv)],[]⟩=some (.x 0,⟨[(7,.int .i64 ((c.ms.drop i).foldl (qP v C) a))],[(103,.rc c.sv)],[]⟩):=by
 intro n;have J:=cP c.ms;induction n with
 |zero=>
  intro i a W h1;have hi:i=c.ms.length:=by omega
  rw[hi,bw,fo];obtain⟨⟨au,th⟩,ms,ws⟩:=c;simp only[Cat.sv]at*;rw[ai];simp only[go_sem,Qh,Qj,Qk,reduceIte]
 |succ n ih=>
  intro i a W h1;have E:i<c.ms.length:=by omega
  have L:=cg i (by omega);have O:=eO c.ms i E;rw[eY c.ms mnz i E,cR];have y:=ih (i+1) (qP v C a (c.ms.getD i mnz)) (by omega) (by omega);generalize (c.ms.drop (i+1)).foldl (qP v C) (qP v C a (c.ms.getD i mnz))=Z at*;generalize c.ms.getD i mnz=x at*;obtain⟨Q,m1,m2,m3,m4,me,mr⟩:=x;obtain⟨⟨au,th⟩,ms,ws⟩:=c;unfold qP at y;simp only[Man.sv,Cat.sv]at*
  by_cases I:Q=v
  ·subst I
   by_cases F:m3<=C
   ·rw[if_pos ⟨rfl,F⟩]at y
    rw[ai];simp only[go_sem,Qe,Qh,Qi,Qj,Qk,reduceIte,J,E,O,F,L,y]
   ·rw[if_neg (fun h=>F h.2)]at y
    rw[ai];simp only[go_sem,Qe,Qh,Qi,Qj,Qk,reduceIte,J,E,O,F,L,y]
  ·rw[if_neg (fun h=>I h.1)]at y
   rw[ai];simp only[go_sem,Qe,Qh,Qi,Qj,Qk,reduceIte,J,E,O,I,L,y]
theorem f25(c:Cat)(hn:c.ms.length<=1000000)(v:d9)(h:Int):call T 25 [.agg c.sv,.str v,.int .i64 h] [] 0=some ⟨.int .i64 (flr c.ms v h),[],[]⟩:=by have y:=l25 c v h hn _ 0 0 rfl (aX _);have C:=cP c.ms;unfold flr;rw[ay,aW]at y;obtain⟨⟨au,E⟩,ms,ws⟩:=c;simp only[Cat.sv]at*;rw[aj xzc];simp only[go_sem,Qe,Qh,Qi,Qj,Qk,reduceCtorEq,reduceIte,C,y]
theorem l26(c:Cat)(v:d9)(C:Int)(hn:c.ms.length<=1000000):∀(n i:Nat)(a:Int),c.ms.length-i=n->i<=c.ms.length->
 run T (.loop Vt) ⟨[(1,.str v),(2,.int .i64 C),(3,.ptr 103 0),(7,.int .i64 a),(8,.int .i64 i)],[(103,.rc c.sv)],[]⟩=some (.x 0,⟨[(7,.int .i64 ((c.ms.drop i).foldl (qP v C) a))],[(103,.rc c.sv)],[]⟩):=by
 intro n;have I:=cP c.ms;induction n with
 |zero=>
  intro i a W h1;have hi:i=c.ms.length:=by omega
  rw[hi,bw,fo];obtain⟨⟨au,th⟩,ms,ws⟩:=c;simp only[Cat.sv]at*;rw[ai];simp only[go_sem,Qe,Qh,Qi,Qj,Qk,reduceIte,I]
 |succ n ih=>
  intro i a W h1;have E:i<c.ms.length:=by omega
  have L:=cg i (by omega);have O:=eO c.ms i E;rw[eY c.ms mnz i E,cR];have y:=ih (i+1) (qP v C a (c.ms.getD i mnz)) (by omega) (by omega);generalize (c.ms.drop (i+1)).foldl (qP v C) (qP v C a (c.ms.getD i mnz))=Z at*;generalize c.ms.getD i mnz=x at*;obtain⟨Q,m1,m2,m3,m4,me,mr⟩:=x;obtain⟨⟨au,th⟩,ms,ws⟩:=c;unfold qP at y;simp only[Man.sv,Cat.sv]at*
  by_cases J:Q=v
  ·subst J
   by_cases F:m3<=C
   ·rw[if_pos ⟨rfl,F⟩]at y
    rw[ai];simp only[go_sem,Qe,Qh,Qi,Qj,Qk,reduceIte,I,E,O,F,L,y]
   ·rw[if_neg (fun h=>F h.2)]at y
    rw[ai];simp only[go_sem,Qe,Qh,Qi,Qj,Qk,reduceIte,I,E,O,F,L,y]
  ·rw[if_neg (fun h=>J h.1)]at y
   rw[ai];simp only[go_sem,Qe,Qh,Qi,Qj,Qk,reduceIte,I,E,O,J,L,y]
theorem f26(c:Cat)(hn:c.ms.length<=1000000)(v:d9)(h:Int):call T 26 [.agg c.sv,.str v,.int .i64 h] [] 0=some ⟨.int .i64 (flr c.ms v h),[],[]⟩:=by have y:=l26 c v h hn _ 0 0 rfl (aX _);unfold flr;rw[ay,aW]at y;obtain⟨⟨au,C⟩,ms,ws⟩:=c;simp only[Cat.sv]at*;rw[aj xzb];simp only[go_sem,Qe,Qh,Qi,Qj,Qk,reduceCtorEq,reduceIte,y]
def inF(c:Cat)(h:Int)(m:Man):Bool:=decide (m.frm<=h)&&decide (h<m.til)&&decide (flr c.ms m.vendor h<=m.ver)&& !wdL h (bX m) c.ws
def iM(c:Cat)(h:Int):List Man:=c.ms.filter (inF c h)
theorem uf(l:List Man)(x:Man):dn l++ [x.sv]=dn (l++ [x]):=by rw[dn,dn,cf];rfl
structure mb(c:Cat):Prop where
 m:∀x∈c.ms,dx x
 w:∀x∈c.ws,x.man.length<=32
 nm:c.ms.length<=100000
 nw:c.ws.length<=100000
theorem s28(c:Cat)(hc:mb c)(h:Int)(i:Nat)(y:i<c.ms.length)(O:List Man)(hO:O.length<=100000):
 run T (.loop AK) ⟨[(1,.int .i64 h),(2,.ptr 102 0),(5,.lst 7 (dn O) (.id 105)),(9,.lst 7 (dn c.ms) .no),(10,.int .i64 c.ms.length),(11,.int .i64 i)],[(102,.rc c.sv)],[105]⟩=
  run T (.loop AK) ⟨[(1,.int .i64 h),(2,.ptr 102 0),(5,.lst 7 (dn (if inF c h (c.ms.getD i mnz)then O++ [c.ms.getD i mnz]else O)) (.id 105)),(9,.lst 7 (dn c.ms) .no),(10,.int .i64 c.ms.length),(11,.int .i64 ((i+1:Nat):Int))],[(102,.rc c.sv)],[105]⟩:=by
 have a6:=hc.nm;have E:=cP c.ms;have a2:=cP O;have J:=cg i (by omega);have L:=eO c.ms i y;have Q:=hc.m _ (bS c.ms mnz i y);generalize c.ms.getD i mnz=x at*;have hs:=uf O x;have g1:=f25 c (by omega) x.vendor h;have g2:=f57 c (by have:=hc.nw;omega) x Q h;unfold inF;clear hc Q;generalize flr c.ms x.vendor h=F at*;generalize wdL h (bX x) c.ws=W at*;obtain⟨mv,m1,m2,m3,m4,me,mr⟩:=x;obtain⟨⟨au,th⟩,ms,ws⟩:=c;simp only[Man.sv,Cat.sv]at*;have r1:(O.length+1)*96<=140737488355328:=by omega
 conv=>lhs;rw[ai]
 by_cases C:m3<=h
 ·by_cases Z:h<m4
  ·by_cases I:F<=m1
   ·have a1:m1≥F:=I
    cases W with
    |true=>simp only[go_sem,Qb,Qc,Qd,Qe,Qh,Qi,Qj,Qk,reduceCtorEq,reduceIte,E,y,L,C,Z,g1,tn,I,g2,xvM,J]
    |false=>simp only[go_sem,Qb,Qc,Qd,Qe,Qh,Qi,Qj,Qk,reduceCtorEq,reduceIte,E,y,L,C,Z,g1,tn,I,g2,xvM,J,a2,r1,<-hs]
   ·have a1:¬m1≥F:=I
    simp only[go_sem,Qb,Qc,Qd,Qe,Qh,Qi,Qj,Qk,reduceCtorEq,reduceIte,E,y,L,C,Z,g1,tn,I,J]
  ·simp only[go_sem,Qb,Qc,Qd,Qe,Qh,Qi,Qj,Qk,reduceCtorEq,reduceIte,E,y,L,C,Z,J]
 ·simp only[go_sem,Qb,Qc,Qd,Qe,Qh,Qi,Qj,Qk,reduceCtorEq,reduceIte,E,y,L,C,J]
theorem l28(c:Cat)(E:mb c)(h:Int):∀(n i:Nat)(O:List Man),c.ms.length-i=n->i<=c.ms.length->O.length<=i->
 run T (.loop AK) ⟨[(1,.int .i64 h),(2,.ptr 102 0),(5,.lst 7 (dn O) (.id 105)),(9,.lst 7 (dn c.ms) .no),(10,.int .i64 c.ms.length),(11,.int .i64 i)],[(102,.rc c.sv)],[105]⟩=
  some (.x 0,⟨[(5,.lst 7 (dn (O++(c.ms.drop i).filter (inF c h))) (.id 105))],[(102,.rc c.sv)],[105]⟩):=by
 have J:=E.nm;intro n;induction n with
 |zero=>
  intro i O L Q I;have hi:i=c.ms.length:=by omega
  rw[hi,bw,List.filter_nil,bx];obtain⟨⟨au,W⟩,ms,ws⟩:=c;simp only[Cat.sv]at*;rw[ai];simp only[go_sem,Qh,Qj,Qk,reduceIte]
 |succ n F=>
  intro i O L Q I;have C:i<c.ms.length:=by omega
  rw[s28 c E h i C O (by omega),eY c.ms mnz i C]
  by_cases y:inF c h (c.ms.getD i mnz)=true
  ·rw[if_pos y,F (i+1) _ (by omega) (by omega) (by rw[ae,aF];omega),fe,if_pos y,az];rfl
  ·rw[if_neg y,F (i+1) _ (by omega) (by omega) (by omega),fe,if_neg y]
theorem f28(c:Cat)(F:mb c)(h:Int):call T 28 [.agg c.sv,.int .i64 h] [] 0=some ⟨.lst 7 (dn (iM c h)) .no,[],[]⟩:=by have y:=l28 c F h _ 0 [] rfl (aX _) (aJ _);have E:=cP c.ms;have C:dn []=[]:=rfl;rw[ay,aW,aE,C]at y;have hz:c.ms.filter (inF c h)=iM c h:=rfl;rw[hz]at y;generalize iM c h=Z at*;obtain⟨⟨au,I⟩,ms,ws⟩:=c;simp only[Cat.sv]at*;rw[aj xy9];simp only[go_sem,Qe,Qh,Qi,Qj,Qk,reduceCtorEq,reduceIte,E,y]
theorem l58(c:Cat)(O:mb c)(m:Man)(h:Int)(D:d9):∀(n i:Nat),c.ws.length-i=n->i<=c.ws.length->
 run T (.loop U7) ⟨[(2,.int .i64 h),(3,.ptr 103 0),(7,.byt D .no),(8,.int .i64 i)],[(103,.rc c.sv),(104,.rc m.sv)],[]⟩=
  if(c.ws.drop i).any (wdB h D)then some (.r,⟨[(6,.bool false)],[(103,.rc c.sv),(104,.rc m.sv)],[]⟩)else some (.x 0,⟨[],[(103,.rc c.sv),(104,.rc m.sv)],[]⟩):=by
 have a1:=O.nw;have F:=dY c.ws;intro n;induction n with
 |zero=>
  intro i h0 h1;have hi:i=c.ws.length:=by omega
  rw[hi,bw,List.any_nil,if_neg (by decide)];obtain⟨⟨au,th⟩,ms,ws⟩:=c;obtain⟨mv,m1,m2,m3,m4,me,W⟩:=m;simp only[Cat.sv,Man.sv]at*;rw[ai];simp only[go_sem,Qe,Qh,Qj,Qk,reduceIte,F]
 |succ n ih=>
  intro i h0 h1;have y:i<c.ws.length:=by omega
  have L:=cg i (by omega);have J:=gA c.ws i y;have hx:=O.w _ (bS c.ws wd0 i y);have E:=ih (i+1) (by omega) (by omega);rw[eY c.ws wd0 i y,List.any_cons];generalize (c.ws.drop (i+1)).any (wdB h D)=Z at*;generalize c.ws.getD i wd0=w at*;have Q:=f31 w.man D (by omega);obtain⟨wm,wf⟩:=w;obtain⟨⟨au,th⟩,ms,ws⟩:=c;obtain⟨mv,m1,m2,m3,m4,me,W⟩:=m;unfold wdB;simp only[Cat.sv,Man.sv,Wd.sv]at*;rw[ai]
  by_cases C:wf<=h
  ·by_cases I:wm=D
   ·subst I
    rw[decide_eq_true C,decide_eq_true rfl,Bool.and_true,Bool.true_or,if_pos rfl];simp only[go_sem,Qe,Qh,Qi,Qj,Qk,reduceIte,F,y,J,C,Q,tj]
   ·rw[decide_eq_false I,Bool.and_false,jC]
    simp only[go_sem,Qe,Qh,Qi,Qj,Qk,reduceIte,F,y,J,C,I,Q,tj,L,E]
  ·rw[decide_eq_false C,Bool.false_and,jC]
   simp only[go_sem,Qe,Qh,Qi,Qj,Qk,reduceIte,F,y,J,C,L,E]
theorem f58(c:Cat)(hc:mb c)(m:Man)(hm:dx m)(h:Int):call T 58 [.agg c.sv,.agg m.sv,.int .i64 h] [] 0=some ⟨.bool (inF c h m),[],[]⟩:=by
 have O:=f26 c (by have:=hc.nm;omega) m.vendor h;have g2:=f36 m hm;have J:=l58 c hc m h (bX m) _ 0 rfl (aX _);rw[ay,aW]at J;unfold inF wdL;generalize flr c.ms m.vendor h=F at*;generalize bX m=D at*;generalize c.ws.any (wdB h D)=W at*;obtain⟨mv,Z,m2,m3,m4,me,mr⟩:=m;obtain⟨⟨au,th⟩,ms,ws⟩:=c;simp only[Man.sv,Cat.sv]at*;rw[aj xyQ]
 by_cases I:m3<=h
 ·have y:¬h<m3:=by omega
  by_cases L:h<m4
  ·have C:¬h≥m4:=by omega
   by_cases Q:F<=Z
   ·have E:¬Z<F:=by omega
    cases W with
    |true=>rw[if_pos rfl]at J;simp only[go_sem,Qb,Qc,Qd,Qe,Qh,Qi,Qj,Qk,reduceCtorEq,reduceIte,I,L,Q,y,C,E,O,Gx,g2,zX,J]
    |false=>rw[if_neg (by decide)]at J;simp only[go_sem,Qb,Qc,Qd,Qe,Qh,Qi,Qj,Qk,reduceCtorEq,reduceIte,I,L,Q,y,C,E,O,Gx,g2,zX,J]
   ·have E:Z<F:=by omega
    simp only[go_sem,Qb,Qc,Qd,Qe,Qh,Qi,Qj,Qk,reduceCtorEq,reduceIte,I,L,Q,y,C,E,O,Gx]
  ·have C:h≥m4:=by omega
   simp only[go_sem,Qb,Qc,Qd,Qe,Qh,Qi,Qj,Qk,reduceCtorEq,reduceIte,I,L,y,C]
 ·have y:h<m3:=by omega
  simp only[go_sem,Qb,Qc,Qd,Qe,Qh,Qi,Qj,Qk,reduceCtorEq,reduceIte,I,y]
theorem l29(c:Cat)(F:mb c)(h:Int):∀(n i:Nat)(O:List Man),c.ms.length-i=n->i<=c.ms.length->O.length<=i->
 run T (.loop Vm) ⟨[(1,.int .i64 h),(2,.ptr 102 0),(5,.lst 7 (dn O) (.id 105)),(6,.int .i64 i)],[(102,.rc c.sv)],[105]⟩=
  some (.x 0,⟨[(5,.lst 7 (dn (O++(c.ms.drop i).filter (inF c h))) (.id 105))],[(102,.rc c.sv)],[105]⟩):=by
 have a1:=F.nm;have I:=cP c.ms;intro n;induction n with
 |zero=>
  intro i O h0 h1 h2;have hi:i=c.ms.length:=by omega
  rw[hi,bw,List.filter_nil,bx];obtain⟨⟨au,th⟩,ms,ws⟩:=c;simp only[Cat.sv]at*;rw[ai];simp only[go_sem,Qe,Qh,Qi,Qj,Qk,reduceIte,I]
 |succ n Q=>
  intro i O h0 h1 h2;have C:i<c.ms.length:=by omega
  have e1:=cg i (by omega);have hg:=eO c.ms i C;have E:=F.m _ (bS c.ms mnz i C);have L:=cP O;have r1:(O.length+1)*96<=140737488355328:=by omega
  rw[eY c.ms mnz i C,fe];have W:=f58 c F (c.ms.getD i mnz) E h;have y:=Q (i+1) (O++ [c.ms.getD i mnz]) (by omega) (by omega) (by rw[ae,aF];omega);have J:=Q (i+1) O (by omega) (by omega) (by omega);rw[az]at y;generalize (c.ms.drop (i+1)).filter (inF c h)=Z at*;generalize c.ms.getD i mnz=x at*;have hs:=uf O x;generalize inF c h x=b at*;clear Q F E;obtain⟨mv,m1,m2,m3,m4,me,mr⟩:=x;obtain⟨⟨au,th⟩,ms,ws⟩:=c;simp only[Man.sv,Cat.sv]at*;rw[<-hs]at y;rw[ai];cases b with
  |true=>simp only[go_sem,Qb,Qc,Qd,Qe,Qh,Qi,Qj,Qk,reduceIte,I,C,hg,W,xvL,L,r1,e1,y,if_true,dI]
  |false=>simp only[go_sem,Qb,Qc,Qd,Qe,Qh,Qi,Qj,Qk,reduceIte,I,C,hg,W,xvL,e1,J,aO,if_false]
theorem f29(c:Cat)(E:mb c)(h:Int):call T 29 [.agg c.sv,.int .i64 h] [] 0=some ⟨.lst 7 (dn (iM c h)) .no,[],[]⟩:=by have y:=l29 c E h _ 0 [] rfl (aX _) (aJ _);have C:dn []=[]:=rfl;rw[ay,aW,aE,C]at y;have hz:c.ms.filter (inF c h)=iM c h:=rfl;rw[hz]at y;generalize iM c h=Z at*;obtain⟨⟨au,F⟩,ms,ws⟩:=c;simp only[Cat.sv]at*;rw[aj xy8];simp only[go_sem,Qe,Qh,Qi,Qj,Qk,reduceCtorEq,reduceIte,y]
def fQ(c:Cat×Int):SV:= .tup [.agg c.1.sv,.int .i64 c.2]
theorem f85(c:Cat)(h:c.ms.length+c.ws.length<=1000):call T 85 [.agg c.sv] [] 0=some ⟨.bool (decide (16<=c.ms.length+c.ws.length)),[],[]⟩:=by
 have F:=cP c.ms;have E:=dY c.ws;obtain⟨⟨au,I⟩,ms,ws⟩:=c;simp only[Cat.sv]at*;have C:af.wrap ((ms.length:Int)+(ws.length:Int))=(ms.length:Int)+(ws.length:Int):=w64 (by omega) (by omega);rw[aj xyv]
 by_cases q:16<=ms.length+ws.length
 ·have y:(ms.length:Int)+(ws.length:Int)≥16:=by omega
  simp only[go_sem,Qe,Qh,Qi,Qj,Qk,reduceCtorEq,reduceIte,F,E,C,q,y]
 ·have y:¬(ms.length:Int)+(ws.length:Int)≥16:=by omega
  simp only[go_sem,Qe,Qh,Qi,Qj,Qk,reduceCtorEq,reduceIte,F,E,C,q,y]
theorem f87(L:List Man)(hn:L.length<=100000):call T 87 [.lst 7 (dn L) .no] [] 0=some (if L=[]then⟨.lst 7 [] .clip,[],[]⟩else⟨.psl 100 7 0 L.length none,[(100,.arr 7 (dn L))],[]⟩):=by
 rw[fj xyu];cases L with
 |nil=>rfl
 |cons x L=>rw[if_neg (by simp)];show(if(dn L).length<=999999 then some (⟨.psl 100 7 0 ((dn L).length+1) none,[(100,.arr 7 (x.sv::dn L))],[]⟩:dV)else none)=_;rw[cP,if_pos (by rw[al]at hn;omega)];rfl
theorem xxt(m:Man):call T 86 [.lst 7 [] .clip,.int .i64 0,.lst 7 [m.sv] .no] [] 0=some ⟨.psl 100 7 0 1 none,[(100,.arr 7 (dn [m]))],[]⟩:=by rw[fj xvt];rfl
theorem f86(L:List Man)(k:Nat)(m:Man)(h:k<=L.length)(hn:L.length<=100000):
 call T 86 [.psl 0 7 0 L.length none,.int .i64 k,.lst 7 [m.sv] .no] [.arr 7 (dn L)] 0=some ⟨.psl 100 7 0 (L.length+1) none,[(100,.arr 7 (dn (L.take k++m::L.drop k)))],[]⟩:=by
 rw[fj xvt];show(if(dn L).length=L.length/\(0:Int)<=(k:Int)/\(k:Int)<=((L.length:Nat):Int)/\L.length<=1000000 then some (⟨.psl 100 7 0 (L.length+1) none,[(100,.arr 7 (kM (dn L) (k:Int).toNat m.sv))],[]⟩:dV)else none)=_;rw[if_pos ⟨cP L,by omega,by omega,by omega⟩,Int.toNat_natCast,Kn]
theorem f91(L:List Wd)(hn:L.length<=100000):call T 91 [.lst 2 (fp L) .no] [] 0=some (if L=[]then⟨.lst 2 [] .clip,[],[]⟩else⟨.psl 100 2 0 L.length none,[(100,.arr 2 (fp L))],[]⟩):=by
 rw[fj xyr];cases L with
 |nil=>rfl
 |cons x L=>rw[if_neg (by simp)];show(if(fp L).length<=999999 then some (⟨.psl 100 2 0 ((fp L).length+1) none,[(100,.arr 2 (x.sv::fp L))],[]⟩:dV)else none)=_;rw[dY,if_pos (by rw[al]at hn;omega)];rfl
theorem xxs(m:Wd):call T 90 [.lst 2 [] .clip,.int .i64 0,.lst 2 [m.sv] .no] [] 0=some ⟨.psl 100 2 0 1 none,[(100,.arr 2 (fp [m]))],[]⟩:=by rw[fj xvs];rfl
theorem f90(L:List Wd)(k:Nat)(m:Wd)(h:k<=L.length)(hn:L.length<=100000):
 call T 90 [.psl 0 2 0 L.length none,.int .i64 k,.lst 2 [m.sv] .no] [.arr 2 (fp L)] 0=some ⟨.psl 100 2 0 (L.length+1) none,[(100,.arr 2 (fp (L.take k++m::L.drop k)))],[]⟩:=by
 rw[fj xvs];show(if(fp L).length=L.length/\(0:Int)<=(k:Int)/\(k:Int)<=((L.length:Nat):Int)/\L.length<=1000000 then some (⟨.psl 100 2 0 (L.length+1) none,[(100,.arr 2 (kM (fp L) (k:Int).toNat m.sv))],[]⟩:dV)else none)=_;rw[if_pos ⟨dY L,by omega,by omega,by omega⟩,Int.toNat_natCast,Ji]
theorem qF{α:Type}(k:Nat)(x:α):([]:List α).take k++x::([]:List α).drop k=[x]:=by simp
theorem ze{c:Cat}(h:im c)(w:Wd):zf c.ws w=true↔w∈c.ws:=by unfold zf;rw[decide_eq_true_iff];exact(ZC h.sw w).symm
theorem f50(c:Cat)(h:im c)(w:Wd):call T 50 [.agg c.sv,.agg w.sv] [] 0=some ⟨fQ (oZ c w),[],[]⟩:=by
 have hn:=h.n;have C:=f88 c.ws w h.sw (by omega);have I:=f85 c (by omega);have L:=f91 c.ws (by omega);have g4:=f90 c.ws (lbW c.ws w) w (nq _ _) (by omega);have g5:=xxs w;have hz:=nq c.ws w;have hi:=ze h w;unfold oZ
 by_cases y:w∈c.ws
 ·rw[if_pos y]
  rw[hi.2 y]at C;generalize lbW c.ws w=K at*;clear h hi y;obtain⟨F,wf⟩:=w;obtain⟨⟨au,th⟩,ms,ws⟩:=c;simp only[Cat.sv,Wd.sv,fQ]at*;rw[aj xih];simp only[go_sem,Qe,Qh,Qi,Qj,Qk,reduceCtorEq,reduceIte,C,xiq]
 ·rw[if_neg y]
  have hf:zf c.ws w=false:=by
   cases hh:zf c.ws w with
   |true=>exact absurd (hi.1 hh) y
   |false=>rfl
  rw[hf]at C
  by_cases J:16<=c.ms.length+c.ws.length
  ·rw[if_pos J]
   rw[decide_eq_true J]at I;generalize lbW c.ws w=K at*;clear h hi y;obtain⟨F,wf⟩:=w;obtain⟨⟨au,th⟩,ms,ws⟩:=c;simp only[Cat.sv,Wd.sv,fQ,pG,mM,dn,fp,bJ]at*;rw[aj xih];simp only[go_sem,Qe,Qh,Qi,Qj,Qk,reduceCtorEq,reduceIte,C,xiq,I,Uw]
  ·rw[if_neg J]
   rw[decide_eq_false J]at I;unfold um
   by_cases E:c.ws=[]
   ·rw[E,aA]at hz
    obtain hk:lbW c.ws w=0:=by rw[E];omega
    rw[if_pos E]at L;rw[hk]at C g4 ⊢;rw[E,qF];clear h hi y;obtain⟨F,wf⟩:=w;obtain⟨⟨au,th⟩,ms,ws⟩:=c;simp only at E;subst E;simp only[Cat.sv,Wd.sv,fQ]at*;have W:(fp [⟨F,wf⟩]).length=1:=rfl;generalize fp [⟨F,wf⟩]=Z at*;have O:1<=Z.length:=by omega
    have Q:Z.take 1=Z:=aV (by omega);rw[aj xih];simp only[go_sem,Qb,Qc,Qd,Qe,Qg,Qh,Qi,Qj,Qk,reduceCtorEq,reduceIte,C,xiq,I,Uw,L,xvG,g5,xvH,O,Q]
   ·rw[if_neg E]at L
    generalize lbW c.ws w=K at*;clear h hi y;obtain⟨F,wf⟩:=w;obtain⟨⟨au,th⟩,ms,ws⟩:=c;simp only[Cat.sv,Wd.sv,fQ]at*
    have W:(fp (ws.take K++⟨F,wf⟩::ws.drop K)).length=ws.length+1:=by rw[dY,ae,al,aq,aG];omega
    generalize fp (ws.take K++⟨F,wf⟩::ws.drop K)=Z at*;have O:ws.length+1<=Z.length:=by omega
    have Q:Z.take (ws.length+1)=Z:=aV (by omega);rw[aj xih];simp only[go_sem,Qb,Qc,Qd,Qe,Qg,Qh,Qi,Qj,Qk,reduceCtorEq,reduceIte,C,xiq,I,Uw,L,xvG,g4,xvH,O,Q]
def zQ:aH:= .rc [.lst 2 [] .clip,.int .i64 0,.lst 7 [] .clip,.lst 2 [] .clip]
theorem l48(c:Cat)(h:im c)(m:Man)(hm:dx m)(he:fq m=0):∀(n i:Nat),ubM c.ms (bX m)-i=n->lbM c.ms (bX m)<=i->i<=ubM c.ms (bX m)->(∀k,lbM c.ms (bX m)<=k->k<i->c.ms.getD k mnz≠m)->
 run T (.loop Vd) ⟨[(2,.ptr 102 0),(3,.ptr 103 0),(4,.ptr 104 0),(6,.byt (bX m) .no),(7,.byt (eP m) .no),(8,.int .i64 i)],[(102,.rc c.sv),(103,.rc m.sv),(104,zQ)],[]⟩=
  @ite _ (m∈c.ms) (Classical.propDecidable _) (some (.r,⟨[(4,.ptr 104 0),(5,.int .i64 0)],[(102,.rc c.sv),(103,.rc m.sv),(104,.rc c.sv)],[]⟩))
   (some (.x 0,⟨[(2,.ptr 102 0),(3,.ptr 103 0),(4,.ptr 104 0),(8,.int .i64 (ubM c.ms (bX m)))],[(102,.rc c.sv),(103,.rc m.sv),(104,zQ)],[]⟩)):=by
 intro n;have hv:=cP c.ms;have a6:=kO c.ms (bX m);have hn:=h.n;have Z:=h.sm;induction n with
 |zero=>
  intro i h0 h1 h2 C;have hi:i=ubM c.ms (bX m):=by omega
  have Q:m∉c.ms:=fun h=>by obtain⟨k,k1,k2,k3⟩:=(FM Z m).1 h;exact C k k1 (by omega) k3
  rw[if_neg Q,<-hi]
  by_cases L:i<c.ms.length
  ·have hg:=eO c.ms i L
   have y:=FL Z (bX m) i L h1;have I:=(h.m _ (bS c.ms mnz i L)).1;generalize c.ms.getD i mnz=x at*;have g0:=f32 x I;have W:=f84 (bX x) (bX m);have O:¬bX x=bX m:=fun e=>by have:=y.1 e;omega
   generalize bX m=D at*;generalize bX x=X at*;clear h Z y I Q C;generalize eP m=E at*;obtain⟨xv,x1,x2,x3,x4,xe,xr⟩:=x;obtain⟨⟨au,th⟩,ms,ws⟩:=c;obtain⟨mv,m1,m2,m3,m4,me,mr⟩:=m;simp only[Man.sv,Cat.sv,zQ]at*;rw[ai];simp only[go_sem,Qe,Qh,Qi,Qj,Qk,reduceIte,hv,L,hg,g0,zY,W,xir,O]
  ·clear h Z Q C
   generalize bX m=D at*;generalize eP m=E at*;obtain⟨⟨au,th⟩,ms,ws⟩:=c;obtain⟨mv,m1,m2,m3,m4,me,mr⟩:=m;simp only[Man.sv,Cat.sv,zQ]at*;rw[ai];simp only[go_sem,Qe,Qh,Qi,Qj,Qk,reduceIte,hv,L]
 |succ n ih=>
  intro i h0 h1 h2 C;have L:i<c.ms.length:=by omega
  have e1:=cg i (by omega);have hg:=eO c.ms i L;have y:=FL Z (bX m) i L h1;have J:=bS c.ms mnz i L;obtain⟨I,a2⟩:=h.m _ J;have O:bX (c.ms.getD i mnz)=bX m:=y.2 (by omega)
  by_cases hx:c.ms.getD i mnz=m
  ·rw[hx]at J hg
   rw[if_pos J];have g0:=f32 m hm;have W:=f84 (bX m) (bX m);have g2:=f59 m hm;have g3:=f84 (eP m) (eP m);rw[decide_eq_true rfl]at W g3;clear h Z y I C ih J hx O;generalize bX m=D at*;generalize eP m=E at*;obtain⟨⟨au,th⟩,ms,ws⟩:=c;obtain⟨mv,m1,m2,m3,m4,me,mr⟩:=m;simp only[Man.sv,Cat.sv,zQ]at*;rw[ai];simp only[go_sem,Qe,Qh,Qi,Qj,Qk,reduceIte,hv,L,hg,g0,zY,W,xir,g2,Gw,g3]
  ·have a1:=ih (i+1) (by omega) (by omega) (by omega) (fun k k1 k2=>by
    rcases bK k i with h|h
    ·exact C k k1 h
    ·rw[show k=i by omega];exact hx)
   rw[<-a1];have hE:¬eP (c.ms.getD i mnz)=eP m:=fun e=>hx (xam a2 he e)
   generalize c.ms.getD i mnz=x at*;have g0:=f32 x I;have W:=f84 (bX x) (bX m);have g2:=f59 x I;have g3:=f84 (eP x) (eP m);rw[decide_eq_true O]at W;rw[decide_eq_false hE]at g3;clear h Z y I C ih a1 J O;generalize bX x=X at*;generalize eP x=F at*;generalize bX m=D at*;generalize eP m=E at*;obtain⟨xv,x1,x2,x3,x4,xe,xr⟩:=x;obtain⟨⟨au,th⟩,ms,ws⟩:=c;obtain⟨mv,m1,m2,m3,m4,me,mr⟩:=m;simp only[Man.sv,Cat.sv,zQ]at*
   conv=>lhs;rw[ai]
   simp only[go_sem,Qe,Qh,Qi,Qj,Qk,reduceIte,hv,L,hg,g0,zY,W,xir,g2,Gw,g3,e1]
theorem f48(c:Cat)(h:im c)(m:Man)(hm:dx m)(he:fq m=0):call T 48 [.agg c.sv,.agg m.sv] [] 0=some ⟨fQ (ow c m),[],[]⟩:=by
 have hn:=h.n;have g0:=f32 m hm;have y:=f59 m hm;obtain⟨b,g1⟩:=f81 c.ms (fun x hx=>(h.m x hx).1) (bX m) h.sm (by omega);have g2:=f85 c (by omega);have g3:=f87 c.ms (by omega);have g4:=f86 c.ms (ubM c.ms (bX m)) m (kO _ _) (by omega);have g5:=xxt m;have hz:=kO c.ms (bX m);have Q:=l48 c h m hm he _ _ rfl (aJ _) (xrg h.sm (bX m)) (fun k k1 k2=>by omega);unfold ow
 by_cases C:m∈c.ms
 ·rw[if_pos C]
  rw[if_pos C]at Q;clear h C g3 g4 g5;generalize ubM c.ms (bX m)=K at*;generalize lbM c.ms (bX m)=J at*;generalize bX m=D at*;generalize eP m=E at*;obtain⟨L,W,m2,m3,m4,I,F⟩:=m;obtain⟨⟨au,th⟩,ms,ws⟩:=c;simp only[Cat.sv,Man.sv,fQ,zQ]at*;rw[aj xii];simp only[go_sem,Qb,Qc,Qd,Qe,Qh,Qi,Qj,Qk,reduceCtorEq,reduceIte,g0,zY,y,Gw,g1,xit,Q]
 ·rw[if_neg C]
  rw[if_neg C]at Q
  by_cases q2:16<=c.ms.length+c.ws.length
  ·rw[if_pos q2]
   rw[decide_eq_true q2]at g2;clear h C g3 g4 g5;generalize ubM c.ms (bX m)=K at*;generalize lbM c.ms (bX m)=J at*;generalize bX m=D at*;generalize eP m=E at*;obtain⟨L,W,m2,m3,m4,I,F⟩:=m;obtain⟨⟨au,th⟩,ms,ws⟩:=c;simp only[Cat.sv,Man.sv,fQ,zQ,pG]at*;rw[aj xii];simp only[go_sem,Qb,Qc,Qd,Qe,Qh,Qi,Qj,Qk,reduceCtorEq,reduceIte,g0,zY,y,Gw,g1,xit,Q,g2,Uw];rfl
  ·rw[if_neg q2]
   rw[decide_eq_false q2]at g2;unfold oj
   by_cases O:c.ms=[]
   ·rw[O,aA]at hz
    have hk:ubM c.ms (bX m)=0:=by rw[O];omega
    rw[if_pos O]at g3;rw[hk]at Q;rw[hk,O,qF];clear h C g4;generalize lbM c.ms (bX m)=J at*;generalize bX m=D at*;generalize eP m=E at*;obtain⟨L,W,m2,m3,m4,I,F⟩:=m;obtain⟨⟨au,th⟩,ms,ws⟩:=c;simp only at O;subst O;simp only[Cat.sv,Man.sv,fQ,zQ,ay]at*;have a1:(dn [⟨L,W,m2,m3,m4,I,F⟩]).length=1:=rfl;generalize dn [⟨L,W,m2,m3,m4,I,F⟩]=Z at*;have z1:1<=Z.length:=by omega
    have z2:Z.take 1=Z:=aV (by omega);rw[aj xii];simp only[go_sem,Qb,Qc,Qd,Qe,Qg,Qh,Qi,Qj,Qk,reduceCtorEq,reduceIte,g0,zY,y,Gw,g1,xit,Q,g2,Uw,g3,xvI,g5,xvJ,z1,z2]
   ·rw[if_neg O]at g3
    generalize ubM c.ms (bX m)=K at*;generalize lbM c.ms (bX m)=J at*;generalize bX m=D at*;generalize eP m=E at*;clear h C g5;obtain⟨L,W,m2,m3,m4,I,F⟩:=m;obtain⟨⟨au,th⟩,ms,ws⟩:=c;simp only[Cat.sv,Man.sv,fQ,zQ]at*
    have a1:(dn (ms.take K++⟨L,W,m2,m3,m4,I,F⟩::ms.drop K)).length=ms.length+1:=by rw[cP,ae,al,aq,aG];omega
    generalize dn (ms.take K++⟨L,W,m2,m3,m4,I,F⟩::ms.drop K)=Z at*;have z1:ms.length+1<=Z.length:=by omega
    have z2:Z.take (ms.length+1)=Z:=aV (by omega);rw[aj xii];simp only[go_sem,Qb,Qc,Qd,Qe,Qg,Qh,Qi,Qj,Qk,reduceCtorEq,reduceIte,g0,zY,y,Gw,g1,xit,Q,g2,Uw,g3,xvI,g4,xvJ,z1,z2]
noncomputable def li(c:Cat)(B:d9)(ms:List Mk):Cat×Int:=
 if mQ c.t B ms=0 then(match jT B,lJ B with
  |some m,_=>ow c m
  |none,some w=>oZ c w
  |none,none=>(pG,30))
 else(pG,mQ c.t B ms)
theorem qV{B:d9}{m:Man}(h:jT B=some m):dx m/\fq m=0:=by
 unfold jT at h;split at h
 ·rename_i y
  cases h;exact⟨vR B,y.2.2⟩
 ·cases h
theorem xay{B:d9}{w:Wd}(h:lJ B=some w):wdP B/\w=⟨(wM B).1,(wF B).1⟩:=by
 unfold lJ at h;split at h
 ·rename_i y
  exact⟨y,(ax.inj h).symm⟩
 ·cases h
theorem xoU(B:d9)(n:Nat)(s:Rs):0<=(uR B n s).1:=by
 unfold uR;split
 ·split
  ·show(0:Int)<=((nB _:Nat):Int);omega
  ·show(0:Int)<=0;omega
 ·show(0:Int)<=0;omega
theorem uH{B:d9}{w:Wd}(h:lJ B=some w):nV w:=by
 obtain⟨⟨I, -,F⟩,rfl⟩:=xay h;have C:=VG I
 have y:(wM B).2.e=0:=by
  by_cases q:(wM B).2.e=0
  ·exact q
  ·unfold wF at C
   rw[m9 q]at C;exact C
 have J:(wT B).2.e=0:=by
  by_cases q:(wT B).2.e=0
  ·exact q
  ·unfold wM at y
   rw[Lp q]at y;exact y
 refine⟨?_, ?_,F⟩
 ·unfold wM wR at y ⊢
  rw[if_pos J]at y ⊢;split at y
  ·rename_i E
   rw[if_pos E];show(eT _ _).length=32;rw[aq,aG];omega
  ·have L:(2:Int)=0:=y
   omega
 ·exact xoU B 6 (wM B).2
theorem DL{t:Tr}{B:d9}{ms:List Mk}(h:mQ t B ms=0)(y:jT B=none):∃w,lJ B=some w:=by
 unfold mQ at h;cases hw:lJ B with
 |some w=>exact⟨w,rfl⟩
 |none=>
  exfalso
  by_cases hE:trE t=0
  ·rw[if_pos hE]at h
   split at h
   ·cases h
   ·rw[if_pos ⟨y,hw⟩]at h;cases h
  ·rw[if_neg hE]at h;exact hE h
theorem xok:U.fn 19=some (.code F19):=IW.fn 19 _ xzg
theorem f19(c:Cat)(h:im c)(B:d9)(ms:List Mk)(hB:B.length<=100000000):call U 19 [.agg c.sv,.agg (cU B ms)] [] 0=some ⟨fQ (li c B ms),[],[]⟩:=by
 have E:=f46 c.t B ms hB;have y:=up (f47 B (by omega));have I:=up (f49 B (by omega));unfold li
 by_cases C:mQ c.t B ms=0
 ·rw[if_pos C]
  rw[C]at E;cases hp:jT B with
  |some m=>obtain⟨W,he⟩:=qV hp;have F:=up (f48 c h m W he);unfold zL zM at y;rw[hp]at y;simp only at y ⊢;generalize ow c m=Q at*;clear h C I;obtain⟨mv,m1,m2,m3,m4,me,mr⟩:=m;obtain⟨⟨au,O⟩,L,J⟩:=c;obtain⟨⟨⟨Z,qt⟩,qm,qw⟩,T⟩:=Q;simp only[Cat.sv,Man.sv,Tr.sv,fQ,cU]at*;rw[aj xok];simp only[go_sem,Qe,Qh,Qi,Qj,Qk,reduceCtorEq,reduceIte,US,E,xos,y,Jf,F,xzp]
  |none=>obtain⟨w,hw⟩:=DL C hp;have F:=up (f50 c h w);rw[hw]at I ⊢;unfold zL zM at y;rw[hp]at y;simp only[mnz,Man.sv,df,dS,bJ]at y ⊢;generalize oZ c w=Q at*;clear h C;obtain⟨wm,wf⟩:=w;obtain⟨⟨au,O⟩,L,J⟩:=c;obtain⟨⟨⟨Z,qt⟩,qm,qw⟩,T⟩:=Q;simp only[Cat.sv,Wd.sv,wdO,Tr.sv,fQ,cU]at*;rw[aj xok];simp only[go_sem,Q5,Qe,Qh,Qi,Qj,Qk,reduceCtorEq,reduceIte,US,E,xos,y,Jf,I,xiz,F,xzo]
 ·rw[if_neg C]
  generalize mQ c.t B ms=e at*;clear h;obtain⟨⟨au,O⟩,L,J⟩:=c;simp only[Cat.sv,Tr.sv,fQ,cU,pG]at*;rw[aj xok];simp only[go_sem,Qe,Qh,Qi,Qj,Qk,reduceCtorEq,reduceIte,US,E,xos,C];rfl
def o4(t:Tr):Cat×Int:=if trE t=0 then(⟨t,[],[]⟩,0)else(pG,trE t)
theorem f11(t:Tr):call T 11 [.agg t.sv] [] 0=some ⟨fQ (o4 t),[],[]⟩:=by
 have g:=f39 t;unfold o4
 by_cases hE:trE t=0
 ·rw[if_pos hE]
  rw[hE]at g;obtain⟨au,h⟩:=t;simp only[Cat.sv,Tr.sv,fQ]at*;rw[aj xvF];simp only[go_sem,Qe,Qh,Qi,Qj,Qk,reduceCtorEq,reduceIte,g,Bt];rfl
 ·rw[if_neg hE]
  generalize trE t=e at*;obtain⟨au,h⟩:=t;simp only[Cat.sv,Tr.sv,fQ,pG]at*;rw[aj xvF];simp only[go_sem,Qe,Qh,Qi,Qj,Qk,reduceCtorEq,reduceIte,g,Bt,hE];rfl
theorem f12(t:Tr):call T 12 [.agg t.sv] [] 0=some ⟨fQ (o4 t),[],[]⟩:=by
 have g:=f40 t;unfold o4
 by_cases hE:trE t=0
 ·rw[if_pos hE]
  rw[hE]at g;obtain⟨au,h⟩:=t;simp only[Cat.sv,Tr.sv,fQ]at*;rw[aj xvE];simp only[go_sem,Qe,Qh,Qi,Qj,Qk,reduceCtorEq,reduceIte,g,wQ];rfl
 ·rw[if_neg hE]
  generalize trE t=e at*;obtain⟨au,h⟩:=t;simp only[Cat.sv,Tr.sv,fQ,pG]at*;rw[aj xvE];simp only[go_sem,Qe,Qh,Qi,Qj,Qk,reduceCtorEq,reduceIte,g,wQ,hE];rfl
theorem Hs(l:List Man)(n:Nat):(dn l).take n=dn (l.take n):=by simp[dn,ic]
theorem Ht(l:List Man)(n:Nat):(dn l).drop n=dn (l.drop n):=by simp[dn,tH]
theorem GC(l:List Wd)(n:Nat):(fp l).take n=fp (l.take n):=by simp[fp,ic]
theorem GD(l:List Wd)(n:Nat):(fp l).drop n=fp (l.drop n):=by simp[fp,tH]
theorem f20(c:Cat)(h:im c)(B:d9)(ms:List Mk)(hB:B.length<=100000000):call T 20 [.agg c.sv,.agg (cU B ms)] [] 0=some ⟨fQ (li c B ms),[],[]⟩:=by
 have W:=f51 c.t B ms hB;have J:=f52 B (by omega);have Z:=f54 B (by omega);have hn:=h.n;have E:=cP c.ms;have F:=dY c.ws;unfold li
 by_cases L:mQ c.t B ms=0
 ·rw[if_pos L]
  rw[L]at W;have e0:af.wrap ((c.ms.length:Int)+(c.ws.length:Int))=(c.ms.length:Int)+(c.ws.length:Int):=w64 (by omega) (by omega);cases hp:jT B with
  |some m=>
   obtain⟨hm,he⟩:=qV hp;have I:=f53 c.ms m (fun x hx=>(h.m x hx).1) hm h.sm (by omega);unfold zL zM at J;rw[hp]at J;simp only at J ⊢;unfold ow;rcases I with⟨C,I⟩|⟨C,k,I⟩
   ·rw[if_neg C]
    by_cases q2:16<=c.ms.length+c.ws.length
    ·rw[if_pos q2]
     have y:(c.ms.length:Int)+(c.ws.length:Int)≥16:=by omega
     clear h L Z C;generalize ubM c.ms (bX m)=K at*;obtain⟨mv,m1,m2,m3,m4,me,mr⟩:=m;obtain⟨⟨au,th⟩,O,Q⟩:=c;simp only[Cat.sv,Man.sv,Tr.sv,fQ,cU,pG]at*;rw[aj I7];simp only[go_sem,Qe,Qh,Qi,Qj,Qk,reduceCtorEq,reduceIte,W,Je,E,F,e0,y,J,tg,I,xoq];rfl
    ·rw[if_neg q2]
     have y:¬(c.ms.length:Int)+(c.ws.length:Int)≥16:=by omega
     have hK:=kO c.ms (bX m);unfold oj;clear h L Z C;generalize ubM c.ms (bX m)=K at*;have r1:dn (c.ms.take K++m::c.ms.drop K)=dn (c.ms.take K)++ [m.sv]++dn (c.ms.drop K):=by simp[dn]
     have t1:=cP (c.ms.take K);have t2:=cP (c.ms.drop K);have t3:(c.ms.take K).length=K:=by rw[aq];omega
     have t4:(c.ms.drop K).length=c.ms.length-K:=aG;have s1:K*96<=140737488355328:=by omega
     have s2:(K+1)*96<=140737488355328:=by omega
     have s3:(K+1+(c.ms.length-K))*96<=140737488355328:=by omega
     have t5:=Hs c.ms K;have t6:=Ht c.ms K;have t7:(dn c.ms).take c.ms.length=dn c.ms:=aV (by omega);simp only[fQ,Cat.sv];rw[r1];obtain⟨mv,m1,m2,m3,m4,me,mr⟩:=m;obtain⟨⟨au,th⟩,O,Q⟩:=c;simp only[Man.sv,Tr.sv,cU]at*;rw[aj I7];simp only[go_sem,Q2,Q3,Qb,Qc,Qd,Qe,Qh,Qi,Qj,Qk,reduceCtorEq,reduceIte,W,Je,E,F,e0,y,J,tg,I,xoq,hK,t5,t6,t1,t2,t3,t4,t7,s1,s2,s3]
   ·rw[if_pos C]
    clear h L Z C;obtain⟨mv,m1,m2,m3,m4,me,mr⟩:=m;obtain⟨⟨au,th⟩,O,Q⟩:=c;simp only[Cat.sv,Man.sv,Tr.sv,fQ,cU]at*;rw[aj I7]
    by_cases y:(O.length:Int)+(Q.length:Int)≥16<;>
     simp only[go_sem,Qe,Qh,Qi,Qj,Qk,reduceCtorEq,reduceIte,W,Je,E,F,e0,y,J,tg,I,xoq]
  |none=>
   obtain⟨w,hw⟩:=DL L hp;have a1:=uH hw;have I:=f55 c.ws w h.sw (Nat.le_of_eq a1.1) (fun x hx=>Nat.le_of_eq (h.w x hx).1) (by omega);have hi:=ze h w;rw[hw]at Z ⊢;unfold zL zM at J;rw[hp]at J;simp only[mnz,Man.sv,df,dS,bJ]at J ⊢;unfold oZ
   by_cases C:w∈c.ws
   ·rw[if_pos C]
    rw[hi.2 C]at I;clear h L C hi;generalize lbW c.ws w=K at*;obtain⟨wm,wf⟩:=w;obtain⟨⟨au,th⟩,O,Q⟩:=c;simp only[Cat.sv,Wd.sv,wdO,Tr.sv,fQ,cU]at*;rw[aj I7]
    by_cases y:(O.length:Int)+(Q.length:Int)≥16<;>
     simp only[go_sem,Q5,Qe,Qh,Qi,Qj,Qk,reduceCtorEq,reduceIte,W,Je,E,F,e0,y,J,tg,Z,zW,I,xop]
   ·rw[if_neg C]
    have hf:zf c.ws w=false:=by
     cases hh:zf c.ws w with
     |true=>exact absurd (hi.1 hh) C
     |false=>rfl
    rw[hf]at I
    by_cases q2:16<=c.ms.length+c.ws.length
    ·rw[if_pos q2]
     have y:(c.ms.length:Int)+(c.ws.length:Int)≥16:=by omega
     clear h L C hi;generalize lbW c.ws w=K at*;obtain⟨wm,wf⟩:=w;obtain⟨⟨au,th⟩,O,Q⟩:=c;simp only[Cat.sv,Wd.sv,wdO,Tr.sv,fQ,cU,pG]at*;rw[aj I7];simp only[go_sem,Q5,Qe,Qh,Qi,Qj,Qk,reduceCtorEq,reduceIte,W,Je,E,F,e0,y,J,tg,Z,zW,I,xop];rfl
    ·rw[if_neg q2]
     have y:¬(c.ms.length:Int)+(c.ws.length:Int)≥16:=by omega
     have hK:=nq c.ws w;unfold um;clear h L C hi hf;generalize lbW c.ws w=K at*;have r1:fp (c.ws.take K++w::c.ws.drop K)=fp (c.ws.take K)++ [w.sv]++fp (c.ws.drop K):=by simp[fp]
     have t1:=dY (c.ws.take K);have t2:=dY (c.ws.drop K);have t3:(c.ws.take K).length=K:=by rw[aq];omega
     have t4:(c.ws.drop K).length=c.ws.length-K:=aG;have s1:K*32<=140737488355328:=by omega
     have s2:(K+1)*32<=140737488355328:=by omega
     have s3:(K+1+(c.ws.length-K))*32<=140737488355328:=by omega
     have t5:=GC c.ws K;have t6:=GD c.ws K;have t7:(fp c.ws).take c.ws.length=fp c.ws:=aV (by omega);simp only[fQ,Cat.sv];rw[r1];obtain⟨wm,wf⟩:=w;obtain⟨⟨au,th⟩,O,Q⟩:=c;simp only[Wd.sv,wdO,Tr.sv,cU]at*;rw[aj I7];simp only[go_sem,Q2,Q3,Q5,Qb,Qc,Qd,Qe,Qh,Qi,Qj,Qk,reduceCtorEq,reduceIte,W,Je,E,F,e0,y,J,tg,Z,zW,I,xop,hK,t5,t6,t1,t2,t3,t4,t7,s1,s2,s3]
 ·rw[if_neg L]
  generalize mQ c.t B ms=e at*;clear h;obtain⟨⟨au,th⟩,O,Q⟩:=c;simp only[Cat.sv,Tr.sv,fQ,cU,pG]at*;rw[aj I7];simp only[go_sem,Qe,Qh,Qi,Qj,Qk,reduceCtorEq,reduceIte,W,Je,L];rfl
theorem l27(L:List Man)(E:∀x∈L,dx x)(hn:L.length<=100000):∀(n i:Nat),L.length-i=n->i<=L.length->
 run T (.loop Vp) ⟨[(0,.lst 7 (dn L) .no),(1,.lst 7 (dn L) .no),(5,.int .i64 i)],[],[]⟩=some (.x 0,⟨[],[],[]⟩):=by
 have C:=cP L;intro n;induction n with
 |zero=>
  intro i F J;have hi:i=L.length:=by omega
  subst hi;rw[ai];simp only[go_sem,Qh,Qj,Qk,reduceCtorEq,reduceIte,C]
 |succ n O=>
  intro i F J;have y:i<L.length:=by omega
  have I:=cg i (by omega);have Q:=eO L i y;have g:=f56 (L.getD i mnz) (L.getD i mnz) (E _ (bS L mnz i y));rw[VF rfl]at g;have h:=O (i+1) (by omega) (by omega);generalize L.getD i mnz=x at*;obtain⟨Z,m1,m2,m3,m4,W,mr⟩:=x;simp only[Man.sv]at*;rw[ai];simp only[go_sem,Qb,Qc,Qd,Qe,Qh,Qj,Qk,reduceCtorEq,reduceIte,C,y,Q,g,xoo,I,h]
theorem f27(L:List Man)(y:∀x∈L,dx x)(hn:L.length<=100000):call T 27 [.lst 7 (dn L) .no,.lst 7 (dn L) .no] [] 0=some ⟨.bool true,[],[]⟩:=by have h:=l27 L y hn _ 0 rfl (aX _);have C:=cP L;rw[ay]at h;rw[aj xza];simp only[go_sem,Qe,Qh,Qi,Qj,Qk,reduceCtorEq,reduceIte,C,h]
theorem xw6(c:Cat)(E:mb c):∀(n i:Nat),c.ws.length-i=n->i<=c.ws.length->
 run T (.loop Vx) ⟨[(2,.ptr 102 0),(3,.ptr 103 0),(5,.int .i64 i)],[(102,.rc c.sv),(103,.rc c.sv)],[]⟩=some (.x 0,⟨[(2,.ptr 102 0),(3,.ptr 103 0)],[(102,.rc c.sv),(103,.rc c.sv)],[]⟩):=by
 have C:=dY c.ws;have hn:=E.nw;intro n;induction n with
 |zero=>
  intro i I L;have hi:i=c.ws.length:=by omega
  rw[hi];obtain⟨⟨au,O⟩,ms,ws⟩:=c;simp only[Cat.sv]at*;rw[ai];simp only[go_sem,Qe,Qh,Qj,Qk,reduceIte,C]
 |succ n Q=>
  intro i I L;have y:i<c.ws.length:=by omega
  have J:=cg i (by omega);have F:=gA c.ws i y;have g:=f41 (c.ws.getD i wd0) (c.ws.getD i wd0) (by have:=E.w _ (bS c.ws wd0 i y);omega);rw[decide_eq_true rfl]at g;have h:=Q (i+1) (by omega) (by omega);generalize c.ws.getD i wd0=x at*;obtain⟨W,wf⟩:=x;obtain⟨⟨au,O⟩,ms,ws⟩:=c;simp only[Wd.sv,Cat.sv]at*;rw[ai];simp only[go_sem,Qb,Qc,Qd,Qe,Qh,Qj,Qk,reduceIte,C,y,F,g,xot,J,h]
theorem xw5(c:Cat)(hn:c.t.au.length<=100000)(O:∀a∈c.t.au,a.key.length<=140737488355328):∀(n i:Nat),c.t.au.length-i=n->i<=c.t.au.length->
 run T (.loop Cn) ⟨[(2,.ptr 102 0),(3,.ptr 103 0),(6,.int .i64 i)],[(102,.rc c.sv),(103,.rc c.sv)],[]⟩=some (.x 2,⟨[],[(102,.rc c.sv),(103,.rc c.sv)],[]⟩):=by
 have C:=fk c.t.au;intro n;induction n with
 |zero=>
  intro i I L;have hi:i=c.t.au.length:=by omega
  rw[hi];obtain⟨⟨au,Q⟩,ms,ws⟩:=c;simp only[Cat.sv]at*;rw[ai];simp only[go_sem,Qe,Qh,Qi,Qj,Qk,reduceIte,C]
 |succ n W=>
  intro i I L;have h:i<c.t.au.length:=by omega
  have J:=cg i (by omega);have E:=iA c.t.au i h;have g:=f31 (c.t.au.getD i au0).key (c.t.au.getD i au0).key (O _ (bS c.t.au au0 i h));rw[decide_eq_true rfl]at g;have y:=W (i+1) (by omega) (by omega);obtain⟨⟨au,Q⟩,ms,ws⟩:=c;simp only at C E g h;generalize au.getD i au0=x at*;obtain⟨F,Z⟩:=x;simp only[Au.sv,Cat.sv]at*;rw[ai];simp only[go_sem,Qb,Qc,Qd,Qe,Qh,Qi,Qj,Qk,reduceIte,C,h,E,g,tj,J,y]
theorem f13(c:Cat)(h:mb c)(hn:c.t.au.length<=100000)(F:∀a∈c.t.au,a.key.length<=140737488355328):call T 13 [.agg c.sv,.agg c.sv] [] 0=some ⟨.bool true,[],[]⟩:=by have g:=f27 c.ms h.m h.nm;have y:=xw6 c h _ 0 rfl (aX _);have C:=xw5 c hn F _ 0 rfl (aX _);have E:=dY c.ws;have I:=fk c.t.au;rw[ay]at y C;obtain⟨⟨au,J⟩,ms,ws⟩:=c;simp only[Cat.sv]at*;rw[aj xzl];simp only[go_sem,Qe,Qh,Qi,Qj,Qk,reduceCtorEq,reduceIte,g,xov,E,I,y,C]
theorem DK(k:Nat)(C:k<=2)(thr w:Int)(B:d9)(E:sW B)(I:(trL k thr).thr<=(xaA w (k+1):Int)):mQ (trL k thr) B (gN w B)=0:=by
 have F:=JR w B;unfold mQ
 rw[if_pos (UI k C thr),if_neg (by omega),if_neg (fun h=>by
  rcases E with y|y
  ·exact y h.1
  ·exact y h.2),Hc k C,zb,if_neg (by omega)]
theorem UF(B:d9)(h:sW B):mQ (trL 0 0) B (gN 1 B)=0:=DK 0 (by decide) 0 1 B h (by decide)
theorem xa7(k:Nat)(y:k<=2)(thr:Int)(B:d9)(h:sW B):mQ (trL k thr) B (gN 7 B)=0:=by
 refine DK k y thr 7 B h ?_;show 1+gO thr ((k+1:Nat):Int)<=_;have E:=jG thr ((k+1:Nat):Int) (by omega)
 have C:xaA 7 (k+1)=k+1:=by rcases (by omega:k=0\/k=1\/k=2)with rfl|rfl|rfl<;>decide
 rw[C];omega
theorem xyb(w:Wd)(h:nV w):jT (fW w)=none:=by
 have E:wT (fW w)=(22,⟨1,0⟩):=by
  have y:be 6 (aQ.wrap w.frm)=bu 6 w.frm:=rfl;have e:fW w=[]++([22]++(w.man++bu 6 w.frm)):=by rw[fW,if_pos h,y];rfl
  have:=jM (B:=fW w) (P:=[]) (X:=[22]) 1 e rfl;exact this
 unfold jT;rw[if_neg];intro C;have:=C.1;change (wT (fW w)).1=21 at this;rw[E]at this;exact absurd this (by decide)
theorem VJ{m:Man}(h:fq m=0):sW (eP m):= .inl (by rw[mz h];simp)
theorem xic{w:Wd}(h:nV w):sW (fW w):= .inr (by rw[zK w h];simp)
theorem CO{c:Cat}{m:Man}(h:fq m=0){ms:List Mk}(y:mQ c.t (eP m) ms=0):li c (eP m) ms=ow c m:=by unfold li;rw[if_pos y,mz h]
theorem Un{c:Cat}{w:Wd}(h:nV w){ms:List Mk}(y:mQ c.t (fW w) ms=0):li c (fW w) ms=oZ c w:=by unfold li;rw[if_pos y,xyb w h,zK w h]
theorem xnR(c:Cat)(m:Man)(h:(ow c m).2=0):(ow c m).1.t=c.t:=by
 unfold ow at h ⊢;split at h
 ·rename_i q;rw[if_pos q]
 ·rename_i q;rw[if_neg q]
  split at h
  ·cases h
  ·rename_i y;rw[if_neg y]
theorem xnQ(c:Cat)(w:Wd)(h:(oZ c w).2=0):(oZ c w).1.t=c.t:=by
 unfold oZ at h ⊢;split at h
 ·rename_i q;rw[if_pos q]
 ·rename_i q;rw[if_neg q]
  split at h
  ·cases h
  ·rename_i y;rw[if_neg y]
theorem xnS(c:Cat)(B:d9)(ms:List Mk)(h:(li c B ms).2=0):(li c B ms).1.t=c.t:=by
 unfold li at h ⊢;split at h
 ·rename_i q;rw[if_pos q]
  cases hp:jT B with
  |some m=>rw[hp]at h;exact xnR c m h
  |none=>
   cases hw:lJ B with
   |some w=>rw[hp,hw]at h;exact xnQ c w h
   |none=>rw[hp,hw]at h;cases h
 ·rename_i q;exact absurd h q
theorem qZ{c:Cat}(y:im c)(B:d9)(ms:List Mk)(h:(li c B ms).2=0):im (li c B ms).1:=by
 unfold li at h ⊢;split at h
 ·rename_i q;rw[if_pos q]
  cases hp:jT B with
  |some m=>rw[hp]at h;exact xaD y (qV hp).1 (qV hp).2 h
  |none=>
   cases hw:lJ B with
   |some w=>rw[hp,hw]at h;exact xaC y (uH hw) h
   |none=>rw[hp,hw]at h;cases h
 ·rename_i q;exact absurd h q
theorem im.bd{c:Cat}(h:im c):mb c:=⟨fun x y=>(h.m x y).1,fun x y=>Nat.le_of_eq (h.w x y).1,by have:=h.n;omega,by have:=h.n;omega⟩
theorem wb(t:Tr):im ⟨t,[],[]⟩:=⟨fP.nil,fP.nil,(fun x h=>by cases h),(fun x h=>by cases h),aX _⟩
def maA:Man:=⟨[118],1,0,0,100,[],[]⟩
def maB:Man:=⟨[118],2,2,10,100,[],[]⟩
noncomputable def wdC:Wd:=⟨bX maB,12⟩
theorem T4:fq maA=0:=by decide
theorem CH:fq maB=0:=by decide
theorem T5:dx maA:=by constructor<;>simp[maA]
theorem CI:dx maB:=by constructor<;>simp[maB]
theorem Bh{m:Man}(h:fq m=0):(bX m).length=32:=by
 unfold bX
 rw[if_neg (fun e=>by have:=mz h;rw[e]at this;simp[jT,okP,uR]at this)]
 exact ir _
theorem BB:nV wdC:=⟨Bh CH,by decide,by decide⟩
def cN:Cat:=⟨trL 0 0,[],[]⟩
theorem xrS:im cN:=wb _
theorem xlR{L:List Man}(hL:L=[maA,maB]\/L=[maB,maA]):iM ⟨trL 0 0,L,[wdC]⟩ 9=[maA]/\iM ⟨trL 0 0,L,[wdC]⟩ 10=[maB]/\iM ⟨trL 0 0,L,[wdC]⟩ 12=[]/\flr L [118] 12=2:=by rcases hL with rfl|rfl<;>simp[iM,inF,flr,qP,wdL,wdB,maA,maB,wdC]
theorem xoW:∃L:List Man,(L=[maA,maB]\/L=[maB,maA])/\
 li cN (eP maA) (gN 1 (eP maA))=(⟨trL 0 0,[maA],[]⟩,0)/\
 li ⟨trL 0 0,[maA],[]⟩ (eP maB) (gN 1 (eP maB))=(⟨trL 0 0,L,[]⟩,0)/\
 li ⟨trL 0 0,L,[]⟩ (fW wdC) (gN 1 (fW wdC))=(⟨trL 0 0,L,[wdC]⟩,0):=by
 refine⟨oj [maA] maB, ?_, ?_, ?_, ?_⟩
 ·unfold oj
  have y:=kO [maA] (bX maB);rw[aF]at y;rcases (by omega:ubM [maA] (bX maB)=0\/ubM [maA] (bX maB)=1)with h|h
  ·rw[h];exact .inr rfl
  ·rw[h];exact .inl rfl
 ·rw[CO (c:=cN) T4 (UF _ (VJ T4))]
  unfold ow;rw[if_neg (by simp[cN]),if_neg (by simp[cN])];unfold oj cN;rw[qF]
 ·rw[CO (c:=⟨trL 0 0,[maA],[]⟩) CH (UF _ (VJ CH))]
  unfold ow;rw[if_neg (by simp[maA,maB]),if_neg (by simp)]
 ·have C:(oj [maA] maB).length=2:=rR _ _
  rw[Un (c:=⟨trL 0 0,oj [maA] maB,[]⟩) BB (UF _ (xic BB))];unfold oZ;rw[if_neg (by simp),if_neg (by show ¬16<=(oj [maA] maB).length+0;omega)];unfold um;rw[qF]
theorem U_9:U.fn 9=some (.code F9):=IW.fn 9 _ T_9
theorem xof:call T 10 [.int .i64 0,.int .i64 0] [] 0=some ⟨.agg (trL 0 0).sv,[],[]⟩:=by
 obtain⟨k,C,h,g⟩:=f10 0 0 (by decide) (by decide) (by decide) (by decide);have y:gO 0 3=0:=by decide
 have:k=0:=by omega
 subst this;exact g
theorem f9:call U 9 [] [] 0=some ⟨.bool true,[],[]⟩:=by obtain⟨L,hL,O,J,Q⟩:=xoW;obtain⟨i1,i2,i3,i4⟩:=xlR hL;have k0:=xrS;have k1:=qZ k0 (eP maA) (gN 1 (eP maA)) (by rw[O]);rw[O]at k1;have k2:=qZ k1 (eP maB) (gN 1 (eP maB)) (by rw[J]);rw[J]at k2;have h:=qZ k2 (fW wdC) (gN 1 (fW wdC)) (by rw[Q]);rw[Q]at h;have W:=kf maA T5;have T:=kf maB CI;have lW:=lI wdC BB;have g1:=up xof;have g2:=up (f11 (trL 0 0));rw[show o4 (trL 0 0)=(cN,0)from if_pos (UI 0 (by decide) 0)]at g2;have g3:=up (f34 maA T5);have g4:=up (f33 (eP maA) W 1);have g5:=f19 cN k0 (eP maA) (gN 1 (eP maA)) W;rw[O]at g5;have g6:=up (f34 maB CI);have g7:=up (f33 (eP maB) T 1);have g8:=f19 _ k1 (eP maB) (gN 1 (eP maB)) T;rw[J]at g8;have g9:=up (f36 maB CI);have a1:=up (f35 wdC);have Z:=up (f33 (fW wdC) (by omega) 1);have C:=f19 _ k2 (fW wdC) (gN 1 (fW wdC)) (by omega);rw[Q]at C;have E:=up (f28 _ h.bd 9);have I:=up (f28 _ h.bd 10);have y:=up (f28 _ h.bd 12);have F:=up (f25 _ (mC h.bd.nm (by decide)) [118] 12);rw[i1]at E;rw[i2]at I;rw[i3]at y;simp only[i4]at F;clear O J Q i1 i2 i3 i4 k0 k1 k2 h W T lW hL;generalize trL 0 0=t at*;obtain⟨au,th⟩:=t;unfold wdC at*;generalize bX maB=D at*;simp only[cN,fQ,Cat.sv,Tr.sv,Wd.sv,cU,dn,fp,bJ,aI]at*;simp only[maA,maB,Man.sv,df,dS,bJ]at*;rw[aj U_9];simp only[go_sem,Q2,Q3,Q4,Qb,Qc,Qd,Qe,Qh,Qi,Qj,Qk,reduceCtorEq,reduceIte,US,g1,Gy,g2,xi2,g3,xa0,g4,xa1,g5,xvR,g6,g7,g8,g9,zX,a1,xou,Z,C,E,xa2,I,y,F,tn]
theorem Yo{t:Tr}(h:trE t=0):t.au.length<=4/\∀a∈t.au,a.key.length=17:=by
 unfold trE at h;split at h
 ·cases h
 ·rename_i E
  refine⟨by omega,fun a C=> ?_⟩;split at h
  ·rename_i y
   obtain⟨i,hi,rfl⟩:=bp C;have:=wL _ 0 y i (aX _) (by omega);unfold auE at this;rw[aa,ac hi]at this;simp only[aM]at this;split at this
   ·cases this
   ·split at this
    ·cases this
    ·split at this
     ·omega
     ·cases this
  ·rename_i y;exact absurd h y
structure uV(c:Cat):Prop where
 ok:im c
 n:c.t.au.length<=4
 k:∀a∈c.t.au,a.key.length<=17
theorem xxT{c:Cat}(h:uV c):call T 13 [.agg c.sv,.agg c.sv] [] 0=some ⟨.bool true,[],[]⟩:=
 f13 c h.ok.bd (by have:=h.n;omega) (fun a y=>by have:=h.k a y;omega)
theorem Uo:uV pG:=⟨wb _,aX _,fun a h=>by cases h⟩
theorem xL(t:Tr):uV (o4 t).1:=by
 unfold o4;split
 ·rename_i h
  obtain⟨E,y⟩:=Yo h;exact⟨wb t,E,fun a C=>by rw[y a C];exact aJ _⟩
 ·exact Uo
theorem Um{c:Cat}(h:uV c)(B:d9)(ms:List Mk):uV (li c B ms).1:=by
 by_cases y:(li c B ms).2=0
 ·have C:=xnS c B ms y
  exact⟨qZ h.ok B ms y,by rw[C];exact h.n,by rw[C];exact h.k⟩
 ·have:(li c B ms).1=pG:=by
   unfold li ow oZ at y ⊢
   repeat' split at y
   all_goals (repeat' split)
   all_goals first|rfl|(exfalso;exact y rfl)|(exfalso;contradiction)
  rw[this];exact Uo
theorem U_3:U.fn 3=some (.code F3):=IW.fn 3 _ T_3
theorem f3(raw:Tr)(n thr:Int)(any:Bool)(n1: -9223372036854775808<=n)(n2:n<=9223372036854775807)(h1: -9223372036854775808<=thr)(h2:thr<=9223372036854775807):
 call U 3 [.agg raw.sv,.int .i64 n,.int .i64 thr,.bool any] [] 0=some ⟨.bool true,[],[]⟩:=by
 have J:=f9;obtain⟨k,hk, -,C⟩:=f10 n thr h1 h2 n1 n2;replace C:=up C
 have h:∀t:Tr,∃Q:Cat×Int,call U 11 [.agg t.sv] [] 0=some ⟨fQ Q,[],[]⟩/\call U 12 [.agg t.sv] [] 0=some ⟨fQ Q,[],[]⟩/\call U 13 [.agg Q.1.sv,.agg Q.1.sv] [] 0=some ⟨.bool true,[],[]⟩:=fun t=>
  ⟨o4 t,up (f11 t),up (f12 t),up (xxT (xL t))⟩
 cases any with
 |false=>generalize trL k thr=t at*;obtain⟨Q,y,F,E⟩:=h t;obtain⟨au,th⟩:=t;obtain⟨O,rt⟩:=raw;obtain⟨⟨⟨qa,W⟩,Z,qw⟩,qe⟩:=Q;simp only[Tr.sv,fQ,Cat.sv]at*;rw[aj U_3];simp only[go_sem,Q2,Q3,Qe,Qh,Qi,Qj,Qk,reduceCtorEq,reduceIte,US,J,S_9,C,Gy,y,xi2,F,xi0,E,xow]
 |true=>
  generalize trL k thr=t at*;obtain⟨au,th⟩:=t;have T:=fk raw.au
  by_cases q:raw.au.length<=6
  ·have I:¬(6:Int)<raw.au.length:=by omega
   obtain⟨Q,y,F,E⟩:=h raw;obtain⟨O,rt⟩:=raw;obtain⟨⟨⟨qa,W⟩,Z,qw⟩,qe⟩:=Q;simp only[Tr.sv,fQ,Cat.sv]at*;rw[aj U_3];simp only[go_sem,Q2,Q3,Qe,Qh,Qi,Qj,Qk,reduceCtorEq,reduceIte,US,J,S_9,C,Gy,T,I,y,xi2,F,xi0,E,xow]
  ·have I:(6:Int)<raw.au.length:=by omega
   have q6:6<=raw.au.length:=by omega
   have L:(6:Int)<=raw.au.length:=by omega
   obtain⟨Q,y,F,E⟩:=h ⟨raw.au.take 6,raw.thr⟩;have ht:=H7 raw.au 6;obtain⟨O,rt⟩:=raw;obtain⟨⟨⟨qa,W⟩,Z,qw⟩,qe⟩:=Q;simp only[Tr.sv,fQ,Cat.sv]at*;rw[aj U_3];simp only[go_sem,Q2,Q3,Qe,Qh,Qi,Qj,Qk,reduceCtorEq,reduceIte,US,J,S_9,C,Gy,T,I,L,ht,y,xi2,F,xi0,E,xow]
def lP(B:d9):d9:=B.take 32++iD (B.take 32).length (aL 32 0)
theorem tT(B:d9):(lP B).length=32:=by unfold lP;rw[ae,aG,dJ,aq];omega
theorem f43(B:d9):call T 43 [.byt B .no] [] 0=some ⟨.byt (lP B) .no,[],[]⟩:=by have y:=tT B;have h:(lP B).take 32=lP B:=aV (by omega);unfold lP at*;rw[aj xyX];simp only[go_sem,Q2,Q3,Qe,Qh,Qi,Qj,Qk,reduceCtorEq,reduceIte,y,h]
theorem f42(B:d9)(j:Nat):call T 42 [.ptr 0 0] [bq B j] 0=some ⟨.bool (decide (j<B.length)),[(0,bq B j)],[]⟩:=by
 rw[aj xyY];simp only[bq]
 by_cases h:j<B.length
 ·simp only[go_sem,Qe,Qh,Qi,Qj,Qk,reduceCtorEq,reduceIte,h]
 ·simp only[go_sem,Qe,Qh,Qi,Qj,Qk,reduceCtorEq,reduceIte,h]
theorem KV{m:Man}(h:fq m=0):(bX m).length=32:=by
 unfold bX
 rw[if_neg (fun e=>by have:=mz h;rw[e]at this;simp[jT,okP,uR]at this)]
 exact ir _
inductive Itm where
 |m (x:Man)
 |w (x:Wd)
def Itm.body:Itm->d9
 | .m x=>eP x
 | .w x=>fW x
def Itm.OK:Itm->Prop
 | .m x=>dx x/\fq x=0
 | .w x=>nV x
noncomputable def ou(l:List Itm):d8:=l.map fun x=>cU x.body (gN 7 x.body)
theorem lK(l:List Itm):(ou l).length=l.length:=aY ..
theorem oK(l:List Itm)(x:Itm):ou l++ [cU x.body (gN 7 x.body)]=ou (l++ [x]):=by rw[ou,ou,cf];rfl
theorem cc3:((3:Nat):Int)=3:=rfl
theorem cc5:((5:Nat):Int)=5:=rfl
theorem xvn:((30:Nat):Int)=30:=rfl
def DcS(l:List Itm):Prop:=∀x∈l,x.OK
theorem Gb{l:List Itm}{x:Itm}(h:DcS l)(E:x.OK):DcS (l++ [x]):=fun y C=>by
 rcases am.1 C with C|C
 ·exact h y C
 ·rw[bj.1 C];exact E
noncomputable def tO(B:d9)(y:List Img)(h:Int)(l:List Itm)(ms:List Man)(j:Nat):CSt:=
 ⟨[(1,.lst 4 (jx y) .no),(2,.int .i64 h),(7,.ptr 14100 0),(8,.lst 2 (ou l) (.id 108)),(9,.lst 7 (dn ms) (.id 109))],[(14100,bq B j)],[108,109]⟩
theorem xv9(B:d9)(hB:B.length<=1000)(I:List Img)(hc:iC I)(h:Int)(l:List Itm)(ms:List Man)(j Q:Nat)(hl:(l.length:Int)<h)(a2:l.length<=1000)(a1:ms.length<=1000)(hj:j<B.length)
 (C:ms=[]/\Q=j\/ms≠ []/\∃v:Nat,v≠2/\call T 17 [.ptr 0 0,.int .i64 3] [bq B j] 0=some ⟨.int .i64 (v:Int),[(0,bq B Q)],[]⟩):
 ∃(m:Man)(W:Nat),UA m/\run T (.loop kU) (tO B I h l ms j)=run T (.loop kU) (tO B I h (l++ [.m m]) (ms++ [m]) W):=by
 obtain⟨m,W,J,g⟩:=f44 B hB Q I hc;refine⟨m,W,J, ?_⟩;have L:=f42 B j;rw[decide_eq_true hj]at L;have O:=kf m J.bd;have g1:=f34 m J.bd;have g2:=f33 (eP m) O 7;have hv:=lK l;have y:=cP ms;have b1:(l.length+1)*48<=140737488355328:=by omega
 have b2:(ms.length+1)*96<=140737488355328:=by omega
 have Z:=oK l (.m m);have d2:dn ms++ [m.sv]=dn (ms++ [m]):=by rw[dn,dn,cf];rfl
 simp only[Itm.body]at Z;unfold tO;clear J hc;generalize eP m=E at*;generalize gN 7 E=S at*;obtain⟨mv,m1,m2,m3,m4,me,mr⟩:=m;simp only[bq,Man.sv,cU]at*;rw[<-Z,<-d2];rcases C with⟨C,rfl⟩|⟨C,v,hv0,gv⟩
 ·have hz:¬(0:Int)<ms.length:=by rw[C];decide
  conv=>lhs;rw[ai]
  simp only[go_sem,Qe,Qg,Qh,Qi,Qj,Qk,reduceIte,L,Uy,hv,hl,y,hz,g,xvO,b1,b2,g1,xa0,g2,xa1]
 ·have hz:(0:Int)<ms.length:=by have:=List.length_pos_iff.2 C;omega
  have F:¬(v:Int)=2:=by omega
  conv=>lhs;rw[ai]
  simp only[go_sem,Qe,Qg,Qh,Qi,Qj,Qk,reduceIte,L,Uy,hv,hl,y,hz,gv,jL,F,g,xvO,b1,b2,g1,xa0,g2,xa1]
theorem xv8(B:d9)(O:B.length<=1000)(ch:List Img)(y:Int)(l:List Itm)(ms:List Man)(j j0:Nat)(hl:(l.length:Int)<y)(b0:l.length<=1000)(a6:ms.length<=1000)(hM:∀m∈ms,UA m)(hj:j<B.length)
 (h0:ms≠ []) (gv:call T 17 [.ptr 0 0,.int .i64 3] [bq B j] 0=some ⟨.int .i64 2,[(0,bq B j0)],[]⟩):
 ∃(w:Wd)(j':Nat),nV w/\run T (.loop kU) (tO B ch y l ms j)=run T (.loop kU) (tO B ch y (l++ [.w w]) ms j'):=by
 have J:=List.length_pos_iff.2 h0;obtain⟨k,j1,Z,g1⟩:=mq B O j0 ms.length J;have F:=hM _ (bS ms mnz k Z);have g2:=f36 (ms.getD k mnz) F.bd;have a2:=KV F.ok;obtain⟨v5,j2,a7,g3⟩:=mq B O j1 5 (by omega);rw[cc5]at g3;have gL:=f42 B j;rw[decide_eq_true hj]at gL;have hg:=eO ms k Z;have hv:=lK l;have L:=cP ms;have hz:(0:Int)<ms.length:=by omega
 have b1:(l.length+1)*48<=140737488355328:=by omega
 generalize ms.getD k mnz=x at*;clear hM F
 by_cases q:v5=4
 ·subst q
  obtain⟨v3,j3,a8,g4⟩:=mq B O j2 3 (by omega);rw[cc3]at g4;obtain⟨h,j4,Q,W⟩:=mq B O j3 30 (by omega);rw[xvn]at W;have g6:=f43 [b8 (v3:Int)];have C:nV ⟨lP [b8 (v3:Int)],h⟩:=⟨tT _,by show(0:Int)<=(h:Int);omega,by show(h:Int)<=1099511627776;omega⟩;refine⟨_,j4,C, ?_⟩;have g7:=f35 ⟨lP [b8 (v3:Int)],h⟩;have a1:=lI _ C;have g8:=f33 (fW ⟨lP [b8 (v3:Int)],h⟩) (by omega) 7;have I:=oK l (.w ⟨lP [b8 (v3:Int)],h⟩);simp only[Itm.body]at I;unfold tO;clear C;generalize fW ⟨lP [b8 (v3:Int)],h⟩=E at*;generalize gN 7 E=S at*;generalize lP [b8 (v3:Int)]=D at*;obtain⟨mv,m1,m2,m3,m4,me,mr⟩:=x;simp only[bq,Man.sv,Wd.sv,cU]at*;rw[<-I];rw[c4]at g3
  conv=>lhs;rw[ai]
  simp only[go_sem,Qe,Qg,Qh,Qi,Qj,Qk,reduceIte,gL,Uy,hv,hl,L,hz,gv,jL,g1,Z,hg,g2,zX,g3,g4,W,g6,xzq,g7,xou,g8,xa1,b1]
 ·obtain⟨h,j4,Q,W⟩:=mq B O j2 30 (by omega)
  rw[xvn]at W;have C:nV ⟨bX x,h⟩:=⟨a2,by show(0:Int)<=(h:Int);omega,by show(h:Int)<=1099511627776;omega⟩;refine⟨_,j4,C, ?_⟩;have g7:=f35 ⟨bX x,h⟩;have a1:=lI _ C;have g8:=f33 (fW ⟨bX x,h⟩) (by omega) 7;have I:=oK l (.w ⟨bX x,h⟩);simp only[Itm.body]at I;unfold tO;clear C;generalize fW ⟨bX x,h⟩=E at*;generalize gN 7 E=S at*;generalize bX x=D at*;obtain⟨mv,m1,m2,m3,m4,me,mr⟩:=x;simp only[bq,Man.sv,Wd.sv,cU]at*;rw[<-I];have q':¬(v5:Int)=4:=by omega
  conv=>lhs;rw[ai]
  simp only[go_sem,Qe,Qg,Qh,Qi,Qj,Qk,reduceIte,gL,Uy,hv,hl,L,hz,gv,jL,g1,Z,hg,g2,zX,g3,q',W,g7,xou,g8,xa1,b1]
theorem l14(B:d9)(hB:B.length<=1000)(L:List Img)(hc:iC L)(C:Nat)(a8:C<=10):∀(n:Nat)(l:List Itm)(ms:List Man)(j:Nat),C-l.length=n->l.length<=C->ms.length<=l.length->DcS l->(∀m∈ms,UA m)->
 ∃(J:List Itm)(ob:List (Nat×aH)),DcS J/\J.length<=C/\run T (.loop kU) (tO B L (C:Int) l ms j)=some (.x 0,⟨[(8,.lst 2 (ou J) (.id 108))],ob,[108,109]⟩):=by
 intro n
 have E:∀(l:List Itm)(ms:List Man)(j:Nat),l.length<=C->(¬j<B.length\/¬(l.length:Int)<C)->run T (.loop kU) (tO B L (C:Int) l ms j)=some (.x 0,⟨[(8,.lst 2 (ou l) (.id 108))],[(14100,bq B j)],[108,109]⟩):=by
  intro l ms j O h2;have gL:=f42 B j;have hv:=lK l;unfold tO;simp only[bq]at*;rw[ai]
  by_cases F:j<B.length
  ·rw[decide_eq_true F]at gL
   have hl:¬(l.length:Int)<C:=h2.resolve_left (fun h=>h F);simp only[go_sem,Qe,Qg,Qh,Qi,Qj,Qk,reduceIte,gL,Uy,hv,hl]
  ·rw[decide_eq_false F]at gL
   simp only[go_sem,Qe,Qg,Qh,Qi,Qj,Qk,reduceIte,gL,Uy]
 induction n with
 |zero=>intro l ms j h0 O h2 Q h4;exact⟨l,_,Q,O,E l ms j O (.inr (by omega))⟩
 |succ n ih=>
  intro l ms j h0 O h2 Q h4
  by_cases F:j<B.length
  ·have hl:(l.length:Int)<(C:Int):=by omega
   have Z:C-(l.length+1)=n:=by omega
   have a6:l.length+1<=C:=by omega
   have b0:ms.length+1<=l.length+1:=by omega
   have a7:ms.length<=l.length+1:=by omega
   have W:l.length<=1000:=by omega
   have a1:ms.length<=1000:=by omega
   have hM:∀(I:Nat),(ms=[]/\I=j\/ms≠ []/\∃v:Nat,v≠2/\call T 17 [.ptr 0 0,.int .i64 3] [bq B j] 0=some ⟨.int .i64 (v:Int),[(0,bq B I)],[]⟩)->∃(J:List Itm)(ob:List (Nat×aH)),DcS J/\J.length<=C/\run T (.loop kU) (tO B L (C:Int) l ms j)=some (.x 0,⟨[(8,.lst 2 (ou J) (.id 108))],ob,[108,109]⟩):=by
    intro I h;obtain⟨m,j',hm,e⟩:=xv9 B hB L hc C l ms j I hl W a1 F h;rw[e];refine ih (l++ [.m m]) (ms++ [m]) j' (by rw[ae,aF];exact Z) (by rw[ae,aF];exact a6) (by rw[ae,ae,aF,aF];exact b0) (Gb (x:=Itm.m m) Q ⟨hm.bd,hm.ok⟩) (fun y hy=> ?_);rcases am.1 hy with hy|hy
    ·exact h4 y hy
    ·rw[bj.1 hy];exact hm
   by_cases hz:ms=[]
   ·exact hM j (.inl ⟨hz,rfl⟩)
   ·obtain⟨v,I,hv,g⟩:=mq B hB j 3 (by omega)
    rw[cc3]at g
    by_cases a2:v=2
    ·subst a2
     obtain⟨w,j',hw,e⟩:=xv8 B hB L C l ms j I hl W a1 h4 F hz g;rw[e];exact ih (l++ [.w w]) ms j' (by rw[ae,aF];exact Z) (by rw[ae,aF];exact a6) (by rw[ae,aF];exact a7) (Gb (x:=Itm.w w) Q hw) h4
    ·exact hM I (.inr ⟨hz,v,a2,g⟩)
  ·exact⟨l,_,Q,O,E l ms j O (.inl F)⟩
theorem f14(a:d9)(C:List Img)(Q:iC C)(h:Nat)(I:h<=10):∃l:List Itm,DcS l/\l.length<=h/\call T 14 [.byt a .no,.lst 4 (jx C) .no,.int .i64 h] [] 0=some ⟨.lst 2 (ou l) .no,[],[]⟩:=by
 have g0:=f16 a 160;rw[show((160:Nat):Int)=160 from rfl]at g0;have O:(a.take 160).length<=1000:=by rw[aq];omega
 generalize a.take 160=B at*;obtain⟨l,ob,J,L,E⟩:=l14 B O C Q h I _ [] [] 0 rfl (aX _) (aJ _) (fun x y=>by cases y) (fun x y=>by cases y);refine⟨l,J,L, ?_⟩;have d0:ou []=[]:=rfl;have F:dn []=[]:=rfl;rw[aj xzk];simp only[tO,bq,c0,d0,F]at g0 E ⊢;simp only[go_sem,Qe,Qg,Qh,Qi,Qj,Qk,reduceCtorEq,reduceIte,g0,xvS,E]
theorem KW(l:List Itm)(i:Nat)(h:i<l.length):(ou l).getD i []=cU (l.getD i (.w wd0)).body (gN 7 (l.getD i (.w wd0)).body):=by simp[ou,aa,h]
theorem zT{x:Itm}(h:x.OK):x.body.length<=100000000:=by
 cases x with
 |m x=>exact kf x h.1
 |w x=>show(fW x).length<=_;rw[lI x h];decide
noncomputable def oY(c:Cat)(x:Itm):Cat×Int:=li c x.body (gN 7 x.body)
noncomputable def qY(c:Cat)(x:Itm):Cat:=if(oY c x).2=0 then(oY c x).1 else c
theorem Ul{c:Cat}(h:uV c)(x:Itm):uV (qY c x):=by
 unfold qY;split
 ·exact Um h _ _
 ·exact h
def xK:aH:= .rc [.lst 2 [] .clip,.int .i64 0,.lst 7 [] .clip,.lst 2 [] .clip]
theorem l23(t:Tr)(l:List Itm)(hd:DcS l)(hn:l.length<=1000):∀(n i:Nat)(c:Cat),uV c->l.length-i=n->i<=l.length->
 run T (.loop Vw) ⟨[(1,.lst 2 (ou l) .no),(4,.ptr 104 0),(5,.ptr 105 0),(7,.int .i64 i)],[(102,.rc t.sv),(104,xK),(105,.rc c.sv)],[]⟩=
  some (.x 0,⟨[(4,.ptr 104 0),(5,.ptr 105 0)],[(102,.rc t.sv),(104,xK),(105,.rc ((l.drop i).foldl qY c).sv)],[]⟩):=by
 intro n;have F:=lK l;induction n with
 |zero=>
  intro i c C h0 h1;have hi:i=l.length:=by omega
  rw[hi,bw,fo];obtain⟨⟨au,th⟩,ms,ws⟩:=c;obtain⟨ta,W⟩:=t;simp only[Cat.sv,Tr.sv,xK]at*;rw[ai];simp only[go_sem,Qh,Qj,Qk,reduceIte,F]
 |succ n I=>
  intro i c C h0 h1;have y:i<l.length:=by omega
  have L:=cg i (by omega);have O:=KW l i y;have J:=hd _ (bS l (.w wd0) i y);rw[eY l (.w wd0) i y,cR];generalize l.getD i (.w wd0)=x at*;have h:=I (i+1) (qY c x) (Ul C x) (by omega) (by omega);have g:=f20 c C.ok x.body (gN 7 x.body) (zT J);change call T 20 _ _ _=some ⟨fQ (oY c x),[],[]⟩at g;generalize (l.drop (i+1)).foldl qY (qY c x)=Z at*;unfold qY at h;clear I C J hd;generalize oY c x=Q at*;generalize x.body=E at*;generalize gN 7 E=S at*;obtain⟨⟨⟨qa,qt⟩,qm,qw⟩,qe⟩:=Q;obtain⟨⟨au,th⟩,ms,ws⟩:=c;obtain⟨⟨za,zt⟩,zm,zw⟩:=Z;obtain⟨ta,W⟩:=t
  by_cases q:qe=0
  ·rw[if_pos q]at h
   subst q;simp only[Cat.sv,Tr.sv,fQ,cU,xK]at*;rw[ai];simp only[go_sem,Qb,Qc,Qd,Qe,Qh,Qi,Qj,Qk,reduceCtorEq,reduceIte,F,y,O,g,xvQ,L,h]
  ·rw[if_neg q]at h
   simp only[Cat.sv,Tr.sv,fQ,cU,xK]at*;rw[ai];simp only[go_sem,Qb,Qc,Qd,Qe,Qh,Qi,Qj,Qk,reduceCtorEq,reduceIte,F,y,O,g,xvQ,q,L,h]
theorem f23(t:Tr)(l:List Itm)(hd:DcS l)(hn:l.length<=1000):call T 23 [.agg t.sv,.lst 2 (ou l) .no] [] 0=some ⟨.agg (l.foldl qY (o4 t).1).sv,[],[]⟩:=by have g:=f12 t;have h:=l23 t l hd hn _ 0 (o4 t).1 (xL t) rfl (aX _);rw[aW,ay]at h;generalize l.foldl qY (o4 t).1=Z at*;generalize o4 t=Q at*;obtain⟨⟨⟨O,C⟩,F,I⟩,qe⟩:=Q;obtain⟨⟨W,zt⟩,y,J⟩:=Z;obtain⟨L,E⟩:=t;simp only[Cat.sv,Tr.sv,fQ,xK]at*;rw[aj xze];simp only[go_sem,Qe,Qh,Qi,Qj,Qk,reduceCtorEq,reduceIte,g,xi0,h]
theorem Z5(l:List Itm):∀{c:Cat},uV c->uV (l.foldl qY c):=by
 induction l with
 |nil=>exact fun h=>h
 |cons x l y=>exact fun h=>y (Ul h x)
theorem vY(v:d9)(h B:Int):∀(L:List Man)(a:Int),L.foldl (qP v h) a<=B↔a<=B/\∀m∈L,m.vendor=v->m.frm<=h->m.flr<=B
 |[],a=>by simp
 |x::L,a=>by
  rw[cR,vY v h B L];unfold qP;constructor
  ·rintro⟨C,E⟩
   by_cases q:x.vendor=v/\x.frm<=h
   ·rw[if_pos q]at C
    refine⟨by split at C<;>omega,fun m y F I=> ?_⟩;rcases av.1 y with rfl|y
    ·split at C<;>omega
    ·exact E m y F I
   ·rw[if_neg q]at C
    refine⟨C,fun m y F I=> ?_⟩;rcases av.1 y with rfl|y
    ·exact absurd ⟨F,I⟩ q
    ·exact E m y F I
  ·rintro⟨C,E⟩
   refine⟨?_,fun m y=>E m (aw _ y)⟩
   by_cases q:x.vendor=v/\x.frm<=h
   ·rw[if_pos q]
    have:=E x aB q.1 q.2;split<;>omega
   ·rw[if_neg q];exact C
theorem rZ{L E:List Man}(v:d9){C y:Int}(h:C<=y)(O:∀m∈L,m∈E):flr L v C<=flr E v y:=by have F:=(vY v y (flr E v y) E 0).1 (Int.le_refl _);exact(vY v C _ L 0).2 ⟨F.1,fun m J I Q=>F.2 m (O m J) I (by omega)⟩
theorem HH{c:Cat}{h:Int}{m:Man}(I:m∈iM c h):m∈c.ms/\m.frm<=h/\h<m.til/\flr c.ms m.vendor h<=m.ver/\∀w∈c.ws,w.frm<=h->w.man≠bX m:=by obtain⟨F,y⟩:=List.mem_filter.1 I;unfold inF at y;simp only[aC,decide_eq_true_eq,cT]at y;obtain⟨⟨⟨a,b⟩,J⟩,d⟩:=y;refine⟨F,a,b,J,fun w E C L=> ?_⟩;unfold wdL at d;rw[List.any_eq_false]at d;refine d w E ?_;unfold wdB;rw[decide_eq_true C,decide_eq_true L];rfl
structure xa5(k:Nat)(thr:Int)(n:Nat)(c:Cat):Prop where
 s:uV c
 t:c.t=trL k thr
 n:c.ms.length+c.ws.length<=n
theorem Gg{k:Nat}(I:k<=2){thr:Int}{n:Nat}(hn:n<16){c:Cat}(h:xa5 k thr n c){x:Itm}(F:x.OK):
 (oY c x).2=0/\xa5 k thr (n+1) (oY c x).1/\(∀m∈c.ms,m∈(oY c x).1.ms)/\(∀w∈c.ws,w∈(oY c x).1.ws):=by
 have C:=Um h.s x.body (gN 7 x.body);have hN:=h.n;have E:=h.t;change uV (oY c x).1 at C;cases x with
 |m m=>
  have e:oY c (.m m)=ow c m:=CO F.2 (by rw[E];exact xa7 k I thr _ (VJ F.2));rw[e]at C ⊢;unfold ow at C ⊢
  by_cases q:m∈c.ms
  ·rw[if_pos q]at C ⊢
   exact⟨rfl,⟨C,E,by show c.ms.length+c.ws.length<=n+1;omega⟩,fun m h=>h,fun w h=>h⟩
  ·rw[if_neg q,if_neg (by omega)]at C ⊢
   have J:(oj c.ms m).length=c.ms.length+1:=rR _ _;exact⟨rfl,⟨C,E,by show(oj c.ms m).length+c.ws.length<=n+1;omega⟩,fun y h=>(yQ _ _ _).2 (.inr h),fun w h=>h⟩
 |w w=>
  have e:oY c (.w w)=oZ c w:=Un F (by rw[E];exact xa7 k I thr _ (xic F));rw[e]at C ⊢;unfold oZ at C ⊢
  by_cases q:w∈c.ws
  ·rw[if_pos q]at C ⊢
   exact⟨rfl,⟨C,E,by show c.ms.length+c.ws.length<=n+1;omega⟩,fun m h=>h,fun w h=>h⟩
  ·rw[if_neg q,if_neg (by omega)]at C ⊢
   have J:(um c.ws w).length=c.ws.length+1:=y5 _ _;exact⟨rfl,⟨C,E,by show c.ms.length+(um c.ws w).length<=n+1;omega⟩,fun m h=>h,fun y h=>(yP _ _ _).2 (.inr h)⟩
theorem K1{k:Nat}(y:k<=2)(thr:Int):xa5 k thr 0 (o4 (trL k thr)).1:=by have h:=xL (trL k thr);have e:o4 (trL k thr)=(⟨trL k thr,[],[]⟩,0):=if_pos (UI k y thr);rw[e]at h ⊢;exact⟨h,rfl,aJ _⟩
theorem uL{k:Nat}(C:k<=2){thr:Int}:∀(l:List Itm)(n:Nat)(c:Cat),DcS l->n+l.length<=16->xa5 k thr n c->xa5 k thr (n+l.length) (l.foldl qY c)
 |[],n,c,_,_,h=>h
 |x::l,n,c,hd,hn,h=>by rw[al]at hn;obtain⟨E,F, -, -⟩:=Gg C (by omega) h (hd x aB);rw[cR];have e:qY c x=(oY c x).1:=if_pos E;rw[e];have:=uL C l (n+1) _ (fun y I=>hd y (aw _ I)) (by omega) F;rw[al,show n+(l.length+1)=n+1+l.length by omega];exact this
theorem FV{c:Cat}(h:im c)(y:Int):(∀x∈iM c y,dx x)/\(iM c y).length<=100000:=by have hn:=h.n;have E:(iM c y).length<=c.ms.length:=List.length_filter_le _ _;exact⟨fun x C=>(h.m x (List.mem_filter.1 C).1).1,by omega⟩
def vns:aH:= .arr 1 [[.str [97,99,109,101]],[.str [118,50]],[.str [120,45,121]]]
end Go.Proofs.YtbfnljmmepcbfaaGreatDoor
