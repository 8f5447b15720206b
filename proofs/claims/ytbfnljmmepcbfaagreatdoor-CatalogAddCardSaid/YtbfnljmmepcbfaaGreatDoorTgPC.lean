/- Contracts. No condition. -/
import Derived.Test.YtbfnljmmepcbfaaGreatDoorTfPC
open Int renaming natCast_zero -> az
open Go.IntKind renaming i64 -> af, u64 -> aQ
open List renaming Pairwise -> fO, append_assoc -> ay, append_nil -> bA, drop -> iH, drop_length -> bK, drop_zero -> bj, filter_cons -> fT, foldl_cons -> ez, foldl_nil -> iP, getD_eq_getElem?_getD -> aa, getElem?_eq_getElem -> ac, getElem_of_mem -> bg, length_append -> ae, length_cons -> al, length_drop -> aE, length_map -> aV, length_nil -> aB, length_replicate -> dG, length_singleton -> aG, length_take -> an, map_append -> co, map_cons -> aI, map_drop -> mF, map_nil -> bO, map_take -> fN, mem_append -> am, mem_singleton -> bq, nil_append -> aF, replicate -> aL, take -> eS, take_of_length_le -> aT
open Nat renaming le_refl -> aK, le_trans -> mE, lt_or_ge -> bQ, zero_le -> aY
open Option renaming getD_some -> aM, some -> ax
open UInt8 renaming ofInt -> cf
set_option maxRecDepth 100000
set_option maxHeartbeats 16000000
set_option linter.unusedSimpArgs false
set_option linter.unusedVariables false
namespace Go.Proofs.YtbfnljmmepcbfaaGreatDoor
open Go.Sy
open UInt8 renaming reduceLT -> Q0, reduceLE -> Q3
open Int renaming reduceToNat -> Q4, reduceLE -> Q5, reduceLT -> Q6, reduceEq -> Q7, reduceNe -> Q8, reduceNeg -> Q9, reduceAdd -> Qa, reduceSub -> Qb, reduceMul -> Qc
open Nat renaming reducePow -> Qd, reduceDiv -> Qe, reduceMod -> Qf, reduceAdd -> Qg, reduceSub -> Qh, reduceMul -> Qi, reduceLT -> Qj, reduceLeDiff -> Qk, reduceEqDiff -> Ql, reduceBEq -> Qm
def Je(v:d9)(y a:Int)(m:Man):Int:=if m.vendor=v/\m.frm<=y then(if a<m.flr then m.flr else a)else a
def flr(L:List Man)(v:d9)(y:Int):Int:=L.foldl (Je v y) 0
theorem l25(c:Cat)(v:d9)(C:Int)(hn:c.ms.length<=1000000):∀(n i:Nat)(a:Int),c.ms.length-i=n->i<=c.ms.length->
 run T (.loop VL) ⟨[(1,.str v),(2,.int .i64 C),(7,.int .i64 a),(11,.lst 7 (dQ c.ms) .no),(12,.int .i64 c.ms.length),(13,.int .i64 i)],[(103,.rc c.sv)],[]⟩=some (.x 0,⟨[(7,.int .i64 ((c.ms.drop i).foldl (Je v C) a))],[(103,.rc c.sv)],[]⟩):=by
 intro n;have O:=dd c.ms;induction n with
 |zero=>
  intro i a Q h1;have hi:i=c.ms.length:=by omega
  rw[hi,bK,iP];obtain⟨⟨au,W⟩,ms,ws⟩:=c;simp only[Cat.sv]at*;rw[ai];simp only[go_sem,Qj,Ql,Qm,reduceIte]
 |succ n ih=>
  intro i a Q h1;have E:i<c.ms.length:=by omega
  have L:=cr i (by omega);have I:=fd c.ms i E;rw[hJ c.ms mnz i E,ez];have y:=ih (i+1) (Je v C a (c.ms.getD i mnz)) (by omega) (by omega);generalize (c.ms.drop (i+1)).foldl (Je v C) (Je v C a (c.ms.getD i mnz))=Z at*;generalize c.ms.getD i mnz=x at*;obtain⟨mv,m1,m2,m3,m4,me,mr⟩:=x;obtain⟨⟨au,W⟩,ms,ws⟩:=c;unfold Je at y;simp only[Man.sv,Cat.sv]at*
  by_cases J:mv=v
  ·subst J
   by_cases F:m3<=C
   ·rw[if_pos ⟨rfl,F⟩]at y
    rw[ai];simp only[go_sem,Qg,Qj,Qk,Ql,Qm,reduceIte,O,E,I,F,L,y]
   ·rw[if_neg (fun h=>F h.2)]at y
    rw[ai];simp only[go_sem,Qg,Qj,Qk,Ql,Qm,reduceIte,O,E,I,F,L,y]
  ·rw[if_neg (fun h=>J h.1)]at y
   rw[ai];simp only[go_sem,Qg,Qj,Qk,Ql,Qm,reduceIte,O,E,I,J,L,y]
theorem f25(c:Cat)(hn:c.ms.length<=1000000)(v:d9)(y:Int):call T 25 [.agg c.sv,.str v,.int .i64 y] [] 0=some ⟨.int .i64 (flr c.ms v y),[],[]⟩:=by have C:=l25 c v y hn _ 0 0 rfl (aY _);have E:=dd c.ms;unfold flr;rw[az,bj]at C;obtain⟨⟨au,F⟩,ms,ws⟩:=c;simp only[Cat.sv]at*;rw[aj xy4];simp only[go_sem,Qg,Qj,Qk,Ql,Qm,reduceCtorEq,reduceIte,E,C]
def inF(c:Cat)(y:Int)(m:Man):Bool:=decide (m.frm<=y)&&decide (y<m.til)&&decide (flr c.ms m.vendor y<=m.ver)&& !wdL y (bU m) c.ws
def wb(c:Cat)(y:Int):List Man:=c.ms.filter (inF c y)
theorem HO(l:List Man)(x:Man):dQ l++ [x.sv]=dQ (l++ [x]):=by rw[dQ,dQ,co];rfl
structure xY(c:Cat):Prop where
 m:∀x∈c.ms,dC x
 w:∀x∈c.ws,x.man.length<=32
 nm:c.ms.length<=100000
 nw:c.ws.length<=100000
theorem s28(c:Cat)(hc:xY c)(y:Int)(i:Nat)(C:i<c.ms.length)(O:List Man)(hO:O.length<=100000):
 run T (.loop AU) ⟨[(1,.int .i64 y),(2,.ptr 102 0),(5,.lst 7 (dQ O) (.id 105)),(9,.lst 7 (dQ c.ms) .no),(10,.int .i64 c.ms.length),(11,.int .i64 i)],[(102,.rc c.sv)],[105]⟩=
  run T (.loop AU) ⟨[(1,.int .i64 y),(2,.ptr 102 0),(5,.lst 7 (dQ (if inF c y (c.ms.getD i mnz)then O++ [c.ms.getD i mnz]else O)) (.id 105)),(9,.lst 7 (dQ c.ms) .no),(10,.int .i64 c.ms.length),(11,.int .i64 ((i+1:Nat):Int))],[(102,.rc c.sv)],[105]⟩:=by
 have a6:=hc.nm;have Q:=dd c.ms;have a2:=dd O;have J:=cr i (by omega);have E:=fd c.ms i C;have Z:=hc.m _ (bP c.ms mnz i C);generalize c.ms.getD i mnz=x at*;have hs:=HO O x;have g1:=f25 c (by omega) x.vendor y;have g2:=f57 c (by have:=hc.nw;omega) x Z y;unfold inF;clear hc Z;generalize flr c.ms x.vendor y=F at*;generalize wdL y (bU x) c.ws=W at*;obtain⟨mv,m1,m2,m3,m4,me,mr⟩:=x;obtain⟨⟨au,th⟩,ms,ws⟩:=c;simp only[Man.sv,Cat.sv]at*;have r1:(O.length+1)*96<=140737488355328:=by omega
 conv=>lhs;rw[ai]
 by_cases I:m3<=y
 ·by_cases q2:y<m4
  ·by_cases L:F<=m1
   ·have a1:m1≥F:=L
    cases W with
    |true=>simp only[go_sem,Qd,Qe,Qf,Qg,Qj,Qk,Ql,Qm,reduceCtorEq,reduceIte,Q,C,E,I,q2,g1,xiD,L,g2,xvG,J]
    |false=>simp only[go_sem,Qd,Qe,Qf,Qg,Qj,Qk,Ql,Qm,reduceCtorEq,reduceIte,Q,C,E,I,q2,g1,xiD,L,g2,xvG,J,a2,r1,<-hs]
   ·have a1:¬m1≥F:=L
    simp only[go_sem,Qd,Qe,Qf,Qg,Qj,Qk,Ql,Qm,reduceCtorEq,reduceIte,Q,C,E,I,q2,g1,xiD,L,J]
  ·simp only[go_sem,Qd,Qe,Qf,Qg,Qj,Qk,Ql,Qm,reduceCtorEq,reduceIte,Q,C,E,I,q2,J]
 ·simp only[go_sem,Qd,Qe,Qf,Qg,Qj,Qk,Ql,Qm,reduceCtorEq,reduceIte,Q,C,E,I,J]
theorem l28(c:Cat)(I:xY c)(y:Int):∀(n i:Nat)(O:List Man),c.ms.length-i=n->i<=c.ms.length->O.length<=i->
 run T (.loop AU) ⟨[(1,.int .i64 y),(2,.ptr 102 0),(5,.lst 7 (dQ O) (.id 105)),(9,.lst 7 (dQ c.ms) .no),(10,.int .i64 c.ms.length),(11,.int .i64 i)],[(102,.rc c.sv)],[105]⟩=
  some (.x 0,⟨[(5,.lst 7 (dQ (O++(c.ms.drop i).filter (inF c y))) (.id 105))],[(102,.rc c.sv)],[105]⟩):=by
 have L:=I.nm;intro n;induction n with
 |zero=>
  intro i O J W Q;have hi:i=c.ms.length:=by omega
  rw[hi,bK,List.filter_nil,bA];obtain⟨⟨au,Z⟩,ms,ws⟩:=c;simp only[Cat.sv]at*;rw[ai];simp only[go_sem,Qj,Ql,Qm,reduceIte]
 |succ n E=>
  intro i O J W Q;have F:i<c.ms.length:=by omega
  rw[s28 c I y i F O (by omega),hJ c.ms mnz i F]
  by_cases C:inF c y (c.ms.getD i mnz)=true
  ·rw[if_pos C,E (i+1) _ (by omega) (by omega) (by rw[ae,aG];omega),fT,if_pos C,ay];rfl
  ·rw[if_neg C,E (i+1) _ (by omega) (by omega) (by omega),fT,if_neg C]
theorem f28(c:Cat)(F:xY c)(y:Int):call T 28 [.agg c.sv,.int .i64 y] [] 0=some ⟨.lst 7 (dQ (wb c y)) .no,[],[]⟩:=by have C:=l28 c F y _ 0 [] rfl (aY _) (aK _);have I:=dd c.ms;have E:dQ []=[]:=rfl;rw[az,bj,aF,E]at C;have hz:c.ms.filter (inF c y)=wb c y:=rfl;rw[hz]at C;generalize wb c y=Z at*;obtain⟨⟨au,J⟩,ms,ws⟩:=c;simp only[Cat.sv]at*;rw[aj xy2];simp only[go_sem,Qg,Qj,Qk,Ql,Qm,reduceCtorEq,reduceIte,I,C]
def fk(c:Cat×Int):SV:= .tup [.agg c.1.sv,.int .i64 c.2]
theorem f85(c:Cat)(h:c.ms.length+c.ws.length<=1000):call T 85 [.agg c.sv] [] 0=some ⟨.bool (decide (16<=c.ms.length+c.ws.length)),[],[]⟩:=by
 have F:=dd c.ms;have C:=eG c.ws;obtain⟨⟨au,I⟩,ms,ws⟩:=c;simp only[Cat.sv]at*;have E:af.wrap ((ms.length:Int)+(ws.length:Int))=(ms.length:Int)+(ws.length:Int):=w64 (by omega) (by omega);rw[aj xyp]
 by_cases q:16<=ms.length+ws.length
 ·have y:(ms.length:Int)+(ws.length:Int)≥16:=by omega
  simp only[go_sem,Qg,Qj,Qk,Ql,Qm,reduceCtorEq,reduceIte,F,C,E,q,y]
 ·have y:¬(ms.length:Int)+(ws.length:Int)≥16:=by omega
  simp only[go_sem,Qg,Qj,Qk,Ql,Qm,reduceCtorEq,reduceIte,F,C,E,q,y]
theorem f87(L:List Man)(hn:L.length<=100000):call T 87 [.lst 7 (dQ L) .no] [] 0=some (if L=[]then⟨.lst 7 [] .clip,[],[]⟩else⟨.psl 100 7 0 L.length none,[(100,.arr 7 (dQ L))],[]⟩):=by
 rw[ff xyo];cases L with
 |nil=>rfl
 |cons x L=>rw[if_neg (by simp)];show(if(dQ L).length<=999999 then some (⟨.psl 100 7 0 ((dQ L).length+1) none,[(100,.arr 7 (x.sv::dQ L))],[]⟩:dV)else none)=_;rw[dd,if_pos (by rw[al]at hn;omega)];rfl
theorem xxn(m:Man):call T 86 [.lst 7 [] .clip,.int .i64 0,.lst 7 [m.sv] .no] [] 0=some ⟨.psl 100 7 0 1 none,[(100,.arr 7 (dQ [m]))],[]⟩:=by rw[ff xvo];rfl
theorem f86(L:List Man)(k:Nat)(m:Man)(y:k<=L.length)(hn:L.length<=100000):
 call T 86 [.psl 0 7 0 L.length none,.int .i64 k,.lst 7 [m.sv] .no] [.arr 7 (dQ L)] 0=some ⟨.psl 100 7 0 (L.length+1) none,[(100,.arr 7 (dQ (L.take k++m::L.drop k)))],[]⟩:=by
 rw[ff xvo];show(if(dQ L).length=L.length/\(0:Int)<=(k:Int)/\(k:Int)<=((L.length:Nat):Int)/\L.length<=1000000 then some (⟨.psl 100 7 0 (L.length+1) none,[(100,.arr 7 (kO (dQ L) (k:Int).toNat m.sv))],[]⟩:dV)else none)=_;rw[if_pos ⟨dd L,by omega,by omega,by omega⟩,Int.toNat_natCast,KD]
theorem f91(L:List Wd)(hn:L.length<=100000):call T 91 [.lst 2 (fi L) .no] [] 0=some (if L=[]then⟨.lst 2 [] .clip,[],[]⟩else⟨.psl 100 2 0 L.length none,[(100,.arr 2 (fi L))],[]⟩):=by
 rw[ff xyl];cases L with
 |nil=>rfl
 |cons x L=>rw[if_neg (by simp)];show(if(fi L).length<=999999 then some (⟨.psl 100 2 0 ((fi L).length+1) none,[(100,.arr 2 (x.sv::fi L))],[]⟩:dV)else none)=_;rw[eG,if_pos (by rw[al]at hn;omega)];rfl
theorem xxm(m:Wd):call T 90 [.lst 2 [] .clip,.int .i64 0,.lst 2 [m.sv] .no] [] 0=some ⟨.psl 100 2 0 1 none,[(100,.arr 2 (fi [m]))],[]⟩:=by rw[ff xvn];rfl
theorem f90(L:List Wd)(k:Nat)(m:Wd)(y:k<=L.length)(hn:L.length<=100000):
 call T 90 [.psl 0 2 0 L.length none,.int .i64 k,.lst 2 [m.sv] .no] [.arr 2 (fi L)] 0=some ⟨.psl 100 2 0 (L.length+1) none,[(100,.arr 2 (fi (L.take k++m::L.drop k)))],[]⟩:=by
 rw[ff xvn];show(if(fi L).length=L.length/\(0:Int)<=(k:Int)/\(k:Int)<=((L.length:Nat):Int)/\L.length<=1000000 then some (⟨.psl 100 2 0 (L.length+1) none,[(100,.arr 2 (kO (fi L) (k:Int).toNat m.sv))],[]⟩:dV)else none)=_;rw[if_pos ⟨eG L,by omega,by omega,by omega⟩,Int.toNat_natCast,Jy]
theorem qJ{α:Type}(k:Nat)(x:α):([]:List α).take k++x::([]:List α).drop k=[x]:=by simp
theorem zp{c:Cat}(h:ge c)(w:Wd):zq c.ws w=true↔w∈c.ws:=by unfold zq;rw[decide_eq_true_iff];exact(ZN h.sw w).symm
theorem f50(c:Cat)(h:ge c)(w:Wd):call T 50 [.agg c.sv,.agg w.sv] [] 0=some ⟨fk (ng c w),[],[]⟩:=by
 have hn:=h.n;have C:=f88 c.ws w h.sw (by omega);have I:=f85 c (by omega);have J:=f91 c.ws (by omega);have g4:=f90 c.ws (lbW c.ws w) w (nz _ _) (by omega);have g5:=xxm w;have hz:=nz c.ws w;have hi:=zp h w;unfold ng
 by_cases y:w∈c.ws
 ·rw[if_pos y]
  rw[hi.2 y]at C;generalize lbW c.ws w=K at*;clear h hi y;obtain⟨F,wf⟩:=w;obtain⟨⟨au,O⟩,ms,ws⟩:=c;simp only[Cat.sv,Wd.sv,fk]at*;rw[aj xik];simp only[go_sem,Qg,Qj,Qk,Ql,Qm,reduceCtorEq,reduceIte,C,xit]
 ·rw[if_neg y]
  have hf:zq c.ws w=false:=by
   cases hh:zq c.ws w with
   |true=>exact absurd (hi.1 hh) y
   |false=>rfl
  rw[hf]at C
  by_cases L:16<=c.ms.length+c.ws.length
  ·rw[if_pos L]
   rw[decide_eq_true L]at I;generalize lbW c.ws w=K at*;clear h hi y;obtain⟨F,wf⟩:=w;obtain⟨⟨au,O⟩,ms,ws⟩:=c;simp only[Cat.sv,Wd.sv,fk,pI,o8,dQ,fi,bO]at*;rw[aj xik];simp only[go_sem,Qg,Qj,Qk,Ql,Qm,reduceCtorEq,reduceIte,C,xit,I,UR]
  ·rw[if_neg L]
   rw[decide_eq_false L]at I;unfold tj
   by_cases E:c.ws=[]
   ·rw[E,aB]at hz
    obtain hk:lbW c.ws w=0:=by rw[E];omega
    rw[if_pos E]at J;rw[hk]at C g4 ⊢;rw[E,qJ];clear h hi y;obtain⟨F,wf⟩:=w;obtain⟨⟨au,O⟩,ms,ws⟩:=c;simp only at E;subst E;simp only[Cat.sv,Wd.sv,fk]at*;have a1:(fi [⟨F,wf⟩]).length=1:=rfl;generalize fi [⟨F,wf⟩]=Z at*;have W:1<=Z.length:=by omega
    have Q:Z.take 1=Z:=aT (by omega);rw[aj xik];simp only[go_sem,Qd,Qe,Qf,Qg,Qi,Qj,Qk,Ql,Qm,reduceCtorEq,reduceIte,C,xit,I,UR,J,xvB,g5,xvC,W,Q]
   ·rw[if_neg E]at J
    generalize lbW c.ws w=K at*;clear h hi y;obtain⟨F,wf⟩:=w;obtain⟨⟨au,O⟩,ms,ws⟩:=c;simp only[Cat.sv,Wd.sv,fk]at*
    have a1:(fi (ws.take K++⟨F,wf⟩::ws.drop K)).length=ws.length+1:=by rw[eG,ae,al,an,aE];omega
    generalize fi (ws.take K++⟨F,wf⟩::ws.drop K)=Z at*;have W:ws.length+1<=Z.length:=by omega
    have Q:Z.take (ws.length+1)=Z:=aT (by omega);rw[aj xik];simp only[go_sem,Qd,Qe,Qf,Qg,Qi,Qj,Qk,Ql,Qm,reduceCtorEq,reduceIte,C,xit,I,UR,J,xvB,g4,xvC,W,Q]
def zZ:aH:= .rc [.lst 2 [] .clip,.int .i64 0,.lst 7 [] .clip,.lst 2 [] .clip]
theorem l48(c:Cat)(h:ge c)(m:Man)(hm:dC m)(he:fj m=0):∀(n i:Nat),ubM c.ms (bU m)-i=n->lbM c.ms (bU m)<=i->i<=ubM c.ms (bU m)->(∀k,lbM c.ms (bU m)<=k->k<i->c.ms.getD k mnz≠m)->
 run T (.loop Vy) ⟨[(2,.ptr 102 0),(3,.ptr 103 0),(4,.ptr 104 0),(6,.byt (bU m) .no),(7,.byt (eO m) .no),(8,.int .i64 i)],[(102,.rc c.sv),(103,.rc m.sv),(104,zZ)],[]⟩=
  @ite _ (m∈c.ms) (Classical.propDecidable _) (some (.r,⟨[(4,.ptr 104 0),(5,.int .i64 0)],[(102,.rc c.sv),(103,.rc m.sv),(104,.rc c.sv)],[]⟩))
   (some (.x 0,⟨[(2,.ptr 102 0),(3,.ptr 103 0),(4,.ptr 104 0),(8,.int .i64 (ubM c.ms (bU m)))],[(102,.rc c.sv),(103,.rc m.sv),(104,zZ)],[]⟩)):=by
 intro n;have hv:=dd c.ms;have a6:=kR c.ms (bU m);have hn:=h.n;have W:=h.sm;induction n with
 |zero=>
  intro i h0 h1 h2 C;have hi:i=ubM c.ms (bU m):=by omega
  have Z:m∉c.ms:=fun h=>by obtain⟨k,k1,k2,k3⟩:=(F0 W m).1 h;exact C k k1 (by omega) k3
  rw[if_neg Z,<-hi]
  by_cases J:i<c.ms.length
  ·have hg:=fd c.ms i J
   have y:=FZ W (bU m) i J h1;have I:=(h.m _ (bP c.ms mnz i J)).1;generalize c.ms.getD i mnz=x at*;have g0:=f32 x I;have Q:=f84 (bU x) (bU m);have O:¬bU x=bU m:=fun e=>by have:=y.1 e;omega
   generalize bU m=D at*;generalize bU x=X at*;clear h W y I Z C;generalize eO m=E at*;obtain⟨xv,x1,x2,x3,x4,xe,xr⟩:=x;obtain⟨⟨au,th⟩,ms,ws⟩:=c;obtain⟨mv,m1,m2,m3,m4,me,mr⟩:=m;simp only[Man.sv,Cat.sv,zZ]at*;rw[ai];simp only[go_sem,Qg,Qj,Qk,Ql,Qm,reduceIte,hv,J,hg,g0,wY,Q,xiu,O]
  ·clear h W Z C
   generalize bU m=D at*;generalize eO m=E at*;obtain⟨⟨au,th⟩,ms,ws⟩:=c;obtain⟨mv,m1,m2,m3,m4,me,mr⟩:=m;simp only[Man.sv,Cat.sv,zZ]at*;rw[ai];simp only[go_sem,Qg,Qj,Qk,Ql,Qm,reduceIte,hv,J]
 |succ n ih=>
  intro i h0 h1 h2 C;have J:i<c.ms.length:=by omega
  have e1:=cr i (by omega);have hg:=fd c.ms i J;have y:=FZ W (bU m) i J h1;have L:=bP c.ms mnz i J;obtain⟨I,a2⟩:=h.m _ L;have O:bU (c.ms.getD i mnz)=bU m:=y.2 (by omega)
  by_cases hx:c.ms.getD i mnz=m
  ·rw[hx]at L hg
   rw[if_pos L];have g0:=f32 m hm;have Q:=f84 (bU m) (bU m);have g2:=f59 m hm;have g3:=f84 (eO m) (eO m);rw[decide_eq_true rfl]at Q g3;clear h W y I C ih L hx O;generalize bU m=D at*;generalize eO m=E at*;obtain⟨⟨au,th⟩,ms,ws⟩:=c;obtain⟨mv,m1,m2,m3,m4,me,mr⟩:=m;simp only[Man.sv,Cat.sv,zZ]at*;rw[ai];simp only[go_sem,Qg,Qj,Qk,Ql,Qm,reduceIte,hv,J,hg,g0,wY,Q,xiu,g2,GL,g3]
  ·have a1:=ih (i+1) (by omega) (by omega) (by omega) (fun k k1 k2=>by
    rcases bQ k i with h|h
    ·exact C k k1 h
    ·rw[show k=i by omega];exact hx)
   rw[<-a1];have hE:¬eO (c.ms.getD i mnz)=eO m:=fun e=>hx (xaw a2 he e)
   generalize c.ms.getD i mnz=x at*;have g0:=f32 x I;have Q:=f84 (bU x) (bU m);have g2:=f59 x I;have g3:=f84 (eO x) (eO m);rw[decide_eq_true O]at Q;rw[decide_eq_false hE]at g3;clear h W y I C ih a1 L O;generalize bU x=X at*;generalize eO x=F at*;generalize bU m=D at*;generalize eO m=E at*;obtain⟨xv,x1,x2,x3,x4,xe,xr⟩:=x;obtain⟨⟨au,th⟩,ms,ws⟩:=c;obtain⟨mv,m1,m2,m3,m4,me,mr⟩:=m;simp only[Man.sv,Cat.sv,zZ]at*
   conv=>lhs;rw[ai]
   simp only[go_sem,Qg,Qj,Qk,Ql,Qm,reduceIte,hv,J,hg,g0,wY,Q,xiu,g2,GL,g3,e1]
theorem f48(c:Cat)(h:ge c)(m:Man)(hm:dC m)(he:fj m=0):call T 48 [.agg c.sv,.agg m.sv] [] 0=some ⟨fk (mN c m),[],[]⟩:=by
 have hn:=h.n;have g0:=f32 m hm;have y:=f59 m hm;obtain⟨b,g1⟩:=f81 c.ms (fun x hx=>(h.m x hx).1) (bU m) h.sm (by omega);have g2:=f85 c (by omega);have g3:=f87 c.ms (by omega);have g4:=f86 c.ms (ubM c.ms (bU m)) m (kR _ _) (by omega);have g5:=xxn m;have hz:=kR c.ms (bU m);have W:=l48 c h m hm he _ _ rfl (aK _) (xrj h.sm (bU m)) (fun k k1 k2=>by omega);unfold mN
 by_cases C:m∈c.ms
 ·rw[if_pos C]
  rw[if_pos C]at W;clear h C g3 g4 g5;generalize ubM c.ms (bU m)=K at*;generalize lbM c.ms (bU m)=J at*;generalize bU m=D at*;generalize eO m=E at*;obtain⟨I,Q,m2,m3,m4,L,O⟩:=m;obtain⟨⟨au,th⟩,ms,ws⟩:=c;simp only[Cat.sv,Man.sv,fk,zZ]at*;rw[aj xil];simp only[go_sem,Qd,Qe,Qf,Qg,Qj,Qk,Ql,Qm,reduceCtorEq,reduceIte,g0,wY,y,GL,g1,xiw,W]
 ·rw[if_neg C]
  rw[if_neg C]at W
  by_cases q2:16<=c.ms.length+c.ws.length
  ·rw[if_pos q2]
   rw[decide_eq_true q2]at g2;clear h C g3 g4 g5;generalize ubM c.ms (bU m)=K at*;generalize lbM c.ms (bU m)=J at*;generalize bU m=D at*;generalize eO m=E at*;obtain⟨I,Q,m2,m3,m4,L,O⟩:=m;obtain⟨⟨au,th⟩,ms,ws⟩:=c;simp only[Cat.sv,Man.sv,fk,zZ,pI]at*;rw[aj xil];simp only[go_sem,Qd,Qe,Qf,Qg,Qj,Qk,Ql,Qm,reduceCtorEq,reduceIte,g0,wY,y,GL,g1,xiw,W,g2,UR];rfl
  ·rw[if_neg q2]
   rw[decide_eq_false q2]at g2;unfold mz
   by_cases F:c.ms=[]
   ·rw[F,aB]at hz
    have hk:ubM c.ms (bU m)=0:=by rw[F];omega
    rw[if_pos F]at g3;rw[hk]at W;rw[hk,F,qJ];clear h C g4;generalize lbM c.ms (bU m)=J at*;generalize bU m=D at*;generalize eO m=E at*;obtain⟨I,Q,m2,m3,m4,L,O⟩:=m;obtain⟨⟨au,th⟩,ms,ws⟩:=c;simp only at F;subst F;simp only[Cat.sv,Man.sv,fk,zZ,az]at*;have a1:(dQ [⟨I,Q,m2,m3,m4,L,O⟩]).length=1:=rfl;generalize dQ [⟨I,Q,m2,m3,m4,L,O⟩]=Z at*;have z1:1<=Z.length:=by omega
    have z2:Z.take 1=Z:=aT (by omega);rw[aj xil];simp only[go_sem,Qd,Qe,Qf,Qg,Qi,Qj,Qk,Ql,Qm,reduceCtorEq,reduceIte,g0,wY,y,GL,g1,xiw,W,g2,UR,g3,xvD,g5,xvE,z1,z2]
   ·rw[if_neg F]at g3
    generalize ubM c.ms (bU m)=K at*;generalize lbM c.ms (bU m)=J at*;generalize bU m=D at*;generalize eO m=E at*;clear h C g5;obtain⟨I,Q,m2,m3,m4,L,O⟩:=m;obtain⟨⟨au,th⟩,ms,ws⟩:=c;simp only[Cat.sv,Man.sv,fk,zZ]at*
    have a1:(dQ (ms.take K++⟨I,Q,m2,m3,m4,L,O⟩::ms.drop K)).length=ms.length+1:=by rw[dd,ae,al,an,aE];omega
    generalize dQ (ms.take K++⟨I,Q,m2,m3,m4,L,O⟩::ms.drop K)=Z at*;have z1:ms.length+1<=Z.length:=by omega
    have z2:Z.take (ms.length+1)=Z:=aT (by omega);rw[aj xil];simp only[go_sem,Qd,Qe,Qf,Qg,Qi,Qj,Qk,Ql,Qm,reduceCtorEq,reduceIte,g0,wY,y,GL,g1,xiw,W,g2,UR,g3,xvD,g4,xvE,z1,z2]
noncomputable def kQ(c:Cat)(B:d9)(ms:List Mk):Cat×Int:=
 if mV c.t B ms=0 then(match jU B,lK B with
  |some m,_=>mN c m
  |none,some w=>ng c w
  |none,none=>(pI,30))
 else(pI,mV c.t B ms)
theorem qY{B:d9}{m:Man}(h:jU B=some m):dC m/\fj m=0:=by
 unfold jU at h;split at h
 ·rename_i y
  cases h;exact⟨vY B,y.2.2⟩
 ·cases h
theorem xaI{B:d9}{w:Wd}(h:lK B=some w):wdP B/\w=⟨(wM B).1,(wF B).1⟩:=by
 unfold lK at h;split at h
 ·rename_i y
  exact⟨y,(ax.inj h).symm⟩
 ·cases h
theorem xo2(B:d9)(n:Nat)(s:Rs):0<=(uR B n s).1:=by
 unfold uR;split
 ·split
  ·show(0:Int)<=((nB _:Nat):Int);omega
  ·show(0:Int)<=0;omega
 ·show(0:Int)<=0;omega
theorem uQ{B:d9}{w:Wd}(h:lK B=some w):oc w:=by
 obtain⟨⟨F, -,J⟩,rfl⟩:=xaI h;have E:=VW F
 have y:(wM B).2.e=0:=by
  by_cases q:(wM B).2.e=0
  ·exact q
  ·unfold wF at E
   rw[nh q]at E;exact E
 have I:(wT B).2.e=0:=by
  by_cases q:(wT B).2.e=0
  ·exact q
  ·unfold wM at y
   rw[LD q]at y;exact y
 refine⟨?_, ?_,J⟩
 ·unfold wM wR at y ⊢
  rw[if_pos I]at y ⊢;split at y
  ·rename_i C
   rw[if_pos C];show(eS _ _).length=32;rw[an,aE];omega
  ·have L:(2:Int)=0:=y
   omega
 ·exact xo2 B 6 (wM B).2
theorem DY{t:Tr}{B:d9}{ms:List Mk}(h:mV t B ms=0)(y:jU B=none):∃w,lK B=some w:=by
 unfold mV at h;cases hw:lK B with
 |some w=>exact⟨w,rfl⟩
 |none=>
  exfalso
  by_cases hE:trE t=0
  ·rw[if_pos hE]at h
   split at h
   ·cases h
   ·rw[if_pos ⟨y,hw⟩]at h;cases h
  ·rw[if_neg hE]at h;exact hE h
theorem xot:U.fn 19=some (.code F19):=LH.fn 19 _ xy7
theorem f19(c:Cat)(h:ge c)(B:d9)(ms:List Mk)(hB:B.length<=100000000):call U 19 [.agg c.sv,.agg (cJ B ms)] [] 0=some ⟨fk (kQ c B ms),[],[]⟩:=by
 have E:=f46 c.t B ms hB;have y:=up (f47 B (by omega));have F:=up (f49 B (by omega));unfold kQ
 by_cases C:mV c.t B ms=0
 ·rw[if_pos C]
  rw[C]at E;cases hp:jU B with
  |some m=>obtain⟨T,he⟩:=qY hp;have I:=up (f48 c h m T he);unfold zU zV at y;rw[hp]at y;simp only at y ⊢;generalize mN c m=Q at*;clear h C F;obtain⟨mv,m1,m2,m3,m4,me,mr⟩:=m;obtain⟨⟨au,J⟩,O,L⟩:=c;obtain⟨⟨⟨qa,qt⟩,qm,W⟩,qe⟩:=Q;simp only[Cat.sv,Man.sv,Tr.sv,fk,cJ]at*;rw[aj xot];simp only[go_sem,Qg,Qj,Qk,Ql,Qm,reduceCtorEq,reduceIte,US,E,xoA,y,Jv,I,xzh]
  |none=>obtain⟨w,Z⟩:=DY C hp;have I:=up (f50 c h w);rw[Z]at F ⊢;unfold zU zV at y;rw[hp]at y;simp only[mnz,Man.sv,di,dS,bO]at y ⊢;generalize ng c w=Q at*;clear h C;obtain⟨wm,wf⟩:=w;obtain⟨⟨au,J⟩,O,L⟩:=c;obtain⟨⟨⟨qa,qt⟩,qm,W⟩,qe⟩:=Q;simp only[Cat.sv,Wd.sv,wdO,Tr.sv,fk,cJ]at*;rw[aj xot];simp only[go_sem,Q7,Qg,Qj,Qk,Ql,Qm,reduceCtorEq,reduceIte,US,E,xoA,y,Jv,F,xiC,I,xzg]
 ·rw[if_neg C]
  generalize mV c.t B ms=e at*;clear h;obtain⟨⟨au,J⟩,O,L⟩:=c;simp only[Cat.sv,Tr.sv,fk,cJ,pI]at*;rw[aj xot];simp only[go_sem,Qg,Qj,Qk,Ql,Qm,reduceCtorEq,reduceIte,US,E,xoA,C];rfl
def kI(t:Tr):Cat×Int:=if trE t=0 then(⟨t,[],[]⟩,0)else(pI,trE t)
theorem f11(t:Tr):call T 11 [.agg t.sv] [] 0=some ⟨fk (kI t),[],[]⟩:=by
 have g:=f39 t;unfold kI
 by_cases hE:trE t=0
 ·rw[if_pos hE]
  rw[hE]at g;obtain⟨au,y⟩:=t;simp only[Cat.sv,Tr.sv,fk]at*;rw[aj xvA];simp only[go_sem,Qg,Qj,Qk,Ql,Qm,reduceCtorEq,reduceIte,g,BE];rfl
 ·rw[if_neg hE]
  generalize trE t=e at*;obtain⟨au,y⟩:=t;simp only[Cat.sv,Tr.sv,fk,pI]at*;rw[aj xvA];simp only[go_sem,Qg,Qj,Qk,Ql,Qm,reduceCtorEq,reduceIte,g,BE,hE];rfl
theorem f12(t:Tr):call T 12 [.agg t.sv] [] 0=some ⟨fk (kI t),[],[]⟩:=by
 have g:=f40 t;unfold kI
 by_cases hE:trE t=0
 ·rw[if_pos hE]
  rw[hE]at g;obtain⟨au,y⟩:=t;simp only[Cat.sv,Tr.sv,fk]at*;rw[aj xvz];simp only[go_sem,Qg,Qj,Qk,Ql,Qm,reduceCtorEq,reduceIte,g,wX];rfl
 ·rw[if_neg hE]
  generalize trE t=e at*;obtain⟨au,y⟩:=t;simp only[Cat.sv,Tr.sv,fk,pI]at*;rw[aj xvz];simp only[go_sem,Qg,Qj,Qk,Ql,Qm,reduceCtorEq,reduceIte,g,wX,hE];rfl
theorem HN(l:List Man)(n:Nat):(dQ l).take n=dQ (l.take n):=by simp[dQ,fN]
theorem HP(l:List Man)(n:Nat):(dQ l).drop n=dQ (l.drop n):=by simp[dQ,mF]
theorem GT(l:List Wd)(n:Nat):(fi l).take n=fi (l.take n):=by simp[fi,fN]
theorem GU(l:List Wd)(n:Nat):(fi l).drop n=fi (l.drop n):=by simp[fi,mF]
theorem f20(c:Cat)(h:ge c)(B:d9)(ms:List Mk)(hB:B.length<=100000000):call T 20 [.agg c.sv,.agg (cJ B ms)] [] 0=some ⟨fk (kQ c B ms),[],[]⟩:=by
 have Q:=f51 c.t B ms hB;have J:=f52 B (by omega);have Z:=f54 B (by omega);have hn:=h.n;have F:=dd c.ms;have E:=eG c.ws;unfold kQ
 by_cases L:mV c.t B ms=0
 ·rw[if_pos L]
  rw[L]at Q;have e0:af.wrap ((c.ms.length:Int)+(c.ws.length:Int))=(c.ms.length:Int)+(c.ws.length:Int):=w64 (by omega) (by omega);cases hp:jU B with
  |some m=>
   obtain⟨hm,he⟩:=qY hp;have I:=f53 c.ms m (fun x hx=>(h.m x hx).1) hm h.sm (by omega);unfold zU zV at J;rw[hp]at J;simp only at J ⊢;unfold mN;rcases I with⟨C,I⟩|⟨C,k,I⟩
   ·rw[if_neg C]
    by_cases q2:16<=c.ms.length+c.ws.length
    ·rw[if_pos q2]
     have y:(c.ms.length:Int)+(c.ws.length:Int)≥16:=by omega
     clear h L Z C;generalize ubM c.ms (bU m)=K at*;obtain⟨mv,m1,m2,m3,m4,me,mr⟩:=m;obtain⟨⟨au,th⟩,W,O⟩:=c;simp only[Cat.sv,Man.sv,Tr.sv,fk,cJ,pI]at*;rw[aj Jn];simp only[go_sem,Qg,Qj,Qk,Ql,Qm,reduceCtorEq,reduceIte,Q,Ju,F,E,e0,y,J,tz,I,xoz];rfl
    ·rw[if_neg q2]
     have y:¬(c.ms.length:Int)+(c.ws.length:Int)≥16:=by omega
     have hK:=kR c.ms (bU m);unfold mz;clear h L Z C;generalize ubM c.ms (bU m)=K at*;have r1:dQ (c.ms.take K++m::c.ms.drop K)=dQ (c.ms.take K)++ [m.sv]++dQ (c.ms.drop K):=by simp[dQ]
     have t1:=dd (c.ms.take K);have t2:=dd (c.ms.drop K);have t3:(c.ms.take K).length=K:=by rw[an];omega
     have t4:(c.ms.drop K).length=c.ms.length-K:=aE;have s1:K*96<=140737488355328:=by omega
     have s2:(K+1)*96<=140737488355328:=by omega
     have s3:(K+1+(c.ms.length-K))*96<=140737488355328:=by omega
     have t5:=HN c.ms K;have t6:=HP c.ms K;have t7:(dQ c.ms).take c.ms.length=dQ c.ms:=aT (by omega);simp only[fk,Cat.sv];rw[r1];obtain⟨mv,m1,m2,m3,m4,me,mr⟩:=m;obtain⟨⟨au,th⟩,W,O⟩:=c;simp only[Man.sv,Tr.sv,cJ]at*;rw[aj Jn];simp only[go_sem,Q4,Q5,Qd,Qe,Qf,Qg,Qj,Qk,Ql,Qm,reduceCtorEq,reduceIte,Q,Ju,F,E,e0,y,J,tz,I,xoz,hK,t5,t6,t1,t2,t3,t4,t7,s1,s2,s3]
   ·rw[if_pos C]
    clear h L Z C;obtain⟨mv,m1,m2,m3,m4,me,mr⟩:=m;obtain⟨⟨au,th⟩,W,O⟩:=c;simp only[Cat.sv,Man.sv,Tr.sv,fk,cJ]at*;rw[aj Jn]
    by_cases y:(W.length:Int)+(O.length:Int)≥16<;>
     simp only[go_sem,Qg,Qj,Qk,Ql,Qm,reduceCtorEq,reduceIte,Q,Ju,F,E,e0,y,J,tz,I,xoz]
  |none=>
   obtain⟨w,hw⟩:=DY L hp;have a1:=uQ hw;have I:=f55 c.ws w h.sw (Nat.le_of_eq a1.1) (fun x hx=>Nat.le_of_eq (h.w x hx).1) (by omega);have hi:=zp h w;rw[hw]at Z ⊢;unfold zU zV at J;rw[hp]at J;simp only[mnz,Man.sv,di,dS,bO]at J ⊢;unfold ng
   by_cases C:w∈c.ws
   ·rw[if_pos C]
    rw[hi.2 C]at I;clear h L C hi;generalize lbW c.ws w=K at*;obtain⟨wm,wf⟩:=w;obtain⟨⟨au,th⟩,W,O⟩:=c;simp only[Cat.sv,Wd.sv,wdO,Tr.sv,fk,cJ]at*;rw[aj Jn]
    by_cases y:(W.length:Int)+(O.length:Int)≥16<;>
     simp only[go_sem,Q7,Qg,Qj,Qk,Ql,Qm,reduceCtorEq,reduceIte,Q,Ju,F,E,e0,y,J,tz,Z,Ab,I,xoy]
   ·rw[if_neg C]
    have hf:zq c.ws w=false:=by
     cases hh:zq c.ws w with
     |true=>exact absurd (hi.1 hh) C
     |false=>rfl
    rw[hf]at I
    by_cases q2:16<=c.ms.length+c.ws.length
    ·rw[if_pos q2]
     have y:(c.ms.length:Int)+(c.ws.length:Int)≥16:=by omega
     clear h L C hi;generalize lbW c.ws w=K at*;obtain⟨wm,wf⟩:=w;obtain⟨⟨au,th⟩,W,O⟩:=c;simp only[Cat.sv,Wd.sv,wdO,Tr.sv,fk,cJ,pI]at*;rw[aj Jn];simp only[go_sem,Q7,Qg,Qj,Qk,Ql,Qm,reduceCtorEq,reduceIte,Q,Ju,F,E,e0,y,J,tz,Z,Ab,I,xoy];rfl
    ·rw[if_neg q2]
     have y:¬(c.ms.length:Int)+(c.ws.length:Int)≥16:=by omega
     have hK:=nz c.ws w;unfold tj;clear h L C hi hf;generalize lbW c.ws w=K at*;have r1:fi (c.ws.take K++w::c.ws.drop K)=fi (c.ws.take K)++ [w.sv]++fi (c.ws.drop K):=by simp[fi]
     have t1:=eG (c.ws.take K);have t2:=eG (c.ws.drop K);have t3:(c.ws.take K).length=K:=by rw[an];omega
     have t4:(c.ws.drop K).length=c.ws.length-K:=aE;have s1:K*32<=140737488355328:=by omega
     have s2:(K+1)*32<=140737488355328:=by omega
     have s3:(K+1+(c.ws.length-K))*32<=140737488355328:=by omega
     have t5:=GT c.ws K;have t6:=GU c.ws K;have t7:(fi c.ws).take c.ws.length=fi c.ws:=aT (by omega);simp only[fk,Cat.sv];rw[r1];obtain⟨wm,wf⟩:=w;obtain⟨⟨au,th⟩,W,O⟩:=c;simp only[Wd.sv,wdO,Tr.sv,cJ]at*;rw[aj Jn];simp only[go_sem,Q4,Q5,Q7,Qd,Qe,Qf,Qg,Qj,Qk,Ql,Qm,reduceCtorEq,reduceIte,Q,Ju,F,E,e0,y,J,tz,Z,Ab,I,xoy,hK,t5,t6,t1,t2,t3,t4,t7,s1,s2,s3]
 ·rw[if_neg L]
  generalize mV c.t B ms=e at*;clear h;obtain⟨⟨au,th⟩,W,O⟩:=c;simp only[Cat.sv,Tr.sv,fk,cJ,pI]at*;rw[aj Jn];simp only[go_sem,Qg,Qj,Qk,Ql,Qm,reduceCtorEq,reduceIte,Q,Ju,L];rfl
theorem l27(L:List Man)(Q:∀x∈L,dC x)(hn:L.length<=100000):∀(n i:Nat),L.length-i=n->i<=L.length->
 run T (.loop VH) ⟨[(0,.lst 7 (dQ L) .no),(1,.lst 7 (dQ L) .no),(5,.int .i64 i)],[],[]⟩=some (.x 0,⟨[],[],[]⟩):=by
 have E:=dd L;intro n;induction n with
 |zero=>
  intro i F W;have hi:i=L.length:=by omega
  subst hi;rw[ai];simp only[go_sem,Qj,Ql,Qm,reduceCtorEq,reduceIte,E]
 |succ n O=>
  intro i F W;have y:i<L.length:=by omega
  have J:=cr i (by omega);have I:=fd L i y;have g:=f56 (L.getD i mnz) (L.getD i mnz) (Q _ (bP L mnz i y));rw[VV rfl]at g;have C:=O (i+1) (by omega) (by omega);generalize L.getD i mnz=x at*;obtain⟨Z,m1,m2,m3,m4,me,mr⟩:=x;simp only[Man.sv]at*;rw[ai];simp only[go_sem,Qd,Qe,Qf,Qg,Qj,Ql,Qm,reduceCtorEq,reduceIte,E,y,I,g,xox,J,C]
theorem f27(L:List Man)(C:∀x∈L,dC x)(hn:L.length<=100000):call T 27 [.lst 7 (dQ L) .no,.lst 7 (dQ L) .no] [] 0=some ⟨.bool true,[],[]⟩:=by have y:=l27 L C hn _ 0 rfl (aY _);have E:=dd L;rw[az]at y;rw[aj xy3];simp only[go_sem,Qg,Qj,Qk,Ql,Qm,reduceCtorEq,reduceIte,E,y]
theorem xw0(c:Cat)(E:xY c):∀(n i:Nat),c.ws.length-i=n->i<=c.ws.length->
 run T (.loop VN) ⟨[(2,.ptr 102 0),(3,.ptr 103 0),(5,.int .i64 i)],[(102,.rc c.sv),(103,.rc c.sv)],[]⟩=some (.x 0,⟨[(2,.ptr 102 0),(3,.ptr 103 0)],[(102,.rc c.sv),(103,.rc c.sv)],[]⟩):=by
 have F:=eG c.ws;have hn:=E.nw;intro n;induction n with
 |zero=>
  intro i I W;have hi:i=c.ws.length:=by omega
  rw[hi];obtain⟨⟨au,J⟩,ms,ws⟩:=c;simp only[Cat.sv]at*;rw[ai];simp only[go_sem,Qg,Qj,Ql,Qm,reduceIte,F]
 |succ n Q=>
  intro i I W;have y:i<c.ws.length:=by omega
  have O:=cr i (by omega);have L:=jf c.ws i y;have g:=f41 (c.ws.getD i wd0) (c.ws.getD i wd0) (by have:=E.w _ (bP c.ws wd0 i y);omega);rw[decide_eq_true rfl]at g;have C:=Q (i+1) (by omega) (by omega);generalize c.ws.getD i wd0=x at*;obtain⟨Z,wf⟩:=x;obtain⟨⟨au,J⟩,ms,ws⟩:=c;simp only[Wd.sv,Cat.sv]at*;rw[ai];simp only[go_sem,Qd,Qe,Qf,Qg,Qj,Ql,Qm,reduceIte,F,y,L,g,xoB,O,C]
theorem xwZ(c:Cat)(hn:c.t.au.length<=100000)(W:∀a∈c.t.au,a.key.length<=140737488355328):∀(n i:Nat),c.t.au.length-i=n->i<=c.t.au.length->
 run T (.loop Cy) ⟨[(2,.ptr 102 0),(3,.ptr 103 0),(6,.int .i64 i)],[(102,.rc c.sv),(103,.rc c.sv)],[]⟩=some (.x 2,⟨[],[(102,.rc c.sv),(103,.rc c.sv)],[]⟩):=by
 have E:=fB c.t.au;intro n;induction n with
 |zero=>
  intro i I Z;have hi:i=c.t.au.length:=by omega
  rw[hi];obtain⟨⟨au,J⟩,ms,ws⟩:=c;simp only[Cat.sv]at*;rw[ai];simp only[go_sem,Qg,Qj,Qk,Ql,Qm,reduceIte,E]
 |succ n O=>
  intro i I Z;have y:i<c.t.au.length:=by omega
  have L:=cr i (by omega);have F:=iE c.t.au i y;have g:=f31 (c.t.au.getD i au0).key (c.t.au.getD i au0).key (W _ (bP c.t.au au0 i y));rw[decide_eq_true rfl]at g;have C:=O (i+1) (by omega) (by omega);obtain⟨⟨au,J⟩,ms,ws⟩:=c;simp only at E F g y;generalize au.getD i au0=x at*;obtain⟨Q,ak⟩:=x;simp only[Au.sv,Cat.sv]at*;rw[ai];simp only[go_sem,Qd,Qe,Qf,Qg,Qj,Qk,Ql,Qm,reduceIte,E,y,F,g,vg,L,C]
theorem f13(c:Cat)(y:xY c)(hn:c.t.au.length<=100000)(J:∀a∈c.t.au,a.key.length<=140737488355328):call T 13 [.agg c.sv,.agg c.sv] [] 0=some ⟨.bool true,[],[]⟩:=by have g:=f27 c.ms y.m y.nm;have E:=xw0 c y _ 0 rfl (aY _);have C:=xwZ c hn J _ 0 rfl (aY _);have F:=eG c.ws;have I:=fB c.t.au;rw[az]at E C;obtain⟨⟨au,L⟩,ms,ws⟩:=c;simp only[Cat.sv]at*;rw[aj xzd];simp only[go_sem,Qg,Qj,Qk,Ql,Qm,reduceCtorEq,reduceIte,g,xvL,F,I,E,C]
theorem DX(k:Nat)(C:k<=2)(thr w:Int)(B:d9)(E:td B)(F:(trL k thr).thr<=(xaK w (k+1):Int)):mV (trL k thr) B (gi w B)=0:=by
 have I:=J7 w B;unfold mV
 rw[if_pos (Ai k C thr),if_neg (by omega),if_neg (fun h=>by
  rcases E with y|y
  ·exact y h.1
  ·exact y h.2),Hs k C,zo,if_neg (by omega)]
theorem U1(B:d9)(y:td B):mV (trL 0 0) B (gi 1 B)=0:=DX 0 (by decide) 0 1 B y (by decide)
theorem Iw(k:Nat)(E:k<=2)(thr:Int)(B:d9)(C:td B):mV (trL k thr) B (gi 7 B)=0:=by
 refine DX k E thr 7 B C ?_;show 1+iv thr ((k+1:Nat):Int)<=_;have F:=mu thr ((k+1:Nat):Int) (by omega)
 have y:xaK 7 (k+1)=k+1:=by rcases (by omega:k=0\/k=1\/k=2)with rfl|rfl|rfl<;>decide
 rw[y];omega
theorem xx5(w:Wd)(h:oc w):jU (fU w)=none:=by
 have C:wT (fU w)=(22,⟨1,0⟩):=by
  have y:be 6 (aQ.wrap w.frm)=bu 6 w.frm:=rfl;have e:fU w=[]++([22]++(w.man++bu 6 w.frm)):=by rw[fU,if_pos h,y];rfl
  have:=jO (B:=fU w) (P:=[]) (X:=[22]) 1 e rfl;exact this
 unfold jU;rw[if_neg];intro E;have:=E.1;change (wT (fU w)).1=21 at this;rw[C]at this;exact absurd this (by decide)
theorem IV{m:Man}(h:fj m=0):td (eO m):= .inl (by rw[mB h];simp)
theorem VZ{w:Wd}(h:oc w):td (fU w):= .inr (by rw[zT w h];simp)
theorem xT{c:Cat}{m:Man}(h:fj m=0){ms:List Mk}(y:mV c.t (eO m) ms=0):kQ c (eO m) ms=mN c m:=by unfold kQ;rw[if_pos y,mB h]
theorem C0{c:Cat}{w:Wd}(h:oc w){ms:List Mk}(y:mV c.t (fU w) ms=0):kQ c (fU w) ms=ng c w:=by unfold kQ;rw[if_pos y,xx5 w h,zT w h]
theorem xn0(c:Cat)(m:Man)(h:(mN c m).2=0):(mN c m).1.t=c.t:=by
 unfold mN at h ⊢;split at h
 ·rename_i q;rw[if_pos q]
 ·rename_i q;rw[if_neg q]
  split at h
  ·cases h
  ·rename_i y;rw[if_neg y]
theorem xnZ(c:Cat)(w:Wd)(h:(ng c w).2=0):(ng c w).1.t=c.t:=by
 unfold ng at h ⊢;split at h
 ·rename_i q;rw[if_pos q]
 ·rename_i q;rw[if_neg q]
  split at h
  ·cases h
  ·rename_i y;rw[if_neg y]
theorem xn1(c:Cat)(B:d9)(ms:List Mk)(h:(kQ c B ms).2=0):(kQ c B ms).1.t=c.t:=by
 unfold kQ at h ⊢;split at h
 ·rename_i q;rw[if_pos q]
  cases hp:jU B with
  |some m=>rw[hp]at h;exact xn0 c m h
  |none=>
   cases hw:lK B with
   |some w=>rw[hp,hw]at h;exact xnZ c w h
   |none=>rw[hp,hw]at h;cases h
 ·rename_i q;exact absurd h q
theorem rg{c:Cat}(y:ge c)(B:d9)(ms:List Mk)(h:(kQ c B ms).2=0):ge (kQ c B ms).1:=by
 unfold kQ at h ⊢;split at h
 ·rename_i q;rw[if_pos q]
  cases hp:jU B with
  |some m=>rw[hp]at h;exact xaO y (qY hp).1 (qY hp).2 h
  |none=>
   cases hw:lK B with
   |some w=>rw[hp,hw]at h;exact xaN y (uQ hw) h
   |none=>rw[hp,hw]at h;cases h
 ·rename_i q;exact absurd h q
theorem ge.bd{c:Cat}(h:ge c):xY c:=⟨fun x y=>(h.m x y).1,fun x y=>Nat.le_of_eq (h.w x y).1,by have:=h.n;omega,by have:=h.n;omega⟩
theorem wk(t:Tr):ge ⟨t,[],[]⟩:=⟨fO.nil,fO.nil,(fun x y=>by cases y),(fun x y=>by cases y),aY _⟩
def maA:Man:=⟨[118],1,0,0,100,[],[]⟩
def maB:Man:=⟨[118],2,2,10,100,[],[]⟩
noncomputable def wdC:Wd:=⟨bU maB,12⟩
theorem Ur:fj maA=0:=by decide
theorem CS:fj maB=0:=by decide
theorem Us:dC maA:=by constructor<;>simp[maA]
theorem CT:dC maB:=by constructor<;>simp[maB]
theorem Bt{m:Man}(h:fj m=0):(bU m).length=32:=by
 unfold bU
 rw[if_neg (fun e=>by have:=mB h;rw[e]at this;simp[jU,okP,uR]at this)]
 exact iu _
theorem BN:oc wdC:=⟨Bt CS,by decide,by decide⟩
def cN:Cat:=⟨trL 0 0,[],[]⟩
theorem xrX:ge cN:=wk _
theorem xlX{L:List Man}(hL:L=[maA,maB]\/L=[maB,maA]):wb ⟨trL 0 0,L,[wdC]⟩ 9=[maA]/\wb ⟨trL 0 0,L,[wdC]⟩ 10=[maB]/\wb ⟨trL 0 0,L,[wdC]⟩ 12=[]/\flr L [118] 12=2:=by rcases hL with rfl|rfl<;>simp[wb,inF,flr,Je,wdL,wdB,maA,maB,wdC]
theorem xo4:∃L:List Man,(L=[maA,maB]\/L=[maB,maA])/\
 kQ cN (eO maA) (gi 1 (eO maA))=(⟨trL 0 0,[maA],[]⟩,0)/\
 kQ ⟨trL 0 0,[maA],[]⟩ (eO maB) (gi 1 (eO maB))=(⟨trL 0 0,L,[]⟩,0)/\
 kQ ⟨trL 0 0,L,[]⟩ (fU wdC) (gi 1 (fU wdC))=(⟨trL 0 0,L,[wdC]⟩,0):=by
 refine⟨mz [maA] maB, ?_, ?_, ?_, ?_⟩
 ·unfold mz
  have y:=kR [maA] (bU maB);rw[aG]at y;rcases (by omega:ubM [maA] (bU maB)=0\/ubM [maA] (bU maB)=1)with h|h
  ·rw[h];exact .inr rfl
  ·rw[h];exact .inl rfl
 ·rw[xT (c:=cN) Ur (U1 _ (IV Ur))]
  unfold mN;rw[if_neg (by simp[cN]),if_neg (by simp[cN])];unfold mz cN;rw[qJ]
 ·rw[xT (c:=⟨trL 0 0,[maA],[]⟩) CS (U1 _ (IV CS))]
  unfold mN;rw[if_neg (by simp[maA,maB]),if_neg (by simp)]
 ·have C:(mz [maA] maB).length=2:=rX _ _
  rw[C0 (c:=⟨trL 0 0,mz [maA] maB,[]⟩) BN (U1 _ (VZ BN))];unfold ng;rw[if_neg (by simp),if_neg (by show ¬16<=(mz [maA] maB).length+0;omega)];unfold tj;rw[qJ]
theorem U_9:U.fn 9=some (.code F9):=LH.fn 9 _ T_9
theorem xxW:call T 10 [.int .i64 0,.int .i64 0] [] 0=some ⟨.agg (trL 0 0).sv,[],[]⟩:=by
 obtain⟨k,C,h,g⟩:=f10 0 0 (by decide) (by decide) (by decide) (by decide);have y:iv 0 3=0:=by decide
 have:k=0:=by omega
 subst this;exact g
theorem f9:call U 9 [] [] 0=some ⟨.bool true,[],[]⟩:=by obtain⟨L,hL,O,Q,T⟩:=xo4;obtain⟨i1,i2,i3,i4⟩:=xlX hL;have k0:=xrX;have k1:=rg k0 (eO maA) (gi 1 (eO maA)) (by rw[O]);rw[O]at k1;have k2:=rg k1 (eO maB) (gi 1 (eO maB)) (by rw[Q]);rw[Q]at k2;have y:=rg k2 (fU wdC) (gi 1 (fU wdC)) (by rw[T]);rw[T]at y;have lA:=kg maA Us;have Z:=kg maB CT;have lW:=lJ wdC BN;have g1:=up xxW;have g2:=up (f11 (trL 0 0));rw[show kI (trL 0 0)=(cN,0)from if_pos (Ai 0 (by decide) 0)]at g2;have g3:=up (f34 maA Us);have g4:=up (f33 (eO maA) lA 1);have g5:=f19 cN k0 (eO maA) (gi 1 (eO maA)) lA;rw[O]at g5;have g6:=up (f34 maB CT);have g7:=up (f33 (eO maB) Z 1);have g8:=f19 _ k1 (eO maB) (gi 1 (eO maB)) Z;rw[Q]at g8;have g9:=up (f36 maB CT);have a1:=up (f35 wdC);have W:=up (f33 (fU wdC) (by omega) 1);have C:=f19 _ k2 (fU wdC) (gi 1 (fU wdC)) (by omega);rw[T]at C;have I:=up (f28 _ y.bd 9);have F:=up (f28 _ y.bd 10);have E:=up (f28 _ y.bd 12);have J:=up (f25 _ (mE y.bd.nm (by decide)) [118] 12);rw[i1]at I;rw[i2]at F;rw[i3]at E;simp only[i4]at J;clear O Q T i1 i2 i3 i4 k0 k1 k2 y lA Z lW hL;generalize trL 0 0=t at*;obtain⟨au,th⟩:=t;unfold wdC at*;generalize bU maB=D at*;simp only[cN,fk,Cat.sv,Tr.sv,Wd.sv,cJ,dQ,fi,bO,aI]at*;simp only[maA,maB,Man.sv,di,dS,bO]at*;rw[aj U_9];simp only[go_sem,Q4,Q5,Q6,Qd,Qe,Qf,Qg,Qj,Qk,Ql,Qm,reduceCtorEq,reduceIte,US,g1,xi8,g2,xi4,g3,xa9,g4,xba,g5,Ad,g6,g7,g8,g9,GN,a1,xoC,W,C,I,xvK,F,E,J,xiD]
theorem Yz{t:Tr}(h:trE t=0):t.au.length<=4/\∀a∈t.au,a.key.length=17:=by
 unfold trE at h;split at h
 ·cases h
 ·rename_i E
  refine⟨by omega,fun a C=> ?_⟩;split at h
  ·rename_i y
   obtain⟨i,hi,rfl⟩:=bg C;have:=wU _ 0 y i (aY _) (by omega);unfold auE at this;rw[aa,ac hi]at this;simp only[aM]at this;split at this
   ·cases this
   ·split at this
    ·cases this
    ·split at this
     ·omega
     ·cases this
  ·rename_i y;exact absurd h y
structure w6(c:Cat):Prop where
 ok:ge c
 n:c.t.au.length<=4
 k:∀a∈c.t.au,a.key.length<=17
theorem xva{c:Cat}(h:w6 c):call T 13 [.agg c.sv,.agg c.sv] [] 0=some ⟨.bool true,[],[]⟩:=
 f13 c h.ok.bd (by have:=h.n;omega) (fun a y=>by have:=h.k a y;omega)
theorem UJ:w6 pI:=⟨wk _,aY _,fun a y=>by cases y⟩
theorem UI(t:Tr):w6 (kI t).1:=by
 unfold kI;split
 ·rename_i h
  obtain⟨y,E⟩:=Yz h;exact⟨wk t,y,fun a C=>by rw[E a C];exact aK _⟩
 ·exact UJ
theorem CZ{c:Cat}(h:w6 c)(B:d9)(ms:List Mk):w6 (kQ c B ms).1:=by
 by_cases y:(kQ c B ms).2=0
 ·have C:=xn1 c B ms y
  exact⟨rg h.ok B ms y,by rw[C];exact h.n,by rw[C];exact h.k⟩
 ·have:(kQ c B ms).1=pI:=by
   unfold kQ mN ng at y ⊢
   repeat' split at y
   all_goals (repeat' split)
   all_goals first|rfl|(exfalso;exact y rfl)|(exfalso;contradiction)
  rw[this];exact UJ
def lQ(B:d9):d9:=B.take 32++iH (B.take 32).length (aL 32 0)
theorem ue(B:d9):(lQ B).length=32:=by unfold lQ;rw[ae,aE,dG,an];omega
theorem f43(B:d9):call T 43 [.byt B .no] [] 0=some ⟨.byt (lQ B) .no,[],[]⟩:=by have C:=ue B;have y:(lQ B).take 32=lQ B:=aT (by omega);unfold lQ at*;rw[aj xyQ];simp only[go_sem,Q4,Q5,Qg,Qj,Qk,Ql,Qm,reduceCtorEq,reduceIte,C,y]
theorem f42(B:d9)(j:Nat):call T 42 [.ptr 0 0] [aX B j] 0=some ⟨.bool (decide (j<B.length)),[(0,aX B j)],[]⟩:=by
 rw[aj xyR];simp only[aX]
 by_cases h:j<B.length
 ·simp only[go_sem,Qg,Qj,Qk,Ql,Qm,reduceCtorEq,reduceIte,h]
 ·simp only[go_sem,Qg,Qj,Qk,Ql,Qm,reduceCtorEq,reduceIte,h]
theorem zP{m:Man}(h:fj m=0):(bU m).length=32:=by
 unfold bU
 rw[if_neg (fun e=>by have:=mB h;rw[e]at this;simp[jU,okP,uR]at this)]
 exact iu _
inductive Itm where
 |m (x:Man)
 |w (x:Wd)
def Itm.body:Itm->d9
 | .m x=>eO x
 | .w x=>fU x
def Itm.OK:Itm->Prop
 | .m x=>dC x/\fj x=0
 | .w x=>oc x
noncomputable def pH(l:List Itm):d8:=l.map fun x=>cJ x.body (gi 7 x.body)
theorem iB(l:List Itm):(pH l).length=l.length:=aV ..
theorem oP(l:List Itm)(x:Itm):pH l++ [cJ x.body (gi 7 x.body)]=pH (l++ [x]):=by rw[pH,pH,co];rfl
theorem cc3:((3:Nat):Int)=3:=rfl
theorem cc5:((5:Nat):Int)=5:=rfl
theorem xvi:((30:Nat):Int)=30:=rfl
def DcS(l:List Itm):Prop:=∀x∈l,x.OK
theorem Gq{l:List Itm}{x:Itm}(h:DcS l)(E:x.OK):DcS (l++ [x]):=fun y C=>by
 rcases am.1 C with C|C
 ·exact h y C
 ·rw[bq.1 C];exact E
noncomputable def ua(B:d9)(C:List Img)(y:Int)(l:List Itm)(ms:List Man)(j:Nat):CSt:=
 ⟨[(1,.lst 4 (jC C) .no),(2,.int .i64 y),(7,.ptr 14100 0),(8,.lst 2 (pH l) (.id 108)),(9,.lst 7 (dQ ms) (.id 109))],[(14100,aX B j)],[108,109]⟩
theorem xv2(B:d9)(hB:B.length<=1000)(L:List Img)(hc:iG L)(y:Int)(l:List Itm)(ms:List Man)(j O:Nat)(hl:(l.length:Int)<y)(a2:l.length<=1000)(a1:ms.length<=1000)(hj:j<B.length)
 (C:ms=[]/\O=j\/ms≠ []/\∃v:Nat,v≠2/\call T 17 [.ptr 0 0,.int .i64 3] [aX B j] 0=some ⟨.int .i64 (v:Int),[(0,aX B O)],[]⟩):
 ∃(m:Man)(W:Nat),UW m/\run T (.loop kX) (ua B L y l ms j)=run T (.loop kX) (ua B L y (l++ [.m m]) (ms++ [m]) W):=by
 obtain⟨m,W,J,g⟩:=f44 B hB O L hc;refine⟨m,W,J, ?_⟩;have Q:=f42 B j;rw[decide_eq_true hj]at Q;have Z:=kg m J.bd;have g1:=f34 m J.bd;have g2:=f33 (eO m) Z 7;have hv:=iB l;have I:=dd ms;have b1:(l.length+1)*48<=140737488355328:=by omega
 have b2:(ms.length+1)*96<=140737488355328:=by omega
 have d1:=oP l (.m m);have d2:dQ ms++ [m.sv]=dQ (ms++ [m]):=by rw[dQ,dQ,co];rfl
 simp only[Itm.body]at d1;unfold ua;clear J hc;generalize eO m=E at*;generalize gi 7 E=S at*;obtain⟨mv,m1,m2,m3,m4,me,mr⟩:=m;simp only[aX,Man.sv,cJ]at*;rw[<-d1,<-d2];rcases C with⟨C,rfl⟩|⟨C,v,hv0,gv⟩
 ·have hz:¬(0:Int)<ms.length:=by rw[C];decide
  conv=>lhs;rw[ai]
  simp only[go_sem,Qg,Qi,Qj,Qk,Ql,Qm,reduceIte,Q,UU,hv,hl,I,hz,g,xvI,b1,b2,g1,xa9,g2,xba]
 ·have hz:(0:Int)<ms.length:=by have:=List.length_pos_iff.2 C;omega
  have F:¬(v:Int)=2:=by omega
  conv=>lhs;rw[ai]
  simp only[go_sem,Qg,Qi,Qj,Qk,Ql,Qm,reduceIte,Q,UU,hv,hl,I,hz,gv,gO,F,g,xvI,b1,b2,g1,xa9,g2,xba]
theorem xv1(B:d9)(L:B.length<=1000)(ch:List Img)(C:Int)(l:List Itm)(ms:List Man)(j j0:Nat)(hl:(l.length:Int)<C)(b0:l.length<=1000)(a7:ms.length<=1000)(hM:∀m∈ms,UW m)(hj:j<B.length)
 (h0:ms≠ []) (gv:call T 17 [.ptr 0 0,.int .i64 3] [aX B j] 0=some ⟨.int .i64 2,[(0,aX B j0)],[]⟩):
 ∃(w:Wd)(j':Nat),oc w/\run T (.loop kX) (ua B ch C l ms j)=run T (.loop kX) (ua B ch C (l++ [.w w]) ms j'):=by
 have W:=List.length_pos_iff.2 h0;obtain⟨k,j1,hk,g1⟩:=ku B L j0 ms.length W;have I:=hM _ (bP ms mnz k hk);have g2:=f36 (ms.getD k mnz) I.bd;have a2:=zP I.ok;obtain⟨v5,j2,a6,g3⟩:=ku B L j1 5 (by omega);rw[cc5]at g3;have gL:=f42 B j;rw[decide_eq_true hj]at gL;have hg:=fd ms k hk;have hv:=iB l;have Q:=dd ms;have hz:(0:Int)<ms.length:=by omega
 have b1:(l.length+1)*48<=140737488355328:=by omega
 generalize ms.getD k mnz=x at*;clear hM I
 by_cases q:v5=4
 ·subst q
  obtain⟨v3,j3,a8,g4⟩:=ku B L j2 3 (by omega);rw[cc3]at g4;obtain⟨y,j4,Z,O⟩:=ku B L j3 30 (by omega);rw[xvi]at O;have g6:=f43 [cf (v3:Int)];have F:oc ⟨lQ [cf (v3:Int)],y⟩:=⟨ue _,by show(0:Int)<=(y:Int);omega,by show(y:Int)<=1099511627776;omega⟩;refine⟨_,j4,F, ?_⟩;have g7:=f35 ⟨lQ [cf (v3:Int)],y⟩;have a1:=lJ _ F;have g8:=f33 (fU ⟨lQ [cf (v3:Int)],y⟩) (by omega) 7;have J:=oP l (.w ⟨lQ [cf (v3:Int)],y⟩);simp only[Itm.body]at J;unfold ua;clear F;generalize fU ⟨lQ [cf (v3:Int)],y⟩=E at*;generalize gi 7 E=S at*;generalize lQ [cf (v3:Int)]=D at*;obtain⟨mv,m1,m2,m3,m4,me,mr⟩:=x;simp only[aX,Man.sv,Wd.sv,cJ]at*;rw[<-J];rw[c4]at g3
  conv=>lhs;rw[ai]
  simp only[go_sem,Qg,Qi,Qj,Qk,Ql,Qm,reduceIte,gL,UU,hv,hl,Q,hz,gv,gO,g1,hk,hg,g2,GN,g3,g4,O,g6,xzi,g7,xoC,g8,xba,b1]
 ·obtain⟨y,j4,Z,O⟩:=ku B L j2 30 (by omega)
  rw[xvi]at O;have F:oc ⟨bU x,y⟩:=⟨a2,by show(0:Int)<=(y:Int);omega,by show(y:Int)<=1099511627776;omega⟩;refine⟨_,j4,F, ?_⟩;have g7:=f35 ⟨bU x,y⟩;have a1:=lJ _ F;have g8:=f33 (fU ⟨bU x,y⟩) (by omega) 7;have J:=oP l (.w ⟨bU x,y⟩);simp only[Itm.body]at J;unfold ua;clear F;generalize fU ⟨bU x,y⟩=E at*;generalize gi 7 E=S at*;generalize bU x=D at*;obtain⟨mv,m1,m2,m3,m4,me,mr⟩:=x;simp only[aX,Man.sv,Wd.sv,cJ]at*;rw[<-J];have q':¬(v5:Int)=4:=by omega
  conv=>lhs;rw[ai]
  simp only[go_sem,Qg,Qi,Qj,Qk,Ql,Qm,reduceIte,gL,UU,hv,hl,Q,hz,gv,gO,g1,hk,hg,g2,GN,g3,q',O,g7,xoC,g8,xba,b1]
theorem l14(B:d9)(hB:B.length<=1000)(L:List Img)(hc:iG L)(C:Nat)(a8:C<=10):∀(n:Nat)(l:List Itm)(ms:List Man)(j:Nat),C-l.length=n->l.length<=C->ms.length<=l.length->DcS l->(∀m∈ms,UW m)->
 ∃(J:List Itm)(ob:List (Nat×aH)),DcS J/\J.length<=C/\run T (.loop kX) (ua B L (C:Int) l ms j)=some (.x 0,⟨[(8,.lst 2 (pH J) (.id 108))],ob,[108,109]⟩):=by
 intro n
 have E:∀(l:List Itm)(ms:List Man)(j:Nat),l.length<=C->(¬j<B.length\/¬(l.length:Int)<C)->run T (.loop kX) (ua B L (C:Int) l ms j)=some (.x 0,⟨[(8,.lst 2 (pH l) (.id 108))],[(14100,aX B j)],[108,109]⟩):=by
  intro l ms j O h2;have gL:=f42 B j;have hv:=iB l;unfold ua;simp only[aX]at*;rw[ai]
  by_cases I:j<B.length
  ·rw[decide_eq_true I]at gL
   have hl:¬(l.length:Int)<C:=h2.resolve_left (fun h=>h I);simp only[go_sem,Qg,Qi,Qj,Qk,Ql,Qm,reduceIte,gL,UU,hv,hl]
  ·rw[decide_eq_false I]at gL
   simp only[go_sem,Qg,Qi,Qj,Qk,Ql,Qm,reduceIte,gL,UU]
 induction n with
 |zero=>intro l ms j h0 O h2 h3 h4;exact⟨l,_,h3,O,E l ms j O (.inr (by omega))⟩
 |succ n ih=>
  intro l ms j h0 O h2 h3 h4
  by_cases I:j<B.length
  ·have hl:(l.length:Int)<(C:Int):=by omega
   have Q:C-(l.length+1)=n:=by omega
   have a2:l.length+1<=C:=by omega
   have b0:ms.length+1<=l.length+1:=by omega
   have a7:ms.length<=l.length+1:=by omega
   have W:l.length<=1000:=by omega
   have a6:ms.length<=1000:=by omega
   have hM:∀(F:Nat),(ms=[]/\F=j\/ms≠ []/\∃v:Nat,v≠2/\call T 17 [.ptr 0 0,.int .i64 3] [aX B j] 0=some ⟨.int .i64 (v:Int),[(0,aX B F)],[]⟩)->∃(J:List Itm)(ob:List (Nat×aH)),DcS J/\J.length<=C/\run T (.loop kX) (ua B L (C:Int) l ms j)=some (.x 0,⟨[(8,.lst 2 (pH J) (.id 108))],ob,[108,109]⟩):=by
    intro F h;obtain⟨m,j',hm,e⟩:=xv2 B hB L hc C l ms j F hl W a6 I h;rw[e];refine ih (l++ [.m m]) (ms++ [m]) j' (by rw[ae,aG];exact Q) (by rw[ae,aG];exact a2) (by rw[ae,ae,aG,aG];exact b0) (Gq (x:=Itm.m m) h3 ⟨hm.bd,hm.ok⟩) (fun y Z=> ?_);rcases am.1 Z with Z|Z
    ·exact h4 y Z
    ·rw[bq.1 Z];exact hm
   by_cases hz:ms=[]
   ·exact hM j (.inl ⟨hz,rfl⟩)
   ·obtain⟨v,F,hv,g⟩:=ku B hB j 3 (by omega)
    rw[cc3]at g
    by_cases a1:v=2
    ·subst a1
     obtain⟨w,j',hw,e⟩:=xv1 B hB L C l ms j F hl W a6 h4 I hz g;rw[e];exact ih (l++ [.w w]) ms j' (by rw[ae,aG];exact Q) (by rw[ae,aG];exact a2) (by rw[ae,aG];exact a7) (Gq (x:=Itm.w w) h3 hw) h4
    ·exact hM F (.inr ⟨hz,v,a1,g⟩)
  ·exact⟨l,_,h3,O,E l ms j O (.inl I)⟩
theorem f14(a:d9)(C:List Img)(I:iG C)(y:Nat)(L:y<=10):∃l:List Itm,DcS l/\l.length<=y/\call T 14 [.byt a .no,.lst 4 (jC C) .no,.int .i64 y] [] 0=some ⟨.lst 2 (pH l) .no,[],[]⟩:=by
 have g0:=f16 a 160;rw[show((160:Nat):Int)=160 from rfl]at g0;have W:(a.take 160).length<=1000:=by rw[an];omega
 generalize a.take 160=B at*;obtain⟨l,ob,Q,J,F⟩:=l14 B W C I y L _ [] [] 0 rfl (aY _) (aK _) (fun x E=>by cases E) (fun x E=>by cases E);refine⟨l,Q,J, ?_⟩;have d0:pH []=[]:=rfl;have O:dQ []=[]:=rfl;rw[aj xzc];simp only[ua,aX,c0,d0,O]at g0 F ⊢;simp only[go_sem,Qg,Qi,Qj,Qk,Ql,Qm,reduceCtorEq,reduceIte,g0,xiO,F]
theorem sC(l:List Itm)(i:Nat)(h:i<l.length):(pH l).getD i []=cJ (l.getD i (.w wd0)).body (gi 7 (l.getD i (.w wd0)).body):=by simp[pH,aa,h]
theorem sG{x:Itm}(h:x.OK):x.body.length<=100000000:=by
 cases x with
 |m x=>exact kg x h.1
 |w x=>show(fU x).length<=_;rw[lJ x h];decide
noncomputable def lL(c:Cat)(x:Itm):Cat×Int:=kQ c x.body (gi 7 x.body)
end Go.Proofs.YtbfnljmmepcbfaaGreatDoor
