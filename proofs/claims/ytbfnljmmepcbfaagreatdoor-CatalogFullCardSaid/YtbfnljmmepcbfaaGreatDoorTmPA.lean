/- What the functions come to. No condition. -/
import Derived.Test.YtbfnljmmepcbfaaGreatDoorTjPA
import Derived.Test.YtbfnljmmepcbfaaGreatDoorTlPA
open Int renaming natCast_zero -> aD
open Go.IntKind renaming i64 -> ah
open List renaming append_assoc -> ay, append_nil -> bG, drop_length -> bP, drop_zero -> bh, filter_cons -> fq, foldl_cons -> dO, foldl_nil -> nH, length_append -> af, length_cons -> am, length_drop -> aL, length_nil -> aB, length_singleton -> br, length_take -> ax, map_append -> du, map_nil -> bX, nil_append -> aI, take_of_length_le -> bj
open Nat renaming le_refl -> aK, lt_or_ge -> bO, zero_le -> bH
open Option renaming some -> aq
set_option maxRecDepth 100000
set_option maxHeartbeats 16000000
set_option linter.unusedSimpArgs false
set_option linter.unusedVariables false
namespace Go.Proofs.YtbfnljmmepcbfaaGreatDoor
open Go.Sy
open UInt8 renaming reduceLT -> Q0, reduceLE -> Q1
open Int renaming reduceToNat -> Q2, reduceLE -> Q3, reduceLT -> Q4, reduceEq -> Q5, reduceNe -> Q6, reduceNeg -> Q7, reduceAdd -> Q8, reduceSub -> Q9, reduceMul -> Qa
open Nat renaming reducePow -> Qb, reduceDiv -> Qc, reduceMod -> Qd, reduceAdd -> Qe, reduceSub -> Qf, reduceMul -> Qg, reduceLT -> Qh, reduceLeDiff -> Qi, reduceEqDiff -> Qj, reduceBEq -> Qk
def Ef(v:List UInt8)(now a:Int)(m:Man):Int:=if m.vendor=v/\m.frm<=now then(if a<m.flr then m.flr else a)else a
def flr(L:List Man)(v:List UInt8)(now:Int):Int:=L.foldl (Ef v now) 0
theorem l25(c:Cat)(v:List UInt8)(now:Int)(hn:c.ms.length<=1000000):∀(n i:Nat)(a:Int),c.ms.length-i=n->i<=c.ms.length->
 run T (.loop N8) ⟨[(1,.str v),(2,.int .i64 now),(7,.int .i64 a),(11,.lst 7 (eH c.ms) .no),(12,.int .i64 c.ms.length),(13,.int .i64 i)],[(103,.rc c.sv)],[]⟩=some (.x 0,⟨[(7,.int .i64 ((c.ms.drop i).foldl (Ef v now) a))],[(103,.rc c.sv)],[]⟩):=by
 intro n;have hv:=dV c.ms;induction n with
 |zero=>
  intro i a h0 h1;have hi:i=c.ms.length:=by omega
  rw[hi,bP,nH];obtain⟨⟨au,th⟩,ms,ws⟩:=c;simp only[Cat.sv]at*;rw[ai];simp only[go_sem,Qh,Qj,Qk,reduceIte]
 |succ n ih=>
  intro i a h0 h1;have hq:i<c.ms.length:=by omega
  have e1:=cZ i (by omega);have hg:=ig c.ms i hq;rw[gh c.ms mnz i hq,dO];have ih':=ih (i+1) (Ef v now a (c.ms.getD i mnz)) (by omega) (by omega);generalize (c.ms.drop (i+1)).foldl (Ef v now) (Ef v now a (c.ms.getD i mnz))=Z at*;generalize c.ms.getD i mnz=x at*;obtain⟨mv,m1,m2,m3,m4,me,mr⟩:=x;obtain⟨⟨au,th⟩,ms,ws⟩:=c;unfold Ef at ih';simp only[Man.sv,Cat.sv]at*
  by_cases q1:mv=v
  ·subst q1
   by_cases q2:m3<=now
   ·rw[if_pos ⟨rfl,q2⟩]at ih'
    rw[ai];simp only[go_sem,Qe,Qh,Qi,Qj,Qk,reduceIte,hv,hq,hg,q2,e1,ih']
   ·rw[if_neg (fun h=>q2 h.2)]at ih'
    rw[ai];simp only[go_sem,Qe,Qh,Qi,Qj,Qk,reduceIte,hv,hq,hg,q2,e1,ih']
  ·rw[if_neg (fun h=>q1 h.1)]at ih'
   rw[ai];simp only[go_sem,Qe,Qh,Qi,Qj,Qk,reduceIte,hv,hq,hg,q1,e1,ih']
theorem f25(c:Cat)(hn:c.ms.length<=1000000)(v:List UInt8)(now:Int):call T 25 [.agg c.sv,.str v,.int .i64 now] [] 0=some ⟨.int .i64 (flr c.ms v now),[],[]⟩:=by have hl:=l25 c v now hn _ 0 0 rfl (bH _);have hv:=dV c.ms;unfold flr;rw[aD,bh]at hl;obtain⟨⟨au,th⟩,ms,ws⟩:=c;simp only[Cat.sv]at*;rw[an xmU];simp only[go_sem,Qe,Qh,Qi,Qj,Qk,reduceCtorEq,reduceIte,hv,hl]
def inF(c:Cat)(now:Int)(m:Man):Bool:=decide (m.frm<=now)&&decide (now<m.til)&&decide (flr c.ms m.vendor now<=m.ver)&& !wdL now (cD m) c.ws
def Ee(c:Cat)(now:Int):List Man:=c.ms.filter (inF c now)
theorem CZ(l:List Man)(x:Man):eH l++ [x.sv]=eH (l++ [x]):=by rw[eH,eH,du];rfl
structure uo(c:Cat):Prop where
 m:∀x∈c.ms,dz x
 w:∀x∈c.ws,x.man.length<=32
 nm:c.ms.length<=100000
 nw:c.ws.length<=100000
theorem s28(c:Cat)(hc:uo c)(now:Int)(i:Nat)(hq:i<c.ms.length)(O:List Man)(hO:O.length<=100000):
 run T (.loop w9) ⟨[(1,.int .i64 now),(2,.ptr 102 0),(5,.lst 7 (eH O) (.id 105)),(9,.lst 7 (eH c.ms) .no),(10,.int .i64 c.ms.length),(11,.int .i64 i)],[(102,.rc c.sv)],[105]⟩=
  run T (.loop w9) ⟨[(1,.int .i64 now),(2,.ptr 102 0),(5,.lst 7 (eH (if inF c now (c.ms.getD i mnz)then O++ [c.ms.getD i mnz]else O)) (.id 105)),(9,.lst 7 (eH c.ms) .no),(10,.int .i64 c.ms.length),(11,.int .i64 ((i+1:Nat):Int))],[(102,.rc c.sv)],[105]⟩:=by
 have hnm:=hc.nm;have hv:=dV c.ms;have hvO:=dV O;have e1:=cZ i (by omega);have hg:=ig c.ms i hq;have hbx:=hc.m _ (cE c.ms mnz i hq);generalize c.ms.getD i mnz=x at*;have hs:=CZ O x;have g1:=f25 c (by omega) x.vendor now;have g2:=f57 c (by have:=hc.nw;omega) x hbx now;unfold inF;clear hc hbx;generalize flr c.ms x.vendor now=F at*;generalize wdL now (cD x) c.ws=W at*;obtain⟨mv,m1,m2,m3,m4,me,mr⟩:=x;obtain⟨⟨au,th⟩,ms,ws⟩:=c;simp only[Man.sv,Cat.sv]at*;have r1:(O.length+1)*96<=140737488355328:=by omega
 conv=>lhs;rw[ai]
 by_cases q1:m3<=now
 ·by_cases q2:now<m4
  ·by_cases q3:F<=m1
   ·have q3':m1≥F:=q3
    cases W with
    |true=>simp only[go_sem,Qb,Qc,Qd,Qe,Qh,Qi,Qj,Qk,reduceCtorEq,reduceIte,hv,hq,hg,q1,q2,g1,YH,q3,g2,xj8,e1]
    |false=>simp only[go_sem,Qb,Qc,Qd,Qe,Qh,Qi,Qj,Qk,reduceCtorEq,reduceIte,hv,hq,hg,q1,q2,g1,YH,q3,g2,xj8,e1,hvO,r1,<-hs]
   ·have q3':¬m1≥F:=q3
    simp only[go_sem,Qb,Qc,Qd,Qe,Qh,Qi,Qj,Qk,reduceCtorEq,reduceIte,hv,hq,hg,q1,q2,g1,YH,q3,e1]
  ·simp only[go_sem,Qb,Qc,Qd,Qe,Qh,Qi,Qj,Qk,reduceCtorEq,reduceIte,hv,hq,hg,q1,q2,e1]
 ·simp only[go_sem,Qb,Qc,Qd,Qe,Qh,Qi,Qj,Qk,reduceCtorEq,reduceIte,hv,hq,hg,q1,e1]
theorem l28(c:Cat)(hc:uo c)(now:Int):∀(n i:Nat)(O:List Man),c.ms.length-i=n->i<=c.ms.length->O.length<=i->
 run T (.loop w9) ⟨[(1,.int .i64 now),(2,.ptr 102 0),(5,.lst 7 (eH O) (.id 105)),(9,.lst 7 (eH c.ms) .no),(10,.int .i64 c.ms.length),(11,.int .i64 i)],[(102,.rc c.sv)],[105]⟩=
  some (.x 0,⟨[(5,.lst 7 (eH (O++(c.ms.drop i).filter (inF c now))) (.id 105))],[(102,.rc c.sv)],[105]⟩):=by
 have hnm:=hc.nm;intro n;induction n with
 |zero=>
  intro i O h0 h1 h2;have hi:i=c.ms.length:=by omega
  rw[hi,bP,List.filter_nil,bG];obtain⟨⟨au,th⟩,ms,ws⟩:=c;simp only[Cat.sv]at*;rw[ai];simp only[go_sem,Qh,Qj,Qk,reduceIte]
 |succ n ih=>
  intro i O h0 h1 h2;have hq:i<c.ms.length:=by omega
  rw[s28 c hc now i hq O (by omega),gh c.ms mnz i hq]
  by_cases hb:inF c now (c.ms.getD i mnz)=true
  ·rw[if_pos hb,ih (i+1) _ (by omega) (by omega) (by rw[af,br];omega),fq,if_pos hb,ay];rfl
  ·rw[if_neg hb,ih (i+1) _ (by omega) (by omega) (by omega),fq,if_neg hb]
theorem f28(c:Cat)(hc:uo c)(now:Int):call T 28 [.agg c.sv,.int .i64 now] [] 0=some ⟨.lst 7 (eH (Ee c now)) .no,[],[]⟩:=by have hl:=l28 c hc now _ 0 [] rfl (bH _) (aK _);have hv:=dV c.ms;have h0:eH []=[]:=rfl;rw[aD,bh,aI,h0]at hl;have hz:c.ms.filter (inF c now)=Ee c now:=rfl;rw[hz]at hl;generalize Ee c now=Z at*;obtain⟨⟨au,th⟩,ms,ws⟩:=c;simp only[Cat.sv]at*;rw[an xmS];simp only[go_sem,Qe,Qh,Qi,Qj,Qk,reduceCtorEq,reduceIte,hv,hl]
def gp(c:Cat×Int):SV:= .tup [.agg c.1.sv,.int .i64 c.2]
theorem f85(c:Cat)(h:c.ms.length+c.ws.length<=1000):call T 85 [.agg c.sv] [] 0=some ⟨.bool (decide (16<=c.ms.length+c.ws.length)),[],[]⟩:=by
 have hv:=dV c.ms;have hw:=eQ c.ws;obtain⟨⟨au,th⟩,ms,ws⟩:=c;simp only[Cat.sv]at*;have e1:ah.wrap ((ms.length:Int)+(ws.length:Int))=(ms.length:Int)+(ws.length:Int):=w64 (by omega) (by omega);rw[an xmn]
 by_cases q:16<=ms.length+ws.length
 ·have q':(ms.length:Int)+(ws.length:Int)≥16:=by omega
  simp only[go_sem,Qe,Qh,Qi,Qj,Qk,reduceCtorEq,reduceIte,hv,hw,e1,q,q']
 ·have q':¬(ms.length:Int)+(ws.length:Int)≥16:=by omega
  simp only[go_sem,Qe,Qh,Qi,Qj,Qk,reduceCtorEq,reduceIte,hv,hw,e1,q,q']
theorem f87(L:List Man)(hn:L.length<=100000):call T 87 [.lst 7 (eH L) .no] [] 0=some (if L=[]then⟨.lst 7 [] .clip,[],[]⟩else⟨.psl 100 7 0 L.length none,[(100,.arr 7 (eH L))],[]⟩):=by
 rw[eF xmm];cases L with
 |nil=>rfl
 |cons x L=>rw[if_neg (by simp)];show(if(eH L).length<=999999 then some (⟨.psl 100 7 0 ((eH L).length+1) none,[(100,.arr 7 (x.sv::eH L))],[]⟩:dv)else none)=_;rw[dV,if_pos (by rw[am]at hn;omega)];rfl
theorem xlx(m:Man):call T 86 [.lst 7 [] .clip,.int .i64 0,.lst 7 [m.sv] .no] [] 0=some ⟨.psl 100 7 0 1 none,[(100,.arr 7 (eH [m]))],[]⟩:=by rw[eF xjS];rfl
theorem f86(L:List Man)(k:Nat)(m:Man)(hk:k<=L.length)(hn:L.length<=100000):
 call T 86 [.psl 0 7 0 L.length none,.int .i64 k,.lst 7 [m.sv] .no] [.arr 7 (eH L)] 0=some ⟨.psl 100 7 0 (L.length+1) none,[(100,.arr 7 (eH (L.take k++m::L.drop k)))],[]⟩:=by
 rw[eF xjS];show(if(eH L).length=L.length/\(0:Int)<=(k:Int)/\(k:Int)<=((L.length:Nat):Int)/\L.length<=1000000 then some (⟨.psl 100 7 0 (L.length+1) none,[(100,.arr 7 (jx (eH L) (k:Int).toNat m.sv))],[]⟩:dv)else none)=_;rw[if_pos ⟨dV L,by omega,by omega,by omega⟩,Int.toNat_natCast,FP]
theorem f91(L:List Wd)(hn:L.length<=100000):call T 91 [.lst 2 (gy L) .no] [] 0=some (if L=[]then⟨.lst 2 [] .clip,[],[]⟩else⟨.psl 100 2 0 L.length none,[(100,.arr 2 (gy L))],[]⟩):=by
 rw[eF xmj];cases L with
 |nil=>rfl
 |cons x L=>rw[if_neg (by simp)];show(if(gy L).length<=999999 then some (⟨.psl 100 2 0 ((gy L).length+1) none,[(100,.arr 2 (x.sv::gy L))],[]⟩:dv)else none)=_;rw[eQ,if_pos (by rw[am]at hn;omega)];rfl
theorem xlw(m:Wd):call T 90 [.lst 2 [] .clip,.int .i64 0,.lst 2 [m.sv] .no] [] 0=some ⟨.psl 100 2 0 1 none,[(100,.arr 2 (gy [m]))],[]⟩:=by rw[eF xjR];rfl
theorem f90(L:List Wd)(k:Nat)(m:Wd)(hk:k<=L.length)(hn:L.length<=100000):
 call T 90 [.psl 0 2 0 L.length none,.int .i64 k,.lst 2 [m.sv] .no] [.arr 2 (gy L)] 0=some ⟨.psl 100 2 0 (L.length+1) none,[(100,.arr 2 (gy (L.take k++m::L.drop k)))],[]⟩:=by
 rw[eF xjR];show(if(gy L).length=L.length/\(0:Int)<=(k:Int)/\(k:Int)<=((L.length:Nat):Int)/\L.length<=1000000 then some (⟨.psl 100 2 0 (L.length+1) none,[(100,.arr 2 (jx (gy L) (k:Int).toNat m.sv))],[]⟩:dv)else none)=_;rw[if_pos ⟨eQ L,by omega,by omega,by omega⟩,Int.toNat_natCast,EB]
theorem oE{α:Type}(k:Nat)(x:α):([]:List α).take k++x::([]:List α).drop k=[x]:=by simp
theorem F8{c:Cat}(h:iA c)(w:Wd):Nj c.ws w=true↔w∈c.ws:=by unfold Nj;rw[decide_eq_true_iff];exact(QE h.sw w).symm
theorem f50(c:Cat)(h:iA c)(w:Wd):call T 50 [.agg c.sv,.agg w.sv] [] 0=some ⟨gp (kG c w),[],[]⟩:=by
 have hn:=h.n;have g1:=f88 c.ws w h.sw (by omega);have g2:=f85 c (by omega);have g3:=f91 c.ws (by omega);have g4:=f90 c.ws (lbW c.ws w) w (qb _ _) (by omega);have g5:=xlw w;have hz:=qb c.ws w;have hi:=F8 h w;unfold kG
 by_cases q1:w∈c.ws
 ·rw[if_pos q1]
  rw[hi.2 q1]at g1;generalize lbW c.ws w=K at*;clear h hi q1;obtain⟨wm,wf⟩:=w;obtain⟨⟨au,th⟩,ms,ws⟩:=c;simp only[Cat.sv,Wd.sv,gp]at*;rw[an Yp];simp only[go_sem,Qe,Qh,Qi,Qj,Qk,reduceCtorEq,reduceIte,g1,Yx]
 ·rw[if_neg q1]
  have hf:Nj c.ws w=false:=by
   cases hh:Nj c.ws w with
   |true=>exact absurd (hi.1 hh) q1
   |false=>rfl
  rw[hf]at g1
  by_cases q2:16<=c.ms.length+c.ws.length
  ·rw[if_pos q2]
   rw[decide_eq_true q2]at g2;generalize lbW c.ws w=K at*;clear h hi q1;obtain⟨wm,wf⟩:=w;obtain⟨⟨au,th⟩,ms,ws⟩:=c;simp only[Cat.sv,Wd.sv,gp,oR,kX,eH,gy,bX]at*;rw[an Yp];simp only[go_sem,Qe,Qh,Qi,Qj,Qk,reduceCtorEq,reduceIte,g1,Yx,g2,Nw]
  ·rw[if_neg q2]
   rw[decide_eq_false q2]at g2;unfold oG
   by_cases q3:c.ws=[]
   ·rw[q3,aB]at hz
    obtain hk:lbW c.ws w=0:=by rw[q3];omega
    rw[if_pos q3]at g3;rw[hk]at g1 g4 ⊢;rw[q3,oE];clear h hi q1;obtain⟨wm,wf⟩:=w;obtain⟨⟨au,th⟩,ms,ws⟩:=c;simp only at q3;subst q3;simp only[Cat.sv,Wd.sv,gp]at*;have hz1:(gy [⟨wm,wf⟩]).length=1:=rfl;generalize gy [⟨wm,wf⟩]=Z at*;have z1:1<=Z.length:=by omega
    have z2:Z.take 1=Z:=bj (by omega);rw[an Yp];simp only[go_sem,Qb,Qc,Qd,Qe,Qg,Qh,Qi,Qj,Qk,reduceCtorEq,reduceIte,g1,Yx,g2,Nw,g3,xj3,g5,xj4,z1,z2]
   ·rw[if_neg q3]at g3
    generalize lbW c.ws w=K at*;clear h hi q1;obtain⟨wm,wf⟩:=w;obtain⟨⟨au,th⟩,ms,ws⟩:=c;simp only[Cat.sv,Wd.sv,gp]at*
    have hz1:(gy (ws.take K++⟨wm,wf⟩::ws.drop K)).length=ws.length+1:=by rw[eQ,af,am,ax,aL];omega
    generalize gy (ws.take K++⟨wm,wf⟩::ws.drop K)=Z at*;have z1:ws.length+1<=Z.length:=by omega
    have z2:Z.take (ws.length+1)=Z:=bj (by omega);rw[an Yp];simp only[go_sem,Qb,Qc,Qd,Qe,Qg,Qh,Qi,Qj,Qk,reduceCtorEq,reduceIte,g1,Yx,g2,Nw,g3,xj3,g4,xj4,z1,z2]
def v7:aC:= .rc [.lst 2 [] .clip,.int .i64 0,.lst 7 [] .clip,.lst 2 [] .clip]
theorem l48(c:Cat)(h:iA c)(m:Man)(hm:dz m)(he:fm m=0):∀(n i:Nat),ubM c.ms (cD m)-i=n->lbM c.ms (cD m)<=i->i<=ubM c.ms (cD m)->(∀k,lbM c.ms (cD m)<=k->k<i->c.ms.getD k mnz≠m)->
 run T (.loop NZ) ⟨[(2,.ptr 102 0),(3,.ptr 103 0),(4,.ptr 104 0),(6,.byt (cD m) .no),(7,.byt (dZ m) .no),(8,.int .i64 i)],[(102,.rc c.sv),(103,.rc m.sv),(104,v7)],[]⟩=
  @ite _ (m∈c.ms) (Classical.propDecidable _) (some (.r,⟨[(4,.ptr 104 0),(5,.int .i64 0)],[(102,.rc c.sv),(103,.rc m.sv),(104,.rc c.sv)],[]⟩))
   (some (.x 0,⟨[(2,.ptr 102 0),(3,.ptr 103 0),(4,.ptr 104 0),(8,.int .i64 (ubM c.ms (cD m)))],[(102,.rc c.sv),(103,.rc m.sv),(104,v7)],[]⟩)):=by
 intro n;have hv:=dV c.ms;have hle:=ll c.ms (cD m);have hn:=h.n;have hs:=h.sm;induction n with
 |zero=>
  intro i h0 h1 h2 hnk;have hi:i=ubM c.ms (cD m):=by omega
  have hnm:m∉c.ms:=fun h=>by obtain⟨k,k1,k2,k3⟩:=(QD hs m).1 h;exact hnk k k1 (by omega) k3
  rw[if_neg hnm,<-hi]
  by_cases hq:i<c.ms.length
  ·have hg:=ig c.ms i hq
   have hmid:=Bw hs (cD m) i hq h1;have hbx:=(h.m _ (cE c.ms mnz i hq)).1;generalize c.ms.getD i mnz=x at*;have g0:=f32 x hbx;have g1:=f84 (cD x) (cD m);have hne:¬cD x=cD m:=fun e=>by have:=hmid.1 e;omega
   generalize cD m=D at*;generalize cD x=X at*;clear h hs hmid hbx hnm hnk;generalize dZ m=E at*;obtain⟨xv,x1,x2,x3,x4,xe,xr⟩:=x;obtain⟨⟨au,th⟩,ms,ws⟩:=c;obtain⟨mv,m1,m2,m3,m4,me,mr⟩:=m;simp only[Man.sv,Cat.sv,v7]at*;rw[ai];simp only[go_sem,Qe,Qh,Qi,Qj,Qk,reduceIte,hv,hq,hg,g0,xU,g1,Yy,hne]
  ·clear h hs hnm hnk
   generalize cD m=D at*;generalize dZ m=E at*;obtain⟨⟨au,th⟩,ms,ws⟩:=c;obtain⟨mv,m1,m2,m3,m4,me,mr⟩:=m;simp only[Man.sv,Cat.sv,v7]at*;rw[ai];simp only[go_sem,Qe,Qh,Qi,Qj,Qk,reduceIte,hv,hq]
 |succ n ih=>
  intro i h0 h1 h2 hnk;have hq:i<c.ms.length:=by omega
  have e1:=cZ i (by omega);have hg:=ig c.ms i hq;have hmid:=Bw hs (cD m) i hq h1;have hmx:=cE c.ms mnz i hq;obtain⟨hbx,hex⟩:=h.m _ hmx;have hne:cD (c.ms.getD i mnz)=cD m:=hmid.2 (by omega)
  by_cases hx:c.ms.getD i mnz=m
  ·rw[hx]at hmx hg
   rw[if_pos hmx];have g0:=f32 m hm;have g1:=f84 (cD m) (cD m);have g2:=f59 m hm;have g3:=f84 (dZ m) (dZ m);rw[decide_eq_true rfl]at g1 g3;clear h hs hmid hbx hnk ih hmx hx hne;generalize cD m=D at*;generalize dZ m=E at*;obtain⟨⟨au,th⟩,ms,ws⟩:=c;obtain⟨mv,m1,m2,m3,m4,me,mr⟩:=m;simp only[Man.sv,Cat.sv,v7]at*;rw[ai];simp only[go_sem,Qe,Qh,Qi,Qj,Qk,reduceIte,hv,hq,hg,g0,xU,g1,Yy,g2,B0,g3]
  ·have ih':=ih (i+1) (by omega) (by omega) (by omega) (fun k k1 k2=>by
    rcases bO k i with h|h
    ·exact hnk k k1 h
    ·rw[show k=i by omega];exact hx)
   rw[<-ih'];have hE:¬dZ (c.ms.getD i mnz)=dZ m:=fun e=>hx (Rw hex he e)
   generalize c.ms.getD i mnz=x at*;have g0:=f32 x hbx;have g1:=f84 (cD x) (cD m);have g2:=f59 x hbx;have g3:=f84 (dZ x) (dZ m);rw[decide_eq_true hne]at g1;rw[decide_eq_false hE]at g3;clear h hs hmid hbx hnk ih ih' hmx hne;generalize cD x=X at*;generalize dZ x=F at*;generalize cD m=D at*;generalize dZ m=E at*;obtain⟨xv,x1,x2,x3,x4,xe,xr⟩:=x;obtain⟨⟨au,th⟩,ms,ws⟩:=c;obtain⟨mv,m1,m2,m3,m4,me,mr⟩:=m;simp only[Man.sv,Cat.sv,v7]at*
   conv=>lhs;rw[ai]
   simp only[go_sem,Qe,Qh,Qi,Qj,Qk,reduceIte,hv,hq,hg,g0,xU,g1,Yy,g2,B0,g3,e1]
theorem f48(c:Cat)(h:iA c)(m:Man)(hm:dz m)(he:fm m=0):call T 48 [.agg c.sv,.agg m.sv] [] 0=some ⟨gp (j7 c m),[],[]⟩:=by
 have hn:=h.n;have g0:=f32 m hm;have g0':=f59 m hm;obtain⟨b,g1⟩:=f81 c.ms (fun x hx=>(h.m x hx).1) (cD m) h.sm (by omega);have g2:=f85 c (by omega);have g3:=f87 c.ms (by omega);have g4:=f86 c.ms (ubM c.ms (cD m)) m (ll _ _) (by omega);have g5:=xlx m;have hz:=ll c.ms (cD m);have hl:=l48 c h m hm he _ _ rfl (aK _) (xfZ h.sm (cD m)) (fun k k1 k2=>by omega);unfold j7
 by_cases q1:m∈c.ms
 ·rw[if_pos q1]
  rw[if_pos q1]at hl;clear h q1 g3 g4 g5;generalize ubM c.ms (cD m)=K at*;generalize lbM c.ms (cD m)=J at*;generalize cD m=D at*;generalize dZ m=E at*;obtain⟨mv,m1,m2,m3,m4,me,mr⟩:=m;obtain⟨⟨au,th⟩,ms,ws⟩:=c;simp only[Cat.sv,Man.sv,gp,v7]at*;rw[an Yq];simp only[go_sem,Qb,Qc,Qd,Qe,Qh,Qi,Qj,Qk,reduceCtorEq,reduceIte,g0,xU,g0',B0,g1,YA,hl]
 ·rw[if_neg q1]
  rw[if_neg q1]at hl
  by_cases q2:16<=c.ms.length+c.ws.length
  ·rw[if_pos q2]
   rw[decide_eq_true q2]at g2;clear h q1 g3 g4 g5;generalize ubM c.ms (cD m)=K at*;generalize lbM c.ms (cD m)=J at*;generalize cD m=D at*;generalize dZ m=E at*;obtain⟨mv,m1,m2,m3,m4,me,mr⟩:=m;obtain⟨⟨au,th⟩,ms,ws⟩:=c;simp only[Cat.sv,Man.sv,gp,v7,oR]at*;rw[an Yq];simp only[go_sem,Qb,Qc,Qd,Qe,Qh,Qi,Qj,Qk,reduceCtorEq,reduceIte,g0,xU,g0',B0,g1,YA,hl,g2,Nw];rfl
  ·rw[if_neg q2]
   rw[decide_eq_false q2]at g2;unfold kT
   by_cases q3:c.ms=[]
   ·rw[q3,aB]at hz
    have hk:ubM c.ms (cD m)=0:=by rw[q3];omega
    rw[if_pos q3]at g3;rw[hk]at hl;rw[hk,q3,oE];clear h q1 g4;generalize lbM c.ms (cD m)=J at*;generalize cD m=D at*;generalize dZ m=E at*;obtain⟨mv,m1,m2,m3,m4,me,mr⟩:=m;obtain⟨⟨au,th⟩,ms,ws⟩:=c;simp only at q3;subst q3;simp only[Cat.sv,Man.sv,gp,v7,aD]at*;have hz1:(eH [⟨mv,m1,m2,m3,m4,me,mr⟩]).length=1:=rfl;generalize eH [⟨mv,m1,m2,m3,m4,me,mr⟩]=Z at*;have z1:1<=Z.length:=by omega
    have z2:Z.take 1=Z:=bj (by omega);rw[an Yq];simp only[go_sem,Qb,Qc,Qd,Qe,Qg,Qh,Qi,Qj,Qk,reduceCtorEq,reduceIte,g0,xU,g0',B0,g1,YA,hl,g2,Nw,g3,xj5,g5,xj6,z1,z2]
   ·rw[if_neg q3]at g3
    generalize ubM c.ms (cD m)=K at*;generalize lbM c.ms (cD m)=J at*;generalize cD m=D at*;generalize dZ m=E at*;clear h q1 g5;obtain⟨mv,m1,m2,m3,m4,me,mr⟩:=m;obtain⟨⟨au,th⟩,ms,ws⟩:=c;simp only[Cat.sv,Man.sv,gp,v7]at*
    have hz1:(eH (ms.take K++⟨mv,m1,m2,m3,m4,me,mr⟩::ms.drop K)).length=ms.length+1:=by rw[dV,af,am,ax,aL];omega
    generalize eH (ms.take K++⟨mv,m1,m2,m3,m4,me,mr⟩::ms.drop K)=Z at*;have z1:ms.length+1<=Z.length:=by omega
    have z2:Z.take (ms.length+1)=Z:=bj (by omega);rw[an Yq];simp only[go_sem,Qb,Qc,Qd,Qe,Qg,Qh,Qi,Qj,Qk,reduceCtorEq,reduceIte,g0,xU,g0',B0,g1,YA,hl,g2,Nw,g3,xj5,g4,xj6,z1,z2]
noncomputable def kH(c:Cat)(B:List UInt8)(ms:List Mk):Cat×Int:=
 if pM c.t B ms=0 then(match kU B,mW B with
  |some m,_=>j7 c m
  |none,some w=>kG c w
  |none,none=>(oR,30))
 else(oR,pM c.t B ms)
theorem sL{B:List UInt8}{m:Man}(h:kU B=some m):dz m/\fm m=0:=by
 unfold kU at h;split at h
 ·rename_i ho
  cases h;exact⟨sD B,ho.2.2⟩
 ·cases h
theorem RJ{B:List UInt8}{w:Wd}(h:mW B=some w):wdP B/\w=⟨(wM B).1,(wF B).1⟩:=by
 unfold mW at h;split at h
 ·rename_i ho
  exact⟨ho,(aq.inj h).symm⟩
 ·cases h
theorem xeg(B:List UInt8)(n:Nat)(s:Rs):0<=(uR B n s).1:=by
 unfold uR;split
 ·split
  ·show(0:Int)<=((nB _:Nat):Int);omega
  ·show(0:Int)<=0;omega
 ·show(0:Int)<=0;omega
theorem Dt{B:List UInt8}{w:Wd}(h:mW B=some w):nz w:=by
 obtain⟨⟨h1, -,h3⟩,rfl⟩:=RJ h;have e1:=xgy h1
 have e2:(wM B).2.e=0:=by
  by_cases q:(wM B).2.e=0
  ·exact q
  ·unfold wF at e1
   rw[xaA q]at e1;exact e1
 have e3:(wT B).2.e=0:=by
  by_cases q:(wT B).2.e=0
  ·exact q
  ·unfold wM at e2
   rw[xam q]at e2;exact e2
 refine⟨?_, ?_,h3⟩
 ·unfold wM wR at e2 ⊢
  rw[if_pos e3]at e2 ⊢;split at e2
  ·rename_i hle
   rw[if_pos hle];show(List.take _ _).length=32;rw[ax,aL];omega
  ·have e9:(2:Int)=0:=e2
   omega
 ·exact xeg B 6 (wM B).2
theorem O0{t:Tr}{B:List UInt8}{ms:List Mk}(h:pM t B ms=0)(hp:kU B=none):∃w,mW B=some w:=by
 unfold pM at h;cases hw:mW B with
 |some w=>exact⟨w,rfl⟩
 |none=>
  exfalso
  by_cases hE:trE t=0
  ·rw[if_pos hE]at h
   split at h
   ·cases h
   ·rw[if_pos ⟨hp,hw⟩]at h;cases h
  ·rw[if_neg hE]at h;exact hE h
theorem xdM:U.fn 19=some (.code F19):=GN.fn 19 _ xmW
theorem f19(c:Cat)(h:iA c)(B:List UInt8)(ms:List Mk)(hB:B.length<=100000000):call U 19 [.agg c.sv,.agg (dX B ms)] [] 0=some ⟨gp (kH c B ms),[],[]⟩:=by
 have g1:=f46 c.t B ms hB;have g2:=up (f47 B (by omega));have g3:=up (f49 B (by omega));unfold kH
 by_cases hv:pM c.t B ms=0
 ·rw[if_pos hv]
  rw[hv]at g1;cases hp:kU B with
  |some m=>obtain⟨hm,he⟩:=sL hp;have g4:=up (f48 c h m hm he);unfold RK RL at g2;rw[hp]at g2;simp only at g2 ⊢;generalize j7 c m=Q at*;clear h hv g3;obtain⟨mv,m1,m2,m3,m4,me,mr⟩:=m;obtain⟨⟨au,th⟩,cm,cw⟩:=c;obtain⟨⟨⟨qa,qt⟩,qm,qw⟩,qe⟩:=Q;simp only[Cat.sv,Man.sv,Tr.sv,gp,dX]at*;rw[an xdM];simp only[go_sem,Qe,Qh,Qi,Qj,Qk,reduceCtorEq,reduceIte,US,g1,xdQ,g2,Ew,g4,xm3]
  |none=>obtain⟨w,hw⟩:=O0 hv hp;have g4:=up (f50 c h w);rw[hw]at g3 ⊢;unfold RK RL at g2;rw[hp]at g2;simp only[mnz,Man.sv,eC,eG,bX]at g2 ⊢;generalize kG c w=Q at*;clear h hv;obtain⟨wm,wf⟩:=w;obtain⟨⟨au,th⟩,cm,cw⟩:=c;obtain⟨⟨⟨qa,qt⟩,qm,qw⟩,qe⟩:=Q;simp only[Cat.sv,Wd.sv,wdO,Tr.sv,gp,dX]at*;rw[an xdM];simp only[go_sem,Q5,Qe,Qh,Qi,Qj,Qk,reduceCtorEq,reduceIte,US,g1,xdQ,g2,Ew,g3,YF,g4,xm2]
 ·rw[if_neg hv]
  generalize pM c.t B ms=e at*;clear h;obtain⟨⟨au,th⟩,cm,cw⟩:=c;simp only[Cat.sv,Tr.sv,gp,dX,oR]at*;rw[an xdM];simp only[go_sem,Qe,Qh,Qi,Qj,Qk,reduceCtorEq,reduceIte,US,g1,xdQ,hv];rfl
def v8(t:Tr):Cat×Int:=if trE t=0 then(⟨t,[],[]⟩,0)else(oR,trE t)
theorem f11(t:Tr):call T 11 [.agg t.sv] [] 0=some ⟨gp (v8 t),[],[]⟩:=by
 have g:=f39 t;unfold v8
 by_cases hE:trE t=0
 ·rw[if_pos hE]
  rw[hE]at g;obtain⟨au,th⟩:=t;simp only[Cat.sv,Tr.sv,gp]at*;rw[an xj2];simp only[go_sem,Qe,Qh,Qi,Qj,Qk,reduceCtorEq,reduceIte,g,xT];rfl
 ·rw[if_neg hE]
  generalize trE t=e at*;obtain⟨au,th⟩:=t;simp only[Cat.sv,Tr.sv,gp,oR]at*;rw[an xj2];simp only[go_sem,Qe,Qh,Qi,Qj,Qk,reduceCtorEq,reduceIte,g,xT,hE];rfl
theorem f12(t:Tr):call T 12 [.agg t.sv] [] 0=some ⟨gp (v8 t),[],[]⟩:=by
 have g:=f40 t;unfold v8
 by_cases hE:trE t=0
 ·rw[if_pos hE]
  rw[hE]at g;obtain⟨au,th⟩:=t;simp only[Cat.sv,Tr.sv,gp]at*;rw[an xj1];simp only[go_sem,Qe,Qh,Qi,Qj,Qk,reduceCtorEq,reduceIte,g,xj9];rfl
 ·rw[if_neg hE]
  generalize trE t=e at*;obtain⟨au,th⟩:=t;simp only[Cat.sv,Tr.sv,gp,oR]at*;rw[an xj1];simp only[go_sem,Qe,Qh,Qi,Qj,Qk,reduceCtorEq,reduceIte,g,xj9,hE];rfl
end Go.Proofs.YtbfnljmmepcbfaaGreatDoor
