/- What the functions come to. No condition. -/
import Derived.Test.YtkcjdeofknkndaaGreatDoorTd
open Bool renaming and_eq_true -> ay, false_or -> ez, true_or -> mY
open Int renaming natCast_zero -> aC
open Go.IntKind renaming i64 -> ac
open List renaming all_cons -> iy, append_assoc -> aw, append_nil -> bC, drop -> ig, drop_eq_getElem_cons -> aX, drop_length -> bl, drop_zero -> bh, flatMap_cons -> jo, getD_cons_succ -> b9, getD_cons_zero -> bO, getD_eq_getElem?_getD -> aa, getElem?_append_left -> bg, getElem?_append_right -> bA, getElem?_eq_getElem -> ab, getElem_mem -> bj, getElem_of_mem -> bN, length_append -> af, length_cons -> ax, length_map -> aY, length_nil -> aV, length_replicate -> bS, length_set -> dp, length_singleton -> aD, length_take -> av, map_append -> cV, map_cons -> aE, mem_append -> ak, mem_singleton -> aN, nil_append -> aQ, replicate -> al, singleton_append -> dJ, take -> dr, take_length -> bK
open Nat renaming le_refl -> aL, lt_or_ge -> bH, mul_one -> dq, zero_le -> bM
open UInt8 renaming ofInt -> bF
set_option maxRecDepth 100000
set_option maxHeartbeats 16000000
set_option linter.unusedSimpArgs false
set_option linter.unusedVariables false
namespace Go.Proofs.YtkcjdeofknkndaaGreatDoor
open Go.Sy
open UInt8 renaming reduceLT -> Q0, reduceLE -> Q1
open Int renaming reduceToNat -> Q2, reduceLE -> Q3, reduceLT -> Q4, reduceEq -> Q5, reduceNe -> Q6, reduceNeg -> Q7, reduceAdd -> Q8, reduceSub -> Q9, reduceMul -> Qa
open Nat renaming reducePow -> Qb, reduceDiv -> Qc, reduceMod -> Qd, reduceAdd -> Qe, reduceSub -> Qf, reduceMul -> Qg, reduceLT -> Qh, reduceLeDiff -> Qi, reduceEqDiff -> Qj, reduceBEq -> Qk
theorem iK{s:List UInt8}(h:Pr.nameB s=true):1<=s.length/\s.length<=12:=by
 unfold Pr.nameB at h;split at h
 ·cases h
 ·omega
theorem kO{x:Img}(h:fe x=0):1<=x.role/\x.role<=4/\0<=x.ver/\x.ver<=1000000/\Pr.nameB x.name=true/\x.pay.length<=64:=by
 unfold fe at h
 repeat' split at h
 all_goals first|omega|skip
 all_goals (cases hq:Pr.nameB x.name with
  |true=>exact⟨by omega,by omega,by omega,by omega,rfl,by omega⟩
  |false=>simp_all)
theorem nC{x:Img}(h:fe x=0):x.name.length<=1000000/\x.pay.length<=1000000:=by obtain⟨_,_,_,_,h1,h2⟩:=kO h;have:=iK h1;omega
def ofI(x:Img)(a:Int):Ev:=⟨zV x.role,1,sK (fZ x) a,uS x.name x.ver⟩
theorem f40(x:Img)(a:Int)(ha:rG a)(h:fe x=0)(h4:x.role≠4):call T 40 [.agg x.sv,.int .i64 a] [] 0=some ⟨.agg (ofI x a).sv,[],[]⟩:=by obtain⟨q1,q2,q3,q4,q5,q6⟩:=kO h;obtain⟨b1,b2⟩:=nC h;have g0:=xc3 x (by omega) (by omega);have g1:=f82 x.role;have g2:=xkq x a ha b1 b2;have g3:=f34 x.name x.ver b1 q3 q4;rw[h]at g0;obtain⟨ro,na,ve,p⟩:=x;simp only[Img.sv,Ev.sv,ofI]at*;rw[an xlf];simp only[go_sem,Q0,Q1,Q2,Q3,Q4,Q5,Q6,Q7,Q8,Q9,Qa,Qb,Qc,Qd,Qe,Qf,Qg,Qh,Qi,Qj,Qk,reduceCtorEq,reduceIte,g0,nz,h4,g1,xlA,g2,xg1,g3,xdh]
def mkV(reg kind a:Int)(data:List UInt8):Ev:=⟨reg,kind,if kind=5 then [[],[]]else [if re a 0 then kX data else [],if re a 1 then sha data else []],data⟩
theorem f68(reg kind a:Int)(data:List UInt8)(ha:rG a)(hd:data.length<=1000000):call T 68 [.int .i64 reg,.int .i64 kind,.int .i64 a,.byt data .no] [] 0=some ⟨.agg (mkV reg kind a data).sv,[],[]⟩:=by
 have g1:=XW a ha;have g2:=XV a ha;have g3:=XU data (by omega);have g4:=XT data (by omega);have k1:ac.wrap 1=1:=rfl;have k2:ac.wrap 2=2:=rfl;rw[an xkV];unfold mkV Ev.sv bls
 by_cases hk:kind=5
 ·subst hk
  cases q1:re a 0<;>cases q2:re a 1<;>rw[q1]at g1<;>rw[q2]at g2<;>
  ·simp only[go_sem,Q0,Q1,Q2,Q3,Q4,Q5,Q6,Q7,Q8,Q9,Qa,Qb,Qc,Qd,Qe,Qf,Qg,Qh,Qi,Qj,Qk,reduceCtorEq,reduceIte,al]
   iterate 3
    rw[ai];simp only[go_sem,Q0,Q1,Q2,Q3,Q4,Q5,Q6,Q7,Q8,Q9,Qa,Qb,Qc,Qd,Qe,Qf,Qg,Qh,Qi,Qj,Qk,reduceCtorEq,reduceIte,k1,k2,g1,g2,OL,al]
 ·cases q1:re a 0<;>cases q2:re a 1<;>rw[q1]at g1<;>rw[q2]at g2<;>
  ·simp only[go_sem,Q0,Q1,Q2,Q3,Q4,Q5,Q6,Q7,Q8,Q9,Qa,Qb,Qc,Qd,Qe,Qf,Qg,Qh,Qi,Qj,Qk,reduceCtorEq,reduceIte,al]
   iterate 3
    rw[ai];simp only[go_sem,Q0,Q1,Q2,Q3,Q4,Q5,Q6,Q7,Q8,Q9,Qa,Qb,Qc,Qd,Qe,Qf,Qg,Qh,Qi,Qj,Qk,reduceCtorEq,reduceIte,k1,k2,hk,g1,g2,g3,g4,OL,Yv,fC,al]
theorem f69:call T 69 [] [] 0=some ⟨.byt [0,0,0,0] .no,[],[]⟩:=by rw[an xkU];simp only[go_sem,Q0,Q1,Q2,Q3,Q4,Q5,Q6,Q7,Q8,Q9,Qa,Qb,Qc,Qd,Qe,Qf,Qg,Qh,Qi,Qj,Qk,reduceCtorEq,reduceIte]
def fo(l:List Img):List (List SV):=l.map Img.sv
def im0:Img:=⟨0,[],0,[]⟩
theorem dS(l:List Img):(fo l).length=l.length:=aY ..
theorem fK(l:List Img)(i:Nat)(h:i<l.length):(fo l).getD i []=(l.getD i im0).sv:=by simp[fo,aa,h]
structure eH(l:List Img):Prop where
 n1:1<=l.length
 n8:l.length<=8
 ok:∀i,i<l.length->fe (l.getD i im0)=0
 ord:∀i,i+1<l.length->(l.getD i im0).role<=(l.getD (i+1) im0).role
 dup:∀i,i<l.length->∀k,k<i->(l.getD k im0).role=(l.getD i im0).role->(l.getD k im0).name≠(l.getD i im0).name
 fw:∃i,i<l.length/\(l.getD i im0).role=1
 kn:∃i,i<l.length/\(l.getD i im0).role=3
theorem xjp(l:List Img)(h:eH l)(f k:Bool)(i:Nat)(hi:i<l.length):∀(n j:Nat),i-j=n->j<=i->
 run T (.loop xP) ⟨[(0,.lst 4 (fo l) .no),(3,.bool f),(4,.bool k),(5,.int .i64 i),(7,.int .i64 j)],[],[]⟩=some (.x 2,⟨[(0,.lst 4 (fo l) .no),(3,.bool f),(4,.bool k),(5,.int .i64 i)],[],[]⟩):=by
 intro n;induction n with
 |zero=>
  intro j h0 h1;have:j=i:=by omega
  subst this;rw[ai];simp only[go_sem,Q0,Q1,Q2,Q3,Q4,Q5,Q6,Q7,Q8,Q9,Qa,Qb,Qc,Qd,Qe,Qf,Qg,Qh,Qi,Qj,Qk,reduceCtorEq,reduceIte]
 |succ n ih=>
  intro j h0 h1;have hj:j<i:=by omega
  have hj2:j<l.length:=by omega
  have e1:=cy j (by have:=h.n8;omega);have ih':=ih (j+1) (by omega) (by omega);have hv:=dS l;have hg:=fK l i hi;have hg2:=fK l j hj2;have hd:=h.dup i hi j hj;rw[ai];generalize l.getD i im0=x at*;generalize l.getD j im0=y at*;obtain⟨ro,na,ve,p⟩:=x;obtain⟨ro2,na2,ve2,p2⟩:=y;simp only[Img.sv]at*
  by_cases hr:ro2=ro
  ·have hn:¬na2=na:=hd hr
   simp only[go_sem,Q0,Q1,Q2,Q3,Q4,Q5,Q6,Q7,Q8,Q9,Qa,Qb,Qc,Qd,Qe,Qf,Qg,Qh,Qi,Qj,Qk,reduceCtorEq,reduceIte,hj,hj2,hi,e1,hv,hg,hg2,hr,hn,ih']
  ·simp only[go_sem,Q0,Q1,Q2,Q3,Q4,Q5,Q6,Q7,Q8,Q9,Qa,Qb,Qc,Qd,Qe,Qf,Qg,Qh,Qi,Qj,Qk,reduceCtorEq,reduceIte,hj,hj2,hi,e1,hv,hg,hg2,hr,ih']
def qm(l:List Img)(r:Int)(i:Nat):Bool:=(l.take i).any fun x=>decide (x.role=r)
theorem rD(l:List Img)(r:Int)(i:Nat)(hi:i<l.length):qm l r (i+1)=(qm l r i||decide ((l.getD i im0).role=r)):=by unfold qm;rw[List.take_succ_eq_append_getElem hi,List.any_append,List.any_cons,List.any_nil,Bool.or_false,aa,ab hi];rfl
theorem vr{l:List Img}{r:Int}(h:∃i,i<l.length/\(l.getD i im0).role=r):qm l r l.length=true:=by obtain⟨i,hi,hr⟩:=h;unfold qm;rw[bK,List.any_eq_true];refine⟨l[i],bj _, ?_⟩;rw[aa,ab hi]at hr;simpa using hr
theorem l67(l:List Img)(h:eH l):∀(n i:Nat),l.length-i=n->i<=l.length->
 run T (.loop tv) ⟨[(0,.lst 4 (fo l) .no),(3,.bool (qm l 1 i)),(4,.bool (qm l 3 i)),(5,.int .i64 i)],[],[]⟩=some (.x 0,⟨[(3,.bool true),(4,.bool true)],[],[]⟩):=by
 intro n;induction n with
 |zero=>
  intro i h0 h1;have:i=l.length:=by omega
  subst this;have hv:=dS l;have a1:=vr h.fw;have a2:=vr h.kn;rw[ai];simp only[go_sem,Q0,Q1,Q2,Q3,Q4,Q5,Q6,Q7,Q8,Q9,Qa,Qb,Qc,Qd,Qe,Qf,Qg,Qh,Qi,Qj,Qk,reduceCtorEq,reduceIte,hv,a1,a2]
 |succ n ih=>
  intro i h0 h1;have hi:i<l.length:=by omega
  have e1:=cy i (by have:=h.n8;omega);have ih':=ih (i+1) (by omega) (by omega);have hv:=dS l;have hg:=fK l i hi;have hok:=h.ok i hi;obtain⟨b1,b2⟩:=nC hok;have g:=xc3 (l.getD i im0) (by omega) (by omega);have g2:=xjp l h (qm l 1 i) (qm l 3 i) i hi _ 0 rfl (by omega);simp only[aC]at g2;rw[hok]at g;rw[rD l 1 i hi,rD l 3 i hi]at ih';rw[ai]
  have key:∀q1 q2:Bool,qm l 1 i=q1->qm l 3 i=q2->run T (.loop tv) ⟨[(0,.lst 4 (fo l) .no),(3,.bool q1),(4,.bool q2),(5,.int .i64 i)],[],[]⟩=some (.x 0,⟨[(3,.bool true),(4,.bool true)],[],[]⟩):=by
   intro q1 q2 hq1 hq2;rw[hq1,hq2]at ih' g2;rw[ai]
   by_cases h00:i=0
   ·subst h00
    generalize l.getD 0 im0=x at*;obtain⟨ro,na,ve,p⟩:=x;simp only[Img.sv]at*;have hi':(0:Int)<l.length:=by omega
    have c1:((0+1:Nat):Int)=1:=rfl;have kw:ac.wrap 1=1:=rfl;rw[c1]at ih';simp only[aC]at g2
    by_cases p1:ro=1
    ·subst p1
     cases q1<;>cases q2<;>simp only[mY,ez,decide_true,decide_false,Int.reduceEq,eq_self]at ih'<;>simp only[go_sem,Q0,Q1,Q2,Q3,Q4,Q5,Q6,Q7,Q8,Q9,Qa,Qb,Qc,Qd,Qe,Qf,Qg,Qh,Qi,Qj,Qk,reduceCtorEq,reduceIte,hi,hi',kw,hv,hg,g,nz,g2,ih']
    ·by_cases p3:ro=3
     ·subst p3
      cases q1<;>cases q2<;>simp only[mY,ez,decide_true,decide_false,Int.reduceEq,eq_self]at ih'<;>simp only[go_sem,Q0,Q1,Q2,Q3,Q4,Q5,Q6,Q7,Q8,Q9,Qa,Qb,Qc,Qd,Qe,Qf,Qg,Qh,Qi,Qj,Qk,reduceCtorEq,reduceIte,hi,hi',kw,hv,hg,g,nz,g2,ih']
     ·cases q1<;>cases q2<;>simp only[mY,ez,decide_true,decide_false,Int.reduceEq,eq_self,p1,p3]at ih'<;>simp only[go_sem,Q0,Q1,Q2,Q3,Q4,Q5,Q6,Q7,Q8,Q9,Qa,Qb,Qc,Qd,Qe,Qf,Qg,Qh,Qi,Qj,Qk,reduceCtorEq,reduceIte,hi,hi',kw,hv,hg,g,nz,g2,p1,p3,ih']
   ·have hp:0<i:=by omega
    have hp':(0:Int)<(i:Nat):=by omega
    have es:ac.wrap ((i:Int)-1)=((i-1:Nat):Int):=by rw[w64 (by omega) (by have:=h.n8;omega)];omega
    have hi1:i-1<l.length:=by omega
    have hg1:=fK l (i-1) hi1;have ho:=h.ord (i-1) (by omega);rw[show i-1+1=i from by omega]at ho;generalize l.getD i im0=x at*;generalize l.getD (i-1) im0=y at*;obtain⟨ro,na,ve,p⟩:=x;obtain⟨ro2,na2,ve2,p2⟩:=y;simp only[Img.sv]at*;have ho':¬ro<ro2:=by omega
    by_cases p1:ro=1
    ·subst p1
     cases q1<;>cases q2<;>simp only[mY,ez,decide_true,decide_false,Int.reduceEq,eq_self]at ih'<;>simp only[go_sem,Q0,Q1,Q2,Q3,Q4,Q5,Q6,Q7,Q8,Q9,Qa,Qb,Qc,Qd,Qe,Qf,Qg,Qh,Qi,Qj,Qk,reduceCtorEq,reduceIte,hi,hp,hp',hi1,es,e1,hv,hg,hg1,g,nz,g2,ho',ih']
    ·by_cases p3:ro=3
     ·subst p3
      cases q1<;>cases q2<;>simp only[mY,ez,decide_true,decide_false,Int.reduceEq,eq_self]at ih'<;>simp only[go_sem,Q0,Q1,Q2,Q3,Q4,Q5,Q6,Q7,Q8,Q9,Qa,Qb,Qc,Qd,Qe,Qf,Qg,Qh,Qi,Qj,Qk,reduceCtorEq,reduceIte,hi,hp,hp',hi1,es,e1,hv,hg,hg1,g,nz,g2,ho',ih']
     ·cases q1<;>cases q2<;>simp only[mY,ez,decide_true,decide_false,Int.reduceEq,eq_self,p1,p3]at ih'<;>simp only[go_sem,Q0,Q1,Q2,Q3,Q4,Q5,Q6,Q7,Q8,Q9,Qa,Qb,Qc,Qd,Qe,Qf,Qg,Qh,Qi,Qj,Qk,reduceCtorEq,reduceIte,hi,hp,hp',hi1,es,e1,hv,hg,hg1,g,nz,g2,ho',p1,p3,ih']
  have:=key _ _ rfl rfl;rw[ai]at this;exact this
theorem f67(l:List Img)(h:eH l):call T 67 [.lst 4 (fo l) .no] [] 0=some ⟨.int .i64 0,[],[]⟩:=by
 have g:=l67 l h _ 0 rfl (by omega);have z1:qm l 1 0=false:=rfl;have z3:qm l 3 0=false:=rfl;rw[z1,z3]at g;simp only[aC]at g;have hv:=dS l;have n1:=h.n1;have n8:=h.n8;have k1:¬(l.length:Int)=0:=by omega
 have k2:¬(8:Int)<l.length:=by omega
 rw[an xkW];simp only[go_sem,Q0,Q1,Q2,Q3,Q4,Q5,Q6,Q7,Q8,Q9,Qa,Qb,Qc,Qd,Qe,Qf,Qg,Qh,Qi,Qj,Qk,reduceCtorEq,reduceIte,hv,k1,k2,g]
def jE(ts:List Nat):List UInt8:=ts.flatMap fun t=>fX t++ [10]
theorem Db(ts:List Nat)(t:Nat):jE (ts++ [t])=jE ts++(fX t++ [10]):=by simp[jE]
theorem qW(t:Nat):(fX t).length<=8:=by unfold fX;split<;>simp
theorem uD(ts:List Nat):(jE ts).length<=9*ts.length:=by
 induction ts with
 |nil=>simp[jE]
 |cons t r ih=>rw[jE,jo,af,af,ax,ax,aV];have:=qW t;unfold jE at ih;omega
theorem FL(t:Nat)(r:List UInt8)(o:List (List UInt8))(ho:o.length<4):lnF (fX t++10::r) o []=lnF r (o++ [fX t]) []:=by
 have h:¬(4:Int)<=o.length:=by omega
 unfold fX;split<;>simp[lnF,h]
theorem Ci:∀(ts:List Nat)(o:List (List UInt8)),o.length+ts.length<=4->lnF (jE ts) o []=some (o++ts.map fX,[])
 |[],o,_=>by simp[jE,lnF]
 |t::r,o,h=>by
  rw[ax]at h;have e:jE (t::r)=fX t++10::jE r:=by simp[jE]
  rw[e,FL t _ o (by omega),Ci r _ (by rw[af,aD];omega)];simp
theorem wG(ts:List Nat)(h:ts.length<=4):eK (jE ts)=ts.map fX:=by unfold eK;rw[Ci ts [] (by simpa using h)];simp
theorem xjK(B:List UInt8)(hB:B.length<=1000):∀(k:Nat)(ts:List Nat)(j:Nat),k<=4->ts.length+k<=100->∃us j',us.length=k/\
 run T (.loop ym) ⟨[(0,.ptr 0 0),(3,.byt (jE ts) (.id 103)),(4,.int .i64 k)],[(0,aM B j)],[103]⟩=some (.x 0,⟨[(3,.byt (jE (ts++us)) (.id 103))],[(0,aM B j')],[103]⟩):=by
 intro k;induction k with
 |zero=>intro ts j h1 h2;refine⟨[],j,rfl, ?_⟩;rw[ai,bC];simp only[go_sem,Q0,Q1,Q2,Q3,Q4,Q5,Q6,Q7,Q8,Q9,Qa,Qb,Qc,Qd,Qe,Qf,Qg,Qh,Qi,Qj,Qk,reduceCtorEq,reduceIte]
 |succ k ih=>
  intro ts j h1 h2;obtain⟨us,j',hu,ih'⟩:=ih (ts++ [du B j 6]) (cj B j) (by omega) (by rw[af,aD];omega);refine⟨du B j 6::us,j',by rw[ax,hu], ?_⟩;have g:=f73 B j hB;have hl:=uD ts;have hl2:=qW (du B j 6);have e1:ac.wrap (((k+1:Nat):Int)-1)=(k:Int):=wZ (by omega)
  have hp:(0:Int)<((k+1:Nat):Int):=by omega
  have c1:(jE ts).length+(fX (du B j 6)).length<=140737488355328:=by omega
  have c2:(jE ts).length+(fX (du B j 6)).length+1<=140737488355328:=by omega
  rw[Db]at ih';rw[show ts++du B j 6::us=ts++ [du B j 6]++us from by simp];rw[ai];simp only[aM]at g ih' ⊢;simp only[go_sem,Q0,Q1,Q2,Q3,Q4,Q5,Q6,Q7,Q8,Q9,Qa,Qb,Qc,Qd,Qe,Qf,Qg,Qh,Qi,Qj,Qk,reduceCtorEq,reduceIte,hp,g,mU,c1,c2,e1,ih']
theorem xkf(B:List UInt8)(i:Nat)(hB:B.length<=1000):∃ts j,1<=ts.length/\ts.length<=4/\call T 123 [.ptr 0 0] [aM B i] 0=some ⟨.byt (jE ts) .no,[(0,aM B j)],[]⟩:=by
 have g:=f71 B i 4 (by omega) (by omega);have hv:=dL B i 4 (by omega);obtain⟨us,j,hu,h⟩:=xjK B hB (1+du B i 4) [] (cj B i) (by omega) (by simp only[aV];omega);have e:ac.wrap (1+((du B i 4:Nat):Int))=((1+du B i 4:Nat):Int):=wZ (by omega)
 refine⟨us,j,by omega,by omega, ?_⟩;have hp:jE []=[]:=rfl;rw[hp,aQ]at h;rw[cz4]at g;simp only[aM]at g h ⊢;rw[an xgq];simp only[go_sem,Q0,Q1,Q2,Q3,Q4,Q5,Q6,Q7,Q8,Q9,Qa,Qb,Qc,Qd,Qe,Qf,Qg,Qh,Qi,Qj,Qk,reduceCtorEq,reduceIte,g,fB,e,h]
def fJ:Nat->List UInt8
 |0=> [97]
 |1=> [103,114,117,98]
 |2=> [108,105,110,117,120]
 |3=> [110,101,116,45,48]
 |_=> [116,119,101,108,118,101,45,98,121,116,101,115]
theorem xkg:call T 122 [] [] 0=some ⟨.agg [.str (fJ 0),.str (fJ 1),.str (fJ 2),.str (fJ 3),.str (fJ 4)],[],[]⟩:=by rw[an xgr];simp only[go_sem,Q0,Q1,Q2,Q3,Q4,Q5,Q6,Q7,Q8,Q9,Qa,Qb,Qc,Qd,Qe,Qf,Qg,Qh,Qi,Qj,Qk,reduceCtorEq,reduceIte,fJ]
theorem Fv:∀v,v<5->Pr.nameB (fJ v)=true:=by decide
theorem l72(B:List UInt8)(hB:B.length<=1000)(role ve:Int)(na:List UInt8):∀(n i:Nat)(l:List UInt8)(j:Nat),l.length-i=n->i<=l.length->l.length<=6->∃l' j',l'.length=l.length/\
 run T (.loop tt) ⟨[(0,.ptr 0 0),(4,.ptr 104 0),(5,.ptr 105 0),(6,.int .i64 i)],[(0,aM B j),(104,.rc [.int .i64 0,.str [],.int .i64 0,.byt [] .clip]),(105,.rc [.int .i64 role,.str na,.int .i64 ve,.psl 130 1 0 l.length (some l.length)]),(130,.bar l)],[]⟩=
  some (.x 0,⟨[(4,.ptr 104 0),(5,.ptr 105 0)],[(0,aM B j'),(104,.rc [.int .i64 0,.str [],.int .i64 0,.byt [] .clip]),(105,.rc [.int .i64 role,.str na,.int .i64 ve,.psl 130 1 0 l.length (some l.length)]),(130,.bar l')],[]⟩):=by
 intro n;induction n with
 |zero=>
  intro i l j h0 h1 h2;have:i=l.length:=by omega
  refine⟨l,j,rfl, ?_⟩;subst this;rw[ai];simp only[go_sem,Q0,Q1,Q2,Q3,Q4,Q5,Q6,Q7,Q8,Q9,Qa,Qb,Qc,Qd,Qe,Qf,Qg,Qh,Qi,Qj,Qk,reduceCtorEq,reduceIte]
 |succ n ih=>
  intro i l j h0 h1 h2;have hi:i<l.length:=by omega
  have e1:=cy i (by omega);have g:=f71 B j 256 (by omega) (by omega);rw[xkw]at g;obtain⟨l',j',q1,q2⟩:=ih (i+1) (l.set i (bF ((du B j 256:Nat):Int))) (cj B j) (by rw[dp];omega) (by rw[dp];omega) (by rw[dp];omega);rw[dp]at q1 q2;refine⟨l',j',q1, ?_⟩;rw[ai];simp only[aM]at g q2 ⊢;simp only[go_sem,Q0,Q1,Q2,Q3,Q4,Q5,Q6,Q7,Q8,Q9,Qa,Qb,Qc,Qd,Qe,Qf,Qg,Qh,Qi,Qj,Qk,reduceCtorEq,reduceIte,hi,e1,g,fB,q2]
theorem f72(B:List UInt8)(j:Nat)(hB:B.length<=1000)(role:Int)(h1:1<=role)(h4:role<=4):∃(x:Img)(j':Nat),fe x=0/\x.role=role/\
 call T 72 [.ptr 0 0,.int .i64 role] [aM B j] 0=some ⟨.agg x.sv,[(0,aM B j')],[]⟩:=by
 have g1:=xkg;have g2:=f71 B j 5 (by omega) (by omega);have v2:=dL B j 5 (by omega);have g3:=f71 B (cj B j) 5 (by omega) (by omega);have v3:=dL B (cj B j) 5 (by omega);have g4:=f71 B (cj B (cj B j)) 9 (by omega) (by omega);have g5:=f71 B (cj B (cj B (cj B j))) 3 (by omega) (by omega);have v5:=dL B (cj B (cj B (cj B j))) 3 (by omega);rw[cz5]at g2 g3;rw[c9]at g4;rw[cz3]at g5;generalize du B j 5=w2 at*;generalize du B (cj B j) 5=w3 at*;generalize du B (cj B (cj B j)) 9=w4 at*;generalize du B (cj B (cj B (cj B j))) 3=w5 at*;simp only[aM]at g2 g3 g4 g5
 have hN:(ig w2 [SV.str (fJ 0),.str (fJ 1),.str (fJ 2),.str (fJ 3),.str (fJ 4)]).getD 0 .undef= .str (fJ w2):=by
  have hn:w2=0\/w2=1\/w2=2\/w2=3\/w2=4:=by omega
  rcases hn with rfl|rfl|rfl|rfl|rfl<;>rfl
 have hw2:(w2:Int)<5:=by omega
 have em:w2*1=w2:=dq _;have hnb:=Fv w2 v2;have ew:ac.wrap (1000000-(w5:Int))=1000000-(w5:Int):=w64 (by omega) (by omega)
 have key:∀(jj:Nat)(ve:Int),0<=ve->ve<=1000000->∃(x:Img)(j':Nat),fe x=0/\x.role=role/\x.name=fJ w2/\x.ver=ve/\
  (role=4->call T 123 [.ptr 0 0] [aM B jj] 0=some ⟨.byt x.pay .no,[(0,aM B j')],[]⟩)/\
  (¬role=4->∃(j1 n:Nat),n<7/\call T 71 [.ptr 0 0,.int .i64 7] [aM B jj] 0=some ⟨.int .i64 (n:Int),[(0,aM B j1)],[]⟩/\x.pay.length=n/\
   run T (.loop tt) ⟨[(0,.ptr 0 0),(4,.ptr 104 0),(5,.ptr 105 0),(6,.int .i64 0)],[(0,aM B j1),(104,.rc [.int .i64 0,.str [],.int .i64 0,.byt [] .clip]),(105,.rc [.int .i64 role,.str (fJ w2),.int .i64 ve,.psl 130 1 0 n (some n)]),(130,.bar (al n 0))],[]⟩=
    some (.x 0,⟨[(4,.ptr 104 0),(5,.ptr 105 0)],[(0,aM B j'),(104,.rc [.int .i64 0,.str [],.int .i64 0,.byt [] .clip]),(105,.rc [.int .i64 role,.str (fJ w2),.int .i64 ve,.psl 130 1 0 n (some n)]),(130,.bar x.pay)],[]⟩)):=by
  intro jj ve hv0 hv1
  by_cases hr:role=4
  ·obtain⟨ts,j',t1,t2,t3⟩:=xkf B jj hB
   refine⟨⟨role,fJ w2,ve,jE ts⟩,j', ?_,rfl,rfl,rfl,fun _=>t3,fun h=>absurd hr h⟩;have hl:=uD ts;have hL:=wG ts t2;unfold fe;rw[if_neg (by show ¬role<1;omega),if_neg (by show ¬4<role;omega),if_neg (by show ¬ve<0;omega),if_neg (by show ¬1000000<ve;omega),if_neg (by show ¬Pr.nameB (fJ w2)=false;rw[hnb];simp),if_neg (by show ¬(64:Int)<(jE ts).length;omega)];show(if role=4 then(if((eK (jE ts)).length:Int)=0 then 40 else 0)else 0)=(0:Int);rw[if_pos hr,hL,if_neg];rw[aY];omega
  ·have g7:=f71 B jj 7 (by omega) (by omega)
   have v7:=dL B jj 7 (by omega);rw[show((7:Nat):Int)=7 from rfl]at g7;obtain⟨l',j',q1,q2⟩:=l72 B hB role ve (fJ w2) (du B jj 7) 0 (al (du B jj 7) 0) (cj B jj) (by rw[bS];rfl) (bM _) (by rw[bS];omega);rw[bS]at q1 q2;refine⟨⟨role,fJ w2,ve,l'⟩,j', ?_,rfl,rfl,rfl,fun h=>absurd h hr,fun _=>⟨cj B jj,du B jj 7,v7,g7,q1,q2⟩⟩;unfold fe;rw[if_neg (by show ¬role<1;omega),if_neg (by show ¬4<role;omega),if_neg (by show ¬ve<0;omega),if_neg (by show ¬1000000<ve;omega),if_neg (by show ¬Pr.nameB (fJ w2)=false;rw[hnb];simp),if_neg (by show ¬(64:Int)<l'.length;omega)];show(if role=4 then(if((eK l').length:Int)=0 then 40 else 0)else 0)=(0:Int);rw[if_neg hr]
 by_cases p4:w4=8
 ·have p4':(w4:Int)=8:=by omega
  obtain⟨⟨xr,xn,xv,xp⟩,j',e0,e1,e2,e3,e4,e5⟩:=key (cj B (cj B (cj B (cj B j)))) (1000000-(w5:Int)) (by omega) (by omega);simp only at e1 e2 e3 e4 e5;subst e1 e2 e3;refine⟨_,j',e0,rfl, ?_⟩;rw[an xiz]
  by_cases hr:xr=4
  ·have t:=e4 hr
   simp only[aM,Img.sv]at t ⊢;simp only[go_sem,Q0,Q1,Q2,Q3,Q4,Q5,Q6,Q7,Q8,Q9,Qa,Qb,Qc,Qd,Qe,Qf,Qg,Qh,Qi,Qj,Qk,reduceCtorEq,reduceIte,aM,g1,Ee,g2,fB,g3,g4,g5,p4',ew,hr,hN,hw2,em,t,Yu]
  ·obtain⟨j1,n,hn,t1,t2,t3⟩:=e5 hr
   have t2':xp.length=n:=t2;have hle:n<=xp.length:=by omega
   have hq:dr n xp=xp:=by rw[<-t2',bK]
   have hn':(n:Int)<7:=by omega
   have hn2:(n:Int)<=140737488355328:=by omega
   simp only[aM,Img.sv]at t1 t3 ⊢;simp only[go_sem,Q0,Q1,Q2,Q3,Q4,Q5,Q6,Q7,Q8,Q9,Qa,Qb,Qc,Qd,Qe,Qf,Qg,Qh,Qi,Qj,Qk,reduceCtorEq,reduceIte,aM,g1,Ee,g2,fB,g3,g4,g5,p4',ew,hr,hN,hw2,em,t1,hn',hn2,t3,hle,hq]
 ·have p4':¬(w4:Int)=8:=by omega
  obtain⟨⟨xr,xn,xv,xp⟩,j',e0,e1,e2,e3,e4,e5⟩:=key (cj B (cj B (cj B j))) (w3:Int) (by omega) (by omega);simp only at e1 e2 e3 e4 e5;subst e1 e2 e3;refine⟨_,j',e0,rfl, ?_⟩;rw[an xiz]
  by_cases hr:xr=4
  ·have t:=e4 hr
   simp only[aM,Img.sv]at t ⊢;simp only[go_sem,Q0,Q1,Q2,Q3,Q4,Q5,Q6,Q7,Q8,Q9,Qa,Qb,Qc,Qd,Qe,Qf,Qg,Qh,Qi,Qj,Qk,reduceCtorEq,reduceIte,aM,g1,Ee,g2,fB,g3,g4,p4',hr,hN,hw2,em,t,Yu]
  ·obtain⟨j1,n,hn,t1,t2,t3⟩:=e5 hr
   have t2':xp.length=n:=t2;have hle:n<=xp.length:=by omega
   have hq:dr n xp=xp:=by rw[<-t2',bK]
   have hn':(n:Int)<7:=by omega
   have hn2:(n:Int)<=140737488355328:=by omega
   simp only[aM,Img.sv]at t1 t3 ⊢;simp only[go_sem,Q0,Q1,Q2,Q3,Q4,Q5,Q6,Q7,Q8,Q9,Qa,Qb,Qc,Qd,Qe,Qf,Qg,Qh,Qi,Qj,Qk,reduceCtorEq,reduceIte,aM,g1,Ee,g2,fB,g3,g4,p4',hr,hN,hw2,em,t1,hn',hn2,t3,hle,hq]
theorem Dq(l:List Img)(i:Nat)(h:i<l.length):l.getD i im0∈l:=by rw[aa,ab h];exact bj _
theorem jk{α:Type}(l:List α)(x d:α)(i:Nat)(h:i<l.length):(l++ [x]).getD i d=l.getD i d:=by rw[aa,aa,bg h]
theorem nY{α:Type}(l:List α)(x d:α):(l++ [x]).getD l.length d=x:=by rw[aa,bA (aL _),Nat.sub_self];rfl
structure ChP(l:List Img)(role:Int):Prop where
 ok:∀i,i<l.length->fe (l.getD i im0)=0
 le:∀i,i<l.length->(l.getD i im0).role<=role
 ord:∀i,i+1<l.length->(l.getD i im0).role<=(l.getD (i+1) im0).role
 dup:∀i,i<l.length->∀k,k<i->(l.getD k im0).role=(l.getD i im0).role->(l.getD k im0).name≠(l.getD i im0).name
def agn(x:Img)(l:List Img):Bool:=l.any fun y=>decide (y.role=x.role)&&decide (y.name=x.name)
theorem ChP.snoc{l:List Img}{role:Int}(h:ChP l role){x:Img}(hx:fe x=0)(hr:x.role=role)(ha:agn x l=false):ChP (l++ [x]) role:=by
 have hlen:(l++ [x]).length=l.length+1:=by simp
 refine⟨fun i hi=> ?_,fun i hi=> ?_,fun i hi=> ?_,fun i hi k hk=> ?_⟩
 ·rcases bH i l.length with h1|h1
  ·rw[jk l x im0 i h1];exact h.ok i h1
  ·rw[show i=l.length from by omega,nY];exact hx
 ·rcases bH i l.length with h1|h1
  ·rw[jk l x im0 i h1];exact h.le i h1
  ·rw[show i=l.length from by omega,nY,hr];exact Int.le_refl _
 ·rw[jk l x im0 i (by omega)]
  rcases bH (i+1) l.length with h1|h1
  ·rw[jk l x im0 (i+1) h1];exact h.ord i h1
  ·rw[show i+1=l.length from by omega,nY,hr];exact h.le i (by omega)
 ·rcases bH i l.length with h1|h1
  ·rw[jk l x im0 i h1,jk l x im0 k (by omega)];exact h.dup i h1 k hk
  ·rw[show i=l.length from by omega]at hk ⊢
   rw[nY,jk l x im0 k hk];intro q1 q2;unfold agn at ha;rw[List.any_eq_false]at ha;have:=ha (l.getD k im0) (Dq l k hk);rw[decide_eq_true q1,decide_eq_true q2]at this;exact this rfl
theorem xju(B:List UInt8)(j:Nat)(l:List Img)(x:Img)(role n:Int)(hl:l.length<=100):∀(k i:Nat)(ag:Bool),l.length-i=k->i<=l.length->
 run T (.loop x5) ⟨[(3,.ptr 12100 0),(4,.lst 4 (fo l) (.id 104)),(5,.int .i64 role),(6,.int .i64 n),(7,.ptr 107 0),(8,.bool ag),(9,.int .i64 i)],[(107,.rc x.sv),(12100,aM B j)],[104]⟩=
 some (.x 4,⟨[(3,.ptr 12100 0),(4,.lst 4 (fo l) (.id 104)),(5,.int .i64 role),(6,.int .i64 n),(7,.ptr 107 0),(8,.bool (ag||agn x (l.drop i)))],[(107,.rc x.sv),(12100,aM B j)],[104]⟩):=by
 intro k;induction k with
 |zero=>
  intro i ag h0 h1;have:i=l.length:=by omega
  subst this;have hv:=dS l;obtain⟨a,b,c,d⟩:=x;simp only[aM,Img.sv]at*;rw[ai,bl];simp only[go_sem,Q0,Q1,Q2,Q3,Q4,Q5,Q6,Q7,Q8,Q9,Qa,Qb,Qc,Qd,Qe,Qf,Qg,Qh,Qi,Qj,Qk,reduceCtorEq,reduceIte,hv,agn,List.any_nil,Bool.or_false]
 |succ k ih=>
  intro i ag h0 h1;have hi:i<l.length:=by omega
  have e1:=cy i (by omega);have ih':=ih (i+1) (ag||(decide ((l.getD i im0).role=x.role)&&decide ((l.getD i im0).name=x.name))) (by omega) (by omega);have hv:=dS l;have hg:=fK l i hi;have hd:l.drop i=l.getD i im0::l.drop (i+1):=by rw[aX hi,aa,ab hi];rfl
  have ha:agn x (l.drop i)=((decide ((l.getD i im0).role=x.role)&&decide ((l.getD i im0).name=x.name))||agn x (l.drop (i+1))):=by rw[hd];rfl
  rw[ha,<-Bool.or_assoc];rw[ai];generalize agn x (l.drop (i+1))=R at*;generalize l.getD i im0=y at*;obtain⟨a,b,c,d⟩:=x;obtain⟨a2,b2,c2,d2⟩:=y;simp only[aM,Img.sv]at*;cases ag with
  |true=>simp only[mY]at ih' ⊢;simp only[go_sem,Q0,Q1,Q2,Q3,Q4,Q5,Q6,Q7,Q8,Q9,Qa,Qb,Qc,Qd,Qe,Qf,Qg,Qh,Qi,Qj,Qk,reduceCtorEq,reduceIte,hi,e1,hv,hg,ih']
  |false=>
   by_cases p1:a2=a
   ·by_cases p2:b2=b
    ·rw[decide_eq_true p1,decide_eq_true p2]at ih' ⊢
     simp only[Bool.and_self,ez,mY]at ih' ⊢;simp only[go_sem,Q0,Q1,Q2,Q3,Q4,Q5,Q6,Q7,Q8,Q9,Qa,Qb,Qc,Qd,Qe,Qf,Qg,Qh,Qi,Qj,Qk,reduceCtorEq,reduceIte,hi,e1,hv,hg,p1,p2,ih']
    ·rw[decide_eq_true p1,decide_eq_false p2]at ih' ⊢
     simp only[Bool.and_false,ez]at ih' ⊢;simp only[go_sem,Q0,Q1,Q2,Q3,Q4,Q5,Q6,Q7,Q8,Q9,Qa,Qb,Qc,Qd,Qe,Qf,Qg,Qh,Qi,Qj,Qk,reduceCtorEq,reduceIte,hi,e1,hv,hg,p1,p2,ih']
   ·rw[decide_eq_false p1]at ih' ⊢
    simp only[Bool.false_and,ez]at ih' ⊢;simp only[go_sem,Q0,Q1,Q2,Q3,Q4,Q5,Q6,Q7,Q8,Q9,Qa,Qb,Qc,Qd,Qe,Qf,Qg,Qh,Qi,Qj,Qk,reduceCtorEq,reduceIte,hi,e1,hv,hg,p1,ih']
theorem ra(l:List Img)(x:Img):fo l++ [x.sv]=fo (l++ [x]):=by rw[fo,fo,cV];rfl
theorem Gs{x:Img}{l:List Img}(h:agn x l=true):∃i,i<l.length/\(l.getD i im0).role=x.role:=by unfold agn at h;rw[List.any_eq_true]at h;obtain⟨y,hy,h⟩:=h;obtain⟨i,hi,rfl⟩:=bN hy;refine⟨i,hi, ?_⟩;rw[ay]at h;rw[aa,ab hi];exact of_decide_eq_true h.1
theorem XJ(B:List UInt8)(hB:B.length<=1000)(role:Int)(r1:1<=role)(r4:role<=4):∀(n:Nat)(l:List Img)(j:Nat),l.length+n<=8->ChP l role->
 ∃r j',ChP (l++r) role/\r.length<=n/\(1<=n->∃i,i<(l++r).length/\((l++r).getD i im0).role=role)/\
 run T (.loop xZ) ⟨[(3,.ptr 12100 0),(4,.lst 4 (fo l) (.id 104)),(5,.int .i64 role),(6,.int .i64 (n:Int))],[(12100,aM B j)],[104]⟩=
  some (.x 2,⟨[(3,.ptr 12100 0),(4,.lst 4 (fo (l++r)) (.id 104)),(5,.int .i64 role)],[(12100,aM B j')],[104]⟩):=by
 intro n;induction n with
 |zero=>intro l j hl hc;refine⟨[],j,by rw[bC];exact hc,bM _,fun h=>absurd h (by omega), ?_⟩;rw[bC,ai];simp only[aM];simp only[go_sem,Q0,Q1,Q2,Q3,Q4,Q5,Q6,Q7,Q8,Q9,Qa,Qb,Qc,Qd,Qe,Qf,Qg,Qh,Qi,Qj,Qk,reduceCtorEq,reduceIte]
 |succ n ih=>
  intro l j hl hc;obtain⟨x,j1,hx,hr,g⟩:=f72 B j hB role r1 r4;have ga:=xju B j1 l x role ((n+1:Nat):Int) (by omega) l.length 0 false (by omega) (bM _);have hp:(0:Int)<((n+1:Nat):Int):=by omega
  have e1:ac.wrap (((n+1:Nat):Int)-1)=(n:Int):=wZ (by omega)
  have hv:=dS l;have hs:=ra l x;have c1:(l.length+1)*56<=140737488355328:=by omega
  rw[bh,ez,show((0:Nat):Int)=0 from rfl]at ga;cases ha:agn x l with
  |true=>
   rw[ha]at ga;obtain⟨r,j',q1,q2,q3,q4⟩:=ih l j1 (by omega) hc;refine⟨r,j',q1,by omega,fun _=> ?_, ?_⟩
   ·obtain⟨i,hi,e⟩:=Gs ha
    refine⟨i,by rw[af];omega, ?_⟩;rw[aa,bg hi,<-aa,e,hr]
   ·rw[ai]
    obtain⟨a,b,c,d⟩:=x;simp only[aM,Img.sv]at g ga q4 hs ⊢;simp only[go_sem,Q0,Q1,Q2,Q3,Q4,Q5,Q6,Q7,Q8,Q9,Qa,Qb,Qc,Qd,Qe,Qf,Qg,Qh,Qi,Qj,Qk,reduceCtorEq,reduceIte,hp,g,xiJ,e1,ga,q4]
  |false=>
   rw[ha]at ga;obtain⟨r,j',q1,q2,q3,q4⟩:=ih (l++ [x]) j1 (by rw[af,aD];omega) (hc.snoc hx hr ha);rw[aw]at q1 q3 q4;refine⟨[x]++r,j',q1,by rw[af,aD];omega,fun _=> ?_, ?_⟩
   ·refine⟨l.length,by rw[af,af,aD];omega, ?_⟩
    rw[aa,bA (aL _),Nat.sub_self];exact hr
   ·rw[ai]
    obtain⟨a,b,c,d⟩:=x;rw[<-aw,<-ra]at*;simp only[aM,Img.sv]at g ga q4 ⊢;simp only[go_sem,Q0,Q1,Q2,Q3,Q4,Q5,Q6,Q7,Q8,Q9,Qa,Qb,Qc,Qd,Qe,Qf,Qg,Qh,Qi,Qj,Qk,reduceCtorEq,reduceIte,hp,g,xiJ,e1,ga,hv,c1,q4]
theorem tL{l r:List Img}{c:Int}(h:∃i,i<l.length/\(l.getD i im0).role=c):∃i,i<(l++r).length/\((l++r).getD i im0).role=c:=by obtain⟨i,hi,e⟩:=h;refine⟨i,by rw[af];omega, ?_⟩;rw[aa,bg hi,<-aa,e]
theorem XI(B:List UInt8)(hB:B.length<=1000)(role:Int)(r1:1<=role)(r4:role<=4)(l:List Img)(j:Nat)(hl:l.length+2<=8)(hc:ChP l role):
 ∃r j',ChP (l++r) role/\r.length<=2/\(role=1\/role=3->∃i,i<(l++r).length/\((l++r).getD i im0).role=role)/\
 run T (.loop pR) ⟨[(3,.ptr 12100 0),(4,.lst 4 (fo l) (.id 104)),(5,.int .i64 role)],[(12100,aM B j)],[104]⟩=
 run T (.loop pR) ⟨[(3,.ptr 12100 0),(4,.lst 4 (fo (l++r)) (.id 104)),(5,.int .i64 (role+1))],[(12100,aM B j')],[104]⟩:=by
 have g1:=f71 B j 3 (by omega) (by omega);have g2:=f71 B (cj B j) 2 (by omega) (by omega);have v1:=dL B j 3 (by omega);have v2:=dL B (cj B j) 2 (by omega);rw[cz3]at g1;rw[c2]at g2;have e:ac.wrap (1+((du B (cj B j) 2:Nat):Int))=((1+du B (cj B j) 2:Nat):Int):=wZ (by omega)
 have hr:role=1\/role=2\/role=3\/role=4:=by omega
 rcases hr with rfl|rfl|rfl|rfl
 ·obtain⟨r,j',q1,q2,q3,q4⟩:=XJ B hB 1 (by decide) (by decide) (1+du B (cj B j) 2) l (cj B (cj B j)) (by omega) hc
  refine⟨r,j',q1,by omega,fun _=>q3 (by omega), ?_⟩;rw[ai];simp only[aM]at g1 g2 q4 ⊢;simp only[go_sem,Q0,Q1,Q2,Q3,Q4,Q5,Q6,Q7,Q8,Q9,Qa,Qb,Qc,Qd,Qe,Qf,Qg,Qh,Qi,Qj,Qk,reduceCtorEq,reduceIte,g1,g2,fB,e,q4];rfl
 ·obtain⟨r,j',q1,q2,q3,q4⟩:=XJ B hB 2 (by decide) (by decide) (du B j 3) l (cj B j) (by omega) hc
  refine⟨r,j',q1,by omega,fun h=>absurd h (by decide), ?_⟩;rw[ai];simp only[aM]at g1 g2 q4 ⊢;simp only[go_sem,Q0,Q1,Q2,Q3,Q4,Q5,Q6,Q7,Q8,Q9,Qa,Qb,Qc,Qd,Qe,Qf,Qg,Qh,Qi,Qj,Qk,reduceCtorEq,reduceIte,g1,fB,q4];rfl
 ·obtain⟨r,j',q1,q2,q3,q4⟩:=XJ B hB 3 (by decide) (by decide) (1+du B (cj B j) 2) l (cj B (cj B j)) (by omega) hc
  refine⟨r,j',q1,by omega,fun _=>q3 (by omega), ?_⟩;rw[ai];simp only[aM]at g1 g2 q4 ⊢;simp only[go_sem,Q0,Q1,Q2,Q3,Q4,Q5,Q6,Q7,Q8,Q9,Qa,Qb,Qc,Qd,Qe,Qf,Qg,Qh,Qi,Qj,Qk,reduceCtorEq,reduceIte,g1,g2,fB,e,q4];rfl
 ·obtain⟨r,j',q1,q2,q3,q4⟩:=XJ B hB 4 (by decide) (by decide) (du B j 3) l (cj B j) (by omega) hc
  refine⟨r,j',q1,by omega,fun h=>absurd h (by decide), ?_⟩;rw[ai];simp only[aM]at g1 g2 q4 ⊢;simp only[go_sem,Q0,Q1,Q2,Q3,Q4,Q5,Q6,Q7,Q8,Q9,Qa,Qb,Qc,Qd,Qe,Qf,Qg,Qh,Qi,Qj,Qk,reduceCtorEq,reduceIte,g1,fB,q4];rfl
theorem yB{l:List Img}{a b:Int}(h:ChP l a)(hab:a<=b):ChP l b:=⟨h.ok,fun i hi=>Int.le_trans (h.le i hi) hab,h.ord,h.dup⟩
theorem f28(codes:List UInt8):∃l,eH l/\call T 28 [.byt codes .no] [] 0=some ⟨.lst 4 (fo l) .no,[],[]⟩:=by
 have hB:(codes.take 200).length<=1000:=by rw[av];omega
 have g:=f29 codes 200;rw[xkx]at g;generalize codes.take 200=B at*;have h0:ChP [] 1:=⟨fun i hi=>absurd hi (by simp),fun i hi=>absurd hi (by simp),fun i hi=>absurd hi (by simp),fun i hi=>absurd hi (by simp)⟩;obtain⟨a1,j1,p1,n1,w1,t1⟩:=XI B hB 1 (by decide) (by decide) [] 0 (by decide) h0;rw[aQ]at p1 w1 t1;obtain⟨a2,j2,p2,n2,w2,t2⟩:=XI B hB 2 (by decide) (by decide) a1 j1 (by omega) (yB p1 (by decide));obtain⟨a3,j3,p3,n3,w3,t3⟩:=XI B hB 3 (by decide) (by decide) (a1++a2) j2 (by rw[af];omega) (yB p2 (by decide));obtain⟨a4,j4,p4,n4,w4,t4⟩:=XI B hB 4 (by decide) (by decide) (a1++a2++a3) j3 (by simp only[af];omega) (yB p3 (by decide));refine⟨a1++a2++a3++a4,⟨?_, ?_,p4.ok,p4.ord,p4.dup,tL (tL (tL (w1 (Or.inl rfl)))),tL (w3 (Or.inr rfl))⟩, ?_⟩
 ·obtain⟨i,hi,_⟩:=w1 (Or.inl rfl)
  simp only[af];omega
 ·simp only[af];omega
 ·rw[an xln]
  rw[show(1:Int)+1=2 from rfl]at t1;rw[show(2:Int)+1=3 from rfl]at t2;rw[show(3:Int)+1=4 from rfl]at t3;rw[show(4:Int)+1=5 from rfl]at t4
  have t5:run T (.loop pR) ⟨[(3,.ptr 12100 0),(4,.lst 4 (fo (a1++a2++a3++a4)) (.id 104)),(5,.int .i64 5)],[(12100,aM B j4)],[104]⟩=some (.x 0,⟨[(4,.lst 4 (fo (a1++a2++a3++a4)) (.id 104))],[(12100,aM B j4)],[104]⟩):=by rw[ai];simp only[aM,go_sem,Q0,Q1,Q2,Q3,Q4,Q5,Q6,Q7,Q8,Q9,Qa,Qb,Qc,Qd,Qe,Qf,Qg,Qh,Qi,Qj,Qk,reduceCtorEq,reduceIte]
  rw[t5]at t4;rw[t4]at t3;rw[t3]at t2;rw[t2]at t1;have e0:fo []=[]:=rfl;rw[e0]at t1;simp only[aM,c0,aw]at g t1;simp only[go_sem,Q0,Q1,Q2,Q3,Q4,Q5,Q6,Q7,Q8,Q9,Qa,Qb,Qc,Qd,Qe,Qf,Qg,Qh,Qi,Qj,Qk,reduceCtorEq,reduceIte,g,RK,t1,aw]
theorem pA(l:List Ev)(e:Ev):nH (l++ [e])=nH l++ [e.sv]:=by simp[nH]
def rR(a:Int):Nat->Nat->List Ev
 |_,0=> []
 |i,n+1=>mkV i 2 a [0,0,0,0]::rR a (i+1) n
theorem pe(a:Int):∀n i,(rR a i n).length=n
 |0,_=>rfl
 |n+1,i=>by rw[rR,ax,pe a n]
theorem xjw(L:List (List SV))(a role:Int)(ha:rG a):∀(n i:Nat)(acc:List Ev),8-i=n->i<=8->acc.length<=100000+i->
 run T (.loop x9) ⟨[(0,.lst 4 L .no),(1,.int .i64 a),(5,.lst 4 (nH acc) (.id 105)),(6,.int .i64 role),(7,.int .i64 i)],[],[105]⟩=
 some (.x 2,⟨[(0,.lst 4 L .no),(1,.int .i64 a),(5,.lst 4 (nH (acc++rR a i n)) (.id 105)),(6,.int .i64 role)],[],[105]⟩):=by
 have g1:=f69;intro n;induction n with
 |zero=>
  intro i acc h0 h1 h2;have:i=8:=by omega
  subst this;rw[ai];simp only[go_sem,Q0,Q1,Q2,Q3,Q4,Q5,Q6,Q7,Q8,Q9,Qa,Qb,Qc,Qd,Qe,Qf,Qg,Qh,Qi,Qj,Qk,reduceCtorEq,reduceIte,rR,bC]
 |succ n ih=>
  intro i acc h0 h1 h2;have hi:(i:Int)<8:=by omega
  have e1:=cy i (by omega);have g:=f68 i 2 a [0,0,0,0] ha (by simp);have ih':=ih (i+1) (acc++ [mkV i 2 a [0,0,0,0]]) (by omega) (by omega) (by rw[af,aD];omega);rw[pA,aw,dJ]at ih';have hl:=lQ acc;have c1:(acc.length+1)*64<=140737488355328:=by omega
  rw[ai,rR];simp only[Ev.sv]at g ih';simp only[go_sem,Q0,Q1,Q2,Q3,Q4,Q5,Q6,Q7,Q8,Q9,Qa,Qb,Qc,Qd,Qe,Qf,Qg,Qh,Qi,Qj,Qk,reduceCtorEq,reduceIte,hi,e1,g1,xlD,g,mV,hl,c1,ih']
theorem yy(B:Nat):∀(p:List UInt8)(o:List (List UInt8))(l:List UInt8)(o':List (List UInt8))(l':List UInt8),o.length<=4->(∀x∈o,x.length<=B)->l.length+p.length<=B->lnF p o l=some (o',l')->o'.length<=4/\∀x∈o',x.length<=B
 |[],o,l,o',l',h1,h2,_,h=>by cases h;exact⟨h1,h2⟩
 |c::r,o,l,o',l',h1,h2,h3,h=>by
  rw[ax]at h3;unfold lnF at h;split at h
  ·split at h
   ·cases h
   ·split at h
    ·cases h
    ·refine yy B r _ _ o' l' (by rw[af,aD];omega) ?_ (by simp;omega) h
     intro x hx;rcases ak.1 hx with hx|hx
     ·exact h2 x hx
     ·rw[aN.1 hx];omega
  ·split at h
   ·cases h
   ·split at h
    ·cases h
    ·exact yy B r _ _ o' l' h1 h2 (by rw[af,aD];omega) h
theorem mq(p:List UInt8):(eK p).length<=4/\∀x∈eK p,x.length<=p.length:=by
 unfold eK;split
 ·rename_i o l h
  have:=yy p.length p [] [] o l (by simp) (by simp) (by simp) h;split
  ·exact⟨by simp,by simp⟩
  ·exact this
 ·exact⟨by simp,by simp⟩
theorem Rt(l:List (List UInt8))(i:Nat)(h:i<l.length):(bls l).getD i []=[.byt (l.getD i []) .no]:=by simp[bls,aa,h]
theorem xjv(L:List (List SV))(a role:Int)(i:Int)(ls:List (List UInt8))(ha:rG a)(hls:∀x∈ls,x.length<=1000000)(hn:ls.length<=4):∀(n k:Nat)(acc:List Ev),ls.length-k=n->k<=ls.length->acc.length<=100000+k->
 run T (.loop x7) ⟨[(0,.lst 4 L .no),(1,.int .i64 a),(5,.lst 4 (nH acc) (.id 105)),(6,.int .i64 role),(8,.int .i64 i),(9,.lst 1 (bls ls) .no),(10,.int .i64 k)],[],[105]⟩=
 some (.x 6,⟨[(0,.lst 4 L .no),(1,.int .i64 a),(5,.lst 4 (nH (acc++(ls.drop k).map (mkV 9 3 a))) (.id 105)),(6,.int .i64 role),(8,.int .i64 i)],[],[105]⟩):=by
 intro n;induction n with
 |zero=>
  intro k acc h0 h1 h2;have:k=ls.length:=by omega
  subst this;have hb:=kS ls;rw[ai,bl];simp only[go_sem,Q0,Q1,Q2,Q3,Q4,Q5,Q6,Q7,Q8,Q9,Qa,Qb,Qc,Qd,Qe,Qf,Qg,Qh,Qi,Qj,Qk,reduceCtorEq,reduceIte,hb,bC]
 |succ n ih=>
  intro k acc h0 h1 h2;have hk:k<ls.length:=by omega
  have e1:=cy k (by omega);have hb:=kS ls;have hg:=Rt ls k hk;have hm:ls.getD k []∈ls:=by rw[aa,ab hk];exact bj _
  have g:=f68 9 3 a (ls.getD k []) ha (hls _ hm);have ih':=ih (k+1) (acc++ [mkV 9 3 a (ls.getD k [])]) (by omega) (by omega) (by rw[af,aD];omega);have hd:ls.drop k=ls.getD k []::ls.drop (k+1):=mA ls k hk;rw[pA,aw,dJ]at ih';rw[hd,aE];have hl:=lQ acc;have c1:(acc.length+1)*64<=140737488355328:=by omega
  generalize ls.getD k []=d at*;rw[ai];simp only[Ev.sv]at g ih';simp only[go_sem,Q0,Q1,Q2,Q3,Q4,Q5,Q6,Q7,Q8,Q9,Qa,Qb,Qc,Qd,Qe,Qf,Qg,Qh,Qi,Qj,Qk,reduceCtorEq,reduceIte,hk,e1,hb,hg,g,mV,hl,c1,ih']
def jF(a role:Int)(x:Img):List Ev:=if x.role=role then(if role=4 then(eK x.pay).map (mkV 9 3 a)else [ofI x a])else []
theorem vg(a role:Int)(x:Img):(jF a role x).length<=4:=by
 unfold jF;split
 ·split
  ·rw[aY];exact(mq x.pay).1
  ·simp
 ·simp
theorem XK(l:List Img)(hc:eH l)(a role:Int)(ha:rG a):∀(n i:Nat)(acc:List Ev),l.length-i=n->i<=l.length->acc.length<=10000+4*i->
 run T (.loop x6) ⟨[(0,.lst 4 (fo l) .no),(1,.int .i64 a),(5,.lst 4 (nH acc) (.id 105)),(6,.int .i64 role),(8,.int .i64 i)],[],[105]⟩=
 some (.x 4,⟨[(0,.lst 4 (fo l) .no),(1,.int .i64 a),(5,.lst 4 (nH (acc++(l.drop i).flatMap (jF a role))) (.id 105)),(6,.int .i64 role)],[],[105]⟩):=by
 intro n;induction n with
 |zero=>
  intro i acc h0 h1 h2;have:i=l.length:=by omega
  subst this;have hb:=dS l;rw[ai,bl];simp only[go_sem,Q0,Q1,Q2,Q3,Q4,Q5,Q6,Q7,Q8,Q9,Qa,Qb,Qc,Qd,Qe,Qf,Qg,Qh,Qi,Qj,Qk,reduceCtorEq,reduceIte,hb,List.flatMap_nil,bC]
 |succ n ih=>
  intro i acc h0 h1 h2;have hi:i<l.length:=by omega
  have n8:=hc.n8;have e1:=cy i (by omega);have hb:=dS l;have hg:=fK l i hi;have hok:=hc.ok i hi;obtain⟨b1,b2⟩:=nC hok;have hlen:=vg a role (l.getD i im0);have ih':=ih (i+1) (acc++jF a role (l.getD i im0)) (by omega) (by omega) (by rw[af];omega);have hd:l.drop i=l.getD i im0::l.drop (i+1):=by rw[aX hi,aa,ab hi];rfl
  rw[hd,jo];rw[aw]at ih';generalize (l.drop (i+1)).flatMap (jF a role)=R at*;rw[ai];have g1:=f70 (l.getD i im0) (by omega);have g2:=fun h4=>f40 (l.getD i im0) a ha hok h4
  obtain⟨k1,k2⟩:=mq (l.getD i im0).pay;generalize l.getD i im0=x at*;have g3:=xjv (fo l) a 4 i (eK x.pay) ha (fun y hy=>by have:=k2 y hy;omega) k1 _ 0 acc rfl (by omega) (by omega);simp only[aC,bh]at g3;have hl:=lQ acc;have c1:(acc.length+1)*64<=140737488355328:=by omega
  unfold jF at ih' ⊢
  by_cases hr:x.role=role
  ·by_cases h4:role=4
   ·rw[if_pos hr,if_pos h4]at ih' ⊢
    subst h4;obtain⟨ro,na,ve,p⟩:=x;simp only[Img.sv]at*;subst hr;simp only[go_sem,Q0,Q1,Q2,Q3,Q4,Q5,Q6,Q7,Q8,Q9,Qa,Qb,Qc,Qd,Qe,Qf,Qg,Qh,Qi,Qj,Qk,reduceCtorEq,reduceIte,hi,e1,hb,hg,g1,xdc,g3,ih']
   ·rw[if_pos hr,if_neg h4]at ih' ⊢
    have g2':=g2 (by rw[hr];exact h4);obtain⟨ro,na,ve,p⟩:=x;simp only[Img.sv]at*;subst hr;rw[<-aw,pA,aw]at ih';simp only[Ev.sv]at g2' ih';simp only[go_sem,Q0,Q1,Q2,Q3,Q4,Q5,Q6,Q7,Q8,Q9,Qa,Qb,Qc,Qd,Qe,Qf,Qg,Qh,Qi,Qj,Qk,reduceCtorEq,reduceIte,hi,e1,hb,hg,h4,g2',xiK,hl,c1,ih']
  ·rw[if_neg hr]at ih' ⊢
   obtain⟨ro,na,ve,p⟩:=x;simp only[Img.sv,aQ,bC]at*;simp only[go_sem,Q0,Q1,Q2,Q3,Q4,Q5,Q6,Q7,Q8,Q9,Qa,Qb,Qc,Qd,Qe,Qf,Qg,Qh,Qi,Qj,Qk,reduceCtorEq,reduceIte,hi,e1,hb,hg,hr,ih']
def evF(l:List Img)(a:Int):List Ev:=l.flatMap (jF a 1)++(l.flatMap (jF a 2)++(rR a 0 8++(l.flatMap (jF a 3)++l.flatMap (jF a 4))))
theorem hZ(l:List Img)(a role:Int):(l.flatMap (jF a role)).length<=4*l.length:=by
 induction l with
 |nil=>simp
 |cons x r ih=>rw[jo,af,ax];have:=vg a role x;omega
theorem f27(l:List Img)(hc:eH l)(a:Int)(ha:rG a):call T 27 [.lst 4 (fo l) .no,.int .i64 a] [] 0=some ⟨.lst 4 (nH (evF l a)) .no,[],[]⟩:=by
 have g:=f67 l hc;have n8:=hc.n8;have b1:=hZ l a 1;have b2:=hZ l a 2;have b3:=hZ l a 3;have b0:=pe a 8 0;have q1:=XK l hc a 1 ha _ 0 [] rfl (by omega) (by simp);have q2:=XK l hc a 2 ha _ 0 (l.flatMap (jF a 1)) rfl (by omega) (by omega);have q0:=xjw (fo l) a 3 ha _ 0 (l.flatMap (jF a 1)++l.flatMap (jF a 2)) rfl (by omega) (by rw[af];omega);have q3:=XK l hc a 3 ha _ 0 (l.flatMap (jF a 1)++l.flatMap (jF a 2)++rR a 0 8) rfl (by omega) (by rw[af,af];omega);have q4:=XK l hc a 4 ha _ 0 (l.flatMap (jF a 1)++l.flatMap (jF a 2)++rR a 0 8++l.flatMap (jF a 3)) rfl (by omega) (by rw[af,af,af];omega);simp only[aC,bh,aQ,aw]at q1 q2 q0 q3 q4;have hev:nH []=[]:=rfl;rw[hev]at q1;have a1:¬a<1:=by rcases ha with h|h|h<;>omega
 have a3:¬3<a:=by rcases ha with h|h|h<;>omega
 have k2:ac.wrap 2=2:=rfl;have k3:ac.wrap 3=3:=rfl;have k4:ac.wrap 4=4:=rfl;have k5:ac.wrap 5=5:=rfl;rw[an xlo];unfold evF;simp only[go_sem,Q0,Q1,Q2,Q3,Q4,Q5,Q6,Q7,Q8,Q9,Qa,Qb,Qc,Qd,Qe,Qf,Qg,Qh,Qi,Qj,Qk,reduceCtorEq,reduceIte,g,xlE,a1,a3];rw[ai];simp only[go_sem,Q0,Q1,Q2,Q3,Q4,Q5,Q6,Q7,Q8,Q9,Qa,Qb,Qc,Qd,Qe,Qf,Qg,Qh,Qi,Qj,Qk,reduceCtorEq,reduceIte,k2,k3,k4,k5,q1];rw[ai];simp only[go_sem,Q0,Q1,Q2,Q3,Q4,Q5,Q6,Q7,Q8,Q9,Qa,Qb,Qc,Qd,Qe,Qf,Qg,Qh,Qi,Qj,Qk,reduceCtorEq,reduceIte,k2,k3,k4,k5,q2];rw[ai];simp only[go_sem,Q0,Q1,Q2,Q3,Q4,Q5,Q6,Q7,Q8,Q9,Qa,Qb,Qc,Qd,Qe,Qf,Qg,Qh,Qi,Qj,Qk,reduceCtorEq,reduceIte,k2,k3,k4,k5,q0,q3];rw[ai];simp only[go_sem,Q0,Q1,Q2,Q3,Q4,Q5,Q6,Q7,Q8,Q9,Qa,Qb,Qc,Qd,Qe,Qf,Qg,Qh,Qi,Qj,Qk,reduceCtorEq,reduceIte,k2,k3,k4,k5,q4];rw[ai];simp only[go_sem,Q0,Q1,Q2,Q3,Q4,Q5,Q6,Q7,Q8,Q9,Qa,Qb,Qc,Qd,Qe,Qf,Qg,Qh,Qi,Qj,Qk,reduceCtorEq,reduceIte,k2,k3,k4,k5]
theorem f33(role:Int):call T 33 [.int .i64 role] [] 0=some ⟨.int .i64 (zV role),[],[]⟩:=by
 rw[an xlk];unfold zV
 by_cases h1:role=1
 ·subst h1;simp only[go_sem,Q0,Q1,Q2,Q3,Q4,Q5,Q6,Q7,Q8,Q9,Qa,Qb,Qc,Qd,Qe,Qf,Qg,Qh,Qi,Qj,Qk,reduceCtorEq,reduceIte,oH]
 by_cases h2:role=2
 ·subst h2;simp only[go_sem,Q0,Q1,Q2,Q3,Q4,Q5,Q6,Q7,Q8,Q9,Qa,Qb,Qc,Qd,Qe,Qf,Qg,Qh,Qi,Qj,Qk,reduceCtorEq,reduceIte,oH]
 by_cases h3:role=3
 ·subst h3;simp only[go_sem,Q0,Q1,Q2,Q3,Q4,Q5,Q6,Q7,Q8,Q9,Qa,Qb,Qc,Qd,Qe,Qf,Qg,Qh,Qi,Qj,Qk,reduceCtorEq,reduceIte,oH]
 by_cases h4:role=4
 ·subst h4;simp only[go_sem,Q0,Q1,Q2,Q3,Q4,Q5,Q6,Q7,Q8,Q9,Qa,Qb,Qc,Qd,Qe,Qf,Qg,Qh,Qi,Qj,Qk,reduceCtorEq,reduceIte,oH]
 by_cases h0:role=0
 ·subst h0;simp only[go_sem,Q0,Q1,Q2,Q3,Q4,Q5,Q6,Q7,Q8,Q9,Qa,Qb,Qc,Qd,Qe,Qf,Qg,Qh,Qi,Qj,Qk,reduceCtorEq,reduceIte,oH]
 by_cases h5:role<0
 ·simp only[go_sem,Q0,Q1,Q2,Q3,Q4,Q5,Q6,Q7,Q8,Q9,Qa,Qb,Qc,Qd,Qe,Qf,Qg,Qh,Qi,Qj,Qk,reduceCtorEq,reduceIte,h1,h2,h3,h4,h5]
 ·have h6:5<=role:=by omega
  simp only[go_sem,Q0,Q1,Q2,Q3,Q4,Q5,Q6,Q7,Q8,Q9,Qa,Qb,Qc,Qd,Qe,Qf,Qg,Qh,Qi,Qj,Qk,reduceCtorEq,reduceIte,h1,h2,h3,h4,h5,h6]
theorem f77(a b:List UInt8):call T 77 [.byt a .no,.byt b .no] [] 0=some ⟨.bool (decide (a=b)),[],[]⟩:=by rw[an xkO];simp only[go_sem,Q0,Q1,Q2,Q3,Q4,Q5,Q6,Q7,Q8,Q9,Qa,Qb,Qc,Qd,Qe,Qf,Qg,Qh,Qi,Qj,Qk,reduceCtorEq,reduceIte]
def PO(b:List UInt8):Bool:=b.all fun c=> !(decide (c<32)||decide (126<c))
def nI(m:Bool)(d s:List UInt8):Bool:=if(0:Int)<d.length then(m&&decide (d=s))else true
def Rm(e:Ev):Bool:=
 if e.kind=1 then true
 else if e.kind=2 then(if e.data=[0,0,0,0]then nI true (e.dg.getD 0 []) (kX e.data)&&nI true (e.dg.getD 1 []) (sha e.data)else false)
 else if e.kind=3 then(if(e.data.length:Int)=0 then false else if PO e.data=true then nI true (e.dg.getD 0 []) (kX e.data)&&nI true (e.dg.getD 1 []) (sha e.data)else false)
 else if e.kind=4 then nI true (e.dg.getD 0 []) (kX e.data)&&nI true (e.dg.getD 1 []) (sha e.data)
 else if e.kind=5 then nI false (e.dg.getD 0 []) []&&nI false (e.dg.getD 1 []) []
 else false
theorem xjo(O:SV)(m:Bool)(ob:List (Nat×aB))(b:List UInt8)(hb:b.length<=1000000000000):∀(n i:Nat),b.length-i=n->i<=b.length->
 run T (.loop xN) ⟨[(1,O),(3,.bool m),(34,.byt b .no),(35,.int .i64 b.length),(36,.int .i64 i)],ob,[]⟩=
 if PO (b.drop i)=true then some (.x 1,⟨[(1,O),(3,.bool m)],ob,[]⟩)else some (.r,⟨[(2,.bool false)],ob,[]⟩):=by
 intro n;induction n with
 |zero=>
  intro i h0 h1;have hi:i=b.length:=by omega
  subst hi;rw[ai,bl];simp only[go_sem,Q0,Q1,Q2,Q3,Q4,Q5,Q6,Q7,Q8,Q9,Qa,Qb,Qc,Qd,Qe,Qf,Qg,Qh,Qi,Qj,Qk,reduceCtorEq,reduceIte,PO]
 |succ n ih=>
  intro i h0 h1;have hi:i<b.length:=by omega
  have e1:=cy i (by omega);have ih':=ih (i+1) (by omega) (by omega);rw[ai,dj b i hi];unfold PO at ih' ⊢;rw[iy];generalize hc:b.getD i 0=c at*;generalize (ig (i+1) b).all _=q at*
  by_cases a1:c<32
  ·simp only[go_sem,Q0,Q1,Q2,Q3,Q4,Q5,Q6,Q7,Q8,Q9,Qa,Qb,Qc,Qd,Qe,Qf,Qg,Qh,Qi,Qj,Qk,reduceCtorEq,reduceIte,hi,hc,e1,a1]
  ·by_cases a2:126<c
   ·simp only[go_sem,Q0,Q1,Q2,Q3,Q4,Q5,Q6,Q7,Q8,Q9,Qa,Qb,Qc,Qd,Qe,Qf,Qg,Qh,Qi,Qj,Qk,reduceCtorEq,reduceIte,hi,hc,e1,a1,a2]
   ·simp only[go_sem,Q0,Q1,Q2,Q3,Q4,Q5,Q6,Q7,Q8,Q9,Qa,Qb,Qc,Qd,Qe,Qf,Qg,Qh,Qi,Qj,Qk,reduceCtorEq,reduceIte,hi,hc,e1,a1,a2,ih']
theorem xic(
 m:Bool)(g k:Int)(d0 d1 b s0 s1:List UInt8)(hb:b.length<=1000000)(h0:m=true->s0=kX b)(h1:m=true->s1=sha b):
 run T (.loop xM) ⟨[(1,.ptr 101 0),(3,.bool m),(53,.int .i64 2),(54,.int .i64 0)],[(101,.rc [.int .i64 g,.int .i64 k,.lst 1 [[.byt d0 .no],[.byt d1 .no]] .no,.byt b .no])],[]⟩=
 if(nI m d0 s0&&nI m d1 s1)=true then some (.x 3,⟨[],[(101,.rc [.int .i64 g,.int .i64 k,.lst 1 [[.byt d0 .no],[.byt d1 .no]] .no,.byt b .no])],[]⟩)
 else some (.r,⟨[(2,.bool false)],[(101,.rc [.int .i64 g,.int .i64 k,.lst 1 [[.byt d0 .no],[.byt d1 .no]] .no,.byt b .no])],[]⟩):=by
 have g0:=xjV b (by omega);have g1:=f90 b (by omega);have g2:=f77 d0 (kX b);have g3:=f77 d1 (sha b);have k1:ac.wrap 1=1:=rfl;have k2:ac.wrap 2=2:=rfl;unfold nI;cases m with
 |false=>
  by_cases a1:(0:Int)<d0.length
  ·rw[ai];simp only[go_sem,Q0,Q1,Q2,Q3,Q4,Q5,Q6,Q7,Q8,Q9,Qa,Qb,Qc,Qd,Qe,Qf,Qg,Qh,Qi,Qj,Qk,reduceCtorEq,reduceIte,a1]
  ·by_cases a2:(0:Int)<d1.length
   ·iterate 2
     rw[ai];simp only[go_sem,Q0,Q1,Q2,Q3,Q4,Q5,Q6,Q7,Q8,Q9,Qa,Qb,Qc,Qd,Qe,Qf,Qg,Qh,Qi,Qj,Qk,reduceCtorEq,reduceIte,a1,a2,k1,k2]
   ·iterate 3
     rw[ai];simp only[go_sem,Q0,Q1,Q2,Q3,Q4,Q5,Q6,Q7,Q8,Q9,Qa,Qb,Qc,Qd,Qe,Qf,Qg,Qh,Qi,Qj,Qk,reduceCtorEq,reduceIte,a1,a2,k1,k2]
 |true=>
  rw[h0 rfl,h1 rfl]
  by_cases a1:(0:Int)<d0.length
  ·by_cases b1:d0=kX b
   ·have g2':call T 77 [.byt d0 .no,.byt (kX b) .no] [] 0=some ⟨.bool true,[],[]⟩:=by rw[g2,decide_eq_true b1]
    by_cases a2:(0:Int)<d1.length
    ·by_cases b2:d1=sha b
     ·have g3':call T 77 [.byt d1 .no,.byt (sha b) .no] [] 0=some ⟨.bool true,[],[]⟩:=by rw[g3,decide_eq_true b2]
      rw[decide_eq_true b1,decide_eq_true b2]
      iterate 3
       rw[ai];simp only[go_sem,Q0,Q1,Q2,Q3,Q4,Q5,Q6,Q7,Q8,Q9,Qa,Qb,Qc,Qd,Qe,Qf,Qg,Qh,Qi,Qj,Qk,reduceCtorEq,reduceIte,a1,a2,k1,k2,g0,g1,g2',g3',xj,vy]
     ·have g3':call T 77 [.byt d1 .no,.byt (sha b) .no] [] 0=some ⟨.bool false,[],[]⟩:=by rw[g3,decide_eq_false b2]
      rw[decide_eq_true b1,decide_eq_false b2]
      iterate 2
       rw[ai];simp only[go_sem,Q0,Q1,Q2,Q3,Q4,Q5,Q6,Q7,Q8,Q9,Qa,Qb,Qc,Qd,Qe,Qf,Qg,Qh,Qi,Qj,Qk,reduceCtorEq,reduceIte,a1,a2,k1,k2,g0,g1,g2',g3',xj,vy]
    ·rw[decide_eq_true b1]
     iterate 3
      rw[ai];simp only[go_sem,Q0,Q1,Q2,Q3,Q4,Q5,Q6,Q7,Q8,Q9,Qa,Qb,Qc,Qd,Qe,Qf,Qg,Qh,Qi,Qj,Qk,reduceCtorEq,reduceIte,a1,a2,k1,k2,g0,g1,g2',xj,vy]
   ·have g2':call T 77 [.byt d0 .no,.byt (kX b) .no] [] 0=some ⟨.bool false,[],[]⟩:=by rw[g2,decide_eq_false b1]
    rw[decide_eq_false b1];rw[ai];simp only[go_sem,Q0,Q1,Q2,Q3,Q4,Q5,Q6,Q7,Q8,Q9,Qa,Qb,Qc,Qd,Qe,Qf,Qg,Qh,Qi,Qj,Qk,reduceCtorEq,reduceIte,a1,k1,k2,g0,g1,g2',xj,vy]
  ·by_cases a2:(0:Int)<d1.length
   ·by_cases b2:d1=sha b
    ·have g3':call T 77 [.byt d1 .no,.byt (sha b) .no] [] 0=some ⟨.bool true,[],[]⟩:=by rw[g3,decide_eq_true b2]
     rw[decide_eq_true b2]
     iterate 3
      rw[ai];simp only[go_sem,Q0,Q1,Q2,Q3,Q4,Q5,Q6,Q7,Q8,Q9,Qa,Qb,Qc,Qd,Qe,Qf,Qg,Qh,Qi,Qj,Qk,reduceCtorEq,reduceIte,a1,a2,k1,k2,g0,g1,g3',xj,vy]
    ·have g3':call T 77 [.byt d1 .no,.byt (sha b) .no] [] 0=some ⟨.bool false,[],[]⟩:=by rw[g3,decide_eq_false b2]
     rw[decide_eq_false b2]
     iterate 2
      rw[ai];simp only[go_sem,Q0,Q1,Q2,Q3,Q4,Q5,Q6,Q7,Q8,Q9,Qa,Qb,Qc,Qd,Qe,Qf,Qg,Qh,Qi,Qj,Qk,reduceCtorEq,reduceIte,a1,a2,k1,k2,g0,g1,g3',xj,vy]
   ·iterate 3
     rw[ai];simp only[go_sem,Q0,Q1,Q2,Q3,Q4,Q5,Q6,Q7,Q8,Q9,Qa,Qb,Qc,Qd,Qe,Qf,Qg,Qh,Qi,Qj,Qk,reduceCtorEq,reduceIte,a1,a2,k1,k2]
theorem two{α:Type}(l:List α)(d:α)(h:l.length=2):l=[l.getD 0 d,l.getD 1 d]:=by
 match l,h with
 |[a,b],_=>rfl
theorem f79(e:Ev)(hd:e.dg.length=2)(hb:e.data.length<=1000000):call T 79 [.agg e.sv] [] 0=some ⟨.bool (Rm e),[],[]⟩:=by
 obtain⟨g,k,ds,b⟩:=e;simp only at hd hb;rw[two ds [] hd];generalize ds.getD 0 []=d0;generalize ds.getD 1 []=d1;clear hd;have q0:=xic false g k d0 d1 b [] [] hb (fun h=>by cases h) (fun h=>by cases h);have q1:=xic true g k d0 d1 b (kX b) (sha b) hb (fun _=>rfl) (fun _=>rfl);have p:=xjo (.ptr 101 0) true [(101,.rc [.int .i64 g,.int .i64 k,.lst 1 [[.byt d0 .no],[.byt d1 .no]] .no,.byt b .no])] b (by omega) _ 0 rfl (by omega);have p4:=f77 b [0,0,0,0];simp only[aC,bh]at p;have hbl:bls [d0,d1]=[[.byt d0 .no],[.byt d1 .no]]:=rfl;rw[an xkM];unfold Rm Ev.sv;simp only[hbl,bO,b9];generalize (nI false d0 []&&nI false d1 [])=z0 at*;generalize (nI true d0 (kX b)&&nI true d1 (sha b))=z1 at*
 by_cases h1:k=1
 ·subst h1;simp only[go_sem,Q0,Q1,Q2,Q3,Q4,Q5,Q6,Q7,Q8,Q9,Qa,Qb,Qc,Qd,Qe,Qf,Qg,Qh,Qi,Qj,Qk,reduceCtorEq,reduceIte]
 by_cases h2:k=2
 ·subst h2
  by_cases h3:b=[0,0,0,0]
  ·rw[decide_eq_true h3]at p4
   cases z1<;>simp only[go_sem,Q0,Q1,Q2,Q3,Q4,Q5,Q6,Q7,Q8,Q9,Qa,Qb,Qc,Qd,Qe,Qf,Qg,Qh,Qi,Qj,Qk,reduceCtorEq,reduceIte,h3,al]at p4 q1 ⊢ <;>simp only[go_sem,Q0,Q1,Q2,Q3,Q4,Q5,Q6,Q7,Q8,Q9,Qa,Qb,Qc,Qd,Qe,Qf,Qg,Qh,Qi,Qj,Qk,reduceCtorEq,reduceIte,p4,vy,q1,al]
  ·rw[decide_eq_false h3]at p4
   simp only[go_sem,Q0,Q1,Q2,Q3,Q4,Q5,Q6,Q7,Q8,Q9,Qa,Qb,Qc,Qd,Qe,Qf,Qg,Qh,Qi,Qj,Qk,reduceCtorEq,reduceIte,h3,p4,vy,al]
 by_cases h3:k=3
 ·subst h3
  by_cases h4:(b.length:Int)=0
  ·simp only[go_sem,Q0,Q1,Q2,Q3,Q4,Q5,Q6,Q7,Q8,Q9,Qa,Qb,Qc,Qd,Qe,Qf,Qg,Qh,Qi,Qj,Qk,reduceCtorEq,reduceIte,h4]
  ·cases hp:PO b with
   |true=>rw[if_pos hp]at p;cases z1<;>simp only[go_sem,Q0,Q1,Q2,Q3,Q4,Q5,Q6,Q7,Q8,Q9,Qa,Qb,Qc,Qd,Qe,Qf,Qg,Qh,Qi,Qj,Qk,reduceCtorEq,reduceIte]at q1<;>simp only[go_sem,Q0,Q1,Q2,Q3,Q4,Q5,Q6,Q7,Q8,Q9,Qa,Qb,Qc,Qd,Qe,Qf,Qg,Qh,Qi,Qj,Qk,reduceCtorEq,reduceIte,h4,p,q1,hp]
   |false=>rw[if_neg (by rw[hp];simp)]at p;simp only[go_sem,Q0,Q1,Q2,Q3,Q4,Q5,Q6,Q7,Q8,Q9,Qa,Qb,Qc,Qd,Qe,Qf,Qg,Qh,Qi,Qj,Qk,reduceCtorEq,reduceIte,h4,p,hp]
 by_cases h4:k=4
 ·subst h4
  cases z1<;>simp only[go_sem,Q0,Q1,Q2,Q3,Q4,Q5,Q6,Q7,Q8,Q9,Qa,Qb,Qc,Qd,Qe,Qf,Qg,Qh,Qi,Qj,Qk,reduceCtorEq,reduceIte]at q1<;>simp only[go_sem,Q0,Q1,Q2,Q3,Q4,Q5,Q6,Q7,Q8,Q9,Qa,Qb,Qc,Qd,Qe,Qf,Qg,Qh,Qi,Qj,Qk,reduceCtorEq,reduceIte,q1]
 by_cases h5:k=5
 ·subst h5
  cases z0<;>simp only[go_sem,Q0,Q1,Q2,Q3,Q4,Q5,Q6,Q7,Q8,Q9,Qa,Qb,Qc,Qd,Qe,Qf,Qg,Qh,Qi,Qj,Qk,reduceCtorEq,reduceIte]at q0<;>simp only[go_sem,Q0,Q1,Q2,Q3,Q4,Q5,Q6,Q7,Q8,Q9,Qa,Qb,Qc,Qd,Qe,Qf,Qg,Qh,Qi,Qj,Qk,reduceCtorEq,reduceIte,q0]
 simp only[go_sem,Q0,Q1,Q2,Q3,Q4,Q5,Q6,Q7,Q8,Q9,Qa,Qb,Qc,Qd,Qe,Qf,Qg,Qh,Qi,Qj,Qk,reduceCtorEq,reduceIte,h1,h2,h3,h4,h5]
end Go.Proofs.YtkcjdeofknkndaaGreatDoor
