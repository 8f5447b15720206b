/- What the functions come to. No condition. -/
import Derived.Test.YtkcjdeofknkndaaGreatDoorTdIt
open Bool renaming and_eq_true -> az, false_and -> Fb, false_or -> dD, true_or -> im
open Int renaming natCast_zero -> av
open Go.IntKind renaming i64 -> ac
open List renaming all_cons -> gx, append_assoc -> aA, append_nil -> bJ, drop -> iu, drop_eq_getElem_cons -> aS, drop_length -> aX, drop_zero -> bh, flatMap_cons -> jD, getD_cons_succ -> bY, getD_cons_zero -> bL, getD_eq_getElem?_getD -> aa, getElem?_append_left -> bG, getElem?_append_right -> bZ, getElem?_eq_getElem -> ab, getElem_mem -> bp, getElem_of_mem -> cf, length_append -> af, length_cons -> aC, length_map -> au, length_nil -> aB, length_replicate -> ca, length_set -> dr, length_singleton -> aM, length_take -> aj, map_append -> cn, map_cons -> aI, mem_append -> al, mem_singleton -> ba, nil_append -> aF, replicate -> am, singleton_append -> cX, take -> du, take_length -> bv
open Nat renaming le_refl -> aQ, lt_or_ge -> bX, mul_one -> dt, zero_le -> bU
open UInt8 renaming ofInt -> bO
set_option maxRecDepth 100000
set_option maxHeartbeats 16000000
set_option linter.unusedSimpArgs false
set_option linter.unusedVariables false
namespace Go.Proofs.YtkcjdeofknkndaaGreatDoor
open Go.Sy
open UInt8 renaming reduceLT -> Q0, reduceLE -> Q1
open Int renaming reduceToNat -> Q2, reduceLE -> Q3, reduceLT -> Q4, reduceEq -> Q5, reduceNe -> Q6, reduceNeg -> Q7, reduceAdd -> Q8, reduceSub -> Q9, reduceMul -> Qa
open Nat renaming reducePow -> Qb, reduceDiv -> Qc, reduceMod -> Qd, reduceAdd -> Qe, reduceSub -> Qf, reduceMul -> Qg, reduceLT -> Qh, reduceLeDiff -> Qi, reduceEqDiff -> Qj, reduceBEq -> Qk
theorem iV{s:List UInt8}(h:Pr.nameB s=true):1<=s.length/\s.length<=12:=by
 unfold Pr.nameB at h;split at h
 ·cases h
 ·omega
theorem lm{x:Img}(h:fv x=0):1<=x.role/\x.role<=4/\0<=x.ver/\x.ver<=1000000/\Pr.nameB x.name=true/\x.pay.length<=64:=by
 unfold fv at h
 repeat' split at h
 all_goals first|omega|skip
 all_goals (cases hq:Pr.nameB x.name with
  |true=>exact⟨by omega,by omega,by omega,by omega,rfl,by omega⟩
  |false=>simp_all)
theorem og{x:Img}(h:fv x=0):x.name.length<=1000000/\x.pay.length<=1000000:=by obtain⟨_,_,_,_,h1,h2⟩:=lm h;have:=iV h1;omega
def ofI(x:Img)(a:Int):Ev:=⟨vu x.role,1,tx (gk x) a,rQ x.name x.ver⟩
theorem f40(x:Img)(a:Int)(ha:sx a)(h:fv x=0)(h4:x.role≠4):call T 40 [.agg x.sv,.int .i64 a] [] 0=some ⟨.agg (ofI x a).sv,[],[]⟩:=by obtain⟨q1,q2,q3,q4,q5,q6⟩:=lm h;obtain⟨b1,b2⟩:=og h;have g0:=xfv x (by omega) (by omega);have g1:=f82 x.role;have g2:=xm5 x a ha b1 b2;have g3:=f34 x.name x.ver b1 q3 q4;rw[h]at g0;obtain⟨ro,na,ve,p⟩:=x;simp only[Img.sv,Ev.sv,ofI]at*;rw[ao xnU];simp only[go_sem,Q0,Q1,Q2,Q3,Q4,Q5,Q6,Q7,Q8,Q9,Qa,Qb,Qc,Qd,Qe,Qf,Qg,Qh,Qi,Qj,Qk,reduceCtorEq,reduceIte,g0,oa,h4,g1,Dg,g2,xjG,g3,xaz]
def mkV(reg kind a:Int)(data:List UInt8):Ev:=⟨reg,kind,if kind=5 then [[],[]]else [if rV a 0 then jx data else [],if rV a 1 then sha data else []],data⟩
theorem f68(reg kind a:Int)(data:List UInt8)(ha:sx a)(hd:data.length<=1000000):call T 68 [.int .i64 reg,.int .i64 kind,.int .i64 a,.byt data .no] [] 0=some ⟨.agg (mkV reg kind a data).sv,[],[]⟩:=by
 have g1:=xac a ha;have g2:=xab a ha;have g3:=Qw data (by omega);have g4:=Qv data (by omega);have k1:ac.wrap 1=1:=rfl;have k2:ac.wrap 2=2:=rfl;rw[ao xnA];unfold mkV Ev.sv bls
 by_cases hk:kind=5
 ·subst hk
  cases q1:rV a 0<;>cases q2:rV a 1<;>rw[q1]at g1<;>rw[q2]at g2<;>
  ·simp only[go_sem,Q0,Q1,Q2,Q3,Q4,Q5,Q6,Q7,Q8,Q9,Qa,Qb,Qc,Qd,Qe,Qf,Qg,Qh,Qi,Qj,Qk,reduceCtorEq,reduceIte,am]
   iterate 3
    rw[ai];simp only[go_sem,Q0,Q1,Q2,Q3,Q4,Q5,Q6,Q7,Q8,Q9,Qa,Qb,Qc,Qd,Qe,Qf,Qg,Qh,Qi,Qj,Qk,reduceCtorEq,reduceIte,k1,k2,g1,g2,QS,am]
 ·cases q1:rV a 0<;>cases q2:rV a 1<;>rw[q1]at g1<;>rw[q2]at g2<;>
  ·simp only[go_sem,Q0,Q1,Q2,Q3,Q4,Q5,Q6,Q7,Q8,Q9,Qa,Qb,Qc,Qd,Qe,Qf,Qg,Qh,Qi,Qj,Qk,reduceCtorEq,reduceIte,am]
   iterate 3
    rw[ai];simp only[go_sem,Q0,Q1,Q2,Q3,Q4,Q5,Q6,Q7,Q8,Q9,Qa,Qb,Qc,Qd,Qe,Qf,Qg,Qh,Qi,Qj,Qk,reduceCtorEq,reduceIte,k1,k2,hk,g1,g2,g3,g4,QS,pH,fI,am]
theorem f69:call T 69 [] [] 0=some ⟨.byt [0,0,0,0] .no,[],[]⟩:=by rw[ao xnz];simp only[go_sem,Q0,Q1,Q2,Q3,Q4,Q5,Q6,Q7,Q8,Q9,Qa,Qb,Qc,Qd,Qe,Qf,Qg,Qh,Qi,Qj,Qk,reduceCtorEq,reduceIte]
def fy(l:List Img):List (List SV):=l.map Img.sv
def im0:Img:=⟨0,[],0,[]⟩
theorem dU(l:List Img):(fy l).length=l.length:=au ..
theorem fQ(l:List Img)(i:Nat)(h:i<l.length):(fy l).getD i []=(l.getD i im0).sv:=by simp[fy,aa,h]
structure eO(l:List Img):Prop where
 n1:1<=l.length
 n8:l.length<=8
 ok:∀i,i<l.length->fv (l.getD i im0)=0
 ord:∀i,i+1<l.length->(l.getD i im0).role<=(l.getD (i+1) im0).role
 dup:∀i,i<l.length->∀k,k<i->(l.getD k im0).role=(l.getD i im0).role->(l.getD k im0).name≠(l.getD i im0).name
 fw:∃i,i<l.length/\(l.getD i im0).role=1
 kn:∃i,i<l.length/\(l.getD i im0).role=3
theorem xl0(l:List Img)(h:eO l)(f k:Bool)(i:Nat)(hi:i<l.length):∀(n j:Nat),i-j=n->j<=i->
 run T (.loop yn) ⟨[(0,.lst 4 (fy l) .no),(3,.bool f),(4,.bool k),(5,.int .i64 i),(7,.int .i64 j)],[],[]⟩=some (.x 2,⟨[(0,.lst 4 (fy l) .no),(3,.bool f),(4,.bool k),(5,.int .i64 i)],[],[]⟩):=by
 intro n;induction n with
 |zero=>
  intro j h0 h1;have:j=i:=by omega
  subst this;rw[ai];simp only[go_sem,Q0,Q1,Q2,Q3,Q4,Q5,Q6,Q7,Q8,Q9,Qa,Qb,Qc,Qd,Qe,Qf,Qg,Qh,Qi,Qj,Qk,reduceCtorEq,reduceIte]
 |succ n ih=>
  intro j h0 h1;have hj:j<i:=by omega
  have hj2:j<l.length:=by omega
  have e1:=cg j (by have:=h.n8;omega);have ih':=ih (j+1) (by omega) (by omega);have hv:=dU l;have hg:=fQ l i hi;have hg2:=fQ l j hj2;have hd:=h.dup i hi j hj;rw[ai];generalize l.getD i im0=x at*;generalize l.getD j im0=y at*;obtain⟨ro,na,ve,p⟩:=x;obtain⟨ro2,na2,ve2,p2⟩:=y;simp only[Img.sv]at*
  by_cases hr:ro2=ro
  ·have hn:¬na2=na:=hd hr
   simp only[go_sem,Q0,Q1,Q2,Q3,Q4,Q5,Q6,Q7,Q8,Q9,Qa,Qb,Qc,Qd,Qe,Qf,Qg,Qh,Qi,Qj,Qk,reduceCtorEq,reduceIte,hj,hj2,hi,e1,hv,hg,hg2,hr,hn,ih']
  ·simp only[go_sem,Q0,Q1,Q2,Q3,Q4,Q5,Q6,Q7,Q8,Q9,Qa,Qb,Qc,Qd,Qe,Qf,Qg,Qh,Qi,Qj,Qk,reduceCtorEq,reduceIte,hj,hj2,hi,e1,hv,hg,hg2,hr,ih']
def qT(l:List Img)(r:Int)(i:Nat):Bool:=(l.take i).any fun x=>decide (x.role=r)
theorem sr(l:List Img)(r:Int)(i:Nat)(hi:i<l.length):qT l r (i+1)=(qT l r i||decide ((l.getD i im0).role=r)):=by unfold qT;rw[List.take_succ_eq_append_getElem hi,List.any_append,List.any_cons,List.any_nil,Bool.or_false,aa,ab hi];rfl
theorem wn{l:List Img}{r:Int}(h:∃i,i<l.length/\(l.getD i im0).role=r):qT l r l.length=true:=by obtain⟨i,hi,hr⟩:=h;unfold qT;rw[bv,List.any_eq_true];refine⟨l[i],bp _, ?_⟩;rw[aa,ab hi]at hr;simpa using hr
theorem l67(l:List Img)(h:eO l):∀(n i:Nat),l.length-i=n->i<=l.length->
 run T (.loop ui) ⟨[(0,.lst 4 (fy l) .no),(3,.bool (qT l 1 i)),(4,.bool (qT l 3 i)),(5,.int .i64 i)],[],[]⟩=some (.x 0,⟨[(3,.bool true),(4,.bool true)],[],[]⟩):=by
 intro n;induction n with
 |zero=>
  intro i h0 h1;have:i=l.length:=by omega
  subst this;have hv:=dU l;have a1:=wn h.fw;have a2:=wn h.kn;rw[ai];simp only[go_sem,Q0,Q1,Q2,Q3,Q4,Q5,Q6,Q7,Q8,Q9,Qa,Qb,Qc,Qd,Qe,Qf,Qg,Qh,Qi,Qj,Qk,reduceCtorEq,reduceIte,hv,a1,a2]
 |succ n ih=>
  intro i h0 h1;have hi:i<l.length:=by omega
  have e1:=cg i (by have:=h.n8;omega);have ih':=ih (i+1) (by omega) (by omega);have hv:=dU l;have hg:=fQ l i hi;have hok:=h.ok i hi;obtain⟨b1,b2⟩:=og hok;have g:=xfv (l.getD i im0) (by omega) (by omega);have g2:=xl0 l h (qT l 1 i) (qT l 3 i) i hi _ 0 rfl (by omega);simp only[av]at g2;rw[hok]at g;rw[sr l 1 i hi,sr l 3 i hi]at ih';rw[ai]
  have key:∀q1 q2:Bool,qT l 1 i=q1->qT l 3 i=q2->run T (.loop ui) ⟨[(0,.lst 4 (fy l) .no),(3,.bool q1),(4,.bool q2),(5,.int .i64 i)],[],[]⟩=some (.x 0,⟨[(3,.bool true),(4,.bool true)],[],[]⟩):=by
   intro q1 q2 hq1 hq2;rw[hq1,hq2]at ih' g2;rw[ai]
   by_cases h00:i=0
   ·subst h00
    generalize l.getD 0 im0=x at*;obtain⟨ro,na,ve,p⟩:=x;simp only[Img.sv]at*;have hi':(0:Int)<l.length:=by omega
    have c1:((0+1:Nat):Int)=1:=rfl;have kw:ac.wrap 1=1:=rfl;rw[c1]at ih';simp only[av]at g2
    by_cases p1:ro=1
    ·subst p1
     cases q1<;>cases q2<;>simp only[im,dD,decide_true,decide_false,Int.reduceEq,eq_self]at ih'<;>simp only[go_sem,Q0,Q1,Q2,Q3,Q4,Q5,Q6,Q7,Q8,Q9,Qa,Qb,Qc,Qd,Qe,Qf,Qg,Qh,Qi,Qj,Qk,reduceCtorEq,reduceIte,hi,hi',kw,hv,hg,g,oa,g2,ih']
    ·by_cases p3:ro=3
     ·subst p3
      cases q1<;>cases q2<;>simp only[im,dD,decide_true,decide_false,Int.reduceEq,eq_self]at ih'<;>simp only[go_sem,Q0,Q1,Q2,Q3,Q4,Q5,Q6,Q7,Q8,Q9,Qa,Qb,Qc,Qd,Qe,Qf,Qg,Qh,Qi,Qj,Qk,reduceCtorEq,reduceIte,hi,hi',kw,hv,hg,g,oa,g2,ih']
     ·cases q1<;>cases q2<;>simp only[im,dD,decide_true,decide_false,Int.reduceEq,eq_self,p1,p3]at ih'<;>simp only[go_sem,Q0,Q1,Q2,Q3,Q4,Q5,Q6,Q7,Q8,Q9,Qa,Qb,Qc,Qd,Qe,Qf,Qg,Qh,Qi,Qj,Qk,reduceCtorEq,reduceIte,hi,hi',kw,hv,hg,g,oa,g2,p1,p3,ih']
   ·have hp:0<i:=by omega
    have hp':(0:Int)<(i:Nat):=by omega
    have es:ac.wrap ((i:Int)-1)=((i-1:Nat):Int):=by rw[w64 (by omega) (by have:=h.n8;omega)];omega
    have hi1:i-1<l.length:=by omega
    have hg1:=fQ l (i-1) hi1;have ho:=h.ord (i-1) (by omega);rw[show i-1+1=i from by omega]at ho;generalize l.getD i im0=x at*;generalize l.getD (i-1) im0=y at*;obtain⟨ro,na,ve,p⟩:=x;obtain⟨ro2,na2,ve2,p2⟩:=y;simp only[Img.sv]at*;have ho':¬ro<ro2:=by omega
    by_cases p1:ro=1
    ·subst p1
     cases q1<;>cases q2<;>simp only[im,dD,decide_true,decide_false,Int.reduceEq,eq_self]at ih'<;>simp only[go_sem,Q0,Q1,Q2,Q3,Q4,Q5,Q6,Q7,Q8,Q9,Qa,Qb,Qc,Qd,Qe,Qf,Qg,Qh,Qi,Qj,Qk,reduceCtorEq,reduceIte,hi,hp,hp',hi1,es,e1,hv,hg,hg1,g,oa,g2,ho',ih']
    ·by_cases p3:ro=3
     ·subst p3
      cases q1<;>cases q2<;>simp only[im,dD,decide_true,decide_false,Int.reduceEq,eq_self]at ih'<;>simp only[go_sem,Q0,Q1,Q2,Q3,Q4,Q5,Q6,Q7,Q8,Q9,Qa,Qb,Qc,Qd,Qe,Qf,Qg,Qh,Qi,Qj,Qk,reduceCtorEq,reduceIte,hi,hp,hp',hi1,es,e1,hv,hg,hg1,g,oa,g2,ho',ih']
     ·cases q1<;>cases q2<;>simp only[im,dD,decide_true,decide_false,Int.reduceEq,eq_self,p1,p3]at ih'<;>simp only[go_sem,Q0,Q1,Q2,Q3,Q4,Q5,Q6,Q7,Q8,Q9,Qa,Qb,Qc,Qd,Qe,Qf,Qg,Qh,Qi,Qj,Qk,reduceCtorEq,reduceIte,hi,hp,hp',hi1,es,e1,hv,hg,hg1,g,oa,g2,ho',p1,p3,ih']
  have:=key _ _ rfl rfl;rw[ai]at this;exact this
theorem f67(l:List Img)(h:eO l):call T 67 [.lst 4 (fy l) .no] [] 0=some ⟨.int .i64 0,[],[]⟩:=by
 have g:=l67 l h _ 0 rfl (by omega);have z1:qT l 1 0=false:=rfl;have z3:qT l 3 0=false:=rfl;rw[z1,z3]at g;simp only[av]at g;have hv:=dU l;have n1:=h.n1;have n8:=h.n8;have k1:¬(l.length:Int)=0:=by omega
 have k2:¬(8:Int)<l.length:=by omega
 rw[ao xnB];simp only[go_sem,Q0,Q1,Q2,Q3,Q4,Q5,Q6,Q7,Q8,Q9,Qa,Qb,Qc,Qd,Qe,Qf,Qg,Qh,Qi,Qj,Qk,reduceCtorEq,reduceIte,hv,k1,k2,g]
def jU(ts:List Nat):List UInt8:=ts.flatMap fun t=>gh t++ [10]
theorem DY(ts:List Nat)(t:Nat):jU (ts++ [t])=jU ts++(gh t++ [10]):=by simp[jU]
theorem rO(t:Nat):(gh t).length<=8:=by unfold gh;split<;>simp
theorem vx(ts:List Nat):(jU ts).length<=9*ts.length:=by
 induction ts with
 |nil=>simp[jU]
 |cons t r ih=>rw[jU,jD,af,af,aC,aC,aB];have:=rO t;unfold jU at ih;omega
theorem GD(t:Nat)(r:List UInt8)(o:List (List UInt8))(ho:o.length<4):lnF (gh t++10::r) o []=lnF r (o++ [gh t]) []:=by
 have h:¬(4:Int)<=o.length:=by omega
 unfold gh;split<;>simp[lnF,h]
theorem C2:∀(ts:List Nat)(o:List (List UInt8)),o.length+ts.length<=4->lnF (jU ts) o []=some (o++ts.map gh,[])
 |[],o,_=>by simp[jU,lnF]
 |t::r,o,h=>by
  rw[aC]at h;have e:jU (t::r)=gh t++10::jU r:=by simp[jU]
  rw[e,GD t _ o (by omega),C2 r _ (by rw[af,aM];omega)];simp
theorem xx(ts:List Nat)(h:ts.length<=4):eQ (jU ts)=ts.map gh:=by unfold eQ;rw[C2 ts [] (by simpa using h)];simp
theorem xmo(B:List UInt8)(hB:B.length<=1000):∀(k:Nat)(ts:List Nat)(j:Nat),k<=4->ts.length+k<=100->∃us j',us.length=k/\
 run T (.loop yR) ⟨[(0,.ptr 0 0),(3,.byt (jU ts) (.id 103)),(4,.int .i64 k)],[(0,aR B j)],[103]⟩=some (.x 0,⟨[(3,.byt (jU (ts++us)) (.id 103))],[(0,aR B j')],[103]⟩):=by
 intro k;induction k with
 |zero=>intro ts j h1 h2;refine⟨[],j,rfl, ?_⟩;rw[ai,bJ];simp only[go_sem,Q0,Q1,Q2,Q3,Q4,Q5,Q6,Q7,Q8,Q9,Qa,Qb,Qc,Qd,Qe,Qf,Qg,Qh,Qi,Qj,Qk,reduceCtorEq,reduceIte]
 |succ k ih=>
  intro ts j h1 h2;obtain⟨us,j',hu,ih'⟩:=ih (ts++ [dw B j 6]) (cy B j) (by omega) (by rw[af,aM];omega);refine⟨dw B j 6::us,j',by rw[aC,hu], ?_⟩;have g:=f73 B j hB;have hl:=vx ts;have hl2:=rO (dw B j 6);have e1:ac.wrap (((k+1:Nat):Int)-1)=(k:Int):=wZ (by omega)
  have hp:(0:Int)<((k+1:Nat):Int):=by omega
  have c1:(jU ts).length+(gh (dw B j 6)).length<=140737488355328:=by omega
  have c2:(jU ts).length+(gh (dw B j 6)).length+1<=140737488355328:=by omega
  rw[DY]at ih';rw[show ts++dw B j 6::us=ts++ [dw B j 6]++us from by simp];rw[ai];simp only[aR]at g ih' ⊢;simp only[go_sem,Q0,Q1,Q2,Q3,Q4,Q5,Q6,Q7,Q8,Q9,Qa,Qb,Qc,Qd,Qe,Qf,Qg,Qh,Qi,Qj,Qk,reduceCtorEq,reduceIte,hp,g,nG,c1,c2,e1,ih']
theorem xmU(B:List UInt8)(i:Nat)(hB:B.length<=1000):∃ts j,1<=ts.length/\ts.length<=4/\call T 123 [.ptr 0 0] [aR B i] 0=some ⟨.byt (jU ts) .no,[(0,aR B j)],[]⟩:=by
 have g:=f71 B i 4 (by omega) (by omega);have hv:=dO B i 4 (by omega);obtain⟨us,j,hu,h⟩:=xmo B hB (1+dw B i 4) [] (cy B i) (by omega) (by simp only[aB];omega);have e:ac.wrap (1+((dw B i 4:Nat):Int))=((1+dw B i 4:Nat):Int):=wZ (by omega)
 refine⟨us,j,by omega,by omega, ?_⟩;have hp:jU []=[]:=rfl;rw[hp,aF]at h;rw[cz4]at g;simp only[aR]at g h ⊢;rw[ao xi4];simp only[go_sem,Q0,Q1,Q2,Q3,Q4,Q5,Q6,Q7,Q8,Q9,Qa,Qb,Qc,Qd,Qe,Qf,Qg,Qh,Qi,Qj,Qk,reduceCtorEq,reduceIte,g,fH,e,h]
def fP:Nat->List UInt8
 |0=> [97]
 |1=> [103,114,117,98]
 |2=> [108,105,110,117,120]
 |3=> [110,101,116,45,48]
 |_=> [116,119,101,108,118,101,45,98,121,116,101,115]
theorem xmV:call T 122 [] [] 0=some ⟨.agg [.str (fP 0),.str (fP 1),.str (fP 2),.str (fP 3),.str (fP 4)],[],[]⟩:=by rw[ao xi5];simp only[go_sem,Q0,Q1,Q2,Q3,Q4,Q5,Q6,Q7,Q8,Q9,Qa,Qb,Qc,Qd,Qe,Qf,Qg,Qh,Qi,Qj,Qk,reduceCtorEq,reduceIte,fP]
theorem Gt:∀v,v<5->Pr.nameB (fP v)=true:=by decide
theorem l72(B:List UInt8)(hB:B.length<=1000)(role ve:Int)(na:List UInt8):∀(n i:Nat)(l:List UInt8)(j:Nat),l.length-i=n->i<=l.length->l.length<=6->∃l' j',l'.length=l.length/\
 run T (.loop ug) ⟨[(0,.ptr 0 0),(4,.ptr 104 0),(5,.ptr 105 0),(6,.int .i64 i)],[(0,aR B j),(104,.rc [.int .i64 0,.str [],.int .i64 0,.byt [] .clip]),(105,.rc [.int .i64 role,.str na,.int .i64 ve,.psl 130 1 0 l.length (some l.length)]),(130,.bar l)],[]⟩=
  some (.x 0,⟨[(4,.ptr 104 0),(5,.ptr 105 0)],[(0,aR B j'),(104,.rc [.int .i64 0,.str [],.int .i64 0,.byt [] .clip]),(105,.rc [.int .i64 role,.str na,.int .i64 ve,.psl 130 1 0 l.length (some l.length)]),(130,.bar l')],[]⟩):=by
 intro n;induction n with
 |zero=>
  intro i l j h0 h1 h2;have:i=l.length:=by omega
  refine⟨l,j,rfl, ?_⟩;subst this;rw[ai];simp only[go_sem,Q0,Q1,Q2,Q3,Q4,Q5,Q6,Q7,Q8,Q9,Qa,Qb,Qc,Qd,Qe,Qf,Qg,Qh,Qi,Qj,Qk,reduceCtorEq,reduceIte]
 |succ n ih=>
  intro i l j h0 h1 h2;have hi:i<l.length:=by omega
  have e1:=cg i (by omega);have g:=f71 B j 256 (by omega) (by omega);rw[xnb]at g;obtain⟨l',j',q1,q2⟩:=ih (i+1) (l.set i (bO ((dw B j 256:Nat):Int))) (cy B j) (by rw[dr];omega) (by rw[dr];omega) (by rw[dr];omega);rw[dr]at q1 q2;refine⟨l',j',q1, ?_⟩;rw[ai];simp only[aR]at g q2 ⊢;simp only[go_sem,Q0,Q1,Q2,Q3,Q4,Q5,Q6,Q7,Q8,Q9,Qa,Qb,Qc,Qd,Qe,Qf,Qg,Qh,Qi,Qj,Qk,reduceCtorEq,reduceIte,hi,e1,g,fH,q2]
theorem f72(B:List UInt8)(j:Nat)(hB:B.length<=1000)(role:Int)(h1:1<=role)(h4:role<=4):∃(x:Img)(j':Nat),fv x=0/\x.role=role/\
 call T 72 [.ptr 0 0,.int .i64 role] [aR B j] 0=some ⟨.agg x.sv,[(0,aR B j')],[]⟩:=by
 have g1:=xmV;have g2:=f71 B j 5 (by omega) (by omega);have v2:=dO B j 5 (by omega);have g3:=f71 B (cy B j) 5 (by omega) (by omega);have v3:=dO B (cy B j) 5 (by omega);have g4:=f71 B (cy B (cy B j)) 9 (by omega) (by omega);have g5:=f71 B (cy B (cy B (cy B j))) 3 (by omega) (by omega);have v5:=dO B (cy B (cy B (cy B j))) 3 (by omega);rw[cz5]at g2 g3;rw[c9]at g4;rw[cz3]at g5;generalize dw B j 5=w2 at*;generalize dw B (cy B j) 5=w3 at*;generalize dw B (cy B (cy B j)) 9=w4 at*;generalize dw B (cy B (cy B (cy B j))) 3=w5 at*;simp only[aR]at g2 g3 g4 g5
 have hN:(iu w2 [SV.str (fP 0),.str (fP 1),.str (fP 2),.str (fP 3),.str (fP 4)]).getD 0 .undef= .str (fP w2):=by
  have hn:w2=0\/w2=1\/w2=2\/w2=3\/w2=4:=by omega
  rcases hn with rfl|rfl|rfl|rfl|rfl<;>rfl
 have hw2:(w2:Int)<5:=by omega
 have em:w2*1=w2:=dt _;have hnb:=Gt w2 v2;have ew:ac.wrap (1000000-(w5:Int))=1000000-(w5:Int):=w64 (by omega) (by omega)
 have key:∀(jj:Nat)(ve:Int),0<=ve->ve<=1000000->∃(x:Img)(j':Nat),fv x=0/\x.role=role/\x.name=fP w2/\x.ver=ve/\
  (role=4->call T 123 [.ptr 0 0] [aR B jj] 0=some ⟨.byt x.pay .no,[(0,aR B j')],[]⟩)/\
  (¬role=4->∃(j1 n:Nat),n<7/\call T 71 [.ptr 0 0,.int .i64 7] [aR B jj] 0=some ⟨.int .i64 (n:Int),[(0,aR B j1)],[]⟩/\x.pay.length=n/\
   run T (.loop ug) ⟨[(0,.ptr 0 0),(4,.ptr 104 0),(5,.ptr 105 0),(6,.int .i64 0)],[(0,aR B j1),(104,.rc [.int .i64 0,.str [],.int .i64 0,.byt [] .clip]),(105,.rc [.int .i64 role,.str (fP w2),.int .i64 ve,.psl 130 1 0 n (some n)]),(130,.bar (am n 0))],[]⟩=
    some (.x 0,⟨[(4,.ptr 104 0),(5,.ptr 105 0)],[(0,aR B j'),(104,.rc [.int .i64 0,.str [],.int .i64 0,.byt [] .clip]),(105,.rc [.int .i64 role,.str (fP w2),.int .i64 ve,.psl 130 1 0 n (some n)]),(130,.bar x.pay)],[]⟩)):=by
  intro jj ve hv0 hv1
  by_cases hr:role=4
  ·obtain⟨ts,j',t1,t2,t3⟩:=xmU B jj hB
   refine⟨⟨role,fP w2,ve,jU ts⟩,j', ?_,rfl,rfl,rfl,fun _=>t3,fun h=>absurd hr h⟩;have hl:=vx ts;have hL:=xx ts t2;unfold fv;rw[if_neg (by show ¬role<1;omega),if_neg (by show ¬4<role;omega),if_neg (by show ¬ve<0;omega),if_neg (by show ¬1000000<ve;omega),if_neg (by show ¬Pr.nameB (fP w2)=false;rw[hnb];simp),if_neg (by show ¬(64:Int)<(jU ts).length;omega)];show(if role=4 then(if((eQ (jU ts)).length:Int)=0 then 40 else 0)else 0)=(0:Int);rw[if_pos hr,hL,if_neg];rw[au];omega
  ·have g7:=f71 B jj 7 (by omega) (by omega)
   have v7:=dO B jj 7 (by omega);rw[show((7:Nat):Int)=7 from rfl]at g7;obtain⟨l',j',q1,q2⟩:=l72 B hB role ve (fP w2) (dw B jj 7) 0 (am (dw B jj 7) 0) (cy B jj) (by rw[ca];rfl) (bU _) (by rw[ca];omega);rw[ca]at q1 q2;refine⟨⟨role,fP w2,ve,l'⟩,j', ?_,rfl,rfl,rfl,fun h=>absurd h hr,fun _=>⟨cy B jj,dw B jj 7,v7,g7,q1,q2⟩⟩;unfold fv;rw[if_neg (by show ¬role<1;omega),if_neg (by show ¬4<role;omega),if_neg (by show ¬ve<0;omega),if_neg (by show ¬1000000<ve;omega),if_neg (by show ¬Pr.nameB (fP w2)=false;rw[hnb];simp),if_neg (by show ¬(64:Int)<l'.length;omega)];show(if role=4 then(if((eQ l').length:Int)=0 then 40 else 0)else 0)=(0:Int);rw[if_neg hr]
 by_cases p4:w4=8
 ·have p4':(w4:Int)=8:=by omega
  obtain⟨⟨xr,xn,xv,xp⟩,j',e0,e1,e2,e3,e4,e5⟩:=key (cy B (cy B (cy B (cy B j)))) (1000000-(w5:Int)) (by omega) (by omega);simp only at e1 e2 e3 e4 e5;subst e1 e2 e3;refine⟨_,j',e0,rfl, ?_⟩;rw[ao xk7]
  by_cases hr:xr=4
  ·have t:=e4 hr
   simp only[aR,Img.sv]at t ⊢;simp only[go_sem,Q0,Q1,Q2,Q3,Q4,Q5,Q6,Q7,Q8,Q9,Qa,Qb,Qc,Qd,Qe,Qf,Qg,Qh,Qi,Qj,Qk,reduceCtorEq,reduceIte,aR,g1,E7,g2,fH,g3,g4,g5,p4',ew,hr,hN,hw2,em,t,xaJ]
  ·obtain⟨j1,n,hn,t1,t2,t3⟩:=e5 hr
   have t2':xp.length=n:=t2;have hle:n<=xp.length:=by omega
   have hq:du n xp=xp:=by rw[<-t2',bv]
   have hn':(n:Int)<7:=by omega
   have hn2:(n:Int)<=140737488355328:=by omega
   simp only[aR,Img.sv]at t1 t3 ⊢;simp only[go_sem,Q0,Q1,Q2,Q3,Q4,Q5,Q6,Q7,Q8,Q9,Qa,Qb,Qc,Qd,Qe,Qf,Qg,Qh,Qi,Qj,Qk,reduceCtorEq,reduceIte,aR,g1,E7,g2,fH,g3,g4,g5,p4',ew,hr,hN,hw2,em,t1,hn',hn2,t3,hle,hq]
 ·have p4':¬(w4:Int)=8:=by omega
  obtain⟨⟨xr,xn,xv,xp⟩,j',e0,e1,e2,e3,e4,e5⟩:=key (cy B (cy B (cy B j))) (w3:Int) (by omega) (by omega);simp only at e1 e2 e3 e4 e5;subst e1 e2 e3;refine⟨_,j',e0,rfl, ?_⟩;rw[ao xk7]
  by_cases hr:xr=4
  ·have t:=e4 hr
   simp only[aR,Img.sv]at t ⊢;simp only[go_sem,Q0,Q1,Q2,Q3,Q4,Q5,Q6,Q7,Q8,Q9,Qa,Qb,Qc,Qd,Qe,Qf,Qg,Qh,Qi,Qj,Qk,reduceCtorEq,reduceIte,aR,g1,E7,g2,fH,g3,g4,p4',hr,hN,hw2,em,t,xaJ]
  ·obtain⟨j1,n,hn,t1,t2,t3⟩:=e5 hr
   have t2':xp.length=n:=t2;have hle:n<=xp.length:=by omega
   have hq:du n xp=xp:=by rw[<-t2',bv]
   have hn':(n:Int)<7:=by omega
   have hn2:(n:Int)<=140737488355328:=by omega
   simp only[aR,Img.sv]at t1 t3 ⊢;simp only[go_sem,Q0,Q1,Q2,Q3,Q4,Q5,Q6,Q7,Q8,Q9,Qa,Qb,Qc,Qd,Qe,Qf,Qg,Qh,Qi,Qj,Qk,reduceCtorEq,reduceIte,aR,g1,E7,g2,fH,g3,g4,p4',hr,hN,hw2,em,t1,hn',hn2,t3,hle,hq]
theorem Ef(l:List Img)(i:Nat)(h:i<l.length):l.getD i im0∈l:=by rw[aa,ab h];exact bp _
theorem jv{α:Type}(l:List α)(x d:α)(i:Nat)(h:i<l.length):(l++ [x]).getD i d=l.getD i d:=by rw[aa,aa,bG h]
theorem oH{α:Type}(l:List α)(x d:α):(l++ [x]).getD l.length d=x:=by rw[aa,bZ (aQ _),Nat.sub_self];rfl
structure ChP(l:List Img)(role:Int):Prop where
 ok:∀i,i<l.length->fv (l.getD i im0)=0
 le:∀i,i<l.length->(l.getD i im0).role<=role
 ord:∀i,i+1<l.length->(l.getD i im0).role<=(l.getD (i+1) im0).role
 dup:∀i,i<l.length->∀k,k<i->(l.getD k im0).role=(l.getD i im0).role->(l.getD k im0).name≠(l.getD i im0).name
def agn(x:Img)(l:List Img):Bool:=l.any fun y=>decide (y.role=x.role)&&decide (y.name=x.name)
theorem ChP.snoc{l:List Img}{role:Int}(h:ChP l role){x:Img}(hx:fv x=0)(hr:x.role=role)(ha:agn x l=false):ChP (l++ [x]) role:=by
 have hlen:(l++ [x]).length=l.length+1:=by simp
 refine⟨fun i hi=> ?_,fun i hi=> ?_,fun i hi=> ?_,fun i hi k hk=> ?_⟩
 ·rcases bX i l.length with h1|h1
  ·rw[jv l x im0 i h1];exact h.ok i h1
  ·rw[show i=l.length from by omega,oH];exact hx
 ·rcases bX i l.length with h1|h1
  ·rw[jv l x im0 i h1];exact h.le i h1
  ·rw[show i=l.length from by omega,oH,hr];exact Int.le_refl _
 ·rw[jv l x im0 i (by omega)]
  rcases bX (i+1) l.length with h1|h1
  ·rw[jv l x im0 (i+1) h1];exact h.ord i h1
  ·rw[show i+1=l.length from by omega,oH,hr];exact h.le i (by omega)
 ·rcases bX i l.length with h1|h1
  ·rw[jv l x im0 i h1,jv l x im0 k (by omega)];exact h.dup i h1 k hk
  ·rw[show i=l.length from by omega]at hk ⊢
   rw[oH,jv l x im0 k hk];intro q1 q2;unfold agn at ha;rw[List.any_eq_false]at ha;have:=ha (l.getD k im0) (Ef l k hk);rw[decide_eq_true q1,decide_eq_true q2]at this;exact this rfl
theorem xl6(B:List UInt8)(j:Nat)(l:List Img)(x:Img)(role n:Int)(hl:l.length<=100):∀(k i:Nat)(ag:Bool),l.length-i=k->i<=l.length->
 run T (.loop yA) ⟨[(3,.ptr 12100 0),(4,.lst 4 (fy l) (.id 104)),(5,.int .i64 role),(6,.int .i64 n),(7,.ptr 107 0),(8,.bool ag),(9,.int .i64 i)],[(107,.rc x.sv),(12100,aR B j)],[104]⟩=
 some (.x 4,⟨[(3,.ptr 12100 0),(4,.lst 4 (fy l) (.id 104)),(5,.int .i64 role),(6,.int .i64 n),(7,.ptr 107 0),(8,.bool (ag||agn x (l.drop i)))],[(107,.rc x.sv),(12100,aR B j)],[104]⟩):=by
 intro k;induction k with
 |zero=>
  intro i ag h0 h1;have:i=l.length:=by omega
  subst this;have hv:=dU l;obtain⟨a,b,c,d⟩:=x;simp only[aR,Img.sv]at*;rw[ai,aX];simp only[go_sem,Q0,Q1,Q2,Q3,Q4,Q5,Q6,Q7,Q8,Q9,Qa,Qb,Qc,Qd,Qe,Qf,Qg,Qh,Qi,Qj,Qk,reduceCtorEq,reduceIte,hv,agn,List.any_nil,Bool.or_false]
 |succ k ih=>
  intro i ag h0 h1;have hi:i<l.length:=by omega
  have e1:=cg i (by omega);have ih':=ih (i+1) (ag||(decide ((l.getD i im0).role=x.role)&&decide ((l.getD i im0).name=x.name))) (by omega) (by omega);have hv:=dU l;have hg:=fQ l i hi;have hd:l.drop i=l.getD i im0::l.drop (i+1):=by rw[aS hi,aa,ab hi];rfl
  have ha:agn x (l.drop i)=((decide ((l.getD i im0).role=x.role)&&decide ((l.getD i im0).name=x.name))||agn x (l.drop (i+1))):=by rw[hd];rfl
  rw[ha,<-Bool.or_assoc];rw[ai];generalize agn x (l.drop (i+1))=R at*;generalize l.getD i im0=y at*;obtain⟨a,b,c,d⟩:=x;obtain⟨a2,b2,c2,d2⟩:=y;simp only[aR,Img.sv]at*;cases ag with
  |true=>simp only[im]at ih' ⊢;simp only[go_sem,Q0,Q1,Q2,Q3,Q4,Q5,Q6,Q7,Q8,Q9,Qa,Qb,Qc,Qd,Qe,Qf,Qg,Qh,Qi,Qj,Qk,reduceCtorEq,reduceIte,hi,e1,hv,hg,ih']
  |false=>
   by_cases p1:a2=a
   ·by_cases p2:b2=b
    ·rw[decide_eq_true p1,decide_eq_true p2]at ih' ⊢
     simp only[Bool.and_self,dD,im]at ih' ⊢;simp only[go_sem,Q0,Q1,Q2,Q3,Q4,Q5,Q6,Q7,Q8,Q9,Qa,Qb,Qc,Qd,Qe,Qf,Qg,Qh,Qi,Qj,Qk,reduceCtorEq,reduceIte,hi,e1,hv,hg,p1,p2,ih']
    ·rw[decide_eq_true p1,decide_eq_false p2]at ih' ⊢
     simp only[Bool.and_false,dD]at ih' ⊢;simp only[go_sem,Q0,Q1,Q2,Q3,Q4,Q5,Q6,Q7,Q8,Q9,Qa,Qb,Qc,Qd,Qe,Qf,Qg,Qh,Qi,Qj,Qk,reduceCtorEq,reduceIte,hi,e1,hv,hg,p1,p2,ih']
   ·rw[decide_eq_false p1]at ih' ⊢
    simp only[Fb,dD]at ih' ⊢;simp only[go_sem,Q0,Q1,Q2,Q3,Q4,Q5,Q6,Q7,Q8,Q9,Qa,Qb,Qc,Qd,Qe,Qf,Qg,Qh,Qi,Qj,Qk,reduceCtorEq,reduceIte,hi,e1,hv,hg,p1,ih']
theorem rT(l:List Img)(x:Img):fy l++ [x.sv]=fy (l++ [x]):=by rw[fy,fy,cn];rfl
theorem Ho{x:Img}{l:List Img}(h:agn x l=true):∃i,i<l.length/\(l.getD i im0).role=x.role:=by unfold agn at h;rw[List.any_eq_true]at h;obtain⟨y,hy,h⟩:=h;obtain⟨i,hi,rfl⟩:=cf hy;refine⟨i,hi, ?_⟩;rw[az]at h;rw[aa,ab hi];exact of_decide_eq_true h.1
theorem Z1(B:List UInt8)(hB:B.length<=1000)(role:Int)(r1:1<=role)(r4:role<=4):∀(n:Nat)(l:List Img)(j:Nat),l.length+n<=8->ChP l role->
 ∃r j',ChP (l++r) role/\r.length<=n/\(1<=n->∃i,i<(l++r).length/\((l++r).getD i im0).role=role)/\
 run T (.loop yz) ⟨[(3,.ptr 12100 0),(4,.lst 4 (fy l) (.id 104)),(5,.int .i64 role),(6,.int .i64 (n:Int))],[(12100,aR B j)],[104]⟩=
  some (.x 2,⟨[(3,.ptr 12100 0),(4,.lst 4 (fy (l++r)) (.id 104)),(5,.int .i64 role)],[(12100,aR B j')],[104]⟩):=by
 intro n;induction n with
 |zero=>intro l j hl hc;refine⟨[],j,by rw[bJ];exact hc,bU _,fun h=>absurd h (by omega), ?_⟩;rw[bJ,ai];simp only[aR];simp only[go_sem,Q0,Q1,Q2,Q3,Q4,Q5,Q6,Q7,Q8,Q9,Qa,Qb,Qc,Qd,Qe,Qf,Qg,Qh,Qi,Qj,Qk,reduceCtorEq,reduceIte]
 |succ n ih=>
  intro l j hl hc;obtain⟨x,j1,hx,hr,g⟩:=f72 B j hB role r1 r4;have ga:=xl6 B j1 l x role ((n+1:Nat):Int) (by omega) l.length 0 false (by omega) (bU _);have hp:(0:Int)<((n+1:Nat):Int):=by omega
  have e1:ac.wrap (((n+1:Nat):Int)-1)=(n:Int):=wZ (by omega)
  have hv:=dU l;have hs:=rT l x;have c1:(l.length+1)*56<=140737488355328:=by omega
  rw[bh,dD,show((0:Nat):Int)=0 from rfl]at ga;cases ha:agn x l with
  |true=>
   rw[ha]at ga;obtain⟨r,j',q1,q2,q3,q4⟩:=ih l j1 (by omega) hc;refine⟨r,j',q1,by omega,fun _=> ?_, ?_⟩
   ·obtain⟨i,hi,e⟩:=Ho ha
    refine⟨i,by rw[af];omega, ?_⟩;rw[aa,bG hi,<-aa,e,hr]
   ·rw[ai]
    obtain⟨a,b,c,d⟩:=x;simp only[aR,Img.sv]at g ga q4 hs ⊢;simp only[go_sem,Q0,Q1,Q2,Q3,Q4,Q5,Q6,Q7,Q8,Q9,Qa,Qb,Qc,Qd,Qe,Qf,Qg,Qh,Qi,Qj,Qk,reduceCtorEq,reduceIte,hp,g,xlg,e1,ga,q4]
  |false=>
   rw[ha]at ga;obtain⟨r,j',q1,q2,q3,q4⟩:=ih (l++ [x]) j1 (by rw[af,aM];omega) (hc.snoc hx hr ha);rw[aA]at q1 q3 q4;refine⟨[x]++r,j',q1,by rw[af,aM];omega,fun _=> ?_, ?_⟩
   ·refine⟨l.length,by rw[af,af,aM];omega, ?_⟩
    rw[aa,bZ (aQ _),Nat.sub_self];exact hr
   ·rw[ai]
    obtain⟨a,b,c,d⟩:=x;rw[<-aA,<-rT]at*;simp only[aR,Img.sv]at g ga q4 ⊢;simp only[go_sem,Q0,Q1,Q2,Q3,Q4,Q5,Q6,Q7,Q8,Q9,Qa,Qb,Qc,Qd,Qe,Qf,Qg,Qh,Qi,Qj,Qk,reduceCtorEq,reduceIte,hp,g,xlg,e1,ga,hv,c1,q4]
theorem uE{l r:List Img}{c:Int}(h:∃i,i<l.length/\(l.getD i im0).role=c):∃i,i<(l++r).length/\((l++r).getD i im0).role=c:=by obtain⟨i,hi,e⟩:=h;refine⟨i,by rw[af];omega, ?_⟩;rw[aa,bG hi,<-aa,e]
theorem Z0(B:List UInt8)(hB:B.length<=1000)(role:Int)(r1:1<=role)(r4:role<=4)(l:List Img)(j:Nat)(hl:l.length+2<=8)(hc:ChP l role):
 ∃r j',ChP (l++r) role/\r.length<=2/\(role=1\/role=3->∃i,i<(l++r).length/\((l++r).getD i im0).role=role)/\
 run T (.loop qx) ⟨[(3,.ptr 12100 0),(4,.lst 4 (fy l) (.id 104)),(5,.int .i64 role)],[(12100,aR B j)],[104]⟩=
 run T (.loop qx) ⟨[(3,.ptr 12100 0),(4,.lst 4 (fy (l++r)) (.id 104)),(5,.int .i64 (role+1))],[(12100,aR B j')],[104]⟩:=by
 have g1:=f71 B j 3 (by omega) (by omega);have g2:=f71 B (cy B j) 2 (by omega) (by omega);have v1:=dO B j 3 (by omega);have v2:=dO B (cy B j) 2 (by omega);rw[cz3]at g1;rw[c2]at g2;have e:ac.wrap (1+((dw B (cy B j) 2:Nat):Int))=((1+dw B (cy B j) 2:Nat):Int):=wZ (by omega)
 have hr:role=1\/role=2\/role=3\/role=4:=by omega
 rcases hr with rfl|rfl|rfl|rfl
 ·obtain⟨r,j',q1,q2,q3,q4⟩:=Z1 B hB 1 (by decide) (by decide) (1+dw B (cy B j) 2) l (cy B (cy B j)) (by omega) hc
  refine⟨r,j',q1,by omega,fun _=>q3 (by omega), ?_⟩;rw[ai];simp only[aR]at g1 g2 q4 ⊢;simp only[go_sem,Q0,Q1,Q2,Q3,Q4,Q5,Q6,Q7,Q8,Q9,Qa,Qb,Qc,Qd,Qe,Qf,Qg,Qh,Qi,Qj,Qk,reduceCtorEq,reduceIte,g1,g2,fH,e,q4];rfl
 ·obtain⟨r,j',q1,q2,q3,q4⟩:=Z1 B hB 2 (by decide) (by decide) (dw B j 3) l (cy B j) (by omega) hc
  refine⟨r,j',q1,by omega,fun h=>absurd h (by decide), ?_⟩;rw[ai];simp only[aR]at g1 g2 q4 ⊢;simp only[go_sem,Q0,Q1,Q2,Q3,Q4,Q5,Q6,Q7,Q8,Q9,Qa,Qb,Qc,Qd,Qe,Qf,Qg,Qh,Qi,Qj,Qk,reduceCtorEq,reduceIte,g1,fH,q4];rfl
 ·obtain⟨r,j',q1,q2,q3,q4⟩:=Z1 B hB 3 (by decide) (by decide) (1+dw B (cy B j) 2) l (cy B (cy B j)) (by omega) hc
  refine⟨r,j',q1,by omega,fun _=>q3 (by omega), ?_⟩;rw[ai];simp only[aR]at g1 g2 q4 ⊢;simp only[go_sem,Q0,Q1,Q2,Q3,Q4,Q5,Q6,Q7,Q8,Q9,Qa,Qb,Qc,Qd,Qe,Qf,Qg,Qh,Qi,Qj,Qk,reduceCtorEq,reduceIte,g1,g2,fH,e,q4];rfl
 ·obtain⟨r,j',q1,q2,q3,q4⟩:=Z1 B hB 4 (by decide) (by decide) (dw B j 3) l (cy B j) (by omega) hc
  refine⟨r,j',q1,by omega,fun h=>absurd h (by decide), ?_⟩;rw[ai];simp only[aR]at g1 g2 q4 ⊢;simp only[go_sem,Q0,Q1,Q2,Q3,Q4,Q5,Q6,Q7,Q8,Q9,Qa,Qb,Qc,Qd,Qe,Qf,Qg,Qh,Qi,Qj,Qk,reduceCtorEq,reduceIte,g1,fH,q4];rfl
theorem zb{l:List Img}{a b:Int}(h:ChP l a)(hab:a<=b):ChP l b:=⟨h.ok,fun i hi=>Int.le_trans (h.le i hi) hab,h.ord,h.dup⟩
theorem f28(codes:List UInt8):∃l,eO l/\call T 28 [.byt codes .no] [] 0=some ⟨.lst 4 (fy l) .no,[],[]⟩:=by
 have hB:(codes.take 200).length<=1000:=by rw[aj];omega
 have g:=f29 codes 200;rw[xnc]at g;generalize codes.take 200=B at*;have h0:ChP [] 1:=⟨fun i hi=>absurd hi (by simp),fun i hi=>absurd hi (by simp),fun i hi=>absurd hi (by simp),fun i hi=>absurd hi (by simp)⟩;obtain⟨a1,j1,p1,n1,w1,t1⟩:=Z0 B hB 1 (by decide) (by decide) [] 0 (by decide) h0;rw[aF]at p1 w1 t1;obtain⟨a2,j2,p2,n2,w2,t2⟩:=Z0 B hB 2 (by decide) (by decide) a1 j1 (by omega) (zb p1 (by decide));obtain⟨a3,j3,p3,n3,w3,t3⟩:=Z0 B hB 3 (by decide) (by decide) (a1++a2) j2 (by rw[af];omega) (zb p2 (by decide));obtain⟨a4,j4,p4,n4,w4,t4⟩:=Z0 B hB 4 (by decide) (by decide) (a1++a2++a3) j3 (by simp only[af];omega) (zb p3 (by decide));refine⟨a1++a2++a3++a4,⟨?_, ?_,p4.ok,p4.ord,p4.dup,uE (uE (uE (w1 (Or.inl rfl)))),uE (w3 (Or.inr rfl))⟩, ?_⟩
 ·obtain⟨i,hi,_⟩:=w1 (Or.inl rfl)
  simp only[af];omega
 ·simp only[af];omega
 ·rw[ao xn3]
  rw[show(1:Int)+1=2 from rfl]at t1;rw[show(2:Int)+1=3 from rfl]at t2;rw[show(3:Int)+1=4 from rfl]at t3;rw[show(4:Int)+1=5 from rfl]at t4
  have t5:run T (.loop qx) ⟨[(3,.ptr 12100 0),(4,.lst 4 (fy (a1++a2++a3++a4)) (.id 104)),(5,.int .i64 5)],[(12100,aR B j4)],[104]⟩=some (.x 0,⟨[(4,.lst 4 (fy (a1++a2++a3++a4)) (.id 104))],[(12100,aR B j4)],[104]⟩):=by rw[ai];simp only[aR,go_sem,Q0,Q1,Q2,Q3,Q4,Q5,Q6,Q7,Q8,Q9,Qa,Qb,Qc,Qd,Qe,Qf,Qg,Qh,Qi,Qj,Qk,reduceCtorEq,reduceIte]
  rw[t5]at t4;rw[t4]at t3;rw[t3]at t2;rw[t2]at t1;have e0:fy []=[]:=rfl;rw[e0]at t1;simp only[aR,c0,aA]at g t1;simp only[go_sem,Q0,Q1,Q2,Q3,Q4,Q5,Q6,Q7,Q8,Q9,Qa,Qb,Qc,Qd,Qe,Qf,Qg,Qh,Qi,Qj,Qk,reduceCtorEq,reduceIte,g,xfK,t1,aA]
theorem qd(l:List Ev)(e:Ev):mJ (l++ [e])=mJ l++ [e.sv]:=by simp[mJ]
def sM(a:Int):Nat->Nat->List Ev
 |_,0=> []
 |i,n+1=>mkV i 2 a [0,0,0,0]::sM a (i+1) n
theorem pO(a:Int):∀n i,(sM a i n).length=n
 |0,_=>rfl
 |n+1,i=>by rw[sM,aC,pO a n]
theorem xl8(L:List (List SV))(a role:Int)(ha:sx a):∀(n i:Nat)(acc:List Ev),8-i=n->i<=8->acc.length<=100000+i->
 run T (.loop yE) ⟨[(0,.lst 4 L .no),(1,.int .i64 a),(5,.lst 4 (mJ acc) (.id 105)),(6,.int .i64 role),(7,.int .i64 i)],[],[105]⟩=
 some (.x 2,⟨[(0,.lst 4 L .no),(1,.int .i64 a),(5,.lst 4 (mJ (acc++sM a i n)) (.id 105)),(6,.int .i64 role)],[],[105]⟩):=by
 have g1:=f69;intro n;induction n with
 |zero=>
  intro i acc h0 h1 h2;have:i=8:=by omega
  subst this;rw[ai];simp only[go_sem,Q0,Q1,Q2,Q3,Q4,Q5,Q6,Q7,Q8,Q9,Qa,Qb,Qc,Qd,Qe,Qf,Qg,Qh,Qi,Qj,Qk,reduceCtorEq,reduceIte,sM,bJ]
 |succ n ih=>
  intro i acc h0 h1 h2;have hi:(i:Int)<8:=by omega
  have e1:=cg i (by omega);have g:=f68 i 2 a [0,0,0,0] ha (by simp);have ih':=ih (i+1) (acc++ [mkV i 2 a [0,0,0,0]]) (by omega) (by omega) (by rw[af,aM];omega);rw[qd,aA,cX]at ih';have hl:=kA acc;have c1:(acc.length+1)*64<=140737488355328:=by omega
  rw[ai,sM];simp only[Ev.sv]at g ih';simp only[go_sem,Q0,Q1,Q2,Q3,Q4,Q5,Q6,Q7,Q8,Q9,Qa,Qb,Qc,Qd,Qe,Qf,Qg,Qh,Qi,Qj,Qk,reduceCtorEq,reduceIte,hi,e1,g1,xfG,g,nH,hl,c1,ih']
theorem y8(B:Nat):∀(p:List UInt8)(o:List (List UInt8))(l:List UInt8)(o':List (List UInt8))(l':List UInt8),o.length<=4->(∀x∈o,x.length<=B)->l.length+p.length<=B->lnF p o l=some (o',l')->o'.length<=4/\∀x∈o',x.length<=B
 |[],o,l,o',l',h1,h2,_,h=>by cases h;exact⟨h1,h2⟩
 |c::r,o,l,o',l',h1,h2,h3,h=>by
  rw[aC]at h3;unfold lnF at h;split at h
  ·split at h
   ·cases h
   ·split at h
    ·cases h
    ·refine y8 B r _ _ o' l' (by rw[af,aM];omega) ?_ (by simp;omega) h
     intro x hx;rcases al.1 hx with hx|hx
     ·exact h2 x hx
     ·rw[ba.1 hx];omega
  ·split at h
   ·cases h
   ·split at h
    ·cases h
    ·exact y8 B r _ _ o' l' h1 h2 (by rw[af,aM];omega) h
theorem m5(p:List UInt8):(eQ p).length<=4/\∀x∈eQ p,x.length<=p.length:=by
 unfold eQ;split
 ·rename_i o l h
  have:=y8 p.length p [] [] o l (by simp) (by simp) (by simp) h;split
  ·exact⟨by simp,by simp⟩
  ·exact this
 ·exact⟨by simp,by simp⟩
theorem TN(l:List (List UInt8))(i:Nat)(h:i<l.length):(bls l).getD i []=[.byt (l.getD i []) .no]:=by simp[bls,aa,h]
theorem xl7(L:List (List SV))(a role:Int)(i:Int)(ls:List (List UInt8))(ha:sx a)(hls:∀x∈ls,x.length<=1000000)(hn:ls.length<=4):∀(n k:Nat)(acc:List Ev),ls.length-k=n->k<=ls.length->acc.length<=100000+k->
 run T (.loop yC) ⟨[(0,.lst 4 L .no),(1,.int .i64 a),(5,.lst 4 (mJ acc) (.id 105)),(6,.int .i64 role),(8,.int .i64 i),(9,.lst 1 (bls ls) .no),(10,.int .i64 k)],[],[105]⟩=
 some (.x 6,⟨[(0,.lst 4 L .no),(1,.int .i64 a),(5,.lst 4 (mJ (acc++(ls.drop k).map (mkV 9 3 a))) (.id 105)),(6,.int .i64 role),(8,.int .i64 i)],[],[105]⟩):=by
 intro n;induction n with
 |zero=>
  intro k acc h0 h1 h2;have:k=ls.length:=by omega
  subst this;have hb:=lw ls;rw[ai,aX];simp only[go_sem,Q0,Q1,Q2,Q3,Q4,Q5,Q6,Q7,Q8,Q9,Qa,Qb,Qc,Qd,Qe,Qf,Qg,Qh,Qi,Qj,Qk,reduceCtorEq,reduceIte,hb,bJ]
 |succ n ih=>
  intro k acc h0 h1 h2;have hk:k<ls.length:=by omega
  have e1:=cg k (by omega);have hb:=lw ls;have hg:=TN ls k hk;have hm:ls.getD k []∈ls:=by rw[aa,ab hk];exact bp _
  have g:=f68 9 3 a (ls.getD k []) ha (hls _ hm);have ih':=ih (k+1) (acc++ [mkV 9 3 a (ls.getD k [])]) (by omega) (by omega) (by rw[af,aM];omega);have hd:ls.drop k=ls.getD k []::ls.drop (k+1):=nf ls k hk;rw[qd,aA,cX]at ih';rw[hd,aI];have hl:=kA acc;have c1:(acc.length+1)*64<=140737488355328:=by omega
  generalize ls.getD k []=d at*;rw[ai];simp only[Ev.sv]at g ih';simp only[go_sem,Q0,Q1,Q2,Q3,Q4,Q5,Q6,Q7,Q8,Q9,Qa,Qb,Qc,Qd,Qe,Qf,Qg,Qh,Qi,Qj,Qk,reduceCtorEq,reduceIte,hk,e1,hb,hg,g,nH,hl,c1,ih']
def jV(a role:Int)(x:Img):List Ev:=if x.role=role then(if role=4 then(eQ x.pay).map (mkV 9 3 a)else [ofI x a])else []
theorem vX(a role:Int)(x:Img):(jV a role x).length<=4:=by
 unfold jV;split
 ·split
  ·rw[au];exact(m5 x.pay).1
  ·simp
 ·simp
theorem Z2(l:List Img)(hc:eO l)(a role:Int)(ha:sx a):∀(n i:Nat)(acc:List Ev),l.length-i=n->i<=l.length->acc.length<=10000+4*i->
 run T (.loop yB) ⟨[(0,.lst 4 (fy l) .no),(1,.int .i64 a),(5,.lst 4 (mJ acc) (.id 105)),(6,.int .i64 role),(8,.int .i64 i)],[],[105]⟩=
 some (.x 4,⟨[(0,.lst 4 (fy l) .no),(1,.int .i64 a),(5,.lst 4 (mJ (acc++(l.drop i).flatMap (jV a role))) (.id 105)),(6,.int .i64 role)],[],[105]⟩):=by
 intro n;induction n with
 |zero=>
  intro i acc h0 h1 h2;have:i=l.length:=by omega
  subst this;have hb:=dU l;rw[ai,aX];simp only[go_sem,Q0,Q1,Q2,Q3,Q4,Q5,Q6,Q7,Q8,Q9,Qa,Qb,Qc,Qd,Qe,Qf,Qg,Qh,Qi,Qj,Qk,reduceCtorEq,reduceIte,hb,List.flatMap_nil,bJ]
 |succ n ih=>
  intro i acc h0 h1 h2;have hi:i<l.length:=by omega
  have n8:=hc.n8;have e1:=cg i (by omega);have hb:=dU l;have hg:=fQ l i hi;have hok:=hc.ok i hi;obtain⟨b1,b2⟩:=og hok;have hlen:=vX a role (l.getD i im0);have ih':=ih (i+1) (acc++jV a role (l.getD i im0)) (by omega) (by omega) (by rw[af];omega);have hd:l.drop i=l.getD i im0::l.drop (i+1):=by rw[aS hi,aa,ab hi];rfl
  rw[hd,jD];rw[aA]at ih';generalize (l.drop (i+1)).flatMap (jV a role)=R at*;rw[ai];have g1:=f70 (l.getD i im0) (by omega);have g2:=fun h4=>f40 (l.getD i im0) a ha hok h4
  obtain⟨k1,k2⟩:=m5 (l.getD i im0).pay;generalize l.getD i im0=x at*;have g3:=xl7 (fy l) a 4 i (eQ x.pay) ha (fun y hy=>by have:=k2 y hy;omega) k1 _ 0 acc rfl (by omega) (by omega);simp only[av,bh]at g3;have hl:=kA acc;have c1:(acc.length+1)*64<=140737488355328:=by omega
  unfold jV at ih' ⊢
  by_cases hr:x.role=role
  ·by_cases h4:role=4
   ·rw[if_pos hr,if_pos h4]at ih' ⊢
    subst h4;obtain⟨ro,na,ve,p⟩:=x;simp only[Img.sv]at*;subst hr;simp only[go_sem,Q0,Q1,Q2,Q3,Q4,Q5,Q6,Q7,Q8,Q9,Qa,Qb,Qc,Qd,Qe,Qf,Qg,Qh,Qi,Qj,Qk,reduceCtorEq,reduceIte,hi,e1,hb,hg,g1,xfF,g3,ih']
   ·rw[if_pos hr,if_neg h4]at ih' ⊢
    have g2':=g2 (by rw[hr];exact h4);obtain⟨ro,na,ve,p⟩:=x;simp only[Img.sv]at*;subst hr;rw[<-aA,qd,aA]at ih';simp only[Ev.sv]at g2' ih';simp only[go_sem,Q0,Q1,Q2,Q3,Q4,Q5,Q6,Q7,Q8,Q9,Qa,Qb,Qc,Qd,Qe,Qf,Qg,Qh,Qi,Qj,Qk,reduceCtorEq,reduceIte,hi,e1,hb,hg,h4,g2',xlh,hl,c1,ih']
  ·rw[if_neg hr]at ih' ⊢
   obtain⟨ro,na,ve,p⟩:=x;simp only[Img.sv,aF,bJ]at*;simp only[go_sem,Q0,Q1,Q2,Q3,Q4,Q5,Q6,Q7,Q8,Q9,Qa,Qb,Qc,Qd,Qe,Qf,Qg,Qh,Qi,Qj,Qk,reduceCtorEq,reduceIte,hi,e1,hb,hg,hr,ih']
def evF(l:List Img)(a:Int):List Ev:=l.flatMap (jV a 1)++(l.flatMap (jV a 2)++(sM a 0 8++(l.flatMap (jV a 3)++l.flatMap (jV a 4))))
theorem io(l:List Img)(a role:Int):(l.flatMap (jV a role)).length<=4*l.length:=by
 induction l with
 |nil=>simp
 |cons x r ih=>rw[jD,af,aC];have:=vX a role x;omega
theorem f27(l:List Img)(hc:eO l)(a:Int)(ha:sx a):call T 27 [.lst 4 (fy l) .no,.int .i64 a] [] 0=some ⟨.lst 4 (mJ (evF l a)) .no,[],[]⟩:=by
 have g:=f67 l hc;have n8:=hc.n8;have b1:=io l a 1;have b2:=io l a 2;have b3:=io l a 3;have b0:=pO a 8 0;have q1:=Z2 l hc a 1 ha _ 0 [] rfl (by omega) (by simp);have q2:=Z2 l hc a 2 ha _ 0 (l.flatMap (jV a 1)) rfl (by omega) (by omega);have q0:=xl8 (fy l) a 3 ha _ 0 (l.flatMap (jV a 1)++l.flatMap (jV a 2)) rfl (by omega) (by rw[af];omega);have q3:=Z2 l hc a 3 ha _ 0 (l.flatMap (jV a 1)++l.flatMap (jV a 2)++sM a 0 8) rfl (by omega) (by rw[af,af];omega);have q4:=Z2 l hc a 4 ha _ 0 (l.flatMap (jV a 1)++l.flatMap (jV a 2)++sM a 0 8++l.flatMap (jV a 3)) rfl (by omega) (by rw[af,af,af];omega);simp only[av,bh,aF,aA]at q1 q2 q0 q3 q4;have hev:mJ []=[]:=rfl;rw[hev]at q1;have a1:¬a<1:=by rcases ha with h|h|h<;>omega
 have a3:¬3<a:=by rcases ha with h|h|h<;>omega
 have k2:ac.wrap 2=2:=rfl;have k3:ac.wrap 3=3:=rfl;have k4:ac.wrap 4=4:=rfl;have k5:ac.wrap 5=5:=rfl;rw[ao xn4];unfold evF;simp only[go_sem,Q0,Q1,Q2,Q3,Q4,Q5,Q6,Q7,Q8,Q9,Qa,Qb,Qc,Qd,Qe,Qf,Qg,Qh,Qi,Qj,Qk,reduceCtorEq,reduceIte,g,xok,a1,a3];rw[ai];simp only[go_sem,Q0,Q1,Q2,Q3,Q4,Q5,Q6,Q7,Q8,Q9,Qa,Qb,Qc,Qd,Qe,Qf,Qg,Qh,Qi,Qj,Qk,reduceCtorEq,reduceIte,k2,k3,k4,k5,q1];rw[ai];simp only[go_sem,Q0,Q1,Q2,Q3,Q4,Q5,Q6,Q7,Q8,Q9,Qa,Qb,Qc,Qd,Qe,Qf,Qg,Qh,Qi,Qj,Qk,reduceCtorEq,reduceIte,k2,k3,k4,k5,q2];rw[ai];simp only[go_sem,Q0,Q1,Q2,Q3,Q4,Q5,Q6,Q7,Q8,Q9,Qa,Qb,Qc,Qd,Qe,Qf,Qg,Qh,Qi,Qj,Qk,reduceCtorEq,reduceIte,k2,k3,k4,k5,q0,q3];rw[ai];simp only[go_sem,Q0,Q1,Q2,Q3,Q4,Q5,Q6,Q7,Q8,Q9,Qa,Qb,Qc,Qd,Qe,Qf,Qg,Qh,Qi,Qj,Qk,reduceCtorEq,reduceIte,k2,k3,k4,k5,q4];rw[ai];simp only[go_sem,Q0,Q1,Q2,Q3,Q4,Q5,Q6,Q7,Q8,Q9,Qa,Qb,Qc,Qd,Qe,Qf,Qg,Qh,Qi,Qj,Qk,reduceCtorEq,reduceIte,k2,k3,k4,k5]
theorem f33(role:Int):call T 33 [.int .i64 role] [] 0=some ⟨.int .i64 (vu role),[],[]⟩:=by
 rw[ao xnZ];unfold vu
 by_cases h1:role=1
 ·subst h1;simp only[go_sem,Q0,Q1,Q2,Q3,Q4,Q5,Q6,Q7,Q8,Q9,Qa,Qb,Qc,Qd,Qe,Qf,Qg,Qh,Qi,Qj,Qk,reduceCtorEq,reduceIte,pk]
 by_cases h2:role=2
 ·subst h2;simp only[go_sem,Q0,Q1,Q2,Q3,Q4,Q5,Q6,Q7,Q8,Q9,Qa,Qb,Qc,Qd,Qe,Qf,Qg,Qh,Qi,Qj,Qk,reduceCtorEq,reduceIte,pk]
 by_cases h3:role=3
 ·subst h3;simp only[go_sem,Q0,Q1,Q2,Q3,Q4,Q5,Q6,Q7,Q8,Q9,Qa,Qb,Qc,Qd,Qe,Qf,Qg,Qh,Qi,Qj,Qk,reduceCtorEq,reduceIte,pk]
 by_cases h4:role=4
 ·subst h4;simp only[go_sem,Q0,Q1,Q2,Q3,Q4,Q5,Q6,Q7,Q8,Q9,Qa,Qb,Qc,Qd,Qe,Qf,Qg,Qh,Qi,Qj,Qk,reduceCtorEq,reduceIte,pk]
 by_cases h0:role=0
 ·subst h0;simp only[go_sem,Q0,Q1,Q2,Q3,Q4,Q5,Q6,Q7,Q8,Q9,Qa,Qb,Qc,Qd,Qe,Qf,Qg,Qh,Qi,Qj,Qk,reduceCtorEq,reduceIte,pk]
 by_cases h5:role<0
 ·simp only[go_sem,Q0,Q1,Q2,Q3,Q4,Q5,Q6,Q7,Q8,Q9,Qa,Qb,Qc,Qd,Qe,Qf,Qg,Qh,Qi,Qj,Qk,reduceCtorEq,reduceIte,h1,h2,h3,h4,h5]
 ·have h6:5<=role:=by omega
  simp only[go_sem,Q0,Q1,Q2,Q3,Q4,Q5,Q6,Q7,Q8,Q9,Qa,Qb,Qc,Qd,Qe,Qf,Qg,Qh,Qi,Qj,Qk,reduceCtorEq,reduceIte,h1,h2,h3,h4,h5,h6]
theorem f77(a b:List UInt8):call T 77 [.byt a .no,.byt b .no] [] 0=some ⟨.bool (decide (a=b)),[],[]⟩:=by rw[ao xnt];simp only[go_sem,Q0,Q1,Q2,Q3,Q4,Q5,Q6,Q7,Q8,Q9,Qa,Qb,Qc,Qd,Qe,Qf,Qg,Qh,Qi,Qj,Qk,reduceCtorEq,reduceIte]
def sZ(b:List UInt8):Bool:=b.all fun c=> !(decide (c<32)||decide (126<c))
theorem xmn(b:List UInt8)(hb:b.length<=1000000000000):∀(n i:Nat),b.length-i=n->i<=b.length->
 run T (.loop yQ) ⟨[(0,.byt b .no),(3,.int .i64 i)],[],[]⟩=if sZ (b.drop i)=true then some (.x 0,⟨[(0,.byt b .no)],[],[]⟩)else some (.r,⟨[(2,.bool false)],[],[]⟩):=by
 intro n;induction n with
 |zero=>
  intro i h0 h1;have hi:i=b.length:=by omega
  subst hi;rw[ai,aX];simp only[go_sem,Q0,Q1,Q2,Q3,Q4,Q5,Q6,Q7,Q8,Q9,Qa,Qb,Qc,Qd,Qe,Qf,Qg,Qh,Qi,Qj,Qk,reduceCtorEq,reduceIte,sZ]
 |succ n ih=>
  intro i h0 h1;have hi:i<b.length:=by omega
  have e1:=cg i (by omega);have ih':=ih (i+1) (by omega) (by omega);rw[ai,cN b i hi];unfold sZ at ih' ⊢;rw[gx];generalize hc:b.getD i 0=c at*;generalize (iu (i+1) b).all _=q at*
  by_cases a1:c<32
  ·simp only[go_sem,Q0,Q1,Q2,Q3,Q4,Q5,Q6,Q7,Q8,Q9,Qa,Qb,Qc,Qd,Qe,Qf,Qg,Qh,Qi,Qj,Qk,reduceCtorEq,reduceIte,hi,hc,e1,a1]
  ·by_cases a2:126<c
   ·simp only[go_sem,Q0,Q1,Q2,Q3,Q4,Q5,Q6,Q7,Q8,Q9,Qa,Qb,Qc,Qd,Qe,Qf,Qg,Qh,Qi,Qj,Qk,reduceCtorEq,reduceIte,hi,hc,e1,a1,a2]
   ·simp only[go_sem,Q0,Q1,Q2,Q3,Q4,Q5,Q6,Q7,Q8,Q9,Qa,Qb,Qc,Qd,Qe,Qf,Qg,Qh,Qi,Qj,Qk,reduceCtorEq,reduceIte,hi,hc,e1,a1,a2,ih']
theorem xmS(b:List UInt8)(hb:b.length<=1000000000000):call T 125 [.byt b .no] [] 0=some ⟨.bool (sZ b&&decide ((0:Int)<b.length)),[],[]⟩:=by
 have h:=xmn b hb _ 0 rfl (by omega);simp only[av,bh]at h;rw[ao xi2];cases hq:sZ b with
 |true=>rw[if_pos hq]at h;simp only[go_sem,Q0,Q1,Q2,Q3,Q4,Q5,Q6,Q7,Q8,Q9,Qa,Qb,Qc,Qd,Qe,Qf,Qg,Qh,Qi,Qj,Qk,reduceCtorEq,reduceIte,h]
 |false=>rw[if_neg (by rw[hq];simp)]at h;simp only[go_sem,Q0,Q1,Q2,Q3,Q4,Q5,Q6,Q7,Q8,Q9,Qa,Qb,Qc,Qd,Qe,Qf,Qg,Qh,Qi,Qj,Qk,reduceCtorEq,reduceIte,h]
def iX(m:Bool)(d s:List UInt8):Bool:=if(0:Int)<d.length then(m&&decide (d=s))else true
def Fh(e:Ev):Bool:=
 if e.kind=1 then true
 else if e.kind=2 then(if e.data=[0,0,0,0]then iX true (e.dg.getD 0 []) (jx e.data)&&iX true (e.dg.getD 1 []) (sha e.data)else false)
 else if e.kind=3 then(if(e.data.length:Int)=0 then false else if sZ e.data=true then iX true (e.dg.getD 0 []) (jx e.data)&&iX true (e.dg.getD 1 []) (sha e.data)else false)
 else if e.kind=4 then iX true (e.dg.getD 0 []) (jx e.data)&&iX true (e.dg.getD 1 []) (sha e.data)
 else if e.kind=5 then iX false (e.dg.getD 0 []) []&&iX false (e.dg.getD 1 []) []
 else false
theorem xlZ(O:SV)(m:Bool)(ob:List (Nat×aG))(b:List UInt8)(hb:b.length<=1000000000000):∀(n i:Nat),b.length-i=n->i<=b.length->
 run T (.loop yl) ⟨[(1,O),(3,.bool m),(34,.byt b .no),(35,.int .i64 b.length),(36,.int .i64 i)],ob,[]⟩=
 if sZ (b.drop i)=true then some (.x 1,⟨[(1,O),(3,.bool m)],ob,[]⟩)else some (.r,⟨[(2,.bool false)],ob,[]⟩):=by
 intro n;induction n with
 |zero=>
  intro i h0 h1;have hi:i=b.length:=by omega
  subst hi;rw[ai,aX];simp only[go_sem,Q0,Q1,Q2,Q3,Q4,Q5,Q6,Q7,Q8,Q9,Qa,Qb,Qc,Qd,Qe,Qf,Qg,Qh,Qi,Qj,Qk,reduceCtorEq,reduceIte,sZ]
 |succ n ih=>
  intro i h0 h1;have hi:i<b.length:=by omega
  have e1:=cg i (by omega);have ih':=ih (i+1) (by omega) (by omega);rw[ai,cN b i hi];unfold sZ at ih' ⊢;rw[gx];generalize hc:b.getD i 0=c at*;generalize (iu (i+1) b).all _=q at*
  by_cases a1:c<32
  ·simp only[go_sem,Q0,Q1,Q2,Q3,Q4,Q5,Q6,Q7,Q8,Q9,Qa,Qb,Qc,Qd,Qe,Qf,Qg,Qh,Qi,Qj,Qk,reduceCtorEq,reduceIte,hi,hc,e1,a1]
  ·by_cases a2:126<c
   ·simp only[go_sem,Q0,Q1,Q2,Q3,Q4,Q5,Q6,Q7,Q8,Q9,Qa,Qb,Qc,Qd,Qe,Qf,Qg,Qh,Qi,Qj,Qk,reduceCtorEq,reduceIte,hi,hc,e1,a1,a2]
   ·simp only[go_sem,Q0,Q1,Q2,Q3,Q4,Q5,Q6,Q7,Q8,Q9,Qa,Qb,Qc,Qd,Qe,Qf,Qg,Qh,Qi,Qj,Qk,reduceCtorEq,reduceIte,hi,hc,e1,a1,a2,ih']
theorem xkL(
 m:Bool)(g k:Int)(d0 d1 b s0 s1:List UInt8)(hb:b.length<=1000000)(h0:m=true->s0=jx b)(h1:m=true->s1=sha b):
 run T (.loop yk) ⟨[(1,.ptr 101 0),(3,.bool m),(53,.int .i64 2),(54,.int .i64 0)],[(101,.rc [.int .i64 g,.int .i64 k,.lst 1 [[.byt d0 .no],[.byt d1 .no]] .no,.byt b .no])],[]⟩=
 if(iX m d0 s0&&iX m d1 s1)=true then some (.x 3,⟨[],[(101,.rc [.int .i64 g,.int .i64 k,.lst 1 [[.byt d0 .no],[.byt d1 .no]] .no,.byt b .no])],[]⟩)
 else some (.r,⟨[(2,.bool false)],[(101,.rc [.int .i64 g,.int .i64 k,.lst 1 [[.byt d0 .no],[.byt d1 .no]] .no,.byt b .no])],[]⟩):=by
 have g0:=xmy b (by omega);have g1:=f90 b (by omega);have g2:=f77 d0 (jx b);have g3:=f77 d1 (sha b);have k1:ac.wrap 1=1:=rfl;have k2:ac.wrap 2=2:=rfl;unfold iX;cases m with
 |false=>
  by_cases a1:(0:Int)<d0.length
  ·rw[ai];simp only[go_sem,Q0,Q1,Q2,Q3,Q4,Q5,Q6,Q7,Q8,Q9,Qa,Qb,Qc,Qd,Qe,Qf,Qg,Qh,Qi,Qj,Qk,reduceCtorEq,reduceIte,a1]
  ·by_cases a2:(0:Int)<d1.length
   ·iterate 2
     rw[ai];simp only[go_sem,Q0,Q1,Q2,Q3,Q4,Q5,Q6,Q7,Q8,Q9,Qa,Qb,Qc,Qd,Qe,Qf,Qg,Qh,Qi,Qj,Qk,reduceCtorEq,reduceIte,a1,a2,k1,k2]
   ·iterate 3
     rw[ai];simp only[go_sem,Q0,Q1,Q2,Q3,Q4,Q5,Q6,Q7,Q8,Q9,Qa,Qb,Qc,Qd,Qe,Qf,Qg,Qh,Qi,Qj,Qk,reduceCtorEq,reduceIte,a1,a2,k1,k2]
 |true=>
  rw[h0 rfl,h1 rfl]
  by_cases a1:(0:Int)<d0.length
  ·by_cases b1:d0=jx b
   ·have g2':call T 77 [.byt d0 .no,.byt (jx b) .no] [] 0=some ⟨.bool true,[],[]⟩:=by rw[g2,decide_eq_true b1]
    by_cases a2:(0:Int)<d1.length
    ·by_cases b2:d1=sha b
     ·have g3':call T 77 [.byt d1 .no,.byt (sha b) .no] [] 0=some ⟨.bool true,[],[]⟩:=by rw[g3,decide_eq_true b2]
      rw[decide_eq_true b1,decide_eq_true b2]
      iterate 3
       rw[ai];simp only[go_sem,Q0,Q1,Q2,Q3,Q4,Q5,Q6,Q7,Q8,Q9,Qa,Qb,Qc,Qd,Qe,Qf,Qg,Qh,Qi,Qj,Qk,reduceCtorEq,reduceIte,a1,a2,k1,k2,g0,g1,g2',g3',xW,wv]
     ·have g3':call T 77 [.byt d1 .no,.byt (sha b) .no] [] 0=some ⟨.bool false,[],[]⟩:=by rw[g3,decide_eq_false b2]
      rw[decide_eq_true b1,decide_eq_false b2]
      iterate 2
       rw[ai];simp only[go_sem,Q0,Q1,Q2,Q3,Q4,Q5,Q6,Q7,Q8,Q9,Qa,Qb,Qc,Qd,Qe,Qf,Qg,Qh,Qi,Qj,Qk,reduceCtorEq,reduceIte,a1,a2,k1,k2,g0,g1,g2',g3',xW,wv]
    ·rw[decide_eq_true b1]
     iterate 3
      rw[ai];simp only[go_sem,Q0,Q1,Q2,Q3,Q4,Q5,Q6,Q7,Q8,Q9,Qa,Qb,Qc,Qd,Qe,Qf,Qg,Qh,Qi,Qj,Qk,reduceCtorEq,reduceIte,a1,a2,k1,k2,g0,g1,g2',xW,wv]
   ·have g2':call T 77 [.byt d0 .no,.byt (jx b) .no] [] 0=some ⟨.bool false,[],[]⟩:=by rw[g2,decide_eq_false b1]
    rw[decide_eq_false b1];rw[ai];simp only[go_sem,Q0,Q1,Q2,Q3,Q4,Q5,Q6,Q7,Q8,Q9,Qa,Qb,Qc,Qd,Qe,Qf,Qg,Qh,Qi,Qj,Qk,reduceCtorEq,reduceIte,a1,k1,k2,g0,g1,g2',xW,wv]
  ·by_cases a2:(0:Int)<d1.length
   ·by_cases b2:d1=sha b
    ·have g3':call T 77 [.byt d1 .no,.byt (sha b) .no] [] 0=some ⟨.bool true,[],[]⟩:=by rw[g3,decide_eq_true b2]
     rw[decide_eq_true b2]
     iterate 3
      rw[ai];simp only[go_sem,Q0,Q1,Q2,Q3,Q4,Q5,Q6,Q7,Q8,Q9,Qa,Qb,Qc,Qd,Qe,Qf,Qg,Qh,Qi,Qj,Qk,reduceCtorEq,reduceIte,a1,a2,k1,k2,g0,g1,g3',xW,wv]
    ·have g3':call T 77 [.byt d1 .no,.byt (sha b) .no] [] 0=some ⟨.bool false,[],[]⟩:=by rw[g3,decide_eq_false b2]
     rw[decide_eq_false b2]
     iterate 2
      rw[ai];simp only[go_sem,Q0,Q1,Q2,Q3,Q4,Q5,Q6,Q7,Q8,Q9,Qa,Qb,Qc,Qd,Qe,Qf,Qg,Qh,Qi,Qj,Qk,reduceCtorEq,reduceIte,a1,a2,k1,k2,g0,g1,g3',xW,wv]
   ·iterate 3
     rw[ai];simp only[go_sem,Q0,Q1,Q2,Q3,Q4,Q5,Q6,Q7,Q8,Q9,Qa,Qb,Qc,Qd,Qe,Qf,Qg,Qh,Qi,Qj,Qk,reduceCtorEq,reduceIte,a1,a2,k1,k2]
theorem two{α:Type}(l:List α)(d:α)(h:l.length=2):l=[l.getD 0 d,l.getD 1 d]:=by
 match l,h with
 |[a,b],_=>rfl
theorem f79(e:Ev)(hd:e.dg.length=2)(hb:e.data.length<=1000000):call T 79 [.agg e.sv] [] 0=some ⟨.bool (Fh e),[],[]⟩:=by
 obtain⟨g,k,ds,b⟩:=e;simp only at hd hb;rw[two ds [] hd];generalize ds.getD 0 []=d0;generalize ds.getD 1 []=d1;clear hd;have q0:=xkL false g k d0 d1 b [] [] hb (fun h=>by cases h) (fun h=>by cases h);have q1:=xkL true g k d0 d1 b (jx b) (sha b) hb (fun _=>rfl) (fun _=>rfl);have p:=xlZ (.ptr 101 0) true [(101,.rc [.int .i64 g,.int .i64 k,.lst 1 [[.byt d0 .no],[.byt d1 .no]] .no,.byt b .no])] b (by omega) _ 0 rfl (by omega);have p4:=f77 b [0,0,0,0];simp only[av,bh]at p;have hbl:bls [d0,d1]=[[.byt d0 .no],[.byt d1 .no]]:=rfl;rw[ao xnr];unfold Fh Ev.sv;simp only[hbl,bL,bY];generalize (iX false d0 []&&iX false d1 [])=z0 at*;generalize (iX true d0 (jx b)&&iX true d1 (sha b))=z1 at*
 by_cases h1:k=1
 ·subst h1;simp only[go_sem,Q0,Q1,Q2,Q3,Q4,Q5,Q6,Q7,Q8,Q9,Qa,Qb,Qc,Qd,Qe,Qf,Qg,Qh,Qi,Qj,Qk,reduceCtorEq,reduceIte]
 by_cases h2:k=2
 ·subst h2
  by_cases h3:b=[0,0,0,0]
  ·rw[decide_eq_true h3]at p4
   cases z1<;>simp only[go_sem,Q0,Q1,Q2,Q3,Q4,Q5,Q6,Q7,Q8,Q9,Qa,Qb,Qc,Qd,Qe,Qf,Qg,Qh,Qi,Qj,Qk,reduceCtorEq,reduceIte,h3,am]at p4 q1 ⊢ <;>simp only[go_sem,Q0,Q1,Q2,Q3,Q4,Q5,Q6,Q7,Q8,Q9,Qa,Qb,Qc,Qd,Qe,Qf,Qg,Qh,Qi,Qj,Qk,reduceCtorEq,reduceIte,p4,wv,q1,am]
  ·rw[decide_eq_false h3]at p4
   simp only[go_sem,Q0,Q1,Q2,Q3,Q4,Q5,Q6,Q7,Q8,Q9,Qa,Qb,Qc,Qd,Qe,Qf,Qg,Qh,Qi,Qj,Qk,reduceCtorEq,reduceIte,h3,p4,wv,am]
 by_cases h3:k=3
 ·subst h3
  by_cases h4:(b.length:Int)=0
  ·simp only[go_sem,Q0,Q1,Q2,Q3,Q4,Q5,Q6,Q7,Q8,Q9,Qa,Qb,Qc,Qd,Qe,Qf,Qg,Qh,Qi,Qj,Qk,reduceCtorEq,reduceIte,h4]
  ·cases hp:sZ b with
   |true=>rw[if_pos hp]at p;cases z1<;>simp only[go_sem,Q0,Q1,Q2,Q3,Q4,Q5,Q6,Q7,Q8,Q9,Qa,Qb,Qc,Qd,Qe,Qf,Qg,Qh,Qi,Qj,Qk,reduceCtorEq,reduceIte]at q1<;>simp only[go_sem,Q0,Q1,Q2,Q3,Q4,Q5,Q6,Q7,Q8,Q9,Qa,Qb,Qc,Qd,Qe,Qf,Qg,Qh,Qi,Qj,Qk,reduceCtorEq,reduceIte,h4,p,q1,hp]
   |false=>rw[if_neg (by rw[hp];simp)]at p;simp only[go_sem,Q0,Q1,Q2,Q3,Q4,Q5,Q6,Q7,Q8,Q9,Qa,Qb,Qc,Qd,Qe,Qf,Qg,Qh,Qi,Qj,Qk,reduceCtorEq,reduceIte,h4,p,hp]
 by_cases h4:k=4
 ·subst h4
  cases z1<;>simp only[go_sem,Q0,Q1,Q2,Q3,Q4,Q5,Q6,Q7,Q8,Q9,Qa,Qb,Qc,Qd,Qe,Qf,Qg,Qh,Qi,Qj,Qk,reduceCtorEq,reduceIte]at q1<;>simp only[go_sem,Q0,Q1,Q2,Q3,Q4,Q5,Q6,Q7,Q8,Q9,Qa,Qb,Qc,Qd,Qe,Qf,Qg,Qh,Qi,Qj,Qk,reduceCtorEq,reduceIte,q1]
 by_cases h5:k=5
 ·subst h5
  cases z0<;>simp only[go_sem,Q0,Q1,Q2,Q3,Q4,Q5,Q6,Q7,Q8,Q9,Qa,Qb,Qc,Qd,Qe,Qf,Qg,Qh,Qi,Qj,Qk,reduceCtorEq,reduceIte]at q0<;>simp only[go_sem,Q0,Q1,Q2,Q3,Q4,Q5,Q6,Q7,Q8,Q9,Qa,Qb,Qc,Qd,Qe,Qf,Qg,Qh,Qi,Qj,Qk,reduceCtorEq,reduceIte,q0]
 simp only[go_sem,Q0,Q1,Q2,Q3,Q4,Q5,Q6,Q7,Q8,Q9,Qa,Qb,Qc,Qd,Qe,Qf,Qg,Qh,Qi,Qj,Qk,reduceCtorEq,reduceIte,h1,h2,h3,h4,h5]
end Go.Proofs.YtkcjdeofknkndaaGreatDoor
