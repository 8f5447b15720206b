/- Contracts. No condition. -/
import Derived.Test.YtkcjdeofknkndaaGreatDoorTeDF
open Bool renaming and_eq_true -> aB
open Int renaming cast_ofNat_Int -> bW, natCast_zero -> aD
open Go.IntKind renaming i64 -> ai, u64 -> aZ
open List renaming all_cons -> iv, append_assoc -> ax, append_nil -> bf, cons_append -> aV, drop -> lv, drop_eq_getElem_cons -> aY, drop_length -> bv, drop_zero -> bh, flatMap_cons -> jw, getD_cons_succ -> bQ, getD_cons_zero -> bF, getD_eq_getElem?_getD -> aa, getElem?_append_left -> bc, getElem?_append_right -> bw, getElem?_eq_getElem -> ab, getElem_mem -> bn, getElem_of_mem -> bM, length_append -> af, length_cons -> ay, length_drop -> aL, length_map -> aS, length_nil -> bl, length_pos_iff -> mb, length_replicate -> bO, length_set -> dh, length_singleton -> aP, length_take -> aA, map_append -> df, mem_append -> ak, mem_cons -> am, mem_singleton -> aW, nil_append -> aK, not_mem_nil -> cB, replicate -> ao, singleton_append -> dC, take -> dn, take_length -> bB
open Nat renaming le_refl -> aN, lt_or_ge -> bL, mul_one -> iu, zero_le -> bD
open UInt8 renaming ofInt -> dj
set_option maxRecDepth 100000
set_option maxHeartbeats 16000000
set_option linter.unusedSimpArgs false
set_option linter.unusedVariables false
namespace Go.Proofs.YtkcjdeofknkndaaGreatDoor
open Go.Sy
open UInt8 renaming reduceLT -> Q0, reduceLE -> Q1
open Int renaming reduceToNat -> Q2, reduceLE -> Q3, reduceLT -> Q4, reduceEq -> Q5, reduceNe -> Q6, reduceNeg -> Q7, reduceAdd -> Q8, reduceSub -> Q9, reduceMul -> Qa
open Nat renaming reducePow -> Qb, reduceDiv -> Qc, reduceMod -> Qd, reduceAdd -> Qe, reduceSub -> Qf, reduceMul -> Qg, reduceLT -> Qh, reduceLeDiff -> Qi, reduceEqDiff -> Qj, reduceBEq -> Qk
theorem iK{s:t6}(h:Pr.nameB s=true):1<=s.length/\s.length<=12:=by
 unfold Pr.nameB at h;split at h
 ·cases h
 ·omega
theorem iz{x:Img}(h:dT x=0):1<=x.role/\x.role<=4/\0<=x.ver/\x.ver<=1000000/\Pr.nameB x.name=true/\x.pay.length<=64:=by
 unfold dT at h
 repeat' split at h
 all_goals first|omega|skip
 all_goals (cases y:Pr.nameB x.name with
  |true=>exact⟨by omega,by omega,by omega,by omega,rfl,by omega⟩
  |false=>simp_all)
theorem kU{x:Img}(h:dT x=0):x.name.length<=1000000/\x.pay.length<=1000000:=by obtain⟨_,_,_,_,y,z⟩:=iz h;have:=iK y;omega
def ofI(x:Img)(a:Int):Ev:=⟨ur x.role,1,nL (dN x) a,qR x.name x.ver⟩
theorem f40(x:Img)(a:Int)(H:vi a)(h:dT x=0)(E:x.role≠4):call T 40 [.agg x.sv,.int .i64 a] [] 0=some ⟨.agg (ofI x a).sv,[],[]⟩:=by obtain⟨O,L,F,I,q5,U⟩:=iz h;obtain⟨b1,J⟩:=kU h;have g0:=xit x (by omega) (by omega);have C:=f82 x.role;have y:=xkF x a H b1 J;have z:=f34 x.name x.ver b1 F I;rw[h]at g0;obtain⟨Q,W,Z,p⟩:=x;simp only[Img.sv,Ev.sv,ofI]at*;rw[au xlp];simp only[go_sem,Q0,Q1,Q2,Q3,Q4,Q5,Q6,Q7,Q8,Q9,Qa,Qb,Qc,Qd,Qe,Qf,Qg,Qh,Qi,Qj,Qk,reduceCtorEq,reduceIte,g0,D2,E,C,xlL,y,xhb,z,xlS]
def mkV(reg kind a:Int)(data:t6):Ev:=⟨reg,kind,if kind=5 then [[],[]]else [if sm a 0 then lg data else [],if sm a 1 then sha data else []],data⟩
def dS(l:List Img):f8:=l.map Img.sv
def im0:Img:=⟨0,[],0,[]⟩
theorem dY(l:List Img):(dS l).length=l.length:=aS ..
theorem gA(l:List Img)(i:Nat)(h:i<l.length):(dS l).getD i []=(l.getD i im0).sv:=by simp[dS,aa,h]
structure ej(l:List Img):Prop where
 n1:1<=l.length
 n8:l.length<=8
 ok:∀i,i<l.length->dT (l.getD i im0)=0
 ord:∀i,i+1<l.length->(l.getD i im0).role<=(l.getD (i+1) im0).role
 dup:∀i,i<l.length->∀k,k<i->(l.getD k im0).role=(l.getD i im0).role->(l.getD k im0).name≠(l.getD i im0).name
 fw:∃i,i<l.length/\(l.getD i im0).role=1
 kn:∃i,i<l.length/\(l.getD i im0).role=3
def iN(l:List Img)(r:Int)(i:Nat):Bool:=(l.take i).any fun x=>decide (x.role=r)
theorem kD(l:List Img)(r:Int)(i:Nat)(hi:i<l.length):iN l r (i+1)=(iN l r i||decide ((l.getD i im0).role=r)):=by unfold iN;rw[List.take_succ_eq_append_getElem hi,List.any_append,List.any_cons,List.any_nil,Bool.or_false,aa,ab hi];rfl
theorem vd{l:List Img}{r:Int}(h:∃i,i<l.length/\(l.getD i im0).role=r):iN l r l.length=true:=by obtain⟨i,hi,y⟩:=h;unfold iN;rw[bB,List.any_eq_true];refine⟨l[i],bn _, ?_⟩;rw[aa,ab hi]at y;simpa using y
theorem xfr(n:Int):mQ n 2=0\/mQ n 2=1:=by
 unfold mQ;rw[if_neg (by omega)]
 have:n.tmod 2=0\/n.tmod 2=1\/n.tmod 2= -1:=by have y:=Int.tmod_lt_of_pos n (show(0:Int)<2 by decide);have z:=Int.lt_tmod_of_pos n (show(0:Int)<2 by decide);omega
 rcases this with h|h|h<;>rw[h]<;>simp
theorem f36(n:Int)(y: -9223372036854775808<=n)(z:n<=9223372036854775807):call T 36 [.int .i64 n] [] 0=some ⟨.int .i64 (2+mQ n 2),[],[]⟩:=by
 have g:=f15 n 2 y z (by omega);have e:ai.wrap (2+mQ n 2)=2+mQ n 2:=by rcases xfr n with h|h<;>rw[h]<;>rfl
 rw[au xlt];simp only[go_sem,Q0,Q1,Q2,Q3,Q4,Q5,Q6,Q7,Q8,Q9,Qa,Qb,Qc,Qd,Qe,Qf,Qg,Qh,Qi,Qj,Qk,reduceCtorEq,reduceIte,g,xdl,e]
def jN(h:t8):t6:=h.flatMap fun t=>jk t++ [10]
theorem CQ(h:t8)(t:Nat):jN (h++ [t])=jN h++(jk t++ [10]):=by simp[jN]
theorem qP(t:Nat):(jk t).length<=8:=by unfold jk;split<;>simp
theorem uw(h:t8):(jN h).length<=9*h.length:=by
 induction h with
 |nil=>simp[jN]
 |cons t r y=>rw[jN,jw,af,af,ay,ay,bl];have:=qP t;unfold jN at y;omega
theorem Fq(t:Nat)(r:t6)(o:List t6)(y:o.length<4):lnF (jk t++10::r) o []=lnF r (o++ [jk t]) []:=by
 have h:¬(4:Int)<=o.length:=by omega
 unfold jk;split<;>simp[lnF,h]
theorem BM:∀(y:t8)(o:List t6),o.length+y.length<=4->lnF (jN y) o []=some (o++y.map jk,[])
 |[],o,_=>by simp[jN,lnF]
 |t::r,o,h=>by
  rw[ay]at h;have e:jN (t::r)=jk t++10::jN r:=by simp[jN]
  rw[e,Fq t _ o (by omega),BM r _ (by rw[af,aP];omega)];simp
theorem wm(y:t8)(h:y.length<=4):dk (jN y)=y.map jk:=by unfold dk;rw[BM y [] (by simpa using h)];simp
theorem xjY(B:t6)(H:B.length<=1000):∀(k:Nat)(h:t8)(j:Nat),k<=4->h.length+k<=100->∃us z,us.length=k/\
 run T (.loop xV) ⟨[(0,.ptr 0 0),(3,.byt (jN h) (.id 103)),(4,.int .i64 k)],[(0,bK B j)],[103]⟩=some (.x 0,⟨[(3,.byt (jN (h++us)) (.id 103))],[(0,bK B z)],[103]⟩):=by
 intro k;induction k with
 |zero=>intro h j C J;refine⟨[],j,rfl, ?_⟩;rw[al,bf];simp only[go_sem,Q0,Q1,Q2,Q3,Q4,Q5,Q6,Q7,Q8,Q9,Qa,Qb,Qc,Qd,Qe,Qf,Qg,Qh,Qi,Qj,Qk,reduceCtorEq,reduceIte]
 |succ k L=>
  intro h j C J;obtain⟨us,z,hu,y⟩:=L (h++ [dR B j 6]) (cX B j) (by omega) (by rw[af,aP];omega);refine⟨dR B j 6::us,z,by rw[ay,hu], ?_⟩;have g:=f73 B j H;have O:=uw h;have I:=qP (dR B j 6);have E:ai.wrap (((k+1:Nat):Int)-1)=(k:Int):=wZ (by omega)
  have F:(0:Int)<((k+1:Nat):Int):=by omega
  have c1:(jN h).length+(jk (dR B j 6)).length<=140737488355328:=by omega
  have c2:(jN h).length+(jk (dR B j 6)).length+1<=140737488355328:=by omega
  rw[CQ]at y;rw[show h++dR B j 6::us=h++ [dR B j 6]++us from by simp];rw[al];simp only[bK]at g y ⊢;simp only[go_sem,Q0,Q1,Q2,Q3,Q4,Q5,Q6,Q7,Q8,Q9,Qa,Qb,Qc,Qd,Qe,Qf,Qg,Qh,Qi,Qj,Qk,reduceCtorEq,reduceIte,F,g,xlN,c1,c2,E,y]
theorem xkw(B:t6)(i:Nat)(C:B.length<=1000):∃y j,1<=y.length/\y.length<=4/\call T 123 [.ptr 0 0] [bK B i] 0=some ⟨.byt (jN y) .no,[(0,bK B j)],[]⟩:=by
 have g:=f71 B i 4 (by omega) (by omega);have E:=gx B i 4 (by omega);obtain⟨us,j,hu,h⟩:=xjY B C (1+dR B i 4) [] (cX B i) (by omega) (by simp only[bl];omega);have e:ai.wrap (1+((dR B i 4:Nat):Int))=((1+dR B i 4:Nat):Int):=wZ (by omega)
 refine⟨us,j,by omega,by omega, ?_⟩;have z:jN []=[]:=rfl;rw[z,aK]at h;rw[cz4]at g;simp only[bK]at g h ⊢;rw[au xgy];simp only[go_sem,Q0,Q1,Q2,Q3,Q4,Q5,Q6,Q7,Q8,Q9,Qa,Qb,Qc,Qd,Qe,Qf,Qg,Qh,Qi,Qj,Qk,reduceCtorEq,reduceIte,g,sU,e,h]
def fG:Nat->t6
 |0=> [97]
 |1=> [103,114,117,98]
 |2=> [108,105,110,117,120]
 |3=> [110,101,116,45,48]
 |_=> [116,119,101,108,118,101,45,98,121,116,101,115]
theorem xkx:call T 122 [] [] 0=some ⟨.agg [.str (fG 0),.str (fG 1),.str (fG 2),.str (fG 3),.str (fG 4)],[],[]⟩:=by rw[au xgz];simp only[go_sem,Q0,Q1,Q2,Q3,Q4,Q5,Q6,Q7,Q8,Q9,Qa,Qb,Qc,Qd,Qe,Qf,Qg,Qh,Qi,Qj,Qk,reduceCtorEq,reduceIte,fG]
theorem Fc:∀v,v<5->Pr.nameB (fG v)=true:=by decide
theorem l72(B:t6)(Q:B.length<=1000)(role F:Int)(E:t6):∀(n i:Nat)(l:t6)(j:Nat),l.length-i=n->i<=l.length->l.length<=6->∃h z,h.length=l.length/\
 run T (.loop ta) ⟨[(0,.ptr 0 0),(4,.ptr 104 0),(5,.ptr 105 0),(6,.int .i64 i)],[(0,bK B j),(104,.rc [.int .i64 0,.str [],.int .i64 0,.byt [] .clip]),(105,.rc [.int .i64 role,.str E,.int .i64 F,.psl 130 1 0 l.length (some l.length)]),(130,.bar l)],[]⟩=
  some (.x 0,⟨[(4,.ptr 104 0),(5,.ptr 105 0)],[(0,bK B z),(104,.rc [.int .i64 0,.str [],.int .i64 0,.byt [] .clip]),(105,.rc [.int .i64 role,.str E,.int .i64 F,.psl 130 1 0 l.length (some l.length)]),(130,.bar h)],[]⟩):=by
 intro n;induction n with
 |zero=>
  intro i l j I H L;have:i=l.length:=by omega
  refine⟨l,j,rfl, ?_⟩;subst this;rw[al];simp only[go_sem,Q0,Q1,Q2,Q3,Q4,Q5,Q6,Q7,Q8,Q9,Qa,Qb,Qc,Qd,Qe,Qf,Qg,Qh,Qi,Qj,Qk,reduceCtorEq,reduceIte]
 |succ n O=>
  intro i l j I H L;have hi:i<l.length:=by omega
  have J:=cA i (by omega);have g:=f71 B j 256 (by omega) (by omega);rw[xkM]at g;obtain⟨h,z,C,y⟩:=O (i+1) (l.set i (dj ((dR B j 256:Nat):Int))) (cX B j) (by rw[dh];omega) (by rw[dh];omega) (by rw[dh];omega);rw[dh]at C y;refine⟨h,z,C, ?_⟩;rw[al];simp only[bK]at g y ⊢;simp only[go_sem,Q0,Q1,Q2,Q3,Q4,Q5,Q6,Q7,Q8,Q9,Qa,Qb,Qc,Qd,Qe,Qf,Qg,Qh,Qi,Qj,Qk,reduceCtorEq,reduceIte,hi,J,g,sU,y]
theorem f72(B:t6)(j:Nat)(hB:B.length<=1000)(role:Int)(h1:1<=role)(h4:role<=4):∃(x:Img)(E:Nat),dT x=0/\x.role=role/\
 call T 72 [.ptr 0 0,.int .i64 role] [bK B j] 0=some ⟨.agg x.sv,[(0,bK B E)],[]⟩:=by
 have g1:=xkx;have g2:=f71 B j 5 (by omega) (by omega);have v2:=gx B j 5 (by omega);have g3:=f71 B (cX B j) 5 (by omega) (by omega);have v3:=gx B (cX B j) 5 (by omega);have g4:=f71 B (cX B (cX B j)) 9 (by omega) (by omega);have g5:=f71 B (cX B (cX B (cX B j))) 3 (by omega) (by omega);have v5:=gx B (cX B (cX B (cX B j))) 3 (by omega);rw[cz5]at g2 g3;rw[c9]at g4;rw[cz3]at g5;generalize dR B j 5=y at*;generalize dR B (cX B j) 5=w3 at*;generalize dR B (cX B (cX B j)) 9=w4 at*;generalize dR B (cX B (cX B (cX B j))) 3=w5 at*;simp only[bK]at g2 g3 g4 g5
 have hN:(lv y [SV.str (fG 0),.str (fG 1),.str (fG 2),.str (fG 3),.str (fG 4)]).getD 0 .undef= .str (fG y):=by
  have hn:y=0\/y=1\/y=2\/y=3\/y=4:=by omega
  rcases hn with rfl|rfl|rfl|rfl|rfl<;>rfl
 have J:(y:Int)<5:=by omega
 have em:y*1=y:=iu _;have a1:=Fc y v2;have ew:ai.wrap (1000000-(w5:Int))=1000000-(w5:Int):=w64 (by omega) (by omega)
 have a0:∀(F:Nat)(C:Int),0<=C->C<=1000000->∃(x:Img)(E:Nat),dT x=0/\x.role=role/\x.name=fG y/\x.ver=C/\
  (role=4->call T 123 [.ptr 0 0] [bK B F] 0=some ⟨.byt x.pay .no,[(0,bK B E)],[]⟩)/\
  (¬role=4->∃(j1 n:Nat),n<7/\call T 71 [.ptr 0 0,.int .i64 7] [bK B F] 0=some ⟨.int .i64 (n:Int),[(0,bK B j1)],[]⟩/\x.pay.length=n/\
   run T (.loop ta) ⟨[(0,.ptr 0 0),(4,.ptr 104 0),(5,.ptr 105 0),(6,.int .i64 0)],[(0,bK B j1),(104,.rc [.int .i64 0,.str [],.int .i64 0,.byt [] .clip]),(105,.rc [.int .i64 role,.str (fG y),.int .i64 C,.psl 130 1 0 n (some n)]),(130,.bar (ao n 0))],[]⟩=
    some (.x 0,⟨[(4,.ptr 104 0),(5,.ptr 105 0)],[(0,bK B E),(104,.rc [.int .i64 0,.str [],.int .i64 0,.byt [] .clip]),(105,.rc [.int .i64 role,.str (fG y),.int .i64 C,.psl 130 1 0 n (some n)]),(130,.bar x.pay)],[]⟩)):=by
  intro F C a3 a2
  by_cases z:role=4
  ·obtain⟨ts,E,Z,t2,Q⟩:=xkw B F hB
   refine⟨⟨role,fG y,C,jN ts⟩,E, ?_,rfl,rfl,rfl,fun _=>Q,fun h=>absurd z h⟩;have hl:=uw ts;have hL:=wm ts t2;unfold dT;rw[if_neg (by show ¬role<1;omega),if_neg (by show ¬4<role;omega),if_neg (by show ¬C<0;omega),if_neg (by show ¬1000000<C;omega),if_neg (by show ¬Pr.nameB (fG y)=false;rw[a1];simp),if_neg (by show ¬(64:Int)<(jN ts).length;omega)];show(if role=4 then(if((dk (jN ts)).length:Int)=0 then 40 else 0)else 0)=(0:Int);rw[if_pos z,hL,if_neg];rw[aS];omega
  ·have g7:=f71 B F 7 (by omega) (by omega)
   have v7:=gx B F 7 (by omega);rw[show((7:Nat):Int)=7 from rfl]at g7;obtain⟨l',E,q1,q2⟩:=l72 B hB role C (fG y) (dR B F 7) 0 (ao (dR B F 7) 0) (cX B F) (by rw[bO];rfl) (bD _) (by rw[bO];omega);rw[bO]at q1 q2;refine⟨⟨role,fG y,C,l'⟩,E, ?_,rfl,rfl,rfl,fun h=>absurd h z,fun _=>⟨cX B F,dR B F 7,v7,g7,q1,q2⟩⟩;unfold dT;rw[if_neg (by show ¬role<1;omega),if_neg (by show ¬4<role;omega),if_neg (by show ¬C<0;omega),if_neg (by show ¬1000000<C;omega),if_neg (by show ¬Pr.nameB (fG y)=false;rw[a1];simp),if_neg (by show ¬(64:Int)<l'.length;omega)];show(if role=4 then(if((dk l').length:Int)=0 then 40 else 0)else 0)=(0:Int);rw[if_neg z]
 by_cases p4:w4=8
 ·have H:(w4:Int)=8:=by omega
  obtain⟨⟨xr,xn,xv,I⟩,E,e0,e1,e2,e3,e4,e5⟩:=a0 (cX B (cX B (cX B (cX B j)))) (1000000-(w5:Int)) (by omega) (by omega);simp only at e1 e2 e3 e4 e5;subst e1 e2 e3;refine⟨_,E,e0,rfl, ?_⟩;rw[au xiH]
  by_cases z:xr=4
  ·have t:=e4 z
   simp only[bK,Img.sv]at t ⊢;simp only[go_sem,Q0,Q1,Q2,Q3,Q4,Q5,Q6,Q7,Q8,Q9,Qa,Qb,Qc,Qd,Qe,Qf,Qg,Qh,Qi,Qj,Qk,reduceCtorEq,reduceIte,bK,g1,D1,g2,sU,g3,g4,g5,H,ew,z,hN,J,em,t,YF]
  ·obtain⟨j1,n,hn,Z,t2,Q⟩:=e5 z
   have W:I.length=n:=t2;have O:n<=I.length:=by omega
   have hq:dn n I=I:=by rw[<-W,bB]
   have U:(n:Int)<7:=by omega
   have L:(n:Int)<=140737488355328:=by omega
   simp only[bK,Img.sv]at Z Q ⊢;simp only[go_sem,Q0,Q1,Q2,Q3,Q4,Q5,Q6,Q7,Q8,Q9,Qa,Qb,Qc,Qd,Qe,Qf,Qg,Qh,Qi,Qj,Qk,reduceCtorEq,reduceIte,bK,g1,D1,g2,sU,g3,g4,g5,H,ew,z,hN,J,em,Z,U,L,Q,O,hq]
 ·have H:¬(w4:Int)=8:=by omega
  obtain⟨⟨xr,xn,xv,I⟩,E,e0,e1,e2,e3,e4,e5⟩:=a0 (cX B (cX B (cX B j))) (w3:Int) (by omega) (by omega);simp only at e1 e2 e3 e4 e5;subst e1 e2 e3;refine⟨_,E,e0,rfl, ?_⟩;rw[au xiH]
  by_cases z:xr=4
  ·have t:=e4 z
   simp only[bK,Img.sv]at t ⊢;simp only[go_sem,Q0,Q1,Q2,Q3,Q4,Q5,Q6,Q7,Q8,Q9,Qa,Qb,Qc,Qd,Qe,Qf,Qg,Qh,Qi,Qj,Qk,reduceCtorEq,reduceIte,bK,g1,D1,g2,sU,g3,g4,H,z,hN,J,em,t,YF]
  ·obtain⟨j1,n,hn,Z,t2,Q⟩:=e5 z
   have W:I.length=n:=t2;have O:n<=I.length:=by omega
   have hq:dn n I=I:=by rw[<-W,bB]
   have U:(n:Int)<7:=by omega
   have L:(n:Int)<=140737488355328:=by omega
   simp only[bK,Img.sv]at Z Q ⊢;simp only[go_sem,Q0,Q1,Q2,Q3,Q4,Q5,Q6,Q7,Q8,Q9,Qa,Qb,Qc,Qd,Qe,Qf,Qg,Qh,Qi,Qj,Qk,reduceCtorEq,reduceIte,bK,g1,D1,g2,sU,g3,g4,H,z,hN,J,em,Z,U,L,Q,O,hq]
theorem Da(l:List Img)(i:Nat)(h:i<l.length):l.getD i im0∈l:=by rw[aa,ab h];exact bn _
theorem jq{α:Type}(l:List α)(x d:α)(i:Nat)(h:i<l.length):(l++ [x]).getD i d=l.getD i d:=by rw[aa,aa,bc h]
theorem od{α:Type}(l:List α)(x d:α):(l++ [x]).getD l.length d=x:=by rw[aa,bw (aN _),Nat.sub_self];rfl
structure ChP(l:List Img)(role:Int):Prop where
 ok:∀i,i<l.length->dT (l.getD i im0)=0
 le:∀i,i<l.length->(l.getD i im0).role<=role
 ord:∀i,i+1<l.length->(l.getD i im0).role<=(l.getD (i+1) im0).role
 dup:∀i,i<l.length->∀k,k<i->(l.getD k im0).role=(l.getD i im0).role->(l.getD k im0).name≠(l.getD i im0).name
def agn(x:Img)(l:List Img):Bool:=l.any fun y=>decide (y.role=x.role)&&decide (y.name=x.name)
theorem ChP.snoc{l:List Img}{role:Int}(h:ChP l role){x:Img}(J:dT x=0)(F:x.role=role)(C:agn x l=false):ChP (l++ [x]) role:=by
 have E:(l++ [x]).length=l.length+1:=by simp
 refine⟨fun i hi=> ?_,fun i hi=> ?_,fun i hi=> ?_,fun i hi k z=> ?_⟩
 ·rcases bL i l.length with y|y
  ·rw[jq l x im0 i y];exact h.ok i y
  ·rw[show i=l.length from by omega,od];exact J
 ·rcases bL i l.length with y|y
  ·rw[jq l x im0 i y];exact h.le i y
  ·rw[show i=l.length from by omega,od,F];exact Int.le_refl _
 ·rw[jq l x im0 i (by omega)]
  rcases bL (i+1) l.length with y|y
  ·rw[jq l x im0 (i+1) y];exact h.ord i y
  ·rw[show i+1=l.length from by omega,od,F];exact h.le i (by omega)
 ·rcases bL i l.length with y|y
  ·rw[jq l x im0 i y,jq l x im0 k (by omega)];exact h.dup i y k z
  ·rw[show i=l.length from by omega]at z ⊢
   rw[od,jq l x im0 k z];intro H I;unfold agn at C;rw[List.any_eq_false]at C;have:=C (l.getD k im0) (Da l k z);rw[decide_eq_true H,decide_eq_true I]at this;exact this rfl
theorem xjK(B:t6)(j:Nat)(l:List Img)(x:Img)(role n:Int)(W:l.length<=100):∀(k i:Nat)(z:Bool),l.length-i=k->i<=l.length->
 run T (.loop xI) ⟨[(3,.ptr 12100 0),(4,.lst 4 (dS l) (.id 104)),(5,.int .i64 role),(6,.int .i64 n),(7,.ptr 107 0),(8,.bool z),(9,.int .i64 i)],[(107,.rc x.sv),(12100,bK B j)],[104]⟩=
 some (.x 4,⟨[(3,.ptr 12100 0),(4,.lst 4 (dS l) (.id 104)),(5,.int .i64 role),(6,.int .i64 n),(7,.ptr 107 0),(8,.bool (z||agn x (l.drop i)))],[(107,.rc x.sv),(12100,bK B j)],[104]⟩):=by
 intro k;induction k with
 |zero=>
  intro i z J I;have:i=l.length:=by omega
  subst this;have C:=dY l;obtain⟨a,b,c,d⟩:=x;simp only[bK,Img.sv]at*;rw[al,bv];simp only[go_sem,Q0,Q1,Q2,Q3,Q4,Q5,Q6,Q7,Q8,Q9,Qa,Qb,Qc,Qd,Qe,Qf,Qg,Qh,Qi,Qj,Qk,reduceCtorEq,reduceIte,C,agn,List.any_nil,Bool.or_false]
 |succ k U=>
  intro i z J I;have hi:i<l.length:=by omega
  have F:=cA i (by omega);have h:=U (i+1) (z||(decide ((l.getD i im0).role=x.role)&&decide ((l.getD i im0).name=x.name))) (by omega) (by omega);have C:=dY l;have E:=gA l i hi;have hd:l.drop i=l.getD i im0::l.drop (i+1):=by rw[aY hi,aa,ab hi];rfl
  have L:agn x (l.drop i)=((decide ((l.getD i im0).role=x.role)&&decide ((l.getD i im0).name=x.name))||agn x (l.drop (i+1))):=by rw[hd];rfl
  rw[L,<-Bool.or_assoc];rw[al];generalize agn x (l.drop (i+1))=R at*;generalize l.getD i im0=y at*;obtain⟨a,b,c,d⟩:=x;obtain⟨O,Q,c2,d2⟩:=y;simp only[bK,Img.sv]at*;cases z with
  |true=>simp only[Bool.true_or]at h ⊢;simp only[go_sem,Q0,Q1,Q2,Q3,Q4,Q5,Q6,Q7,Q8,Q9,Qa,Qb,Qc,Qd,Qe,Qf,Qg,Qh,Qi,Qj,Qk,reduceCtorEq,reduceIte,hi,F,C,E,h]
  |false=>
   by_cases p1:O=a
   ·by_cases H:Q=b
    ·rw[decide_eq_true p1,decide_eq_true H]at h ⊢
     simp only[Bool.and_self,Bool.false_or,Bool.true_or]at h ⊢;simp only[go_sem,Q0,Q1,Q2,Q3,Q4,Q5,Q6,Q7,Q8,Q9,Qa,Qb,Qc,Qd,Qe,Qf,Qg,Qh,Qi,Qj,Qk,reduceCtorEq,reduceIte,hi,F,C,E,p1,H,h]
    ·rw[decide_eq_true p1,decide_eq_false H]at h ⊢
     simp only[Bool.and_false,Bool.false_or]at h ⊢;simp only[go_sem,Q0,Q1,Q2,Q3,Q4,Q5,Q6,Q7,Q8,Q9,Qa,Qb,Qc,Qd,Qe,Qf,Qg,Qh,Qi,Qj,Qk,reduceCtorEq,reduceIte,hi,F,C,E,p1,H,h]
   ·rw[decide_eq_false p1]at h ⊢
    simp only[Bool.false_and,Bool.false_or]at h ⊢;simp only[go_sem,Q0,Q1,Q2,Q3,Q4,Q5,Q6,Q7,Q8,Q9,Qa,Qb,Qc,Qd,Qe,Qf,Qg,Qh,Qi,Qj,Qk,reduceCtorEq,reduceIte,hi,F,C,E,p1,h]
theorem qT(l:List Img)(x:Img):dS l++ [x.sv]=dS (l++ [x]):=by rw[dS,dS,df];rfl
theorem Gf{x:Img}{l:List Img}(h:agn x l=true):∃i,i<l.length/\(l.getD i im0).role=x.role:=by unfold agn at h;rw[List.any_eq_true]at h;obtain⟨y,z,h⟩:=h;obtain⟨i,hi,rfl⟩:=bM z;refine⟨i,hi, ?_⟩;rw[aB]at h;rw[aa,ab hi];exact of_decide_eq_true h.1
theorem X2(B:t6)(hB:B.length<=1000)(role:Int)(r1:1<=role)(r4:role<=4):∀(n:Nat)(l:List Img)(j:Nat),l.length+n<=8->ChP l role->
 ∃r C,ChP (l++r) role/\r.length<=n/\(1<=n->∃i,i<(l++r).length/\((l++r).getD i im0).role=role)/\
 run T (.loop xH) ⟨[(3,.ptr 12100 0),(4,.lst 4 (dS l) (.id 104)),(5,.int .i64 role),(6,.int .i64 (n:Int))],[(12100,bK B j)],[104]⟩=
  some (.x 2,⟨[(3,.ptr 12100 0),(4,.lst 4 (dS (l++r)) (.id 104)),(5,.int .i64 role)],[(12100,bK B C)],[104]⟩):=by
 intro n;induction n with
 |zero=>intro l j U E;refine⟨[],j,by rw[bf];exact E,bD _,fun h=>absurd h (by omega), ?_⟩;rw[bf,al];simp only[bK];simp only[go_sem,Q0,Q1,Q2,Q3,Q4,Q5,Q6,Q7,Q8,Q9,Qa,Qb,Qc,Qd,Qe,Qf,Qg,Qh,Qi,Qj,Qk,reduceCtorEq,reduceIte]
 |succ n L=>
  intro l j U E;obtain⟨x,H,W,I,g⟩:=f72 B j hB role r1 r4;have y:=xjK B H l x role ((n+1:Nat):Int) (by omega) l.length 0 false (by omega) (bD _);have J:(0:Int)<((n+1:Nat):Int):=by omega
  have O:ai.wrap (((n+1:Nat):Int)-1)=(n:Int):=wZ (by omega)
  have hv:=dY l;have Z:=qT l x;have c1:(l.length+1)*56<=140737488355328:=by omega
  rw[bh,Bool.false_or,show((0:Nat):Int)=0 from rfl]at y;cases ha:agn x l with
  |true=>
   rw[ha]at y;obtain⟨r,C,F,q2,Q,z⟩:=L l H (by omega) E;refine⟨r,C,F,by omega,fun _=> ?_, ?_⟩
   ·obtain⟨i,hi,e⟩:=Gf ha
    refine⟨i,by rw[af];omega, ?_⟩;rw[aa,bc hi,<-aa,e,I]
   ·rw[al]
    obtain⟨a,b,c,d⟩:=x;simp only[bK,Img.sv]at g y z Z ⊢;simp only[go_sem,Q0,Q1,Q2,Q3,Q4,Q5,Q6,Q7,Q8,Q9,Qa,Qb,Qc,Qd,Qe,Qf,Qg,Qh,Qi,Qj,Qk,reduceCtorEq,reduceIte,J,g,xiS,O,y,z]
  |false=>
   rw[ha]at y;obtain⟨r,C,F,q2,Q,z⟩:=L (l++ [x]) H (by rw[af,aP];omega) (E.snoc W I ha);rw[ax]at F Q z;refine⟨[x]++r,C,F,by rw[af,aP];omega,fun _=> ?_, ?_⟩
   ·refine⟨l.length,by rw[af,af,aP];omega, ?_⟩
    rw[aa,bw (aN _),Nat.sub_self];exact I
   ·rw[al]
    obtain⟨a,b,c,d⟩:=x;rw[<-ax,<-qT]at*;simp only[bK,Img.sv]at g y z ⊢;simp only[go_sem,Q0,Q1,Q2,Q3,Q4,Q5,Q6,Q7,Q8,Q9,Qa,Qb,Qc,Qd,Qe,Qf,Qg,Qh,Qi,Qj,Qk,reduceCtorEq,reduceIte,J,g,xiS,O,y,hv,c1,z]
theorem tx{l r:List Img}{c:Int}(h:∃i,i<l.length/\(l.getD i im0).role=c):∃i,i<(l++r).length/\((l++r).getD i im0).role=c:=by obtain⟨i,hi,e⟩:=h;refine⟨i,by rw[af];omega, ?_⟩;rw[aa,bc hi,<-aa,e]
theorem X1(B:t6)(J:B.length<=1000)(role:Int)(r1:1<=role)(W:role<=4)(l:List Img)(j:Nat)(Q:l.length+2<=8)(I:ChP l role):
 ∃r z,ChP (l++r) role/\r.length<=2/\(role=1\/role=3->∃i,i<(l++r).length/\((l++r).getD i im0).role=role)/\
 run T (.loop pT) ⟨[(3,.ptr 12100 0),(4,.lst 4 (dS l) (.id 104)),(5,.int .i64 role)],[(12100,bK B j)],[104]⟩=
 run T (.loop pT) ⟨[(3,.ptr 12100 0),(4,.lst 4 (dS (l++r)) (.id 104)),(5,.int .i64 (role+1))],[(12100,bK B z)],[104]⟩:=by
 have C:=f71 B j 3 (by omega) (by omega);have F:=f71 B (cX B j) 2 (by omega) (by omega);have v1:=gx B j 3 (by omega);have U:=gx B (cX B j) 2 (by omega);rw[cz3]at C;rw[c2]at F;have e:ai.wrap (1+((dR B (cX B j) 2:Nat):Int))=((1+dR B (cX B j) 2:Nat):Int):=wZ (by omega)
 have O:role=1\/role=2\/role=3\/role=4:=by omega
 rcases O with rfl|rfl|rfl|rfl
 ·obtain⟨r,z,E,L,H,y⟩:=X2 B J 1 (by decide) (by decide) (1+dR B (cX B j) 2) l (cX B (cX B j)) (by omega) I
  refine⟨r,z,E,by omega,fun _=>H (by omega), ?_⟩;rw[al];simp only[bK]at C F y ⊢;simp only[go_sem,Q0,Q1,Q2,Q3,Q4,Q5,Q6,Q7,Q8,Q9,Qa,Qb,Qc,Qd,Qe,Qf,Qg,Qh,Qi,Qj,Qk,reduceCtorEq,reduceIte,C,F,sU,e,y];rfl
 ·obtain⟨r,z,E,L,H,y⟩:=X2 B J 2 (by decide) (by decide) (dR B j 3) l (cX B j) (by omega) I
  refine⟨r,z,E,by omega,fun h=>absurd h (by decide), ?_⟩;rw[al];simp only[bK]at C F y ⊢;simp only[go_sem,Q0,Q1,Q2,Q3,Q4,Q5,Q6,Q7,Q8,Q9,Qa,Qb,Qc,Qd,Qe,Qf,Qg,Qh,Qi,Qj,Qk,reduceCtorEq,reduceIte,C,sU,y];rfl
 ·obtain⟨r,z,E,L,H,y⟩:=X2 B J 3 (by decide) (by decide) (1+dR B (cX B j) 2) l (cX B (cX B j)) (by omega) I
  refine⟨r,z,E,by omega,fun _=>H (by omega), ?_⟩;rw[al];simp only[bK]at C F y ⊢;simp only[go_sem,Q0,Q1,Q2,Q3,Q4,Q5,Q6,Q7,Q8,Q9,Qa,Qb,Qc,Qd,Qe,Qf,Qg,Qh,Qi,Qj,Qk,reduceCtorEq,reduceIte,C,F,sU,e,y];rfl
 ·obtain⟨r,z,E,L,H,y⟩:=X2 B J 4 (by decide) (by decide) (dR B j 3) l (cX B j) (by omega) I
  refine⟨r,z,E,by omega,fun h=>absurd h (by decide), ?_⟩;rw[al];simp only[bK]at C F y ⊢;simp only[go_sem,Q0,Q1,Q2,Q3,Q4,Q5,Q6,Q7,Q8,Q9,Qa,Qb,Qc,Qd,Qe,Qf,Qg,Qh,Qi,Qj,Qk,reduceCtorEq,reduceIte,C,sU,y];rfl
theorem yf{l:List Img}{a b:Int}(h:ChP l a)(y:a<=b):ChP l b:=⟨h.ok,fun i hi=>Int.le_trans (h.le i hi) y,h.ord,h.dup⟩
theorem f28(h:t6):∃l,ej l/\call T 28 [.byt h .no] [] 0=some ⟨.lst 4 (dS l) .no,[],[]⟩:=by
 have F:(h.take 200).length<=1000:=by rw[aA];omega
 have g:=f29 h 200;rw[xkN]at g;generalize h.take 200=B at*;have h0:ChP [] 1:=⟨fun i hi=>absurd hi (by simp),fun i hi=>absurd hi (by simp),fun i hi=>absurd hi (by simp),fun i hi=>absurd hi (by simp)⟩;obtain⟨z,W,p1,n1,w1,y⟩:=X1 B F 1 (by decide) (by decide) [] 0 (by decide) h0;rw[aK]at p1 w1 y;obtain⟨C,j2,p2,n2,w2,I⟩:=X1 B F 2 (by decide) (by decide) z W (by omega) (yf p1 (by decide));obtain⟨E,j3,p3,n3,U,L⟩:=X1 B F 3 (by decide) (by decide) (z++C) j2 (by rw[af];omega) (yf p2 (by decide));obtain⟨O,Q,J,n4,w4,H⟩:=X1 B F 4 (by decide) (by decide) (z++C++E) j3 (by simp only[af];omega) (yf p3 (by decide));refine⟨z++C++E++O,⟨?_, ?_,J.ok,J.ord,J.dup,tx (tx (tx (w1 (Or.inl rfl)))),tx (U (Or.inr rfl))⟩, ?_⟩
 ·obtain⟨i,hi,_⟩:=w1 (Or.inl rfl)
  simp only[af];omega
 ·simp only[af];omega
 ·rw[au xlz]
  rw[show(1:Int)+1=2 from rfl]at y;rw[show(2:Int)+1=3 from rfl]at I;rw[show(3:Int)+1=4 from rfl]at L;rw[show(4:Int)+1=5 from rfl]at H
  have Z:run T (.loop pT) ⟨[(3,.ptr 12100 0),(4,.lst 4 (dS (z++C++E++O)) (.id 104)),(5,.int .i64 5)],[(12100,bK B Q)],[104]⟩=some (.x 0,⟨[(4,.lst 4 (dS (z++C++E++O)) (.id 104))],[(12100,bK B Q)],[104]⟩):=by rw[al];simp only[bK,go_sem,Q0,Q1,Q2,Q3,Q4,Q5,Q6,Q7,Q8,Q9,Qa,Qb,Qc,Qd,Qe,Qf,Qg,Qh,Qi,Qj,Qk,reduceCtorEq,reduceIte]
  rw[Z]at H;rw[H]at L;rw[L]at I;rw[I]at y;have e0:dS []=[]:=rfl;rw[e0]at y;simp only[bK,c0,ax]at g y;simp only[go_sem,Q0,Q1,Q2,Q3,Q4,Q5,Q6,Q7,Q8,Q9,Qa,Qb,Qc,Qd,Qe,Qf,Qg,Qh,Qi,Qj,Qk,reduceCtorEq,reduceIte,g,xlT,y,ax]
theorem iW(l:List Ev)(e:Ev):fT (l++ [e])=fT l++ [e.sv]:=by simp[fT]
def uf(a:Int):Nat->Nat->List Ev
 |_,0=> []
 |i,n+1=>mkV i 2 a [0,0,0,0]::uf a (i+1) n
theorem ue(a:Int):∀n i,(uf a i n).length=n
 |0,_=>rfl
 |n+1,i=>by rw[uf,ay,ue a n]
theorem yd(B:Nat):∀(p:t6)(o:List t6)(l:t6)(y:List t6)(z:t6),o.length<=4->(∀x∈o,x.length<=B)->l.length+p.length<=B->lnF p o l=some (y,z)->y.length<=4/\∀x∈y,x.length<=B
 |[],o,l,y,z,h1,h2,_,h=>by cases h;exact⟨h1,h2⟩
 |c::r,o,l,y,z,h1,h2,h3,h=>by
  rw[ay]at h3;unfold lnF at h;split at h
  ·split at h
   ·cases h
   ·split at h
    ·cases h
    ·refine yd B r _ _ y z (by rw[af,aP];omega) ?_ (by simp;omega) h
     intro x C;rcases ak.1 C with C|C
     ·exact h2 x C
     ·rw[aW.1 C];omega
  ·split at h
   ·cases h
   ·split at h
    ·cases h
    ·exact yd B r _ _ y z h1 h2 (by rw[af,aP];omega) h
theorem mE(p:t6):(dk p).length<=4/\∀x∈dk p,x.length<=p.length:=by
 unfold dk;split
 ·rename_i o l h
  have:=yd p.length p [] [] o l (by simp) (by simp) (by simp) h;split
  ·exact⟨by simp,by simp⟩
  ·exact this
 ·exact⟨by simp,by simp⟩
theorem QX(l:List t6)(i:Nat)(h:i<l.length):(bls l).getD i []=[.byt (l.getD i []) .no]:=by simp[bls,aa,h]
def gV(a role:Int)(x:Img):List Ev:=if x.role=role then(if role=4 then(dk x.pay).map (mkV 9 3 a)else [ofI x a])else []
theorem FN(a role:Int)(x:Img):(gV a role x).length<=4:=by
 unfold gV;split
 ·split
  ·rw[aS];exact(mE x.pay).1
  ·simp
 ·simp
def evF(l:List Img)(a:Int):List Ev:=l.flatMap (gV a 1)++(l.flatMap (gV a 2)++(uf a 0 8++(l.flatMap (gV a 3)++l.flatMap (gV a 4))))
theorem eI(l:List Img)(a role:Int):(l.flatMap (gV a role)).length<=4*l.length:=by
 induction l with
 |nil=>simp
 |cons x r h=>rw[jw,af,ay];have:=FN a role x;omega
theorem f33(role:Int):call T 33 [.int .i64 role] [] 0=some ⟨.int .i64 (ur role),[],[]⟩:=by
 rw[au xlw];unfold ur
 by_cases h:role=1
 ·subst h;simp only[go_sem,Q0,Q1,Q2,Q3,Q4,Q5,Q6,Q7,Q8,Q9,Qa,Qb,Qc,Qd,Qe,Qf,Qg,Qh,Qi,Qj,Qk,reduceCtorEq,reduceIte,oL]
 by_cases z:role=2
 ·subst z;simp only[go_sem,Q0,Q1,Q2,Q3,Q4,Q5,Q6,Q7,Q8,Q9,Qa,Qb,Qc,Qd,Qe,Qf,Qg,Qh,Qi,Qj,Qk,reduceCtorEq,reduceIte,oL]
 by_cases y:role=3
 ·subst y;simp only[go_sem,Q0,Q1,Q2,Q3,Q4,Q5,Q6,Q7,Q8,Q9,Qa,Qb,Qc,Qd,Qe,Qf,Qg,Qh,Qi,Qj,Qk,reduceCtorEq,reduceIte,oL]
 by_cases C:role=4
 ·subst C;simp only[go_sem,Q0,Q1,Q2,Q3,Q4,Q5,Q6,Q7,Q8,Q9,Qa,Qb,Qc,Qd,Qe,Qf,Qg,Qh,Qi,Qj,Qk,reduceCtorEq,reduceIte,oL]
 by_cases F:role=0
 ·subst F;simp only[go_sem,Q0,Q1,Q2,Q3,Q4,Q5,Q6,Q7,Q8,Q9,Qa,Qb,Qc,Qd,Qe,Qf,Qg,Qh,Qi,Qj,Qk,reduceCtorEq,reduceIte,oL]
 by_cases E:role<0
 ·simp only[go_sem,Q0,Q1,Q2,Q3,Q4,Q5,Q6,Q7,Q8,Q9,Qa,Qb,Qc,Qd,Qe,Qf,Qg,Qh,Qi,Qj,Qk,reduceCtorEq,reduceIte,h,z,y,C,E]
 ·have H:5<=role:=by omega
  simp only[go_sem,Q0,Q1,Q2,Q3,Q4,Q5,Q6,Q7,Q8,Q9,Qa,Qb,Qc,Qd,Qe,Qf,Qg,Qh,Qi,Qj,Qk,reduceCtorEq,reduceIte,h,z,y,C,E,H]
theorem f77(a b:t6):call T 77 [.byt a .no,.byt b .no] [] 0=some ⟨.bool (decide (a=b)),[],[]⟩:=by rw[au xk3];simp only[go_sem,Q0,Q1,Q2,Q3,Q4,Q5,Q6,Q7,Q8,Q9,Qa,Qb,Qc,Qd,Qe,Qf,Qg,Qh,Qi,Qj,Qk,reduceCtorEq,reduceIte]
def uu(b:t6):Bool:=b.all fun c=> !(decide (c<32)||decide (126<c))
def nM(m:Bool)(d s:t6):Bool:=if(0:Int)<d.length then(m&&decide (d=s))else true
def Yf(e:Ev):Bool:=
 if e.kind=1 then true
 else if e.kind=2 then(if e.data=[0,0,0,0]then nM true (e.dg.getD 0 []) (lg e.data)&&nM true (e.dg.getD 1 []) (sha e.data)else false)
 else if e.kind=3 then(if(e.data.length:Int)=0 then false else if uu e.data=true then nM true (e.dg.getD 0 []) (lg e.data)&&nM true (e.dg.getD 1 []) (sha e.data)else false)
 else if e.kind=4 then nM true (e.dg.getD 0 []) (lg e.data)&&nM true (e.dg.getD 1 []) (sha e.data)
 else if e.kind=5 then nM false (e.dg.getD 0 []) []&&nM false (e.dg.getD 1 []) []
 else false
theorem xjB(O:SV)(m:Bool)(ob:List (Nat×aC))(b:t6)(J:b.length<=1000000000000):∀(n i:Nat),b.length-i=n->i<=b.length->
 run T (.loop xu) ⟨[(1,O),(3,.bool m),(34,.byt b .no),(35,.int .i64 b.length),(36,.int .i64 i)],ob,[]⟩=
 if uu (b.drop i)=true then some (.x 1,⟨[(1,O),(3,.bool m)],ob,[]⟩)else some (.r,⟨[(2,.bool false)],ob,[]⟩):=by
 intro n;induction n with
 |zero=>
  intro i I F;have hi:i=b.length:=by omega
  subst hi;rw[al,bv];simp only[go_sem,Q0,Q1,Q2,Q3,Q4,Q5,Q6,Q7,Q8,Q9,Qa,Qb,Qc,Qd,Qe,Qf,Qg,Qh,Qi,Qj,Qk,reduceCtorEq,reduceIte,uu]
 |succ n H=>
  intro i I F;have hi:i<b.length:=by omega
  have C:=cA i (by omega);have h:=H (i+1) (by omega) (by omega);rw[al,da b i hi];unfold uu at h ⊢;rw[iv];generalize y:b.getD i 0=c at*;generalize (lv (i+1) b).all _=q at*
  by_cases z:c<32
  ·simp only[go_sem,Q0,Q1,Q2,Q3,Q4,Q5,Q6,Q7,Q8,Q9,Qa,Qb,Qc,Qd,Qe,Qf,Qg,Qh,Qi,Qj,Qk,reduceCtorEq,reduceIte,hi,y,C,z]
  ·by_cases E:126<c
   ·simp only[go_sem,Q0,Q1,Q2,Q3,Q4,Q5,Q6,Q7,Q8,Q9,Qa,Qb,Qc,Qd,Qe,Qf,Qg,Qh,Qi,Qj,Qk,reduceCtorEq,reduceIte,hi,y,C,z,E]
   ·simp only[go_sem,Q0,Q1,Q2,Q3,Q4,Q5,Q6,Q7,Q8,Q9,Qa,Qb,Qc,Qd,Qe,Qf,Qg,Qh,Qi,Qj,Qk,reduceCtorEq,reduceIte,hi,y,C,z,E,h]
theorem xif(
 m:Bool)(g k:Int)(d0 d1 b J L:t6)(U:b.length<=1000000)(Q:m=true->J=lg b)(O:m=true->L=sha b):
 run T (.loop xq) ⟨[(1,.ptr 101 0),(3,.bool m),(53,.int .i64 2),(54,.int .i64 0)],[(101,.rc [.int .i64 g,.int .i64 k,.lst 1 [[.byt d0 .no],[.byt d1 .no]] .no,.byt b .no])],[]⟩=
 if(nM m d0 J&&nM m d1 L)=true then some (.x 3,⟨[],[(101,.rc [.int .i64 g,.int .i64 k,.lst 1 [[.byt d0 .no],[.byt d1 .no]] .no,.byt b .no])],[]⟩)
 else some (.r,⟨[(2,.bool false)],[(101,.rc [.int .i64 g,.int .i64 k,.lst 1 [[.byt d0 .no],[.byt d1 .no]] .no,.byt b .no])],[]⟩):=by
 have g0:=xc1 b (by omega);have F:=f90 b (by omega);have I:=f77 d0 (lg b);have H:=f77 d1 (sha b);have k1:ai.wrap 1=1:=rfl;have k2:ai.wrap 2=2:=rfl;unfold nM;cases m with
 |false=>
  by_cases y:(0:Int)<d0.length
  ·rw[al];simp only[go_sem,Q0,Q1,Q2,Q3,Q4,Q5,Q6,Q7,Q8,Q9,Qa,Qb,Qc,Qd,Qe,Qf,Qg,Qh,Qi,Qj,Qk,reduceCtorEq,reduceIte,y]
  ·by_cases C:(0:Int)<d1.length
   ·iterate 2
     rw[al];simp only[go_sem,Q0,Q1,Q2,Q3,Q4,Q5,Q6,Q7,Q8,Q9,Qa,Qb,Qc,Qd,Qe,Qf,Qg,Qh,Qi,Qj,Qk,reduceCtorEq,reduceIte,y,C,k1,k2]
   ·iterate 3
     rw[al];simp only[go_sem,Q0,Q1,Q2,Q3,Q4,Q5,Q6,Q7,Q8,Q9,Qa,Qb,Qc,Qd,Qe,Qf,Qg,Qh,Qi,Qj,Qk,reduceCtorEq,reduceIte,y,C,k1,k2]
 |true=>
  rw[Q rfl,O rfl]
  by_cases y:(0:Int)<d0.length
  ·by_cases b1:d0=lg b
   ·have z:call T 77 [.byt d0 .no,.byt (lg b) .no] [] 0=some ⟨.bool true,[],[]⟩:=by rw[I,decide_eq_true b1]
    by_cases C:(0:Int)<d1.length
    ·by_cases E:d1=sha b
     ·have h:call T 77 [.byt d1 .no,.byt (sha b) .no] [] 0=some ⟨.bool true,[],[]⟩:=by rw[H,decide_eq_true E]
      rw[decide_eq_true b1,decide_eq_true E]
      iterate 3
       rw[al];simp only[go_sem,Q0,Q1,Q2,Q3,Q4,Q5,Q6,Q7,Q8,Q9,Qa,Qb,Qc,Qd,Qe,Qf,Qg,Qh,Qi,Qj,Qk,reduceCtorEq,reduceIte,y,C,k1,k2,g0,F,z,h,sT,vj]
     ·have h:call T 77 [.byt d1 .no,.byt (sha b) .no] [] 0=some ⟨.bool false,[],[]⟩:=by rw[H,decide_eq_false E]
      rw[decide_eq_true b1,decide_eq_false E]
      iterate 2
       rw[al];simp only[go_sem,Q0,Q1,Q2,Q3,Q4,Q5,Q6,Q7,Q8,Q9,Qa,Qb,Qc,Qd,Qe,Qf,Qg,Qh,Qi,Qj,Qk,reduceCtorEq,reduceIte,y,C,k1,k2,g0,F,z,h,sT,vj]
    ·rw[decide_eq_true b1]
     iterate 3
      rw[al];simp only[go_sem,Q0,Q1,Q2,Q3,Q4,Q5,Q6,Q7,Q8,Q9,Qa,Qb,Qc,Qd,Qe,Qf,Qg,Qh,Qi,Qj,Qk,reduceCtorEq,reduceIte,y,C,k1,k2,g0,F,z,sT,vj]
   ·have z:call T 77 [.byt d0 .no,.byt (lg b) .no] [] 0=some ⟨.bool false,[],[]⟩:=by rw[I,decide_eq_false b1]
    rw[decide_eq_false b1];rw[al];simp only[go_sem,Q0,Q1,Q2,Q3,Q4,Q5,Q6,Q7,Q8,Q9,Qa,Qb,Qc,Qd,Qe,Qf,Qg,Qh,Qi,Qj,Qk,reduceCtorEq,reduceIte,y,k1,k2,g0,F,z,sT,vj]
  ·by_cases C:(0:Int)<d1.length
   ·by_cases E:d1=sha b
    ·have h:call T 77 [.byt d1 .no,.byt (sha b) .no] [] 0=some ⟨.bool true,[],[]⟩:=by rw[H,decide_eq_true E]
     rw[decide_eq_true E]
     iterate 3
      rw[al];simp only[go_sem,Q0,Q1,Q2,Q3,Q4,Q5,Q6,Q7,Q8,Q9,Qa,Qb,Qc,Qd,Qe,Qf,Qg,Qh,Qi,Qj,Qk,reduceCtorEq,reduceIte,y,C,k1,k2,g0,F,h,sT,vj]
    ·have h:call T 77 [.byt d1 .no,.byt (sha b) .no] [] 0=some ⟨.bool false,[],[]⟩:=by rw[H,decide_eq_false E]
     rw[decide_eq_false E]
     iterate 2
      rw[al];simp only[go_sem,Q0,Q1,Q2,Q3,Q4,Q5,Q6,Q7,Q8,Q9,Qa,Qb,Qc,Qd,Qe,Qf,Qg,Qh,Qi,Qj,Qk,reduceCtorEq,reduceIte,y,C,k1,k2,g0,F,h,sT,vj]
   ·iterate 3
     rw[al];simp only[go_sem,Q0,Q1,Q2,Q3,Q4,Q5,Q6,Q7,Q8,Q9,Qa,Qb,Qc,Qd,Qe,Qf,Qg,Qh,Qi,Qj,Qk,reduceCtorEq,reduceIte,y,C,k1,k2]
theorem two{α:Type}(l:List α)(d:α)(h:l.length=2):l=[l.getD 0 d,l.getD 1 d]:=by
 match l,h with
 |[a,b],_=>rfl
theorem f79(e:Ev)(hd:e.dg.length=2)(F:e.data.length<=1000000):call T 79 [.agg e.sv] [] 0=some ⟨.bool (Yf e),[],[]⟩:=by
 obtain⟨g,k,H,b⟩:=e;simp only at hd F;rw[two H [] hd];generalize H.getD 0 []=d0;generalize H.getD 1 []=d1;clear hd;have O:=xif false g k d0 d1 b [] [] F (fun h=>by cases h) (fun h=>by cases h);have z:=xif true g k d0 d1 b (lg b) (sha b) F (fun _=>rfl) (fun _=>rfl);have p:=xjB (.ptr 101 0) true [(101,.rc [.int .i64 g,.int .i64 k,.lst 1 [[.byt d0 .no],[.byt d1 .no]] .no,.byt b .no])] b (by omega) _ 0 rfl (by omega);have E:=f77 b [0,0,0,0];simp only[aD,bh]at p;have I:bls [d0,d1]=[[.byt d0 .no],[.byt d1 .no]]:=rfl;rw[au xk1];unfold Yf Ev.sv;simp only[I,bF,bQ];generalize (nM false d0 []&&nM false d1 [])=z0 at*;generalize (nM true d0 (lg b)&&nM true d1 (sha b))=z1 at*
 by_cases J:k=1
 ·subst J;simp only[go_sem,Q0,Q1,Q2,Q3,Q4,Q5,Q6,Q7,Q8,Q9,Qa,Qb,Qc,Qd,Qe,Qf,Qg,Qh,Qi,Qj,Qk,reduceCtorEq,reduceIte]
 by_cases L:k=2
 ·subst L
  by_cases y:b=[0,0,0,0]
  ·rw[decide_eq_true y]at E
   cases z1<;>simp only[go_sem,Q0,Q1,Q2,Q3,Q4,Q5,Q6,Q7,Q8,Q9,Qa,Qb,Qc,Qd,Qe,Qf,Qg,Qh,Qi,Qj,Qk,reduceCtorEq,reduceIte,y,ao]at E z ⊢ <;>simp only[go_sem,Q0,Q1,Q2,Q3,Q4,Q5,Q6,Q7,Q8,Q9,Qa,Qb,Qc,Qd,Qe,Qf,Qg,Qh,Qi,Qj,Qk,reduceCtorEq,reduceIte,E,vj,z,ao]
  ·rw[decide_eq_false y]at E
   simp only[go_sem,Q0,Q1,Q2,Q3,Q4,Q5,Q6,Q7,Q8,Q9,Qa,Qb,Qc,Qd,Qe,Qf,Qg,Qh,Qi,Qj,Qk,reduceCtorEq,reduceIte,y,E,vj,ao]
 by_cases y:k=3
 ·subst y
  by_cases C:(b.length:Int)=0
  ·simp only[go_sem,Q0,Q1,Q2,Q3,Q4,Q5,Q6,Q7,Q8,Q9,Qa,Qb,Qc,Qd,Qe,Qf,Qg,Qh,Qi,Qj,Qk,reduceCtorEq,reduceIte,C]
  ·cases hp:uu b with
   |true=>rw[if_pos hp]at p;cases z1<;>simp only[go_sem,Q0,Q1,Q2,Q3,Q4,Q5,Q6,Q7,Q8,Q9,Qa,Qb,Qc,Qd,Qe,Qf,Qg,Qh,Qi,Qj,Qk,reduceCtorEq,reduceIte]at z<;>simp only[go_sem,Q0,Q1,Q2,Q3,Q4,Q5,Q6,Q7,Q8,Q9,Qa,Qb,Qc,Qd,Qe,Qf,Qg,Qh,Qi,Qj,Qk,reduceCtorEq,reduceIte,C,p,z,hp]
   |false=>rw[if_neg (by rw[hp];simp)]at p;simp only[go_sem,Q0,Q1,Q2,Q3,Q4,Q5,Q6,Q7,Q8,Q9,Qa,Qb,Qc,Qd,Qe,Qf,Qg,Qh,Qi,Qj,Qk,reduceCtorEq,reduceIte,C,p,hp]
 by_cases C:k=4
 ·subst C
  cases z1<;>simp only[go_sem,Q0,Q1,Q2,Q3,Q4,Q5,Q6,Q7,Q8,Q9,Qa,Qb,Qc,Qd,Qe,Qf,Qg,Qh,Qi,Qj,Qk,reduceCtorEq,reduceIte]at z<;>simp only[go_sem,Q0,Q1,Q2,Q3,Q4,Q5,Q6,Q7,Q8,Q9,Qa,Qb,Qc,Qd,Qe,Qf,Qg,Qh,Qi,Qj,Qk,reduceCtorEq,reduceIte,z]
 by_cases Q:k=5
 ·subst Q
  cases z0<;>simp only[go_sem,Q0,Q1,Q2,Q3,Q4,Q5,Q6,Q7,Q8,Q9,Qa,Qb,Qc,Qd,Qe,Qf,Qg,Qh,Qi,Qj,Qk,reduceCtorEq,reduceIte]at O<;>simp only[go_sem,Q0,Q1,Q2,Q3,Q4,Q5,Q6,Q7,Q8,Q9,Qa,Qb,Qc,Qd,Qe,Qf,Qg,Qh,Qi,Qj,Qk,reduceCtorEq,reduceIte,O]
 simp only[go_sem,Q0,Q1,Q2,Q3,Q4,Q5,Q6,Q7,Q8,Q9,Qa,Qb,Qc,Qd,Qe,Qf,Qg,Qh,Qi,Qj,Qk,reduceCtorEq,reduceIte,J,L,y,C,Q]
def okp(c:UInt8):Bool:= !(decide (c<32)||decide (126<c))
theorem xkp(l:t6)(c:UInt8):call T 138 [.byt l .no,.u8 c] [] 0=some ⟨.int .i64 (sk l c),[],[]⟩:=by rw[kC xgm];rfl
theorem xjW(l:t6)(J:l.length<=1000000000000):∀(n i:Nat),l.length-i=n->i<=l.length->
 run T (.loop xQ) ⟨[(5,.byt l .no),(6,.int .i64 l.length),(7,.int .i64 i)],[],[]⟩=if(l.drop i).all okp=true then some (.x 0,⟨[],[],[]⟩)else some (.r,⟨[(2,.bool false)],[],[]⟩):=by
 intro n;induction n with
 |zero=>
  intro i H E;have hi:i=l.length:=by omega
  subst hi;rw[al,bv];simp only[go_sem,Q0,Q1,Q2,Q3,Q4,Q5,Q6,Q7,Q8,Q9,Qa,Qb,Qc,Qd,Qe,Qf,Qg,Qh,Qi,Qj,Qk,reduceCtorEq,reduceIte]
 |succ n F=>
  intro i H E;have hi:i<l.length:=by omega
  have I:=cA i (by omega);have h:=F (i+1) (by omega) (by omega);rw[al,da l i hi,iv];unfold okp at h ⊢;generalize y:l.getD i 0=c at*;generalize List.all (lv (i+1) l) _=q at*
  by_cases z:c<32
  ·simp only[go_sem,Q0,Q1,Q2,Q3,Q4,Q5,Q6,Q7,Q8,Q9,Qa,Qb,Qc,Qd,Qe,Qf,Qg,Qh,Qi,Qj,Qk,reduceCtorEq,reduceIte,hi,y,z]
  ·by_cases C:126<c
   ·simp only[go_sem,Q0,Q1,Q2,Q3,Q4,Q5,Q6,Q7,Q8,Q9,Qa,Qb,Qc,Qd,Qe,Qf,Qg,Qh,Qi,Qj,Qk,reduceCtorEq,reduceIte,hi,y,z,C]
   ·simp only[go_sem,Q0,Q1,Q2,Q3,Q4,Q5,Q6,Q7,Q8,Q9,Qa,Qb,Qc,Qd,Qe,Qf,Qg,Qh,Qi,Qj,Qk,reduceCtorEq,reduceIte,hi,y,I,z,C,h]
theorem xko(l:t6)(y:l.length<=1000000000000):call T 139 [.byt l .no] [] 0=some ⟨.bool (l.all okp),[],[]⟩:=by
 have h:=xjW l y _ 0 rfl (by omega);simp only[aD,bh]at h;rw[au xgl];cases hq:l.all okp with
 |true=>rw[if_pos hq]at h;simp only[go_sem,Q0,Q1,Q2,Q3,Q4,Q5,Q6,Q7,Q8,Q9,Qa,Qb,Qc,Qd,Qe,Qf,Qg,Qh,Qi,Qj,Qk,reduceCtorEq,reduceIte,h,hq]
 |false=>rw[if_neg (by rw[hq];simp)]at h;simp only[go_sem,Q0,Q1,Q2,Q3,Q4,Q5,Q6,Q7,Q8,Q9,Qa,Qb,Qc,Qd,Qe,Qf,Qg,Qh,Qi,Qj,Qk,reduceCtorEq,reduceIte,h,hq]
theorem qU(l:t6)(c:UInt8):(sk l c= -1/\c∉l)\/∃k:Nat,sk l c=k/\k<l.length/\l=l.take k++c::l.drop (k+1)/\c∉l.take k:=by
 have e:sk l c=Lib.indexByte l c:=Lib.firstIdx_eq _ _;rw[e];clear e;induction l with
 |nil=>exact .inl ⟨rfl,cB⟩
 |cons b l E=>
  unfold Lib.indexByte
  by_cases h:b=c
  ·subst h
   exact .inr ⟨0,by simp,by simp,by simp,by simp⟩
  ·have y:¬(b==c)=true:=by simpa using h
   rw[if_neg y];rcases E with⟨z,C⟩|⟨k,z,C,h3,h4⟩
   ·rw[z]
    refine .inl ⟨rfl, ?_⟩;rw[am,not_or];exact⟨fun e=>h e.symm,C⟩
   ·rw[z]
    refine .inr ⟨k+1, ?_,by simpa using C, ?_, ?_⟩
    ·have:¬((k:Int)== -1)=true:=by simp
     rw[if_neg this];omega
    ·rw[List.take_succ_cons,List.drop_succ_cons,aV,<-h3]
    ·rw[List.take_succ_cons,am,not_or]
     exact⟨fun e=>h e.symm,h4⟩
def lnP:Nat->t6->List t6->List t6
 |0,_,o=>o
 |n+1,r,o=>if r=[]then o else if sk r 10<1 then []else if o.length=4 then []else if(r.take (sk r 10).toNat).all okp=true then lnP n (r.drop ((sk r 10).toNat+1)) (o++ [r.take (sk r 10).toNat])else []
theorem yc:∀(a:t6)(o:List t6)(l r:t6),(10:UInt8)∉a->lnF (a++r) o l=if a.all okp=true then lnF r o (l++a)else none
 |[],o,l,r,_=>by simp
 |c::a,o,l,r,h=>by
  rw[am,not_or]at h;rw[aV,iv]
  conv=>lhs;unfold lnF
  rw[if_neg (fun e=>h.1 e.symm),yc a o (l++ [c]) r h.2,ax,dC];generalize List.all a okp=q;generalize lnF r o (l++c::a)=z;unfold okp
  by_cases y:c<32
  ·simp[y]
  ·by_cases C:126<c
   ·simp[y,C]
   ·simp[y,C]
def lnW(p:Option (List t6×t6)):List t6:=match p with
 |some (o,l)=>if(0:Int)<l.length then []else o
 |none=> []
theorem M6:∀(n:Nat)(r:t6)(o:List t6),r.length<n->o.length<=4->lnP n r o=lnW (lnF r o [])
 |0,r,o,h,_=>by omega
 |n+1,r,o,h,ho=>by
  unfold lnP
  by_cases C:r=[]
  ·subst C
   rw[if_pos rfl];simp[lnF,lnW]
  ·rw[if_neg C]
   rcases qU r 10 with⟨y,H⟩|⟨k,y,H,h3,h4⟩
   ·rw[y,if_pos (by omega)]
    have e:lnF r o []=if r.all okp=true then some (o,r)else none:=by have:=yc r o [] [] H;rw[bf]at this;rw[this];simp[lnF]
    rw[e]
    have L:(0:Int)<r.length:=by have:0<r.length:=mb.2 C;omega
    split
    ·simp only[lnW];rw[if_pos L]
    ·rfl
   ·rw[y,Int.toNat_natCast]
    have e:lnF r o []=if(r.take k).all okp=true then lnF (10::r.drop (k+1)) o (r.take k)else none:=by
     conv=>lhs;rw[h3]
     rw[yc _ o [] _ h4,aK]
    rw[e];have J:(r.take k).length=k:=by rw[aA];omega
    unfold lnF;rw[if_pos rfl,J]
    by_cases O:k=0
    ·have F:(k:Int)<1:=by omega
     have z:(k:Int)=0:=by omega
     simp only[if_pos F,if_pos z,ite_self];rfl
    ·have F:¬(k:Int)<1:=by omega
     have z:¬(k:Int)=0:=by omega
     simp only[if_neg F,if_neg z]
     by_cases I:o.length=4
     ·have E:(4:Int)<=o.length:=by omega
      simp only[if_pos I,if_pos E,ite_self];rfl
     ·have E:¬(4:Int)<=o.length:=by omega
      simp only[if_neg I,if_neg E];split
      ·exact M6 n _ _ (by rw[aL];omega) (by rw[af,aP];omega)
      ·rfl
theorem l98(L:Int)(O:t6)(Q:Int)(p:t6)(hp:p.length<=1000000000000):∀(n:Nat)(r:t6)(o:List t6),r.length<n->r.length<=p.length->o.length<=4->
 ((
  ∃I,lnP n r o=I/\run T (.loop DD) ⟨[(3,.lst 1 (bls o) (.id 103)),(4,.byt r .no)],[(101,.rc [.int .i64 L,.str O,.int .i64 Q,.byt p .no])],[103]⟩=some (.x 0,⟨[(3,.lst 1 (bls I) (.id 103))],[(101,.rc [.int .i64 L,.str O,.int .i64 Q,.byt p .no])],[103]⟩))\/
  (lnP n r o=[]/\run T (.loop DD) ⟨[(3,.lst 1 (bls o) (.id 103)),(4,.byt r .no)],[(101,.rc [.int .i64 L,.str O,.int .i64 Q,.byt p .no])],[103]⟩=some (.r,⟨[(2,.lst 1 [] .clip)],[(101,.rc [.int .i64 L,.str O,.int .i64 Q,.byt p .no])],[103]⟩))):=by
 intro n;induction n with
 |zero=>intro r o h0;omega
 |succ n ih=>
  intro r o h0 h1 h2;have J:=iE o;unfold lnP
  by_cases Z:r=[]
  ·subst Z
   rw[if_pos rfl];refine .inl ⟨o,rfl, ?_⟩;rw[al];simp only[go_sem,Q0,Q1,Q2,Q3,Q4,Q5,Q6,Q7,Q8,Q9,Qa,Qb,Qc,Qd,Qe,Qf,Qg,Qh,Qi,Qj,Qk,reduceCtorEq,reduceIte]
  ·rw[if_neg Z]
   have y:0<r.length:=mb.2 Z;have h:(0:Int)<r.length:=by omega
   have g:=xkp r 10;rcases qU r 10 with⟨U,_⟩|⟨k,U,h4,_,_⟩
   ·rw[U]at g ⊢
    rw[if_pos (by omega)];refine .inr ⟨rfl, ?_⟩;rw[al];simp only[go_sem,Q0,Q1,Q2,Q3,Q4,Q5,Q6,Q7,Q8,Q9,Qa,Qb,Qc,Qd,Qe,Qf,Qg,Qh,Qi,Qj,Qk,reduceCtorEq,reduceIte,y,h,g,tD]
   ·rw[U]at g ⊢
    rw[Int.toNat_natCast]
    by_cases k0:k=0
    ·subst k0
     rw[if_pos (by omega)];refine .inr ⟨rfl, ?_⟩;rw[al];simp only[go_sem,Q0,Q1,Q2,Q3,Q4,Q5,Q6,Q7,Q8,Q9,Qa,Qb,Qc,Qd,Qe,Qf,Qg,Qh,Qi,Qj,Qk,reduceCtorEq,reduceIte,y,h,g,tD,aD]
    ·have k1:¬(k:Int)<1:=by omega
     have k2:k<=r.length:=by omega
     have C:(k:Int)<=r.length:=by omega
     have H:=xko (r.take k) (by rw[aA];omega);rw[if_neg k1]
     by_cases E:o.length=4
     ·rw[if_pos E]
      have z:(o.length:Int)=4:=by omega
      refine .inr ⟨rfl, ?_⟩;rw[al];simp only[go_sem,Q0,Q1,Q2,Q3,Q4,Q5,Q6,Q7,Q8,Q9,Qa,Qb,Qc,Qd,Qe,Qf,Qg,Qh,Qi,Qj,Qk,reduceCtorEq,reduceIte,y,h,g,tD,k1,J,E,z]
     ·rw[if_neg E]
      have z:¬(o.length:Int)=4:=by omega
      cases hq:(r.take k).all okp with
      |false=>rw[if_neg (by simp)];rw[hq]at H;refine .inr ⟨rfl, ?_⟩;rw[al];simp only[go_sem,Q0,Q1,Q2,Q3,Q4,Q5,Q6,Q7,Q8,Q9,Qa,Qb,Qc,Qd,Qe,Qf,Qg,Qh,Qi,Qj,Qk,reduceCtorEq,reduceIte,y,h,g,tD,k1,k2,C,J,E,z,H,Om]
      |true=>
       rw[if_pos rfl];rw[hq]at H;have F:=ih (r.drop (k+1)) (o++ [r.take k]) (by rw[aL];omega) (by rw[aL];omega) (by rw[af,aP];omega);rw[B0]at F;have e1:=cA k (by omega);have k3:k+1<=r.length:=by omega
       have tf:dn r.length r=r:=bB;have c2:(o.length+1)*24<=140737488355328:=by omega
       rcases F with⟨I,g1,W⟩|⟨g1,W⟩
       ·refine .inl ⟨I,g1, ?_⟩
        rw[al];simp only[go_sem,Q0,Q1,Q2,Q3,Q4,Q5,Q6,Q7,Q8,Q9,Qa,Qb,Qc,Qd,Qe,Qf,Qg,Qh,Qi,Qj,Qk,reduceCtorEq,reduceIte,y,h,g,tD,k1,k2,C,k3,J,E,z,H,Om,e1,tf,c2,W]
       ·refine .inr ⟨g1, ?_⟩
        rw[al];simp only[go_sem,Q0,Q1,Q2,Q3,Q4,Q5,Q6,Q7,Q8,Q9,Qa,Qb,Qc,Qd,Qe,Qf,Qg,Qh,Qi,Qj,Qk,reduceCtorEq,reduceIte,y,h,g,tD,k1,k2,C,k3,J,E,z,H,Om,e1,tf,c2,W]
theorem f98(x:Img)(H:x.pay.length<=1000000000000):call T 98 [.agg x.sv] [] 0=some ⟨.lst 1 (bls (dk x.pay)) .no,[],[]⟩:=by
 obtain⟨I,E,F,p⟩:=x;have J:dk p=lnP (p.length+1) p []:=by rw[M6 _ _ _ (by omega) (by simp)];rfl
 have h:=l98 I E F p H (p.length+1) p [] (by omega) (aN _) (by simp);rw[<-J]at h;have C:bls []=[]:=rfl;rw[C]at h;rw[au xkQ];simp only[Img.sv];rcases h with⟨L,y,z⟩|⟨y,z⟩
 ·rw[y]
  simp only[go_sem,Q0,Q1,Q2,Q3,Q4,Q5,Q6,Q7,Q8,Q9,Qa,Qb,Qc,Qd,Qe,Qf,Qg,Qh,Qi,Qj,Qk,reduceCtorEq,reduceIte,z]
 ·rw[y,C]
  simp only[go_sem,Q0,Q1,Q2,Q3,Q4,Q5,Q6,Q7,Q8,Q9,Qa,Qb,Qc,Qd,Qe,Qf,Qg,Qh,Qi,Qj,Qk,reduceCtorEq,reduceIte,z]
theorem f89(x:Img)(W:x.pay.length<=1000000000000):call T 89 [.agg x.sv] [] 0=some ⟨.int .i64 (dT x),[],[]⟩:=by
 have z:=xc4 x.name;have H:=f98 x W;obtain⟨I,U,O,p⟩:=x;have Q:=iE (dk p);simp only[Img.sv]at z H ⊢;rw[au xc8];unfold dT
 by_cases h:I<1
 ·simp only[go_sem,Q0,Q1,Q2,Q3,Q4,Q5,Q6,Q7,Q8,Q9,Qa,Qb,Qc,Qd,Qe,Qf,Qg,Qh,Qi,Qj,Qk,reduceCtorEq,reduceIte,h]
 by_cases y:4<I
 ·simp only[go_sem,Q0,Q1,Q2,Q3,Q4,Q5,Q6,Q7,Q8,Q9,Qa,Qb,Qc,Qd,Qe,Qf,Qg,Qh,Qi,Qj,Qk,reduceCtorEq,reduceIte,h,y]
 by_cases C:O<0
 ·simp only[go_sem,Q0,Q1,Q2,Q3,Q4,Q5,Q6,Q7,Q8,Q9,Qa,Qb,Qc,Qd,Qe,Qf,Qg,Qh,Qi,Qj,Qk,reduceCtorEq,reduceIte,h,y,C]
 by_cases E:1000000<O
 ·simp only[go_sem,Q0,Q1,Q2,Q3,Q4,Q5,Q6,Q7,Q8,Q9,Qa,Qb,Qc,Qd,Qe,Qf,Qg,Qh,Qi,Qj,Qk,reduceCtorEq,reduceIte,h,y,C,E]
 cases a5:Pr.nameB U with
 |false=>rw[a5]at z;simp only[go_sem,Q0,Q1,Q2,Q3,Q4,Q5,Q6,Q7,Q8,Q9,Qa,Qb,Qc,Qd,Qe,Qf,Qg,Qh,Qi,Qj,Qk,reduceCtorEq,reduceIte,h,y,C,E,a5,z,kH]
 |true=>
  rw[a5]at z
  by_cases F:(64:Int)<p.length
  ·simp only[go_sem,Q0,Q1,Q2,Q3,Q4,Q5,Q6,Q7,Q8,Q9,Qa,Qb,Qc,Qd,Qe,Qf,Qg,Qh,Qi,Qj,Qk,reduceCtorEq,reduceIte,h,y,C,E,a5,z,kH,F]
  by_cases J:I=4
  ·subst J
   by_cases L:((dk p).length:Int)=0
   ·simp only[go_sem,Q0,Q1,Q2,Q3,Q4,Q5,Q6,Q7,Q8,Q9,Qa,Qb,Qc,Qd,Qe,Qf,Qg,Qh,Qi,Qj,Qk,reduceCtorEq,reduceIte,h,y,C,E,a5,z,kH,F,H,Rk,Q,L]
   ·simp only[go_sem,Q0,Q1,Q2,Q3,Q4,Q5,Q6,Q7,Q8,Q9,Qa,Qb,Qc,Qd,Qe,Qf,Qg,Qh,Qi,Qj,Qk,reduceCtorEq,reduceIte,h,y,C,E,a5,z,kH,F,H,Rk,Q,L]
  ·simp only[go_sem,Q0,Q1,Q2,Q3,Q4,Q5,Q6,Q7,Q8,Q9,Qa,Qb,Qc,Qd,Qe,Qf,Qg,Qh,Qi,Qj,Qk,reduceCtorEq,reduceIte,h,y,C,E,a5,z,kH,F,J]
theorem f91(x:Img)(hn:x.name.length<=1000000)(J:x.pay.length<=1000000):call T 91 [.agg x.sv] [] 0=some ⟨.byt (dN x) .no,[],[]⟩:=by
 have g0:=f89 x (by omega);have z:=f48 [] 1 x.role (by omega) (by omega) (by simp);have y:=f48 (be 1 (aZ.wrap x.role)) 4 x.ver (by omega) (by omega) (by rw[eG];omega);have H:=f49 (be 1 (aZ.wrap x.role)++be 4 (aZ.wrap x.ver)) x.name (by rw[af,eG,eG];omega) (by omega);have C:=f49 (jo (be 1 (aZ.wrap x.role)++be 4 (aZ.wrap x.ver)) x.name) x.pay (by rw[ey,af,eG,eG];omega) (by omega);simp only[bW,aK]at z y;obtain⟨F,E,I,p⟩:=x;simp only[Img.sv]at*;rw[au xiF];unfold dN
 by_cases h:dT ⟨F,E,I,p⟩=0
 ·rw[if_pos h]
  rw[h]at g0;simp only[go_sem,Q0,Q1,Q2,Q3,Q4,Q5,Q6,Q7,Q8,Q9,Qa,Qb,Qc,Qd,Qe,Qf,Qg,Qh,Qi,Qj,Qk,reduceCtorEq,reduceIte,g0,o9,z,qk,y,H,sV,C]
 ·rw[if_neg h]
  simp only[go_sem,Q0,Q1,Q2,Q3,Q4,Q5,Q6,Q7,Q8,Q9,Qa,Qb,Qc,Qd,Qe,Qf,Qg,Qh,Qi,Qj,Qk,reduceCtorEq,reduceIte,g0,o9,h]
theorem X9(x:Img):call T 89 [.agg x.sv] [] 0=some ⟨.int .i64 (dT x),[],[]⟩:=by
 have C:=xc4 x.name;have Q:=fun h=>f98 x h
 obtain⟨J,Z,U,p⟩:=x;have W:=iE (dk p);simp only[Img.sv]at C Q ⊢;rw[au xc8];unfold dT
 by_cases y:J<1
 ·simp only[go_sem,Q0,Q1,Q2,Q3,Q4,Q5,Q6,Q7,Q8,Q9,Qa,Qb,Qc,Qd,Qe,Qf,Qg,Qh,Qi,Qj,Qk,reduceCtorEq,reduceIte,y]
 by_cases z:4<J
 ·simp only[go_sem,Q0,Q1,Q2,Q3,Q4,Q5,Q6,Q7,Q8,Q9,Qa,Qb,Qc,Qd,Qe,Qf,Qg,Qh,Qi,Qj,Qk,reduceCtorEq,reduceIte,y,z]
 by_cases E:U<0
 ·simp only[go_sem,Q0,Q1,Q2,Q3,Q4,Q5,Q6,Q7,Q8,Q9,Qa,Qb,Qc,Qd,Qe,Qf,Qg,Qh,Qi,Qj,Qk,reduceCtorEq,reduceIte,y,z,E]
 by_cases F:1000000<U
 ·simp only[go_sem,Q0,Q1,Q2,Q3,Q4,Q5,Q6,Q7,Q8,Q9,Qa,Qb,Qc,Qd,Qe,Qf,Qg,Qh,Qi,Qj,Qk,reduceCtorEq,reduceIte,y,z,E,F]
 cases a5:Pr.nameB Z with
 |false=>rw[a5]at C;simp only[go_sem,Q0,Q1,Q2,Q3,Q4,Q5,Q6,Q7,Q8,Q9,Qa,Qb,Qc,Qd,Qe,Qf,Qg,Qh,Qi,Qj,Qk,reduceCtorEq,reduceIte,y,z,E,F,a5,C,kH]
 |true=>
  rw[a5]at C
  by_cases I:(64:Int)<p.length
  ·simp only[go_sem,Q0,Q1,Q2,Q3,Q4,Q5,Q6,Q7,Q8,Q9,Qa,Qb,Qc,Qd,Qe,Qf,Qg,Qh,Qi,Qj,Qk,reduceCtorEq,reduceIte,y,z,E,F,a5,C,kH,I]
  have H:=Q (by omega)
  by_cases L:J=4
  ·subst L
   by_cases O:((dk p).length:Int)=0
   ·simp only[go_sem,Q0,Q1,Q2,Q3,Q4,Q5,Q6,Q7,Q8,Q9,Qa,Qb,Qc,Qd,Qe,Qf,Qg,Qh,Qi,Qj,Qk,reduceCtorEq,reduceIte,y,z,E,F,a5,C,kH,I,H,Rk,W,O]
   ·simp only[go_sem,Q0,Q1,Q2,Q3,Q4,Q5,Q6,Q7,Q8,Q9,Qa,Qb,Qc,Qd,Qe,Qf,Qg,Qh,Qi,Qj,Qk,reduceCtorEq,reduceIte,y,z,E,F,a5,C,kH,I,H,Rk,W,O]
  ·simp only[go_sem,Q0,Q1,Q2,Q3,Q4,Q5,Q6,Q7,Q8,Q9,Qa,Qb,Qc,Qd,Qe,Qf,Qg,Qh,Qi,Qj,Qk,reduceCtorEq,reduceIte,y,z,E,F,a5,C,kH,I,L]
theorem xih(x:Img):call T 91 [.agg x.sv] [] 0=some ⟨.byt (dN x) .no,[],[]⟩:=by
 by_cases h:dT x=0
 ·obtain⟨y,z⟩:=kU h
  exact f91 x y z
 ·have g0:=X9 x
  have C:dN x=[]:=if_neg h;rw[C];generalize dT x=e at*;obtain⟨H,E,F,p⟩:=x;simp only[Img.sv]at*;rw[au xiF];simp only[go_sem,Q0,Q1,Q2,Q3,Q4,Q5,Q6,Q7,Q8,Q9,Qa,Qb,Qc,Qd,Qe,Qf,Qg,Qh,Qi,Qj,Qk,reduceCtorEq,reduceIte,g0,o9,h]
theorem sw(x:Img):(dN x).length<=10000000:=by
 by_cases h:dT x=0
 ·obtain⟨y,C⟩:=kU h
  exact pF x y C
 ·have z:dN x=[]:=if_neg h
  rw[z];simp
end Go.Proofs.YtkcjdeofknkndaaGreatDoor
