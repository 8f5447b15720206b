/- Contracts. No condition. -/
import Derived.Test.YtkcjdeofknkndaaGreatDoorTeDE
open Bool renaming and_eq_true -> az
open Int renaming cast_ofNat_Int -> bX, natCast_zero -> aB
open Go.IntKind renaming i64 -> af, u64 -> aQ
open List renaming all_cons -> iG, append_assoc -> av, append_nil -> bw, cons_append -> bf, drop -> jx, drop_eq_getElem_cons -> aM, drop_length -> ba, drop_zero -> aV, getD_cons_succ -> cz, getD_cons_zero -> bZ, getD_eq_getElem?_getD -> aa, getElem?_append_left -> bc, getElem?_append_right -> bq, getElem?_eq_getElem -> ab, getElem_mem -> bx, getElem_of_mem -> bY, length_append -> ac, length_cons -> aA, length_drop -> aI, length_map -> aS, length_nil -> aY, length_pos_iff -> mi, length_replicate -> bQ, length_set -> cB, length_singleton -> aH, length_take -> aw, map_append -> cV, mem_cons -> al, nil_append -> aG, not_mem_nil -> cC, replicate -> ao, singleton_append -> eo, take -> dd, take_length -> bi
open Nat renaming le_refl -> aN, lt_or_ge -> bO, mul_one -> db, zero_le -> bH
open UInt8 renaming ofInt -> ct
set_option maxRecDepth 100000
set_option maxHeartbeats 16000000
set_option linter.unusedSimpArgs false
set_option linter.unusedVariables false
namespace Go.Proofs.YtkcjdeofknkndaaGreatDoor
open Go.Sy
open UInt8 renaming reduceLT -> Q0, reduceLE -> Q1
open Int renaming reduceToNat -> Q2, reduceLE -> Q3, reduceLT -> Q4, reduceEq -> Q5, reduceNe -> Q6, reduceNeg -> Q7, reduceAdd -> Q8, reduceSub -> Q9, reduceMul -> Qa
open Nat renaming reducePow -> Qb, reduceDiv -> Qc, reduceMod -> Qd, reduceAdd -> Qe, reduceSub -> Qf, reduceMul -> Qg, reduceLT -> Qh, reduceLeDiff -> Qi, reduceEqDiff -> Qj, reduceBEq -> Qk
theorem gh{s:t7}(h:Pr.nameB s=true):1<=s.length/\s.length<=12:=by
 unfold Pr.nameB at h;split at h
 ·cases h
 ·omega
theorem mw{x:Img}(h:eX x=0):1<=x.role/\x.role<=4/\0<=x.ver/\x.ver<=1000000/\Pr.nameB x.name=true/\x.pay.length<=64:=by
 unfold eX at h
 repeat' split at h
 all_goals first|omega|skip
 all_goals (cases y:Pr.nameB x.name with
  |true=>exact⟨by omega,by omega,by omega,by omega,rfl,by omega⟩
  |false=>simp_all)
theorem nO{x:Img}(h:eX x=0):x.name.length<=1000000/\x.pay.length<=1000000:=by obtain⟨_,_,_,_,y,z⟩:=mw h;have:=gh y;omega
def ofI(x:Img)(a:Int):Ev:=⟨zP x.role,1,sY (fm x) a,wK x.name x.ver⟩
theorem f40(x:Img)(a:Int)(y:xaB a)(h:eX x=0)(E:x.role≠4):call T 40 [.agg x.sv,.int .i64 a] [] 0=some ⟨.agg (ofI x a).sv,[],[]⟩:=by obtain⟨W,Z,H,J,Q,U⟩:=mw h;obtain⟨b1,F⟩:=nO h;have g0:=xlk x (by omega) (by omega);have C:=f82 x.role;have I:=xnx x a y b1 F;have z:=f34 x.name x.ver b1 H J;rw[h]at g0;obtain⟨L,O,ve,p⟩:=x;simp only[Img.sv,Ev.sv,ofI]at*;rw[an xom];simp only[go_sem,Q0,Q1,Q2,Q3,Q4,Q5,Q6,Q7,Q8,Q9,Qa,Qb,Qc,Qd,Qe,Qf,Qg,Qh,Qi,Qj,Qk,reduceCtorEq,reduceIte,g0,P8,E,C,xoJ,I,xj4,z,xoR]
def ic(l:List Img):f8:=l.map Img.sv
def im0:Img:=⟨0,[],0,[]⟩
theorem gF(l:List Img):(ic l).length=l.length:=aS ..
theorem ma(l:List Img)(i:Nat)(h:i<l.length):(ic l).getD i []=(l.getD i im0).sv:=by simp[ic,aa,h]
structure jD(l:List Img):Prop where
 n1:1<=l.length
 n8:l.length<=8
 ok:∀i,i<l.length->eX (l.getD i im0)=0
 ord:∀i,i+1<l.length->(l.getD i im0).role<=(l.getD (i+1) im0).role
 dup:∀i,i<l.length->∀k,k<i->(l.getD k im0).role=(l.getD i im0).role->(l.getD k im0).name≠(l.getD i im0).name
 fw:∃i,i<l.length/\(l.getD i im0).role=1
 kn:∃i,i<l.length/\(l.getD i im0).role=3
def jT(h:LAb):t7:=h.flatMap fun t=>ia t++ [10]
theorem Do(h:LAb)(t:Nat):jT (h++ [t])=jT h++(ia t++ [10]):=by simp[jT]
theorem rz(t:Nat):(ia t).length<=8:=by unfold ia;split<;>simp
theorem uQ(h:LAb):(jT h).length<=9*h.length:=by
 induction h with
 |nil=>simp[jT]
 |cons t r y=>rw[jT,List.flatMap_cons,ac,ac,aA,aA,aY];have:=rz t;unfold jT at y;omega
theorem FZ(t:Nat)(r:t7)(o:List t7)(y:o.length<4):lnF (ia t++10::r) o []=lnF r (o++ [ia t]) []:=by
 have h:¬(4:Int)<=o.length:=by omega
 unfold ia;split<;>simp[lnF,h]
theorem Ct:∀(y:LAb)(o:List t7),o.length+y.length<=4->lnF (jT y) o []=some (o++y.map ia,[])
 |[],o,_=>by simp[jT,lnF]
 |t::r,o,h=>by
  rw[aA]at h;have e:jT (t::r)=ia t++10::jT r:=by simp[jT]
  rw[e,FZ t _ o (by omega),Ct r _ (by rw[ac,aH];omega)];simp
theorem wJ(y:LAb)(h:y.length<=4):fB (jT y)=y.map ia:=by unfold fB;rw[Ct y [] (by simpa using h)];simp
theorem xmO(B:t7)(J:B.length<=1000):∀(k:Nat)(h:LAb)(j:Nat),k<=4->h.length+k<=100->∃us z,us.length=k/\
 run T (.loop yi) ⟨[(0,.ptr 0 0),(3,.byt (jT h) (.id 103)),(4,.int .i64 k)],[(0,bg B j)],[103]⟩=some (.x 0,⟨[(3,.byt (jT (h++us)) (.id 103))],[(0,bg B z)],[103]⟩):=by
 intro k;induction k with
 |zero=>intro h j F E;refine⟨[],j,rfl, ?_⟩;rw[ai,bw];simp only[go_sem,Q0,Q1,Q2,Q3,Q4,Q5,Q6,Q7,Q8,Q9,Qa,Qb,Qc,Qd,Qe,Qf,Qg,Qh,Qi,Qj,Qk,reduceCtorEq,reduceIte]
 |succ k I=>
  intro h j F E;obtain⟨us,z,hu,y⟩:=I (h++ [dn B j 6]) (cr B j) (by omega) (by rw[ac,aH];omega);refine⟨dn B j 6::us,z,by rw[aA,hu], ?_⟩;have g:=f73 B j J;have O:=uQ h;have H:=rz (dn B j 6);have C:af.wrap (((k+1:Nat):Int)-1)=(k:Int):=wZ (by omega)
  have L:(0:Int)<((k+1:Nat):Int):=by omega
  have c1:(jT h).length+(ia (dn B j 6)).length<=140737488355328:=by omega
  have c2:(jT h).length+(ia (dn B j 6)).length+1<=140737488355328:=by omega
  rw[Do]at y;rw[show h++dn B j 6::us=h++ [dn B j 6]++us from by simp];rw[ai];simp only[bg]at g y ⊢;simp only[go_sem,Q0,Q1,Q2,Q3,Q4,Q5,Q6,Q7,Q8,Q9,Qa,Qb,Qc,Qd,Qe,Qf,Qg,Qh,Qi,Qj,Qk,reduceCtorEq,reduceIte,L,g,xlF,c1,c2,C,y]
theorem xnl(B:t7)(i:Nat)(C:B.length<=1000):∃y j,1<=y.length/\y.length<=4/\call T 123 [.ptr 0 0] [bg B i] 0=some ⟨.byt (jT y) .no,[(0,bg B j)],[]⟩:=by
 have g:=f71 B i 4 (by omega) (by omega);have E:=dI B i 4 (by omega);obtain⟨us,j,hu,h⟩:=xmO B C (1+dn B i 4) [] (cr B i) (by omega) (by simp only[aY];omega);have e:af.wrap (1+((dn B i 4:Nat):Int))=((1+dn B i 4:Nat):Int):=wZ (by omega)
 refine⟨us,j,by omega,by omega, ?_⟩;have z:jT []=[]:=rfl;rw[z,aG]at h;rw[cz4]at g;simp only[bg]at g h ⊢;rw[an xjm];simp only[go_sem,Q0,Q1,Q2,Q3,Q4,Q5,Q6,Q7,Q8,Q9,Qa,Qb,Qc,Qd,Qe,Qf,Qg,Qh,Qi,Qj,Qk,reduceCtorEq,reduceIte,g,jC,e,h]
def fG:Nat->t7
 |0=> [97]
 |1=> [103,114,117,98]
 |2=> [108,105,110,117,120]
 |3=> [110,101,116,45,48]
 |_=> [116,119,101,108,118,101,45,98,121,116,101,115]
theorem xnm:call T 122 [] [] 0=some ⟨.agg [.str (fG 0),.str (fG 1),.str (fG 2),.str (fG 3),.str (fG 4)],[],[]⟩:=by rw[an xjn];simp only[go_sem,Q0,Q1,Q2,Q3,Q4,Q5,Q6,Q7,Q8,Q9,Qa,Qb,Qc,Qd,Qe,Qf,Qg,Qh,Qi,Qj,Qk,reduceCtorEq,reduceIte,fG]
theorem FT:∀v,v<5->Pr.nameB (fG v)=true:=by decide
theorem l72(B:t7)(Q:B.length<=1000)(role F:Int)(C:t7):∀(n i:Nat)(l:t7)(j:Nat),l.length-i=n->i<=l.length->l.length<=6->∃h y,h.length=l.length/\
 run T (.loop tJ) ⟨[(0,.ptr 0 0),(4,.ptr 104 0),(5,.ptr 105 0),(6,.int .i64 i)],[(0,bg B j),(104,.rc [.int .i64 0,.str [],.int .i64 0,.byt [] .clip]),(105,.rc [.int .i64 role,.str C,.int .i64 F,.psl 130 1 0 l.length (some l.length)]),(130,.bar l)],[]⟩=
  some (.x 0,⟨[(4,.ptr 104 0),(5,.ptr 105 0)],[(0,bg B y),(104,.rc [.int .i64 0,.str [],.int .i64 0,.byt [] .clip]),(105,.rc [.int .i64 role,.str C,.int .i64 F,.psl 130 1 0 l.length (some l.length)]),(130,.bar h)],[]⟩):=by
 intro n;induction n with
 |zero=>
  intro i l j L J I;have:i=l.length:=by omega
  refine⟨l,j,rfl, ?_⟩;subst this;rw[ai];simp only[go_sem,Q0,Q1,Q2,Q3,Q4,Q5,Q6,Q7,Q8,Q9,Qa,Qb,Qc,Qd,Qe,Qf,Qg,Qh,Qi,Qj,Qk,reduceCtorEq,reduceIte]
 |succ n O=>
  intro i l j L J I;have hi:i<l.length:=by omega
  have H:=bW i (by omega);have g:=f71 B j 256 (by omega) (by omega);rw[xnD]at g;obtain⟨h,y,E,z⟩:=O (i+1) (l.set i (ct ((dn B j 256:Nat):Int))) (cr B j) (by rw[cB];omega) (by rw[cB];omega) (by rw[cB];omega);rw[cB]at E z;refine⟨h,y,E, ?_⟩;rw[ai];simp only[bg]at g z ⊢;simp only[go_sem,Q0,Q1,Q2,Q3,Q4,Q5,Q6,Q7,Q8,Q9,Qa,Qb,Qc,Qd,Qe,Qf,Qg,Qh,Qi,Qj,Qk,reduceCtorEq,reduceIte,hi,H,g,jC,z]
theorem f72(B:t7)(j:Nat)(hB:B.length<=1000)(role:Int)(h1:1<=role)(h4:role<=4):∃(x:Img)(E:Nat),eX x=0/\x.role=role/\
 call T 72 [.ptr 0 0,.int .i64 role] [bg B j] 0=some ⟨.agg x.sv,[(0,bg B E)],[]⟩:=by
 have g1:=xnm;have g2:=f71 B j 5 (by omega) (by omega);have v2:=dI B j 5 (by omega);have Z:=f71 B (cr B j) 5 (by omega) (by omega);have v3:=dI B (cr B j) 5 (by omega);have g4:=f71 B (cr B (cr B j)) 9 (by omega) (by omega);have g5:=f71 B (cr B (cr B (cr B j))) 3 (by omega) (by omega);have v5:=dI B (cr B (cr B (cr B j))) 3 (by omega);rw[cz5]at g2 Z;rw[c9]at g4;rw[cz3]at g5;generalize dn B j 5=y at*;generalize dn B (cr B j) 5=w3 at*;generalize dn B (cr B (cr B j)) 9=w4 at*;generalize dn B (cr B (cr B (cr B j))) 3=w5 at*;simp only[bg]at g2 Z g4 g5
 have hN:(jx y [SV.str (fG 0),.str (fG 1),.str (fG 2),.str (fG 3),.str (fG 4)]).getD 0 .undef= .str (fG y):=by
  have hn:y=0\/y=1\/y=2\/y=3\/y=4:=by omega
  rcases hn with rfl|rfl|rfl|rfl|rfl<;>rfl
 have J:(y:Int)<5:=by omega
 have em:y*1=y:=db _;have a1:=FT y v2;have ew:af.wrap (1000000-(w5:Int))=1000000-(w5:Int):=w64 (by omega) (by omega)
 have a0:∀(H:Nat)(C:Int),0<=C->C<=1000000->∃(x:Img)(E:Nat),eX x=0/\x.role=role/\x.name=fG y/\x.ver=C/\
  (role=4->call T 123 [.ptr 0 0] [bg B H] 0=some ⟨.byt x.pay .no,[(0,bg B E)],[]⟩)/\
  (¬role=4->∃(j1 n:Nat),n<7/\call T 71 [.ptr 0 0,.int .i64 7] [bg B H] 0=some ⟨.int .i64 (n:Int),[(0,bg B j1)],[]⟩/\x.pay.length=n/\
   run T (.loop tJ) ⟨[(0,.ptr 0 0),(4,.ptr 104 0),(5,.ptr 105 0),(6,.int .i64 0)],[(0,bg B j1),(104,.rc [.int .i64 0,.str [],.int .i64 0,.byt [] .clip]),(105,.rc [.int .i64 role,.str (fG y),.int .i64 C,.psl 130 1 0 n (some n)]),(130,.bar (ao n 0))],[]⟩=
    some (.x 0,⟨[(4,.ptr 104 0),(5,.ptr 105 0)],[(0,bg B E),(104,.rc [.int .i64 0,.str [],.int .i64 0,.byt [] .clip]),(105,.rc [.int .i64 role,.str (fG y),.int .i64 C,.psl 130 1 0 n (some n)]),(130,.bar x.pay)],[]⟩)):=by
  intro H C a3 a2
  by_cases z:role=4
  ·obtain⟨ts,E,t1,t2,O⟩:=xnl B H hB
   refine⟨⟨role,fG y,C,jT ts⟩,E, ?_,rfl,rfl,rfl,fun _=>O,fun h=>absurd z h⟩;have hl:=uQ ts;have hL:=wJ ts t2;unfold eX;rw[if_neg (by show ¬role<1;omega),if_neg (by show ¬4<role;omega),if_neg (by show ¬C<0;omega),if_neg (by show ¬1000000<C;omega),if_neg (by show ¬Pr.nameB (fG y)=false;rw[a1];simp),if_neg (by show ¬(64:Int)<(jT ts).length;omega)];show(if role=4 then(if((fB (jT ts)).length:Int)=0 then 40 else 0)else 0)=(0:Int);rw[if_pos z,hL,if_neg];rw[aS];omega
  ·have g7:=f71 B H 7 (by omega) (by omega)
   have v7:=dI B H 7 (by omega);rw[show((7:Nat):Int)=7 from rfl]at g7;obtain⟨l',E,q1,q2⟩:=l72 B hB role C (fG y) (dn B H 7) 0 (ao (dn B H 7) 0) (cr B H) (by rw[bQ];rfl) (bH _) (by rw[bQ];omega);rw[bQ]at q1 q2;refine⟨⟨role,fG y,C,l'⟩,E, ?_,rfl,rfl,rfl,fun h=>absurd h z,fun _=>⟨cr B H,dn B H 7,v7,g7,q1,q2⟩⟩;unfold eX;rw[if_neg (by show ¬role<1;omega),if_neg (by show ¬4<role;omega),if_neg (by show ¬C<0;omega),if_neg (by show ¬1000000<C;omega),if_neg (by show ¬Pr.nameB (fG y)=false;rw[a1];simp),if_neg (by show ¬(64:Int)<l'.length;omega)];show(if role=4 then(if((fB l').length:Int)=0 then 40 else 0)else 0)=(0:Int);rw[if_neg z]
 by_cases p4:w4=8
 ·have F:(w4:Int)=8:=by omega
  obtain⟨⟨xr,xn,xv,I⟩,E,e0,e1,e2,e3,e4,e5⟩:=a0 (cr B (cr B (cr B (cr B j)))) (1000000-(w5:Int)) (by omega) (by omega);simp only at e1 e2 e3 e4 e5;subst e1 e2 e3;refine⟨_,E,e0,rfl, ?_⟩;rw[an xlv]
  by_cases z:xr=4
  ·have t:=e4 z
   simp only[bg,Img.sv]at t ⊢;simp only[go_sem,Q0,Q1,Q2,Q3,Q4,Q5,Q6,Q7,Q8,Q9,Qa,Qb,Qc,Qd,Qe,Qf,Qg,Qh,Qi,Qj,Qk,reduceCtorEq,reduceIte,bg,g1,Ez,g2,jC,Z,g4,g5,F,ew,z,hN,J,em,t,xa4]
  ·obtain⟨j1,n,hn,t1,t2,O⟩:=e5 z
   have U:I.length=n:=t2;have Q:n<=I.length:=by omega
   have hq:dd n I=I:=by rw[<-U,bi]
   have L:(n:Int)<7:=by omega
   have W:(n:Int)<=140737488355328:=by omega
   simp only[bg,Img.sv]at t1 O ⊢;simp only[go_sem,Q0,Q1,Q2,Q3,Q4,Q5,Q6,Q7,Q8,Q9,Qa,Qb,Qc,Qd,Qe,Qf,Qg,Qh,Qi,Qj,Qk,reduceCtorEq,reduceIte,bg,g1,Ez,g2,jC,Z,g4,g5,F,ew,z,hN,J,em,t1,L,W,O,Q,hq]
 ·have F:¬(w4:Int)=8:=by omega
  obtain⟨⟨xr,xn,xv,I⟩,E,e0,e1,e2,e3,e4,e5⟩:=a0 (cr B (cr B (cr B j))) (w3:Int) (by omega) (by omega);simp only at e1 e2 e3 e4 e5;subst e1 e2 e3;refine⟨_,E,e0,rfl, ?_⟩;rw[an xlv]
  by_cases z:xr=4
  ·have t:=e4 z
   simp only[bg,Img.sv]at t ⊢;simp only[go_sem,Q0,Q1,Q2,Q3,Q4,Q5,Q6,Q7,Q8,Q9,Qa,Qb,Qc,Qd,Qe,Qf,Qg,Qh,Qi,Qj,Qk,reduceCtorEq,reduceIte,bg,g1,Ez,g2,jC,Z,g4,F,z,hN,J,em,t,xa4]
  ·obtain⟨j1,n,hn,t1,t2,O⟩:=e5 z
   have U:I.length=n:=t2;have Q:n<=I.length:=by omega
   have hq:dd n I=I:=by rw[<-U,bi]
   have L:(n:Int)<7:=by omega
   have W:(n:Int)<=140737488355328:=by omega
   simp only[bg,Img.sv]at t1 O ⊢;simp only[go_sem,Q0,Q1,Q2,Q3,Q4,Q5,Q6,Q7,Q8,Q9,Qa,Qb,Qc,Qd,Qe,Qf,Qg,Qh,Qi,Qj,Qk,reduceCtorEq,reduceIte,bg,g1,Ez,g2,jC,Z,g4,F,z,hN,J,em,t1,L,W,O,Q,hq]
theorem DF(l:List Img)(i:Nat)(h:i<l.length):l.getD i im0∈l:=by rw[aa,ab h];exact bx _
theorem jz{α:Type}(l:List α)(x d:α)(i:Nat)(h:i<l.length):(l++ [x]).getD i d=l.getD i d:=by rw[aa,aa,bc h]
theorem ol{α:Type}(l:List α)(x d:α):(l++ [x]).getD l.length d=x:=by rw[aa,bq (aN _),Nat.sub_self];rfl
structure ChP(l:List Img)(role:Int):Prop where
 ok:∀i,i<l.length->eX (l.getD i im0)=0
 le:∀i,i<l.length->(l.getD i im0).role<=role
 ord:∀i,i+1<l.length->(l.getD i im0).role<=(l.getD (i+1) im0).role
 dup:∀i,i<l.length->∀k,k<i->(l.getD k im0).role=(l.getD i im0).role->(l.getD k im0).name≠(l.getD i im0).name
def agn(x:Img)(l:List Img):Bool:=l.any fun y=>decide (y.role=x.role)&&decide (y.name=x.name)
theorem ChP.snoc{l:List Img}{role:Int}(h:ChP l role){x:Img}(J:eX x=0)(E:x.role=role)(C:agn x l=false):ChP (l++ [x]) role:=by
 have F:(l++ [x]).length=l.length+1:=by simp
 refine⟨fun i hi=> ?_,fun i hi=> ?_,fun i hi=> ?_,fun i hi k z=> ?_⟩
 ·rcases bO i l.length with y|y
  ·rw[jz l x im0 i y];exact h.ok i y
  ·rw[show i=l.length from by omega,ol];exact J
 ·rcases bO i l.length with y|y
  ·rw[jz l x im0 i y];exact h.le i y
  ·rw[show i=l.length from by omega,ol,E];exact Int.le_refl _
 ·rw[jz l x im0 i (by omega)]
  rcases bO (i+1) l.length with y|y
  ·rw[jz l x im0 (i+1) y];exact h.ord i y
  ·rw[show i+1=l.length from by omega,ol,E];exact h.le i (by omega)
 ·rcases bO i l.length with y|y
  ·rw[jz l x im0 i y,jz l x im0 k (by omega)];exact h.dup i y k z
  ·rw[show i=l.length from by omega]at z ⊢
   rw[ol,jz l x im0 k z];intro H I;unfold agn at C;rw[List.any_eq_false]at C;have:=C (l.getD k im0) (DF l k z);rw[decide_eq_true H,decide_eq_true I]at this;exact this rfl
theorem xmv(B:t7)(j:Nat)(l:List Img)(x:Img)(role n:Int)(W:l.length<=100):∀(k i:Nat)(C:Bool),l.length-i=k->i<=l.length->
 run T (.loop xY) ⟨[(3,.ptr 12100 0),(4,.lst 4 (ic l) (.id 104)),(5,.int .i64 role),(6,.int .i64 n),(7,.ptr 107 0),(8,.bool C),(9,.int .i64 i)],[(107,.rc x.sv),(12100,bg B j)],[104]⟩=
 some (.x 4,⟨[(3,.ptr 12100 0),(4,.lst 4 (ic l) (.id 104)),(5,.int .i64 role),(6,.int .i64 n),(7,.ptr 107 0),(8,.bool (C||agn x (l.drop i)))],[(107,.rc x.sv),(12100,bg B j)],[104]⟩):=by
 intro k;induction k with
 |zero=>
  intro i C O J;have:i=l.length:=by omega
  subst this;have z:=gF l;obtain⟨a,b,c,d⟩:=x;simp only[bg,Img.sv]at*;rw[ai,ba];simp only[go_sem,Q0,Q1,Q2,Q3,Q4,Q5,Q6,Q7,Q8,Q9,Qa,Qb,Qc,Qd,Qe,Qf,Qg,Qh,Qi,Qj,Qk,reduceCtorEq,reduceIte,z,agn,List.any_nil,Bool.or_false]
 |succ k U=>
  intro i C O J;have hi:i<l.length:=by omega
  have E:=bW i (by omega);have h:=U (i+1) (C||(decide ((l.getD i im0).role=x.role)&&decide ((l.getD i im0).name=x.name))) (by omega) (by omega);have z:=gF l;have F:=ma l i hi;have hd:l.drop i=l.getD i im0::l.drop (i+1):=by rw[aM hi,aa,ab hi];rfl
  have I:agn x (l.drop i)=((decide ((l.getD i im0).role=x.role)&&decide ((l.getD i im0).name=x.name))||agn x (l.drop (i+1))):=by rw[hd];rfl
  rw[I,<-Bool.or_assoc];rw[ai];generalize agn x (l.drop (i+1))=R at*;generalize l.getD i im0=y at*;obtain⟨a,b,c,d⟩:=x;obtain⟨Q,L,c2,d2⟩:=y;simp only[bg,Img.sv]at*;cases C with
  |true=>simp only[Bool.true_or]at h ⊢;simp only[go_sem,Q0,Q1,Q2,Q3,Q4,Q5,Q6,Q7,Q8,Q9,Qa,Qb,Qc,Qd,Qe,Qf,Qg,Qh,Qi,Qj,Qk,reduceCtorEq,reduceIte,hi,E,z,F,h]
  |false=>
   by_cases p1:Q=a
   ·by_cases H:L=b
    ·rw[decide_eq_true p1,decide_eq_true H]at h ⊢
     simp only[Bool.and_self,Bool.false_or,Bool.true_or]at h ⊢;simp only[go_sem,Q0,Q1,Q2,Q3,Q4,Q5,Q6,Q7,Q8,Q9,Qa,Qb,Qc,Qd,Qe,Qf,Qg,Qh,Qi,Qj,Qk,reduceCtorEq,reduceIte,hi,E,z,F,p1,H,h]
    ·rw[decide_eq_true p1,decide_eq_false H]at h ⊢
     simp only[Bool.and_false,Bool.false_or]at h ⊢;simp only[go_sem,Q0,Q1,Q2,Q3,Q4,Q5,Q6,Q7,Q8,Q9,Qa,Qb,Qc,Qd,Qe,Qf,Qg,Qh,Qi,Qj,Qk,reduceCtorEq,reduceIte,hi,E,z,F,p1,H,h]
   ·rw[decide_eq_false p1]at h ⊢
    simp only[Bool.false_and,Bool.false_or]at h ⊢;simp only[go_sem,Q0,Q1,Q2,Q3,Q4,Q5,Q6,Q7,Q8,Q9,Qa,Qb,Qc,Qd,Qe,Qf,Qg,Qh,Qi,Qj,Qk,reduceCtorEq,reduceIte,hi,E,z,F,p1,h]
theorem rC(l:List Img)(x:Img):ic l++ [x.sv]=ic (l++ [x]):=by rw[ic,ic,cV];rfl
theorem GG{x:Img}{l:List Img}(h:agn x l=true):∃i,i<l.length/\(l.getD i im0).role=x.role:=by unfold agn at h;rw[List.any_eq_true]at h;obtain⟨y,z,h⟩:=h;obtain⟨i,hi,rfl⟩:=bY z;refine⟨i,hi, ?_⟩;rw[az]at h;rw[aa,ab hi];exact of_decide_eq_true h.1
theorem xad(B:t7)(hB:B.length<=1000)(role:Int)(r1:1<=role)(r4:role<=4):∀(n:Nat)(l:List Img)(j:Nat),l.length+n<=8->ChP l role->
 ∃r C,ChP (l++r) role/\r.length<=n/\(1<=n->∃i,i<(l++r).length/\((l++r).getD i im0).role=role)/\
 run T (.loop xX) ⟨[(3,.ptr 12100 0),(4,.lst 4 (ic l) (.id 104)),(5,.int .i64 role),(6,.int .i64 (n:Int))],[(12100,bg B j)],[104]⟩=
  some (.x 2,⟨[(3,.ptr 12100 0),(4,.lst 4 (ic (l++r)) (.id 104)),(5,.int .i64 role)],[(12100,bg B C)],[104]⟩):=by
 intro n;induction n with
 |zero=>intro l j U E;refine⟨[],j,by rw[bw];exact E,bH _,fun h=>absurd h (by omega), ?_⟩;rw[bw,ai];simp only[bg];simp only[go_sem,Q0,Q1,Q2,Q3,Q4,Q5,Q6,Q7,Q8,Q9,Qa,Qb,Qc,Qd,Qe,Qf,Qg,Qh,Qi,Qj,Qk,reduceCtorEq,reduceIte]
 |succ n L=>
  intro l j U E;obtain⟨x,I,W,H,g⟩:=f72 B j hB role r1 r4;have y:=xmv B I l x role ((n+1:Nat):Int) (by omega) l.length 0 false (by omega) (bH _);have Q:(0:Int)<((n+1:Nat):Int):=by omega
  have J:af.wrap (((n+1:Nat):Int)-1)=(n:Int):=wZ (by omega)
  have Z:=gF l;have hs:=rC l x;have c1:(l.length+1)*56<=140737488355328:=by omega
  rw[aV,Bool.false_or,show((0:Nat):Int)=0 from rfl]at y;cases ha:agn x l with
  |true=>
   rw[ha]at y;obtain⟨r,C,F,q2,O,z⟩:=L l I (by omega) E;refine⟨r,C,F,by omega,fun _=> ?_, ?_⟩
   ·obtain⟨i,hi,e⟩:=GG ha
    refine⟨i,by rw[ac];omega, ?_⟩;rw[aa,bc hi,<-aa,e,H]
   ·rw[ai]
    obtain⟨a,b,c,d⟩:=x;simp only[bg,Img.sv]at g y z hs ⊢;simp only[go_sem,Q0,Q1,Q2,Q3,Q4,Q5,Q6,Q7,Q8,Q9,Qa,Qb,Qc,Qd,Qe,Qf,Qg,Qh,Qi,Qj,Qk,reduceCtorEq,reduceIte,Q,g,xlG,J,y,z]
  |false=>
   rw[ha]at y;obtain⟨r,C,F,q2,O,z⟩:=L (l++ [x]) I (by rw[ac,aH];omega) (E.snoc W H ha);rw[av]at F O z;refine⟨[x]++r,C,F,by rw[ac,aH];omega,fun _=> ?_, ?_⟩
   ·refine⟨l.length,by rw[ac,ac,aH];omega, ?_⟩
    rw[aa,bq (aN _),Nat.sub_self];exact H
   ·rw[ai]
    obtain⟨a,b,c,d⟩:=x;rw[<-av,<-rC]at*;simp only[bg,Img.sv]at g y z ⊢;simp only[go_sem,Q0,Q1,Q2,Q3,Q4,Q5,Q6,Q7,Q8,Q9,Qa,Qb,Qc,Qd,Qe,Qf,Qg,Qh,Qi,Qj,Qk,reduceCtorEq,reduceIte,Q,g,xlG,J,y,Z,c1,z]
theorem tW{l r:List Img}{c:Int}(h:∃i,i<l.length/\(l.getD i im0).role=c):∃i,i<(l++r).length/\((l++r).getD i im0).role=c:=by obtain⟨i,hi,e⟩:=h;refine⟨i,by rw[ac];omega, ?_⟩;rw[aa,bc hi,<-aa,e]
theorem xac(B:t7)(J:B.length<=1000)(role:Int)(r1:1<=role)(Q:role<=4)(l:List Img)(j:Nat)(U:l.length+2<=8)(I:ChP l role):
 ∃r C,ChP (l++r) role/\r.length<=2/\(role=1\/role=3->∃i,i<(l++r).length/\((l++r).getD i im0).role=role)/\
 run T (.loop qf) ⟨[(3,.ptr 12100 0),(4,.lst 4 (ic l) (.id 104)),(5,.int .i64 role)],[(12100,bg B j)],[104]⟩=
 run T (.loop qf) ⟨[(3,.ptr 12100 0),(4,.lst 4 (ic (l++r)) (.id 104)),(5,.int .i64 (role+1))],[(12100,bg B C)],[104]⟩:=by
 have z:=f71 B j 3 (by omega) (by omega);have F:=f71 B (cr B j) 2 (by omega) (by omega);have v1:=dI B j 3 (by omega);have W:=dI B (cr B j) 2 (by omega);rw[cz3]at z;rw[c2]at F;have e:af.wrap (1+((dn B (cr B j) 2:Nat):Int))=((1+dn B (cr B j) 2:Nat):Int):=wZ (by omega)
 have O:role=1\/role=2\/role=3\/role=4:=by omega
 rcases O with rfl|rfl|rfl|rfl
 ·obtain⟨r,C,E,L,H,y⟩:=xad B J 1 (by decide) (by decide) (1+dn B (cr B j) 2) l (cr B (cr B j)) (by omega) I
  refine⟨r,C,E,by omega,fun _=>H (by omega), ?_⟩;rw[ai];simp only[bg]at z F y ⊢;simp only[go_sem,Q0,Q1,Q2,Q3,Q4,Q5,Q6,Q7,Q8,Q9,Qa,Qb,Qc,Qd,Qe,Qf,Qg,Qh,Qi,Qj,Qk,reduceCtorEq,reduceIte,z,F,jC,e,y];rfl
 ·obtain⟨r,C,E,L,H,y⟩:=xad B J 2 (by decide) (by decide) (dn B j 3) l (cr B j) (by omega) I
  refine⟨r,C,E,by omega,fun h=>absurd h (by decide), ?_⟩;rw[ai];simp only[bg]at z F y ⊢;simp only[go_sem,Q0,Q1,Q2,Q3,Q4,Q5,Q6,Q7,Q8,Q9,Qa,Qb,Qc,Qd,Qe,Qf,Qg,Qh,Qi,Qj,Qk,reduceCtorEq,reduceIte,z,jC,y];rfl
 ·obtain⟨r,C,E,L,H,y⟩:=xad B J 3 (by decide) (by decide) (1+dn B (cr B j) 2) l (cr B (cr B j)) (by omega) I
  refine⟨r,C,E,by omega,fun _=>H (by omega), ?_⟩;rw[ai];simp only[bg]at z F y ⊢;simp only[go_sem,Q0,Q1,Q2,Q3,Q4,Q5,Q6,Q7,Q8,Q9,Qa,Qb,Qc,Qd,Qe,Qf,Qg,Qh,Qi,Qj,Qk,reduceCtorEq,reduceIte,z,F,jC,e,y];rfl
 ·obtain⟨r,C,E,L,H,y⟩:=xad B J 4 (by decide) (by decide) (dn B j 3) l (cr B j) (by omega) I
  refine⟨r,C,E,by omega,fun h=>absurd h (by decide), ?_⟩;rw[ai];simp only[bg]at z F y ⊢;simp only[go_sem,Q0,Q1,Q2,Q3,Q4,Q5,Q6,Q7,Q8,Q9,Qa,Qb,Qc,Qd,Qe,Qf,Qg,Qh,Qi,Qj,Qk,reduceCtorEq,reduceIte,z,jC,y];rfl
theorem yy{l:List Img}{a b:Int}(h:ChP l a)(y:a<=b):ChP l b:=⟨h.ok,fun i hi=>Int.le_trans (h.le i hi) y,h.ord,h.dup⟩
theorem f28(h:t7):∃l,jD l/\call T 28 [.byt h .no] [] 0=some ⟨.lst 4 (ic l) .no,[],[]⟩:=by
 have F:(h.take 200).length<=1000:=by rw[aw];omega
 have g:=f29 h 200;rw[xnE]at g;generalize h.take 200=B at*;have h0:ChP [] 1:=⟨fun i hi=>absurd hi (by simp),fun i hi=>absurd hi (by simp),fun i hi=>absurd hi (by simp),fun i hi=>absurd hi (by simp)⟩;obtain⟨y,U,p1,n1,w1,z⟩:=xac B F 1 (by decide) (by decide) [] 0 (by decide) h0;rw[aG]at p1 w1 z;obtain⟨C,j2,p2,n2,w2,L⟩:=xac B F 2 (by decide) (by decide) y U (by omega) (yy p1 (by decide));obtain⟨E,Z,W,n3,w3,I⟩:=xac B F 3 (by decide) (by decide) (y++C) j2 (by rw[ac];omega) (yy p2 (by decide));obtain⟨J,Q,H,n4,w4,O⟩:=xac B F 4 (by decide) (by decide) (y++C++E) Z (by simp only[ac];omega) (yy W (by decide));refine⟨y++C++E++J,⟨?_, ?_,H.ok,H.ord,H.dup,tW (tW (tW (w1 (Or.inl rfl)))),tW (w3 (Or.inr rfl))⟩, ?_⟩
 ·obtain⟨i,hi,_⟩:=w1 (Or.inl rfl)
  simp only[ac];omega
 ·simp only[ac];omega
 ·rw[an xov]
  rw[show(1:Int)+1=2 from rfl]at z;rw[show(2:Int)+1=3 from rfl]at L;rw[show(3:Int)+1=4 from rfl]at I;rw[show(4:Int)+1=5 from rfl]at O
  have t5:run T (.loop qf) ⟨[(3,.ptr 12100 0),(4,.lst 4 (ic (y++C++E++J)) (.id 104)),(5,.int .i64 5)],[(12100,bg B Q)],[104]⟩=some (.x 0,⟨[(4,.lst 4 (ic (y++C++E++J)) (.id 104))],[(12100,bg B Q)],[104]⟩):=by rw[ai];simp only[bg,go_sem,Q0,Q1,Q2,Q3,Q4,Q5,Q6,Q7,Q8,Q9,Qa,Qb,Qc,Qd,Qe,Qf,Qg,Qh,Qi,Qj,Qk,reduceCtorEq,reduceIte]
  rw[t5]at O;rw[O]at I;rw[I]at L;rw[L]at z;have e0:ic []=[]:=rfl;rw[e0]at z;simp only[bg,c0,av]at g z;simp only[go_sem,Q0,Q1,Q2,Q3,Q4,Q5,Q6,Q7,Q8,Q9,Qa,Qb,Qc,Qd,Qe,Qf,Qg,Qh,Qi,Qj,Qk,reduceCtorEq,reduceIte,g,xlK,z,av]

theorem f33(role:Int):call T 33 [.int .i64 role] [] 0=some ⟨.int .i64 (zP role),[],[]⟩:=by
 rw[an xos];unfold zP
 by_cases y:role=1
 ·subst y;simp only[go_sem,Q0,Q1,Q2,Q3,Q4,Q5,Q6,Q7,Q8,Q9,Qa,Qb,Qc,Qd,Qe,Qf,Qg,Qh,Qi,Qj,Qk,reduceCtorEq,reduceIte,oW]
 by_cases h:role=2
 ·subst h;simp only[go_sem,Q0,Q1,Q2,Q3,Q4,Q5,Q6,Q7,Q8,Q9,Qa,Qb,Qc,Qd,Qe,Qf,Qg,Qh,Qi,Qj,Qk,reduceCtorEq,reduceIte,oW]
 by_cases z:role=3
 ·subst z;simp only[go_sem,Q0,Q1,Q2,Q3,Q4,Q5,Q6,Q7,Q8,Q9,Qa,Qb,Qc,Qd,Qe,Qf,Qg,Qh,Qi,Qj,Qk,reduceCtorEq,reduceIte,oW]
 by_cases C:role=4
 ·subst C;simp only[go_sem,Q0,Q1,Q2,Q3,Q4,Q5,Q6,Q7,Q8,Q9,Qa,Qb,Qc,Qd,Qe,Qf,Qg,Qh,Qi,Qj,Qk,reduceCtorEq,reduceIte,oW]
 by_cases H:role=0
 ·subst H;simp only[go_sem,Q0,Q1,Q2,Q3,Q4,Q5,Q6,Q7,Q8,Q9,Qa,Qb,Qc,Qd,Qe,Qf,Qg,Qh,Qi,Qj,Qk,reduceCtorEq,reduceIte,oW]
 by_cases E:role<0
 ·simp only[go_sem,Q0,Q1,Q2,Q3,Q4,Q5,Q6,Q7,Q8,Q9,Qa,Qb,Qc,Qd,Qe,Qf,Qg,Qh,Qi,Qj,Qk,reduceCtorEq,reduceIte,y,h,z,C,E]
 ·have F:5<=role:=by omega
  simp only[go_sem,Q0,Q1,Q2,Q3,Q4,Q5,Q6,Q7,Q8,Q9,Qa,Qb,Qc,Qd,Qe,Qf,Qg,Qh,Qi,Qj,Qk,reduceCtorEq,reduceIte,y,h,z,C,E,F]
theorem f77(a b:t7):call T 77 [.byt a .no,.byt b .no] [] 0=some ⟨.bool (decide (a=b)),[],[]⟩:=by rw[an xnT];simp only[go_sem,Q0,Q1,Q2,Q3,Q4,Q5,Q6,Q7,Q8,Q9,Qa,Qb,Qc,Qd,Qe,Qf,Qg,Qh,Qi,Qj,Qk,reduceCtorEq,reduceIte]
def Rx(b:t7):Bool:=b.all fun c=> !(decide (c<32)||decide (126<c))
def nS(m:Bool)(d s:t7):Bool:=if(0:Int)<d.length then(m&&decide (d=s))else true
def xar(e:Ev):Bool:=
 if e.kind=1 then true
 else if e.kind=2 then(if e.data=[0,0,0,0]then nS true (e.dg.getD 0 []) (lA e.data)&&nS true (e.dg.getD 1 []) (sha e.data)else false)
 else if e.kind=3 then(if(e.data.length:Int)=0 then false else if Rx e.data=true then nS true (e.dg.getD 0 []) (lA e.data)&&nS true (e.dg.getD 1 []) (sha e.data)else false)
 else if e.kind=4 then nS true (e.dg.getD 0 []) (lA e.data)&&nS true (e.dg.getD 1 []) (sha e.data)
 else if e.kind=5 then nS false (e.dg.getD 0 []) []&&nS false (e.dg.getD 1 []) []
 else false
theorem xmp(O:SV)(m:Bool)(ob:List (Nat×aC))(b:t7)(J:b.length<=1000000000000):∀(n i:Nat),b.length-i=n->i<=b.length->
 run T (.loop xK) ⟨[(1,O),(3,.bool m),(34,.byt b .no),(35,.int .i64 b.length),(36,.int .i64 i)],ob,[]⟩=
 if Rx (b.drop i)=true then some (.x 1,⟨[(1,O),(3,.bool m)],ob,[]⟩)else some (.r,⟨[(2,.bool false)],ob,[]⟩):=by
 intro n;induction n with
 |zero=>
  intro i H F;have hi:i=b.length:=by omega
  subst hi;rw[ai,ba];simp only[go_sem,Q0,Q1,Q2,Q3,Q4,Q5,Q6,Q7,Q8,Q9,Qa,Qb,Qc,Qd,Qe,Qf,Qg,Qh,Qi,Qj,Qk,reduceCtorEq,reduceIte,Rx]
 |succ n I=>
  intro i H F;have hi:i<b.length:=by omega
  have y:=bW i (by omega);have h:=I (i+1) (by omega) (by omega);rw[ai,cH b i hi];unfold Rx at h ⊢;rw[iG];generalize C:b.getD i 0=c at*;generalize (jx (i+1) b).all _=q at*
  by_cases z:c<32
  ·simp only[go_sem,Q0,Q1,Q2,Q3,Q4,Q5,Q6,Q7,Q8,Q9,Qa,Qb,Qc,Qd,Qe,Qf,Qg,Qh,Qi,Qj,Qk,reduceCtorEq,reduceIte,hi,C,y,z]
  ·by_cases E:126<c
   ·simp only[go_sem,Q0,Q1,Q2,Q3,Q4,Q5,Q6,Q7,Q8,Q9,Qa,Qb,Qc,Qd,Qe,Qf,Qg,Qh,Qi,Qj,Qk,reduceCtorEq,reduceIte,hi,C,y,z,E]
   ·simp only[go_sem,Q0,Q1,Q2,Q3,Q4,Q5,Q6,Q7,Q8,Q9,Qa,Qb,Qc,Qd,Qe,Qf,Qg,Qh,Qi,Qj,Qk,reduceCtorEq,reduceIte,hi,C,y,z,E,h]
theorem xk5(
 m:Bool)(g k:Int)(d0 d1 b L J:t7)(U:b.length<=1000000)(O:m=true->L=lA b)(Q:m=true->J=sha b):
 run T (.loop xJ) ⟨[(1,.ptr 101 0),(3,.bool m),(53,.int .i64 2),(54,.int .i64 0)],[(101,.rc [.int .i64 g,.int .i64 k,.lst 1 [[.byt d0 .no],[.byt d1 .no]] .no,.byt b .no])],[]⟩=
 if(nS m d0 L&&nS m d1 J)=true then some (.x 3,⟨[],[(101,.rc [.int .i64 g,.int .i64 k,.lst 1 [[.byt d0 .no],[.byt d1 .no]] .no,.byt b .no])],[]⟩)
 else some (.r,⟨[(2,.bool false)],[(101,.rc [.int .i64 g,.int .i64 k,.lst 1 [[.byt d0 .no],[.byt d1 .no]] .no,.byt b .no])],[]⟩):=by
 have g0:=xmZ b (by omega);have F:=f90 b (by omega);have I:=f77 d0 (lA b);have H:=f77 d1 (sha b);have k1:af.wrap 1=1:=rfl;have k2:af.wrap 2=2:=rfl;unfold nS;cases m with
 |false=>
  by_cases z:(0:Int)<d0.length
  ·rw[ai];simp only[go_sem,Q0,Q1,Q2,Q3,Q4,Q5,Q6,Q7,Q8,Q9,Qa,Qb,Qc,Qd,Qe,Qf,Qg,Qh,Qi,Qj,Qk,reduceCtorEq,reduceIte,z]
  ·by_cases C:(0:Int)<d1.length
   ·iterate 2
     rw[ai];simp only[go_sem,Q0,Q1,Q2,Q3,Q4,Q5,Q6,Q7,Q8,Q9,Qa,Qb,Qc,Qd,Qe,Qf,Qg,Qh,Qi,Qj,Qk,reduceCtorEq,reduceIte,z,C,k1,k2]
   ·iterate 3
     rw[ai];simp only[go_sem,Q0,Q1,Q2,Q3,Q4,Q5,Q6,Q7,Q8,Q9,Qa,Qb,Qc,Qd,Qe,Qf,Qg,Qh,Qi,Qj,Qk,reduceCtorEq,reduceIte,z,C,k1,k2]
 |true=>
  rw[O rfl,Q rfl]
  by_cases z:(0:Int)<d0.length
  ·by_cases b1:d0=lA b
   ·have y:call T 77 [.byt d0 .no,.byt (lA b) .no] [] 0=some ⟨.bool true,[],[]⟩:=by rw[I,decide_eq_true b1]
    by_cases C:(0:Int)<d1.length
    ·by_cases E:d1=sha b
     ·have h:call T 77 [.byt d1 .no,.byt (sha b) .no] [] 0=some ⟨.bool true,[],[]⟩:=by rw[H,decide_eq_true E]
      rw[decide_eq_true b1,decide_eq_true E]
      iterate 3
       rw[ai];simp only[go_sem,Q0,Q1,Q2,Q3,Q4,Q5,Q6,Q7,Q8,Q9,Qa,Qb,Qc,Qd,Qe,Qf,Qg,Qh,Qi,Qj,Qk,reduceCtorEq,reduceIte,z,C,k1,k2,g0,F,y,h,xg,vI]
     ·have h:call T 77 [.byt d1 .no,.byt (sha b) .no] [] 0=some ⟨.bool false,[],[]⟩:=by rw[H,decide_eq_false E]
      rw[decide_eq_true b1,decide_eq_false E]
      iterate 2
       rw[ai];simp only[go_sem,Q0,Q1,Q2,Q3,Q4,Q5,Q6,Q7,Q8,Q9,Qa,Qb,Qc,Qd,Qe,Qf,Qg,Qh,Qi,Qj,Qk,reduceCtorEq,reduceIte,z,C,k1,k2,g0,F,y,h,xg,vI]
    ·rw[decide_eq_true b1]
     iterate 3
      rw[ai];simp only[go_sem,Q0,Q1,Q2,Q3,Q4,Q5,Q6,Q7,Q8,Q9,Qa,Qb,Qc,Qd,Qe,Qf,Qg,Qh,Qi,Qj,Qk,reduceCtorEq,reduceIte,z,C,k1,k2,g0,F,y,xg,vI]
   ·have y:call T 77 [.byt d0 .no,.byt (lA b) .no] [] 0=some ⟨.bool false,[],[]⟩:=by rw[I,decide_eq_false b1]
    rw[decide_eq_false b1];rw[ai];simp only[go_sem,Q0,Q1,Q2,Q3,Q4,Q5,Q6,Q7,Q8,Q9,Qa,Qb,Qc,Qd,Qe,Qf,Qg,Qh,Qi,Qj,Qk,reduceCtorEq,reduceIte,z,k1,k2,g0,F,y,xg,vI]
  ·by_cases C:(0:Int)<d1.length
   ·by_cases E:d1=sha b
    ·have h:call T 77 [.byt d1 .no,.byt (sha b) .no] [] 0=some ⟨.bool true,[],[]⟩:=by rw[H,decide_eq_true E]
     rw[decide_eq_true E]
     iterate 3
      rw[ai];simp only[go_sem,Q0,Q1,Q2,Q3,Q4,Q5,Q6,Q7,Q8,Q9,Qa,Qb,Qc,Qd,Qe,Qf,Qg,Qh,Qi,Qj,Qk,reduceCtorEq,reduceIte,z,C,k1,k2,g0,F,h,xg,vI]
    ·have h:call T 77 [.byt d1 .no,.byt (sha b) .no] [] 0=some ⟨.bool false,[],[]⟩:=by rw[H,decide_eq_false E]
     rw[decide_eq_false E]
     iterate 2
      rw[ai];simp only[go_sem,Q0,Q1,Q2,Q3,Q4,Q5,Q6,Q7,Q8,Q9,Qa,Qb,Qc,Qd,Qe,Qf,Qg,Qh,Qi,Qj,Qk,reduceCtorEq,reduceIte,z,C,k1,k2,g0,F,h,xg,vI]
   ·iterate 3
     rw[ai];simp only[go_sem,Q0,Q1,Q2,Q3,Q4,Q5,Q6,Q7,Q8,Q9,Qa,Qb,Qc,Qd,Qe,Qf,Qg,Qh,Qi,Qj,Qk,reduceCtorEq,reduceIte,z,C,k1,k2]
theorem two{α:Type}(l:List α)(d:α)(h:l.length=2):l=[l.getD 0 d,l.getD 1 d]:=by
 match l,h with
 |[a,b],_=>rfl
theorem f79(e:Ev)(hd:e.dg.length=2)(I:e.data.length<=1000000):call T 79 [.agg e.sv] [] 0=some ⟨.bool (xar e),[],[]⟩:=by
 obtain⟨g,k,F,b⟩:=e;simp only at hd I;rw[two F [] hd];generalize F.getD 0 []=d0;generalize F.getD 1 []=d1;clear hd;have Q:=xk5 false g k d0 d1 b [] [] I (fun h=>by cases h) (fun h=>by cases h);have C:=xk5 true g k d0 d1 b (lA b) (sha b) I (fun _=>rfl) (fun _=>rfl);have p:=xmp (.ptr 101 0) true [(101,.rc [.int .i64 g,.int .i64 k,.lst 1 [[.byt d0 .no],[.byt d1 .no]] .no,.byt b .no])] b (by omega) _ 0 rfl (by omega);have E:=f77 b [0,0,0,0];simp only[aB,aV]at p;have H:bls [d0,d1]=[[.byt d0 .no],[.byt d1 .no]]:=rfl;rw[an xnR];unfold xar Ev.sv;simp only[H,bZ,cz];generalize (nS false d0 []&&nS false d1 [])=z0 at*;generalize (nS true d0 (lA b)&&nS true d1 (sha b))=z1 at*
 by_cases L:k=1
 ·subst L;simp only[go_sem,Q0,Q1,Q2,Q3,Q4,Q5,Q6,Q7,Q8,Q9,Qa,Qb,Qc,Qd,Qe,Qf,Qg,Qh,Qi,Qj,Qk,reduceCtorEq,reduceIte]
 by_cases J:k=2
 ·subst J
  by_cases y:b=[0,0,0,0]
  ·rw[decide_eq_true y]at E
   cases z1<;>simp only[go_sem,Q0,Q1,Q2,Q3,Q4,Q5,Q6,Q7,Q8,Q9,Qa,Qb,Qc,Qd,Qe,Qf,Qg,Qh,Qi,Qj,Qk,reduceCtorEq,reduceIte,y,ao]at E C ⊢ <;>simp only[go_sem,Q0,Q1,Q2,Q3,Q4,Q5,Q6,Q7,Q8,Q9,Qa,Qb,Qc,Qd,Qe,Qf,Qg,Qh,Qi,Qj,Qk,reduceCtorEq,reduceIte,E,vI,C,ao]
  ·rw[decide_eq_false y]at E
   simp only[go_sem,Q0,Q1,Q2,Q3,Q4,Q5,Q6,Q7,Q8,Q9,Qa,Qb,Qc,Qd,Qe,Qf,Qg,Qh,Qi,Qj,Qk,reduceCtorEq,reduceIte,y,E,vI,ao]
 by_cases y:k=3
 ·subst y
  by_cases z:(b.length:Int)=0
  ·simp only[go_sem,Q0,Q1,Q2,Q3,Q4,Q5,Q6,Q7,Q8,Q9,Qa,Qb,Qc,Qd,Qe,Qf,Qg,Qh,Qi,Qj,Qk,reduceCtorEq,reduceIte,z]
  ·cases hp:Rx b with
   |true=>rw[if_pos hp]at p;cases z1<;>simp only[go_sem,Q0,Q1,Q2,Q3,Q4,Q5,Q6,Q7,Q8,Q9,Qa,Qb,Qc,Qd,Qe,Qf,Qg,Qh,Qi,Qj,Qk,reduceCtorEq,reduceIte]at C<;>simp only[go_sem,Q0,Q1,Q2,Q3,Q4,Q5,Q6,Q7,Q8,Q9,Qa,Qb,Qc,Qd,Qe,Qf,Qg,Qh,Qi,Qj,Qk,reduceCtorEq,reduceIte,z,p,C,hp]
   |false=>rw[if_neg (by rw[hp];simp)]at p;simp only[go_sem,Q0,Q1,Q2,Q3,Q4,Q5,Q6,Q7,Q8,Q9,Qa,Qb,Qc,Qd,Qe,Qf,Qg,Qh,Qi,Qj,Qk,reduceCtorEq,reduceIte,z,p,hp]
 by_cases z:k=4
 ·subst z
  cases z1<;>simp only[go_sem,Q0,Q1,Q2,Q3,Q4,Q5,Q6,Q7,Q8,Q9,Qa,Qb,Qc,Qd,Qe,Qf,Qg,Qh,Qi,Qj,Qk,reduceCtorEq,reduceIte]at C<;>simp only[go_sem,Q0,Q1,Q2,Q3,Q4,Q5,Q6,Q7,Q8,Q9,Qa,Qb,Qc,Qd,Qe,Qf,Qg,Qh,Qi,Qj,Qk,reduceCtorEq,reduceIte,C]
 by_cases O:k=5
 ·subst O
  cases z0<;>simp only[go_sem,Q0,Q1,Q2,Q3,Q4,Q5,Q6,Q7,Q8,Q9,Qa,Qb,Qc,Qd,Qe,Qf,Qg,Qh,Qi,Qj,Qk,reduceCtorEq,reduceIte]at Q<;>simp only[go_sem,Q0,Q1,Q2,Q3,Q4,Q5,Q6,Q7,Q8,Q9,Qa,Qb,Qc,Qd,Qe,Qf,Qg,Qh,Qi,Qj,Qk,reduceCtorEq,reduceIte,Q]
 simp only[go_sem,Q0,Q1,Q2,Q3,Q4,Q5,Q6,Q7,Q8,Q9,Qa,Qb,Qc,Qd,Qe,Qf,Qg,Qh,Qi,Qj,Qk,reduceCtorEq,reduceIte,L,J,y,z,O]
def okp(c:UInt8):Bool:= !(decide (c<32)||decide (126<c))
theorem xnf(l:t7)(c:UInt8):call T 138 [.byt l .no,.u8 c] [] 0=some ⟨.int .i64 (sS l c),[],[]⟩:=by rw[iV xjb];rfl
theorem xmM(l:t7)(J:l.length<=1000000000000):∀(n i:Nat),l.length-i=n->i<=l.length->
 run T (.loop yd) ⟨[(5,.byt l .no),(6,.int .i64 l.length),(7,.int .i64 i)],[],[]⟩=if(l.drop i).all okp=true then some (.x 0,⟨[],[],[]⟩)else some (.r,⟨[(2,.bool false)],[],[]⟩):=by
 intro n;induction n with
 |zero=>
  intro i H F;have hi:i=l.length:=by omega
  subst hi;rw[ai,ba];simp only[go_sem,Q0,Q1,Q2,Q3,Q4,Q5,Q6,Q7,Q8,Q9,Qa,Qb,Qc,Qd,Qe,Qf,Qg,Qh,Qi,Qj,Qk,reduceCtorEq,reduceIte]
 |succ n I=>
  intro i H F;have hi:i<l.length:=by omega
  have E:=bW i (by omega);have h:=I (i+1) (by omega) (by omega);rw[ai,cH l i hi,iG];unfold okp at h ⊢;generalize z:l.getD i 0=c at*;generalize List.all (jx (i+1) l) _=q at*
  by_cases y:c<32
  ·simp only[go_sem,Q0,Q1,Q2,Q3,Q4,Q5,Q6,Q7,Q8,Q9,Qa,Qb,Qc,Qd,Qe,Qf,Qg,Qh,Qi,Qj,Qk,reduceCtorEq,reduceIte,hi,z,y]
  ·by_cases C:126<c
   ·simp only[go_sem,Q0,Q1,Q2,Q3,Q4,Q5,Q6,Q7,Q8,Q9,Qa,Qb,Qc,Qd,Qe,Qf,Qg,Qh,Qi,Qj,Qk,reduceCtorEq,reduceIte,hi,z,y,C]
   ·simp only[go_sem,Q0,Q1,Q2,Q3,Q4,Q5,Q6,Q7,Q8,Q9,Qa,Qb,Qc,Qd,Qe,Qf,Qg,Qh,Qi,Qj,Qk,reduceCtorEq,reduceIte,hi,z,E,y,C,h]
theorem xne(l:t7)(y:l.length<=1000000000000):call T 139 [.byt l .no] [] 0=some ⟨.bool (l.all okp),[],[]⟩:=by
 have h:=xmM l y _ 0 rfl (by omega);simp only[aB,aV]at h;rw[an xja];cases hq:l.all okp with
 |true=>rw[if_pos hq]at h;simp only[go_sem,Q0,Q1,Q2,Q3,Q4,Q5,Q6,Q7,Q8,Q9,Qa,Qb,Qc,Qd,Qe,Qf,Qg,Qh,Qi,Qj,Qk,reduceCtorEq,reduceIte,h,hq]
 |false=>rw[if_neg (by rw[hq];simp)]at h;simp only[go_sem,Q0,Q1,Q2,Q3,Q4,Q5,Q6,Q7,Q8,Q9,Qa,Qb,Qc,Qd,Qe,Qf,Qg,Qh,Qi,Qj,Qk,reduceCtorEq,reduceIte,h,hq]
theorem rD(l:t7)(c:UInt8):(sS l c= -1/\c∉l)\/∃k:Nat,sS l c=k/\k<l.length/\l=l.take k++c::l.drop (k+1)/\c∉l.take k:=by
 have e:sS l c=Lib.indexByte l c:=Lib.firstIdx_eq _ _;rw[e];clear e;induction l with
 |nil=>exact .inl ⟨rfl,cC⟩
 |cons b l E=>
  unfold Lib.indexByte
  by_cases h:b=c
  ·subst h
   exact .inr ⟨0,by simp,by simp,by simp,by simp⟩
  ·have C:¬(b==c)=true:=by simpa using h
   rw[if_neg C];rcases E with⟨z,y⟩|⟨k,z,y,h3,h4⟩
   ·rw[z]
    refine .inl ⟨rfl, ?_⟩;rw[al,not_or];exact⟨fun e=>h e.symm,y⟩
   ·rw[z]
    refine .inr ⟨k+1, ?_,by simpa using y, ?_, ?_⟩
    ·have:¬((k:Int)== -1)=true:=by simp
     rw[if_neg this];omega
    ·rw[List.take_succ_cons,List.drop_succ_cons,bf,<-h3]
    ·rw[List.take_succ_cons,al,not_or]
     exact⟨fun e=>h e.symm,h4⟩
def lnP:Nat->t7->List t7->List t7
 |0,_,o=>o
 |n+1,r,o=>if r=[]then o else if sS r 10<1 then []else if o.length=4 then []else if(r.take (sS r 10).toNat).all okp=true then lnP n (r.drop ((sS r 10).toNat+1)) (o++ [r.take (sS r 10).toNat])else []
theorem yw:∀(a:t7)(o:List t7)(l r:t7),(10:UInt8)∉a->lnF (a++r) o l=if a.all okp=true then lnF r o (l++a)else none
 |[],o,l,r,_=>by simp
 |c::a,o,l,r,h=>by
  rw[al,not_or]at h;rw[bf,iG]
  conv=>lhs;unfold lnF
  rw[if_neg (fun e=>h.1 e.symm),yw a o (l++ [c]) r h.2,av,eo];generalize List.all a okp=q;generalize lnF r o (l++c::a)=z;unfold okp
  by_cases y:c<32
  ·simp[y]
  ·by_cases C:126<c
   ·simp[y,C]
   ·simp[y,C]
def lnW(p:Option (List t7×t7)):List t7:=match p with
 |some (o,l)=>if(0:Int)<l.length then []else o
 |none=> []
theorem OJ:∀(n:Nat)(r:t7)(o:List t7),r.length<n->o.length<=4->lnP n r o=lnW (lnF r o [])
 |0,r,o,h,_=>by omega
 |n+1,r,o,h,ho=>by
  unfold lnP
  by_cases y:r=[]
  ·subst y
   rw[if_pos rfl];simp[lnF,lnW]
  ·rw[if_neg y]
   rcases rD r 10 with⟨C,H⟩|⟨k,C,H,h3,h4⟩
   ·rw[C,if_pos (by omega)]
    have e:lnF r o []=if r.all okp=true then some (o,r)else none:=by have:=yw r o [] [] H;rw[bw]at this;rw[this];simp[lnF]
    rw[e]
    have J:(0:Int)<r.length:=by have:0<r.length:=mi.2 y;omega
    split
    ·simp only[lnW];rw[if_pos J]
    ·rfl
   ·rw[C,Int.toNat_natCast]
    have e:lnF r o []=if(r.take k).all okp=true then lnF (10::r.drop (k+1)) o (r.take k)else none:=by
     conv=>lhs;rw[h3]
     rw[yw _ o [] _ h4,aG]
    rw[e];have L:(r.take k).length=k:=by rw[aw];omega
    unfold lnF;rw[if_pos rfl,L]
    by_cases O:k=0
    ·have E:(k:Int)<1:=by omega
     have z:(k:Int)=0:=by omega
     simp only[if_pos E,if_pos z,ite_self];rfl
    ·have E:¬(k:Int)<1:=by omega
     have z:¬(k:Int)=0:=by omega
     simp only[if_neg E,if_neg z]
     by_cases I:o.length=4
     ·have F:(4:Int)<=o.length:=by omega
      simp only[if_pos I,if_pos F,ite_self];rfl
     ·have F:¬(4:Int)<=o.length:=by omega
      simp only[if_neg I,if_neg F];split
      ·exact OJ n _ _ (by rw[aI];omega) (by rw[ac,aH];omega)
      ·rfl
theorem l98(I:Int)(J:t7)(L:Int)(p:t7)(hp:p.length<=1000000000000):∀(n:Nat)(r:t7)(o:List t7),r.length<n->r.length<=p.length->o.length<=4->
 ((
  ∃Q,lnP n r o=Q/\run T (.loop D8) ⟨[(3,.lst 1 (bls o) (.id 103)),(4,.byt r .no)],[(101,.rc [.int .i64 I,.str J,.int .i64 L,.byt p .no])],[103]⟩=some (.x 0,⟨[(3,.lst 1 (bls Q) (.id 103))],[(101,.rc [.int .i64 I,.str J,.int .i64 L,.byt p .no])],[103]⟩))\/
  (lnP n r o=[]/\run T (.loop D8) ⟨[(3,.lst 1 (bls o) (.id 103)),(4,.byt r .no)],[(101,.rc [.int .i64 I,.str J,.int .i64 L,.byt p .no])],[103]⟩=some (.r,⟨[(2,.lst 1 [] .clip)],[(101,.rc [.int .i64 I,.str J,.int .i64 L,.byt p .no])],[103]⟩))):=by
 intro n;induction n with
 |zero=>intro r o h0;omega
 |succ n ih=>
  intro r o h0 h1 h2;have O:=lm o;unfold lnP
  by_cases Z:r=[]
  ·subst Z
   rw[if_pos rfl];refine .inl ⟨o,rfl, ?_⟩;rw[ai];simp only[go_sem,Q0,Q1,Q2,Q3,Q4,Q5,Q6,Q7,Q8,Q9,Qa,Qb,Qc,Qd,Qe,Qf,Qg,Qh,Qi,Qj,Qk,reduceCtorEq,reduceIte]
  ·rw[if_neg Z]
   have y:0<r.length:=mi.2 Z;have h:(0:Int)<r.length:=by omega
   have g:=xnf r 10;rcases rD r 10 with⟨h3,_⟩|⟨k,h3,h4,_,_⟩
   ·rw[h3]at g ⊢
    rw[if_pos (by omega)];refine .inr ⟨rfl, ?_⟩;rw[ai];simp only[go_sem,Q0,Q1,Q2,Q3,Q4,Q5,Q6,Q7,Q8,Q9,Qa,Qb,Qc,Qd,Qe,Qf,Qg,Qh,Qi,Qj,Qk,reduceCtorEq,reduceIte,y,h,g,ub]
   ·rw[h3]at g ⊢
    rw[Int.toNat_natCast]
    by_cases k0:k=0
    ·subst k0
     rw[if_pos (by omega)];refine .inr ⟨rfl, ?_⟩;rw[ai];simp only[go_sem,Q0,Q1,Q2,Q3,Q4,Q5,Q6,Q7,Q8,Q9,Qa,Qb,Qc,Qd,Qe,Qf,Qg,Qh,Qi,Qj,Qk,reduceCtorEq,reduceIte,y,h,g,ub,aB]
    ·have k1:¬(k:Int)<1:=by omega
     have k2:k<=r.length:=by omega
     have C:(k:Int)<=r.length:=by omega
     have F:=xne (r.take k) (by rw[aw];omega);rw[if_neg k1]
     by_cases E:o.length=4
     ·rw[if_pos E]
      have z:(o.length:Int)=4:=by omega
      refine .inr ⟨rfl, ?_⟩;rw[ai];simp only[go_sem,Q0,Q1,Q2,Q3,Q4,Q5,Q6,Q7,Q8,Q9,Qa,Qb,Qc,Qd,Qe,Qf,Qg,Qh,Qi,Qj,Qk,reduceCtorEq,reduceIte,y,h,g,ub,k1,O,E,z]
     ·rw[if_neg E]
      have z:¬(o.length:Int)=4:=by omega
      cases hq:(r.take k).all okp with
      |false=>rw[if_neg (by simp)];rw[hq]at F;refine .inr ⟨rfl, ?_⟩;rw[ai];simp only[go_sem,Q0,Q1,Q2,Q3,Q4,Q5,Q6,Q7,Q8,Q9,Qa,Qb,Qc,Qd,Qe,Qf,Qg,Qh,Qi,Qj,Qk,reduceCtorEq,reduceIte,y,h,g,ub,k1,k2,C,O,E,z,F,P7]
      |true=>
       rw[if_pos rfl];rw[hq]at F;have H:=ih (r.drop (k+1)) (o++ [r.take k]) (by rw[aI];omega) (by rw[aI];omega) (by rw[ac,aH];omega);rw[CD]at H;have e1:=bW k (by omega);have k3:k+1<=r.length:=by omega
       have tf:dd r.length r=r:=bi;have c2:(o.length+1)*24<=140737488355328:=by omega
       rcases H with⟨Q,U,W⟩|⟨U,W⟩
       ·refine .inl ⟨Q,U, ?_⟩
        rw[ai];simp only[go_sem,Q0,Q1,Q2,Q3,Q4,Q5,Q6,Q7,Q8,Q9,Qa,Qb,Qc,Qd,Qe,Qf,Qg,Qh,Qi,Qj,Qk,reduceCtorEq,reduceIte,y,h,g,ub,k1,k2,C,k3,O,E,z,F,P7,e1,tf,c2,W]
       ·refine .inr ⟨U, ?_⟩
        rw[ai];simp only[go_sem,Q0,Q1,Q2,Q3,Q4,Q5,Q6,Q7,Q8,Q9,Qa,Qb,Qc,Qd,Qe,Qf,Qg,Qh,Qi,Qj,Qk,reduceCtorEq,reduceIte,y,h,g,ub,k1,k2,C,k3,O,E,z,F,P7,e1,tf,c2,W]
theorem f98(x:Img)(H:x.pay.length<=1000000000000):call T 98 [.agg x.sv] [] 0=some ⟨.lst 1 (bls (fB x.pay)) .no,[],[]⟩:=by
 obtain⟨I,E,J,p⟩:=x;have F:fB p=lnP (p.length+1) p []:=by rw[OJ _ _ _ (by omega) (by simp)];rfl
 have h:=l98 I E J p H (p.length+1) p [] (by omega) (aN _) (by simp);rw[<-F]at h;have C:bls []=[]:=rfl;rw[C]at h;rw[an xnH];simp only[Img.sv];rcases h with⟨L,z,y⟩|⟨z,y⟩
 ·rw[z]
  simp only[go_sem,Q0,Q1,Q2,Q3,Q4,Q5,Q6,Q7,Q8,Q9,Qa,Qb,Qc,Qd,Qe,Qf,Qg,Qh,Qi,Qj,Qk,reduceCtorEq,reduceIte,y]
 ·rw[z,C]
  simp only[go_sem,Q0,Q1,Q2,Q3,Q4,Q5,Q6,Q7,Q8,Q9,Qa,Qb,Qc,Qd,Qe,Qf,Qg,Qh,Qi,Qj,Qk,reduceCtorEq,reduceIte,y]
theorem f89(x:Img)(W:x.pay.length<=1000000000000):call T 89 [.agg x.sv] [] 0=some ⟨.int .i64 (eX x),[],[]⟩:=by
 have z:=xfQ x.name;have H:=f98 x W;obtain⟨I,U,Q,p⟩:=x;have O:=lm (fB p);simp only[Img.sv]at z H ⊢;rw[an xfS];unfold eX
 by_cases h:I<1
 ·simp only[go_sem,Q0,Q1,Q2,Q3,Q4,Q5,Q6,Q7,Q8,Q9,Qa,Qb,Qc,Qd,Qe,Qf,Qg,Qh,Qi,Qj,Qk,reduceCtorEq,reduceIte,h]
 by_cases y:4<I
 ·simp only[go_sem,Q0,Q1,Q2,Q3,Q4,Q5,Q6,Q7,Q8,Q9,Qa,Qb,Qc,Qd,Qe,Qf,Qg,Qh,Qi,Qj,Qk,reduceCtorEq,reduceIte,h,y]
 by_cases C:Q<0
 ·simp only[go_sem,Q0,Q1,Q2,Q3,Q4,Q5,Q6,Q7,Q8,Q9,Qa,Qb,Qc,Qd,Qe,Qf,Qg,Qh,Qi,Qj,Qk,reduceCtorEq,reduceIte,h,y,C]
 by_cases E:1000000<Q
 ·simp only[go_sem,Q0,Q1,Q2,Q3,Q4,Q5,Q6,Q7,Q8,Q9,Qa,Qb,Qc,Qd,Qe,Qf,Qg,Qh,Qi,Qj,Qk,reduceCtorEq,reduceIte,h,y,C,E]
 cases a5:Pr.nameB U with
 |false=>rw[a5]at z;simp only[go_sem,Q0,Q1,Q2,Q3,Q4,Q5,Q6,Q7,Q8,Q9,Qa,Qb,Qc,Qd,Qe,Qf,Qg,Qh,Qi,Qj,Qk,reduceCtorEq,reduceIte,h,y,C,E,a5,z,kR]
 |true=>
  rw[a5]at z
  by_cases F:(64:Int)<p.length
  ·simp only[go_sem,Q0,Q1,Q2,Q3,Q4,Q5,Q6,Q7,Q8,Q9,Qa,Qb,Qc,Qd,Qe,Qf,Qg,Qh,Qi,Qj,Qk,reduceCtorEq,reduceIte,h,y,C,E,a5,z,kR,F]
  by_cases J:I=4
  ·subst J
   by_cases L:((fB p).length:Int)=0
   ·simp only[go_sem,Q0,Q1,Q2,Q3,Q4,Q5,Q6,Q7,Q8,Q9,Qa,Qb,Qc,Qd,Qe,Qf,Qg,Qh,Qi,Qj,Qk,reduceCtorEq,reduceIte,h,y,C,E,a5,z,kR,F,H,xaR,O,L]
   ·simp only[go_sem,Q0,Q1,Q2,Q3,Q4,Q5,Q6,Q7,Q8,Q9,Qa,Qb,Qc,Qd,Qe,Qf,Qg,Qh,Qi,Qj,Qk,reduceCtorEq,reduceIte,h,y,C,E,a5,z,kR,F,H,xaR,O,L]
  ·simp only[go_sem,Q0,Q1,Q2,Q3,Q4,Q5,Q6,Q7,Q8,Q9,Qa,Qb,Qc,Qd,Qe,Qf,Qg,Qh,Qi,Qj,Qk,reduceCtorEq,reduceIte,h,y,C,E,a5,z,kR,F,J]
theorem f91(x:Img)(hn:x.name.length<=1000000)(J:x.pay.length<=1000000):call T 91 [.agg x.sv] [] 0=some ⟨.byt (fm x) .no,[],[]⟩:=by
 have g0:=f89 x (by omega);have z:=f48 [] 1 x.role (by omega) (by omega) (by simp);have y:=f48 (be 1 (aQ.wrap x.role)) 4 x.ver (by omega) (by omega) (by rw[eE];omega);have E:=f49 (be 1 (aQ.wrap x.role)++be 4 (aQ.wrap x.ver)) x.name (by rw[ac,eE,eE];omega) (by omega);have F:=f49 (eA (be 1 (aQ.wrap x.role)++be 4 (aQ.wrap x.ver)) x.name) x.pay (by rw[dj,ac,eE,eE];omega) (by omega);simp only[bX,aG]at z y;obtain⟨H,C,I,p⟩:=x;simp only[Img.sv]at*;rw[an xlt];unfold fm
 by_cases h:eX ⟨H,C,I,p⟩=0
 ·rw[if_pos h]
  rw[h]at g0;simp only[go_sem,Q0,Q1,Q2,Q3,Q4,Q5,Q6,Q7,Q8,Q9,Qa,Qb,Qc,Qd,Qe,Qf,Qg,Qh,Qi,Qj,Qk,reduceCtorEq,reduceIte,g0,tx,z,qO,y,E,tz,F]
 ·rw[if_neg h]
  simp only[go_sem,Q0,Q1,Q2,Q3,Q4,Q5,Q6,Q7,Q8,Q9,Qa,Qb,Qc,Qd,Qe,Qf,Qg,Qh,Qi,Qj,Qk,reduceCtorEq,reduceIte,g0,tx,h]
theorem xk7(x:Img):call T 89 [.agg x.sv] [] 0=some ⟨.int .i64 (eX x),[],[]⟩:=by
 have C:=xfQ x.name;have Q:=fun h=>f98 x h
 obtain⟨J,Z,W,p⟩:=x;have U:=lm (fB p);simp only[Img.sv]at C Q ⊢;rw[an xfS];unfold eX
 by_cases y:J<1
 ·simp only[go_sem,Q0,Q1,Q2,Q3,Q4,Q5,Q6,Q7,Q8,Q9,Qa,Qb,Qc,Qd,Qe,Qf,Qg,Qh,Qi,Qj,Qk,reduceCtorEq,reduceIte,y]
 by_cases z:4<J
 ·simp only[go_sem,Q0,Q1,Q2,Q3,Q4,Q5,Q6,Q7,Q8,Q9,Qa,Qb,Qc,Qd,Qe,Qf,Qg,Qh,Qi,Qj,Qk,reduceCtorEq,reduceIte,y,z]
 by_cases E:W<0
 ·simp only[go_sem,Q0,Q1,Q2,Q3,Q4,Q5,Q6,Q7,Q8,Q9,Qa,Qb,Qc,Qd,Qe,Qf,Qg,Qh,Qi,Qj,Qk,reduceCtorEq,reduceIte,y,z,E]
 by_cases F:1000000<W
 ·simp only[go_sem,Q0,Q1,Q2,Q3,Q4,Q5,Q6,Q7,Q8,Q9,Qa,Qb,Qc,Qd,Qe,Qf,Qg,Qh,Qi,Qj,Qk,reduceCtorEq,reduceIte,y,z,E,F]
 cases a5:Pr.nameB Z with
 |false=>rw[a5]at C;simp only[go_sem,Q0,Q1,Q2,Q3,Q4,Q5,Q6,Q7,Q8,Q9,Qa,Qb,Qc,Qd,Qe,Qf,Qg,Qh,Qi,Qj,Qk,reduceCtorEq,reduceIte,y,z,E,F,a5,C,kR]
 |true=>
  rw[a5]at C
  by_cases I:(64:Int)<p.length
  ·simp only[go_sem,Q0,Q1,Q2,Q3,Q4,Q5,Q6,Q7,Q8,Q9,Qa,Qb,Qc,Qd,Qe,Qf,Qg,Qh,Qi,Qj,Qk,reduceCtorEq,reduceIte,y,z,E,F,a5,C,kR,I]
  have H:=Q (by omega)
  by_cases L:J=4
  ·subst L
   by_cases O:((fB p).length:Int)=0
   ·simp only[go_sem,Q0,Q1,Q2,Q3,Q4,Q5,Q6,Q7,Q8,Q9,Qa,Qb,Qc,Qd,Qe,Qf,Qg,Qh,Qi,Qj,Qk,reduceCtorEq,reduceIte,y,z,E,F,a5,C,kR,I,H,xaR,U,O]
   ·simp only[go_sem,Q0,Q1,Q2,Q3,Q4,Q5,Q6,Q7,Q8,Q9,Qa,Qb,Qc,Qd,Qe,Qf,Qg,Qh,Qi,Qj,Qk,reduceCtorEq,reduceIte,y,z,E,F,a5,C,kR,I,H,xaR,U,O]
  ·simp only[go_sem,Q0,Q1,Q2,Q3,Q4,Q5,Q6,Q7,Q8,Q9,Qa,Qb,Qc,Qd,Qe,Qf,Qg,Qh,Qi,Qj,Qk,reduceCtorEq,reduceIte,y,z,E,F,a5,C,kR,I,L]
theorem xmY(x:Img):call T 91 [.agg x.sv] [] 0=some ⟨.byt (fm x) .no,[],[]⟩:=by
 by_cases h:eX x=0
 ·obtain⟨z,y⟩:=nO h
  exact f91 x z y
 ·have g0:=xk7 x
  have C:fm x=[]:=if_neg h;rw[C];generalize eX x=e at*;obtain⟨F,E,H,p⟩:=x;simp only[Img.sv]at*;rw[an xlt];simp only[go_sem,Q0,Q1,Q2,Q3,Q4,Q5,Q6,Q7,Q8,Q9,Qa,Qb,Qc,Qd,Qe,Qf,Qg,Qh,Qi,Qj,Qk,reduceCtorEq,reduceIte,g0,tx,h]
theorem SB(x:Img):(fm x).length<=10000000:=by
 by_cases h:eX x=0
 ·obtain⟨z,y⟩:=nO h
  exact me x z y
 ·have C:fm x=[]:=if_neg h
  rw[C];simp
end Go.Proofs.YtkcjdeofknkndaaGreatDoor
