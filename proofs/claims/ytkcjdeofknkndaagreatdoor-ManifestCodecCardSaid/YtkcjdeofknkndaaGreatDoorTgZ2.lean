/- What the functions come to. No condition. -/
import Derived.Test.YtkcjdeofknkndaaGreatDoorTdZ2
open Bool renaming and_eq_true -> aD
open Int renaming natCast_zero -> aA
open Go.IntKind renaming i64 -> af
open List renaming all_cons -> iD, append_assoc -> ay, append_nil -> bZ, drop -> jq, drop_eq_getElem_cons -> aV, drop_length -> bl, drop_zero -> bh, getD_cons_succ -> cJ, getD_cons_zero -> cn, getD_eq_getElem?_getD -> aa, getElem?_append_left -> bE, getElem?_append_right -> bV, getElem?_eq_getElem -> ab, getElem_mem -> bA, getElem_of_mem -> cm, length_append -> ac, length_cons -> aC, length_map -> au, length_nil -> az, length_replicate -> bY, length_set -> bI, length_singleton -> aS, length_take -> aj, map_append -> bU, nil_append -> aF, replicate -> aq, take -> du, take_length -> bQ
open Nat renaming le_refl -> aO, lt_or_ge -> bS, mul_one -> dt, zero_le -> bW
open UInt8 renaming ofInt -> cO
set_option maxRecDepth 100000
set_option maxHeartbeats 16000000
set_option linter.unusedSimpArgs false
set_option linter.unusedVariables false
namespace Go.Proofs.YtkcjdeofknkndaaGreatDoor
open Go.Sy
open UInt8 renaming reduceLT -> Q0, reduceLE -> Q1
open Int renaming reduceToNat -> Q2, reduceLE -> Q3, reduceLT -> Q4, reduceEq -> Q5, reduceNe -> Q6, reduceNeg -> Q7, reduceAdd -> Q8, reduceSub -> Q9, reduceMul -> Qa
open Nat renaming reducePow -> Qb, reduceDiv -> Qc, reduceMod -> Qd, reduceAdd -> Qe, reduceSub -> Qf, reduceMul -> Qg, reduceLT -> Qh, reduceLeDiff -> Qi, reduceEqDiff -> Qj, reduceBEq -> Qk
theorem iO{s:List UInt8}(h:Pr.nameB s=true):1<=s.length/\s.length<=12:=by
 unfold Pr.nameB at h;split at h
 ·cases h
 ·omega
theorem mC{x:Img}(h:fC x=0):1<=x.role/\x.role<=4/\0<=x.ver/\x.ver<=1000000/\Pr.nameB x.name=true/\x.pay.length<=64:=by
 unfold fC at h
 repeat' split at h
 all_goals first|omega|skip
 all_goals (cases hq:Pr.nameB x.name with
  |true=>exact⟨by omega,by omega,by omega,by omega,rfl,by omega⟩
  |false=>simp_all)
theorem uf{x:Img}(h:fC x=0):x.name.length<=1000000/\x.pay.length<=1000000:=by obtain⟨_,_,_,_,h1,h2⟩:=mC h;have:=iO h1;omega
def ofI(x:Img)(a:Int):Ev:=⟨zZ x.role,1,s7 (fT x) a,wP x.name x.ver⟩
theorem f40(x:Img)(a:Int)(ha:Yl a)(h:fC x=0)(h4:x.role≠4):call T 40 [.agg x.sv,.int .i64 a] [] 0=some ⟨.agg (ofI x a).sv,[],[]⟩:=by obtain⟨q1,q2,q3,q4,q5,q6⟩:=mC h;obtain⟨b1,b2⟩:=uf h;have g0:=xit x (by omega) (by omega);have g1:=f82 x.role;have g2:=xkx x a ha b1 b2;have g3:=f34 x.name x.ver b1 q3 q4;rw[h]at g0;obtain⟨ro,na,ve,p⟩:=x;simp only[Img.sv,Ev.sv,ofI]at*;rw[ao xlu];simp only[go_sem,Q0,Q1,Q2,Q3,Q4,Q5,Q6,Q7,Q8,Q9,Qa,Qb,Qc,Qd,Qe,Qf,Qg,Qh,Qi,Qj,Qk,reduceCtorEq,reduceIte,g0,OX,h4,g1,xlR,g2,xg2,g3,xl1]
def ik(l:List Img):List (List SV):=l.map Img.sv
def im0:Img:=⟨0,[],0,[]⟩
theorem gB(l:List Img):(ik l).length=l.length:=au ..
theorem mf(l:List Img)(i:Nat)(h:i<l.length):(ik l).getD i []=(l.getD i im0).sv:=by simp[ik,aa,h]
structure jA(l:List Img):Prop where
 n1:1<=l.length
 n8:l.length<=8
 ok:∀i,i<l.length->fC (l.getD i im0)=0
 ord:∀i,i+1<l.length->(l.getD i im0).role<=(l.getD (i+1) im0).role
 dup:∀i,i<l.length->∀k,k<i->(l.getD k im0).role=(l.getD i im0).role->(l.getD k im0).name≠(l.getD i im0).name
 fw:∃i,i<l.length/\(l.getD i im0).role=1
 kn:∃i,i<l.length/\(l.getD i im0).role=3
def jR(ts:List Nat):List UInt8:=ts.flatMap fun t=>hZ t++ [10]
theorem Dh(ts:List Nat)(t:Nat):jR (ts++ [t])=jR ts++(hZ t++ [10]):=by simp[jR]
theorem rA(t:Nat):(hZ t).length<=8:=by unfold hZ;split<;>simp
theorem uZ(ts:List Nat):(jR ts).length<=9*ts.length:=by
 induction ts with
 |nil=>simp[jR]
 |cons t r ih=>rw[jR,List.flatMap_cons,ac,ac,aC,aC,az];have:=rA t;unfold jR at ih;omega
theorem FN(t:Nat)(r:List UInt8)(o:List (List UInt8))(ho:o.length<4):lnF (hZ t++10::r) o []=lnF r (o++ [hZ t]) []:=by
 have h:¬(4:Int)<=o.length:=by omega
 unfold hZ;split<;>simp[lnF,h]
theorem Cl:∀(ts:List Nat)(o:List (List UInt8)),o.length+ts.length<=4->lnF (jR ts) o []=some (o++ts.map hZ,[])
 |[],o,_=>by simp[jR,lnF]
 |t::r,o,h=>by
  rw[aC]at h;have e:jR (t::r)=hZ t++10::jR r:=by simp[jR]
  rw[e,FN t _ o (by omega),Cl r _ (by rw[ac,aS];omega)];simp
theorem wO(ts:List Nat)(h:ts.length<=4):gK (jR ts)=ts.map hZ:=by unfold gK;rw[Cl ts [] (by simpa using h)];simp
theorem xjS(B:List UInt8)(hB:B.length<=1000):∀(k:Nat)(ts:List Nat)(j:Nat),k<=4->ts.length+k<=100->∃us j',us.length=k/\
 run T (.loop yl) ⟨[(0,.ptr 0 0),(3,.byt (jR ts) (.id 103)),(4,.int .i64 k)],[(0,bn B j)],[103]⟩=some (.x 0,⟨[(3,.byt (jR (ts++us)) (.id 103))],[(0,bn B j')],[103]⟩):=by
 intro k;induction k with
 |zero=>intro ts j h1 h2;refine⟨[],j,rfl, ?_⟩;rw[ai,bZ];simp only[go_sem,Q0,Q1,Q2,Q3,Q4,Q5,Q6,Q7,Q8,Q9,Qa,Qb,Qc,Qd,Qe,Qf,Qg,Qh,Qi,Qj,Qk,reduceCtorEq,reduceIte]
 |succ k ih=>
  intro ts j h1 h2;obtain⟨us,j',hu,ih'⟩:=ih (ts++ [dw B j 6]) (cz B j) (by omega) (by rw[ac,aS];omega);refine⟨dw B j 6::us,j',by rw[aC,hu], ?_⟩;have g:=f73 B j hB;have hl:=uZ ts;have hl2:=rA (dw B j 6);have e1:af.wrap (((k+1:Nat):Int)-1)=(k:Int):=wZ (by omega)
  have hp:(0:Int)<((k+1:Nat):Int):=by omega
  have c1:(jR ts).length+(hZ (dw B j 6)).length<=140737488355328:=by omega
  have c2:(jR ts).length+(hZ (dw B j 6)).length+1<=140737488355328:=by omega
  rw[Dh]at ih';rw[show ts++dw B j 6::us=ts++ [dw B j 6]++us from by simp];rw[ai];simp only[bn]at g ih' ⊢;simp only[go_sem,Q0,Q1,Q2,Q3,Q4,Q5,Q6,Q7,Q8,Q9,Qa,Qb,Qc,Qd,Qe,Qf,Qg,Qh,Qi,Qj,Qk,reduceCtorEq,reduceIte,hp,g,xiL,c1,c2,e1,ih']
theorem xkm(B:List UInt8)(i:Nat)(hB:B.length<=1000):∃ts j,1<=ts.length/\ts.length<=4/\call T 123 [.ptr 0 0] [bn B i] 0=some ⟨.byt (jR ts) .no,[(0,bn B j)],[]⟩:=by
 have g:=f71 B i 4 (by omega) (by omega);have hv:=dN B i 4 (by omega);obtain⟨us,j,hu,h⟩:=xjS B hB (1+dw B i 4) [] (cz B i) (by omega) (by simp only[az];omega);have e:af.wrap (1+((dw B i 4:Nat):Int))=((1+dw B i 4:Nat):Int):=wZ (by omega)
 refine⟨us,j,by omega,by omega, ?_⟩;have hp:jR []=[]:=rfl;rw[hp,aF]at h;rw[cz4]at g;simp only[bn]at g h ⊢;rw[ao xgp];simp only[go_sem,Q0,Q1,Q2,Q3,Q4,Q5,Q6,Q7,Q8,Q9,Qa,Qb,Qc,Qd,Qe,Qf,Qg,Qh,Qi,Qj,Qk,reduceCtorEq,reduceIte,g,jw,e,h]
def fG:Nat->List UInt8
 |0=> [97]
 |1=> [103,114,117,98]
 |2=> [108,105,110,117,120]
 |3=> [110,101,116,45,48]
 |_=> [116,119,101,108,118,101,45,98,121,116,101,115]
theorem xkn:call T 122 [] [] 0=some ⟨.agg [.str (fG 0),.str (fG 1),.str (fG 2),.str (fG 3),.str (fG 4)],[],[]⟩:=by rw[ao xgq];simp only[go_sem,Q0,Q1,Q2,Q3,Q4,Q5,Q6,Q7,Q8,Q9,Qa,Qb,Qc,Qd,Qe,Qf,Qg,Qh,Qi,Qj,Qk,reduceCtorEq,reduceIte,fG]
theorem FE:∀v,v<5->Pr.nameB (fG v)=true:=by decide
theorem l72(B:List UInt8)(hB:B.length<=1000)(role ve:Int)(na:List UInt8):∀(n i:Nat)(l:List UInt8)(j:Nat),l.length-i=n->i<=l.length->l.length<=6->∃l' j',l'.length=l.length/\
 run T (.loop tQ) ⟨[(0,.ptr 0 0),(4,.ptr 104 0),(5,.ptr 105 0),(6,.int .i64 i)],[(0,bn B j),(104,.rc [.int .i64 0,.str [],.int .i64 0,.byt [] .clip]),(105,.rc [.int .i64 role,.str na,.int .i64 ve,.psl 130 1 0 l.length (some l.length)]),(130,.bar l)],[]⟩=
  some (.x 0,⟨[(4,.ptr 104 0),(5,.ptr 105 0)],[(0,bn B j'),(104,.rc [.int .i64 0,.str [],.int .i64 0,.byt [] .clip]),(105,.rc [.int .i64 role,.str na,.int .i64 ve,.psl 130 1 0 l.length (some l.length)]),(130,.bar l')],[]⟩):=by
 intro n;induction n with
 |zero=>
  intro i l j h0 h1 h2;have:i=l.length:=by omega
  refine⟨l,j,rfl, ?_⟩;subst this;rw[ai];simp only[go_sem,Q0,Q1,Q2,Q3,Q4,Q5,Q6,Q7,Q8,Q9,Qa,Qb,Qc,Qd,Qe,Qf,Qg,Qh,Qi,Qj,Qk,reduceCtorEq,reduceIte]
 |succ n ih=>
  intro i l j h0 h1 h2;have hi:i<l.length:=by omega
  have e1:=cE i (by omega);have g:=f71 B j 256 (by omega) (by omega);rw[xkN]at g;obtain⟨l',j',q1,q2⟩:=ih (i+1) (l.set i (cO ((dw B j 256:Nat):Int))) (cz B j) (by rw[bI];omega) (by rw[bI];omega) (by rw[bI];omega);rw[bI]at q1 q2;refine⟨l',j',q1, ?_⟩;rw[ai];simp only[bn]at g q2 ⊢;simp only[go_sem,Q0,Q1,Q2,Q3,Q4,Q5,Q6,Q7,Q8,Q9,Qa,Qb,Qc,Qd,Qe,Qf,Qg,Qh,Qi,Qj,Qk,reduceCtorEq,reduceIte,hi,e1,g,jw,q2]
theorem f72(B:List UInt8)(j:Nat)(hB:B.length<=1000)(role:Int)(h1:1<=role)(h4:role<=4):∃(x:Img)(j':Nat),fC x=0/\x.role=role/\
 call T 72 [.ptr 0 0,.int .i64 role] [bn B j] 0=some ⟨.agg x.sv,[(0,bn B j')],[]⟩:=by
 have g1:=xkn;have g2:=f71 B j 5 (by omega) (by omega);have v2:=dN B j 5 (by omega);have g3:=f71 B (cz B j) 5 (by omega) (by omega);have v3:=dN B (cz B j) 5 (by omega);have g4:=f71 B (cz B (cz B j)) 9 (by omega) (by omega);have g5:=f71 B (cz B (cz B (cz B j))) 3 (by omega) (by omega);have v5:=dN B (cz B (cz B (cz B j))) 3 (by omega);rw[cz5]at g2 g3;rw[c9]at g4;rw[cz3]at g5;generalize dw B j 5=w2 at*;generalize dw B (cz B j) 5=w3 at*;generalize dw B (cz B (cz B j)) 9=w4 at*;generalize dw B (cz B (cz B (cz B j))) 3=w5 at*;simp only[bn]at g2 g3 g4 g5
 have hN:(jq w2 [SV.str (fG 0),.str (fG 1),.str (fG 2),.str (fG 3),.str (fG 4)]).getD 0 .undef= .str (fG w2):=by
  have hn:w2=0\/w2=1\/w2=2\/w2=3\/w2=4:=by omega
  rcases hn with rfl|rfl|rfl|rfl|rfl<;>rfl
 have hw2:(w2:Int)<5:=by omega
 have em:w2*1=w2:=dt _;have hnb:=FE w2 v2;have ew:af.wrap (1000000-(w5:Int))=1000000-(w5:Int):=w64 (by omega) (by omega)
 have key:∀(jj:Nat)(ve:Int),0<=ve->ve<=1000000->∃(x:Img)(j':Nat),fC x=0/\x.role=role/\x.name=fG w2/\x.ver=ve/\
  (role=4->call T 123 [.ptr 0 0] [bn B jj] 0=some ⟨.byt x.pay .no,[(0,bn B j')],[]⟩)/\
  (¬role=4->∃(j1 n:Nat),n<7/\call T 71 [.ptr 0 0,.int .i64 7] [bn B jj] 0=some ⟨.int .i64 (n:Int),[(0,bn B j1)],[]⟩/\x.pay.length=n/\
   run T (.loop tQ) ⟨[(0,.ptr 0 0),(4,.ptr 104 0),(5,.ptr 105 0),(6,.int .i64 0)],[(0,bn B j1),(104,.rc [.int .i64 0,.str [],.int .i64 0,.byt [] .clip]),(105,.rc [.int .i64 role,.str (fG w2),.int .i64 ve,.psl 130 1 0 n (some n)]),(130,.bar (aq n 0))],[]⟩=
    some (.x 0,⟨[(4,.ptr 104 0),(5,.ptr 105 0)],[(0,bn B j'),(104,.rc [.int .i64 0,.str [],.int .i64 0,.byt [] .clip]),(105,.rc [.int .i64 role,.str (fG w2),.int .i64 ve,.psl 130 1 0 n (some n)]),(130,.bar x.pay)],[]⟩)):=by
  intro jj ve hv0 hv1
  by_cases hr:role=4
  ·obtain⟨ts,j',t1,t2,t3⟩:=xkm B jj hB
   refine⟨⟨role,fG w2,ve,jR ts⟩,j', ?_,rfl,rfl,rfl,fun _=>t3,fun h=>absurd hr h⟩;have hl:=uZ ts;have hL:=wO ts t2;unfold fC;rw[if_neg (by show ¬role<1;omega),if_neg (by show ¬4<role;omega),if_neg (by show ¬ve<0;omega),if_neg (by show ¬1000000<ve;omega),if_neg (by show ¬Pr.nameB (fG w2)=false;rw[hnb];simp),if_neg (by show ¬(64:Int)<(jR ts).length;omega)];show(if role=4 then(if((gK (jR ts)).length:Int)=0 then 40 else 0)else 0)=(0:Int);rw[if_pos hr,hL,if_neg];rw[au];omega
  ·have g7:=f71 B jj 7 (by omega) (by omega)
   have v7:=dN B jj 7 (by omega);rw[show((7:Nat):Int)=7 from rfl]at g7;obtain⟨l',j',q1,q2⟩:=l72 B hB role ve (fG w2) (dw B jj 7) 0 (aq (dw B jj 7) 0) (cz B jj) (by rw[bY];rfl) (bW _) (by rw[bY];omega);rw[bY]at q1 q2;refine⟨⟨role,fG w2,ve,l'⟩,j', ?_,rfl,rfl,rfl,fun h=>absurd h hr,fun _=>⟨cz B jj,dw B jj 7,v7,g7,q1,q2⟩⟩;unfold fC;rw[if_neg (by show ¬role<1;omega),if_neg (by show ¬4<role;omega),if_neg (by show ¬ve<0;omega),if_neg (by show ¬1000000<ve;omega),if_neg (by show ¬Pr.nameB (fG w2)=false;rw[hnb];simp),if_neg (by show ¬(64:Int)<l'.length;omega)];show(if role=4 then(if((gK l').length:Int)=0 then 40 else 0)else 0)=(0:Int);rw[if_neg hr]
 by_cases p4:w4=8
 ·have p4':(w4:Int)=8:=by omega
  obtain⟨⟨xr,xn,xv,xp⟩,j',e0,e1,e2,e3,e4,e5⟩:=key (cz B (cz B (cz B (cz B j)))) (1000000-(w5:Int)) (by omega) (by omega);simp only at e1 e2 e3 e4 e5;subst e1 e2 e3;refine⟨_,j',e0,rfl, ?_⟩;rw[ao xiA]
  by_cases hr:xr=4
  ·have t:=e4 hr
   simp only[bn,Img.sv]at t ⊢;simp only[go_sem,Q0,Q1,Q2,Q3,Q4,Q5,Q6,Q7,Q8,Q9,Qa,Qb,Qc,Qd,Qe,Qf,Qg,Qh,Qi,Qj,Qk,reduceCtorEq,reduceIte,bn,g1,Ej,g2,jw,g3,g4,g5,p4',ew,hr,hN,hw2,em,t,YF]
  ·obtain⟨j1,n,hn,t1,t2,t3⟩:=e5 hr
   have t2':xp.length=n:=t2;have hle:n<=xp.length:=by omega
   have hq:du n xp=xp:=by rw[<-t2',bQ]
   have hn':(n:Int)<7:=by omega
   have hn2:(n:Int)<=140737488355328:=by omega
   simp only[bn,Img.sv]at t1 t3 ⊢;simp only[go_sem,Q0,Q1,Q2,Q3,Q4,Q5,Q6,Q7,Q8,Q9,Qa,Qb,Qc,Qd,Qe,Qf,Qg,Qh,Qi,Qj,Qk,reduceCtorEq,reduceIte,bn,g1,Ej,g2,jw,g3,g4,g5,p4',ew,hr,hN,hw2,em,t1,hn',hn2,t3,hle,hq]
 ·have p4':¬(w4:Int)=8:=by omega
  obtain⟨⟨xr,xn,xv,xp⟩,j',e0,e1,e2,e3,e4,e5⟩:=key (cz B (cz B (cz B j))) (w3:Int) (by omega) (by omega);simp only at e1 e2 e3 e4 e5;subst e1 e2 e3;refine⟨_,j',e0,rfl, ?_⟩;rw[ao xiA]
  by_cases hr:xr=4
  ·have t:=e4 hr
   simp only[bn,Img.sv]at t ⊢;simp only[go_sem,Q0,Q1,Q2,Q3,Q4,Q5,Q6,Q7,Q8,Q9,Qa,Qb,Qc,Qd,Qe,Qf,Qg,Qh,Qi,Qj,Qk,reduceCtorEq,reduceIte,bn,g1,Ej,g2,jw,g3,g4,p4',hr,hN,hw2,em,t,YF]
  ·obtain⟨j1,n,hn,t1,t2,t3⟩:=e5 hr
   have t2':xp.length=n:=t2;have hle:n<=xp.length:=by omega
   have hq:du n xp=xp:=by rw[<-t2',bQ]
   have hn':(n:Int)<7:=by omega
   have hn2:(n:Int)<=140737488355328:=by omega
   simp only[bn,Img.sv]at t1 t3 ⊢;simp only[go_sem,Q0,Q1,Q2,Q3,Q4,Q5,Q6,Q7,Q8,Q9,Qa,Qb,Qc,Qd,Qe,Qf,Qg,Qh,Qi,Qj,Qk,reduceCtorEq,reduceIte,bn,g1,Ej,g2,jw,g3,g4,p4',hr,hN,hw2,em,t1,hn',hn2,t3,hle,hq]
theorem Dw(l:List Img)(i:Nat)(h:i<l.length):l.getD i im0∈l:=by rw[aa,ab h];exact bA _
theorem js{α:Type}(l:List α)(x d:α)(i:Nat)(h:i<l.length):(l++ [x]).getD i d=l.getD i d:=by rw[aa,aa,bE h]
theorem ov{α:Type}(l:List α)(x d:α):(l++ [x]).getD l.length d=x:=by rw[aa,bV (aO _),Nat.sub_self];rfl
structure ChP(l:List Img)(role:Int):Prop where
 ok:∀i,i<l.length->fC (l.getD i im0)=0
 le:∀i,i<l.length->(l.getD i im0).role<=role
 ord:∀i,i+1<l.length->(l.getD i im0).role<=(l.getD (i+1) im0).role
 dup:∀i,i<l.length->∀k,k<i->(l.getD k im0).role=(l.getD i im0).role->(l.getD k im0).name≠(l.getD i im0).name
def agn(x:Img)(l:List Img):Bool:=l.any fun y=>decide (y.role=x.role)&&decide (y.name=x.name)
theorem ChP.snoc{l:List Img}{role:Int}(h:ChP l role){x:Img}(hx:fC x=0)(hr:x.role=role)(ha:agn x l=false):ChP (l++ [x]) role:=by
 have hlen:(l++ [x]).length=l.length+1:=by simp
 refine⟨fun i hi=> ?_,fun i hi=> ?_,fun i hi=> ?_,fun i hi k hk=> ?_⟩
 ·rcases bS i l.length with h1|h1
  ·rw[js l x im0 i h1];exact h.ok i h1
  ·rw[show i=l.length from by omega,ov];exact hx
 ·rcases bS i l.length with h1|h1
  ·rw[js l x im0 i h1];exact h.le i h1
  ·rw[show i=l.length from by omega,ov,hr];exact Int.le_refl _
 ·rw[js l x im0 i (by omega)]
  rcases bS (i+1) l.length with h1|h1
  ·rw[js l x im0 (i+1) h1];exact h.ord i h1
  ·rw[show i+1=l.length from by omega,ov,hr];exact h.le i (by omega)
 ·rcases bS i l.length with h1|h1
  ·rw[js l x im0 i h1,js l x im0 k (by omega)];exact h.dup i h1 k hk
  ·rw[show i=l.length from by omega]at hk ⊢
   rw[ov,js l x im0 k hk];intro q1 q2;unfold agn at ha;rw[List.any_eq_false]at ha;have:=ha (l.getD k im0) (Dw l k hk);rw[decide_eq_true q1,decide_eq_true q2]at this;exact this rfl
theorem xjB(B:List UInt8)(j:Nat)(l:List Img)(x:Img)(role n:Int)(hl:l.length<=100):∀(k i:Nat)(ag:Bool),l.length-i=k->i<=l.length->
 run T (.loop x7) ⟨[(3,.ptr 12100 0),(4,.lst 4 (ik l) (.id 104)),(5,.int .i64 role),(6,.int .i64 n),(7,.ptr 107 0),(8,.bool ag),(9,.int .i64 i)],[(107,.rc x.sv),(12100,bn B j)],[104]⟩=
 some (.x 4,⟨[(3,.ptr 12100 0),(4,.lst 4 (ik l) (.id 104)),(5,.int .i64 role),(6,.int .i64 n),(7,.ptr 107 0),(8,.bool (ag||agn x (l.drop i)))],[(107,.rc x.sv),(12100,bn B j)],[104]⟩):=by
 intro k;induction k with
 |zero=>
  intro i ag h0 h1;have:i=l.length:=by omega
  subst this;have hv:=gB l;obtain⟨a,b,c,d⟩:=x;simp only[bn,Img.sv]at*;rw[ai,bl];simp only[go_sem,Q0,Q1,Q2,Q3,Q4,Q5,Q6,Q7,Q8,Q9,Qa,Qb,Qc,Qd,Qe,Qf,Qg,Qh,Qi,Qj,Qk,reduceCtorEq,reduceIte,hv,agn,List.any_nil,Bool.or_false]
 |succ k ih=>
  intro i ag h0 h1;have hi:i<l.length:=by omega
  have e1:=cE i (by omega);have ih':=ih (i+1) (ag||(decide ((l.getD i im0).role=x.role)&&decide ((l.getD i im0).name=x.name))) (by omega) (by omega);have hv:=gB l;have hg:=mf l i hi;have hd:l.drop i=l.getD i im0::l.drop (i+1):=by rw[aV hi,aa,ab hi];rfl
  have ha:agn x (l.drop i)=((decide ((l.getD i im0).role=x.role)&&decide ((l.getD i im0).name=x.name))||agn x (l.drop (i+1))):=by rw[hd];rfl
  rw[ha,<-Bool.or_assoc];rw[ai];generalize agn x (l.drop (i+1))=R at*;generalize l.getD i im0=y at*;obtain⟨a,b,c,d⟩:=x;obtain⟨a2,b2,c2,d2⟩:=y;simp only[bn,Img.sv]at*;cases ag with
  |true=>simp only[Bool.true_or]at ih' ⊢;simp only[go_sem,Q0,Q1,Q2,Q3,Q4,Q5,Q6,Q7,Q8,Q9,Qa,Qb,Qc,Qd,Qe,Qf,Qg,Qh,Qi,Qj,Qk,reduceCtorEq,reduceIte,hi,e1,hv,hg,ih']
  |false=>
   by_cases p1:a2=a
   ·by_cases p2:b2=b
    ·rw[decide_eq_true p1,decide_eq_true p2]at ih' ⊢
     simp only[Bool.and_self,Bool.false_or,Bool.true_or]at ih' ⊢;simp only[go_sem,Q0,Q1,Q2,Q3,Q4,Q5,Q6,Q7,Q8,Q9,Qa,Qb,Qc,Qd,Qe,Qf,Qg,Qh,Qi,Qj,Qk,reduceCtorEq,reduceIte,hi,e1,hv,hg,p1,p2,ih']
    ·rw[decide_eq_true p1,decide_eq_false p2]at ih' ⊢
     simp only[Bool.and_false,Bool.false_or]at ih' ⊢;simp only[go_sem,Q0,Q1,Q2,Q3,Q4,Q5,Q6,Q7,Q8,Q9,Qa,Qb,Qc,Qd,Qe,Qf,Qg,Qh,Qi,Qj,Qk,reduceCtorEq,reduceIte,hi,e1,hv,hg,p1,p2,ih']
   ·rw[decide_eq_false p1]at ih' ⊢
    simp only[Bool.false_and,Bool.false_or]at ih' ⊢;simp only[go_sem,Q0,Q1,Q2,Q3,Q4,Q5,Q6,Q7,Q8,Q9,Qa,Qb,Qc,Qd,Qe,Qf,Qg,Qh,Qi,Qj,Qk,reduceCtorEq,reduceIte,hi,e1,hv,hg,p1,ih']
theorem rE(l:List Img)(x:Img):ik l++ [x.sv]=ik (l++ [x]):=by rw[ik,ik,bU];rfl
theorem Gs{x:Img}{l:List Img}(h:agn x l=true):∃i,i<l.length/\(l.getD i im0).role=x.role:=by unfold agn at h;rw[List.any_eq_true]at h;obtain⟨y,hy,h⟩:=h;obtain⟨i,hi,rfl⟩:=cm hy;refine⟨i,hi, ?_⟩;rw[aD]at h;rw[aa,ab hi];exact of_decide_eq_true h.1
theorem XZ(B:List UInt8)(hB:B.length<=1000)(role:Int)(r1:1<=role)(r4:role<=4):∀(n:Nat)(l:List Img)(j:Nat),l.length+n<=8->ChP l role->
 ∃r j',ChP (l++r) role/\r.length<=n/\(1<=n->∃i,i<(l++r).length/\((l++r).getD i im0).role=role)/\
 run T (.loop x6) ⟨[(3,.ptr 12100 0),(4,.lst 4 (ik l) (.id 104)),(5,.int .i64 role),(6,.int .i64 (n:Int))],[(12100,bn B j)],[104]⟩=
  some (.x 2,⟨[(3,.ptr 12100 0),(4,.lst 4 (ik (l++r)) (.id 104)),(5,.int .i64 role)],[(12100,bn B j')],[104]⟩):=by
 intro n;induction n with
 |zero=>intro l j hl hc;refine⟨[],j,by rw[bZ];exact hc,bW _,fun h=>absurd h (by omega), ?_⟩;rw[bZ,ai];simp only[bn];simp only[go_sem,Q0,Q1,Q2,Q3,Q4,Q5,Q6,Q7,Q8,Q9,Qa,Qb,Qc,Qd,Qe,Qf,Qg,Qh,Qi,Qj,Qk,reduceCtorEq,reduceIte]
 |succ n ih=>
  intro l j hl hc;obtain⟨x,j1,hx,hr,g⟩:=f72 B j hB role r1 r4;have ga:=xjB B j1 l x role ((n+1:Nat):Int) (by omega) l.length 0 false (by omega) (bW _);have hp:(0:Int)<((n+1:Nat):Int):=by omega
  have e1:af.wrap (((n+1:Nat):Int)-1)=(n:Int):=wZ (by omega)
  have hv:=gB l;have hs:=rE l x;have c1:(l.length+1)*56<=140737488355328:=by omega
  rw[bh,Bool.false_or,show((0:Nat):Int)=0 from rfl]at ga;cases ha:agn x l with
  |true=>
   rw[ha]at ga;obtain⟨r,j',q1,q2,q3,q4⟩:=ih l j1 (by omega) hc;refine⟨r,j',q1,by omega,fun _=> ?_, ?_⟩
   ·obtain⟨i,hi,e⟩:=Gs ha
    refine⟨i,by rw[ac];omega, ?_⟩;rw[aa,bE hi,<-aa,e,hr]
   ·rw[ai]
    obtain⟨a,b,c,d⟩:=x;simp only[bn,Img.sv]at g ga q4 hs ⊢;simp only[go_sem,Q0,Q1,Q2,Q3,Q4,Q5,Q6,Q7,Q8,Q9,Qa,Qb,Qc,Qd,Qe,Qf,Qg,Qh,Qi,Qj,Qk,reduceCtorEq,reduceIte,hp,g,xiM,e1,ga,q4]
  |false=>
   rw[ha]at ga;obtain⟨r,j',q1,q2,q3,q4⟩:=ih (l++ [x]) j1 (by rw[ac,aS];omega) (hc.snoc hx hr ha);rw[ay]at q1 q3 q4;refine⟨[x]++r,j',q1,by rw[ac,aS];omega,fun _=> ?_, ?_⟩
   ·refine⟨l.length,by rw[ac,ac,aS];omega, ?_⟩
    rw[aa,bV (aO _),Nat.sub_self];exact hr
   ·rw[ai]
    obtain⟨a,b,c,d⟩:=x;rw[<-ay,<-rE]at*;simp only[bn,Img.sv]at g ga q4 ⊢;simp only[go_sem,Q0,Q1,Q2,Q3,Q4,Q5,Q6,Q7,Q8,Q9,Qa,Qb,Qc,Qd,Qe,Qf,Qg,Qh,Qi,Qj,Qk,reduceCtorEq,reduceIte,hp,g,xiM,e1,ga,hv,c1,q4]
theorem ui{l r:List Img}{c:Int}(h:∃i,i<l.length/\(l.getD i im0).role=c):∃i,i<(l++r).length/\((l++r).getD i im0).role=c:=by obtain⟨i,hi,e⟩:=h;refine⟨i,by rw[ac];omega, ?_⟩;rw[aa,bE hi,<-aa,e]
theorem XY(B:List UInt8)(hB:B.length<=1000)(role:Int)(r1:1<=role)(r4:role<=4)(l:List Img)(j:Nat)(hl:l.length+2<=8)(hc:ChP l role):
 ∃r j',ChP (l++r) role/\r.length<=2/\(role=1\/role=3->∃i,i<(l++r).length/\((l++r).getD i im0).role=role)/\
 run T (.loop qd) ⟨[(3,.ptr 12100 0),(4,.lst 4 (ik l) (.id 104)),(5,.int .i64 role)],[(12100,bn B j)],[104]⟩=
 run T (.loop qd) ⟨[(3,.ptr 12100 0),(4,.lst 4 (ik (l++r)) (.id 104)),(5,.int .i64 (role+1))],[(12100,bn B j')],[104]⟩:=by
 have g1:=f71 B j 3 (by omega) (by omega);have g2:=f71 B (cz B j) 2 (by omega) (by omega);have v1:=dN B j 3 (by omega);have v2:=dN B (cz B j) 2 (by omega);rw[cz3]at g1;rw[c2]at g2;have e:af.wrap (1+((dw B (cz B j) 2:Nat):Int))=((1+dw B (cz B j) 2:Nat):Int):=wZ (by omega)
 have hr:role=1\/role=2\/role=3\/role=4:=by omega
 rcases hr with rfl|rfl|rfl|rfl
 ·obtain⟨r,j',q1,q2,q3,q4⟩:=XZ B hB 1 (by decide) (by decide) (1+dw B (cz B j) 2) l (cz B (cz B j)) (by omega) hc
  refine⟨r,j',q1,by omega,fun _=>q3 (by omega), ?_⟩;rw[ai];simp only[bn]at g1 g2 q4 ⊢;simp only[go_sem,Q0,Q1,Q2,Q3,Q4,Q5,Q6,Q7,Q8,Q9,Qa,Qb,Qc,Qd,Qe,Qf,Qg,Qh,Qi,Qj,Qk,reduceCtorEq,reduceIte,g1,g2,jw,e,q4];rfl
 ·obtain⟨r,j',q1,q2,q3,q4⟩:=XZ B hB 2 (by decide) (by decide) (dw B j 3) l (cz B j) (by omega) hc
  refine⟨r,j',q1,by omega,fun h=>absurd h (by decide), ?_⟩;rw[ai];simp only[bn]at g1 g2 q4 ⊢;simp only[go_sem,Q0,Q1,Q2,Q3,Q4,Q5,Q6,Q7,Q8,Q9,Qa,Qb,Qc,Qd,Qe,Qf,Qg,Qh,Qi,Qj,Qk,reduceCtorEq,reduceIte,g1,jw,q4];rfl
 ·obtain⟨r,j',q1,q2,q3,q4⟩:=XZ B hB 3 (by decide) (by decide) (1+dw B (cz B j) 2) l (cz B (cz B j)) (by omega) hc
  refine⟨r,j',q1,by omega,fun _=>q3 (by omega), ?_⟩;rw[ai];simp only[bn]at g1 g2 q4 ⊢;simp only[go_sem,Q0,Q1,Q2,Q3,Q4,Q5,Q6,Q7,Q8,Q9,Qa,Qb,Qc,Qd,Qe,Qf,Qg,Qh,Qi,Qj,Qk,reduceCtorEq,reduceIte,g1,g2,jw,e,q4];rfl
 ·obtain⟨r,j',q1,q2,q3,q4⟩:=XZ B hB 4 (by decide) (by decide) (dw B j 3) l (cz B j) (by omega) hc
  refine⟨r,j',q1,by omega,fun h=>absurd h (by decide), ?_⟩;rw[ai];simp only[bn]at g1 g2 q4 ⊢;simp only[go_sem,Q0,Q1,Q2,Q3,Q4,Q5,Q6,Q7,Q8,Q9,Qa,Qb,Qc,Qd,Qe,Qf,Qg,Qh,Qi,Qj,Qk,reduceCtorEq,reduceIte,g1,jw,q4];rfl
theorem yD{l:List Img}{a b:Int}(h:ChP l a)(hab:a<=b):ChP l b:=⟨h.ok,fun i hi=>Int.le_trans (h.le i hi) hab,h.ord,h.dup⟩
theorem f28(codes:List UInt8):∃l,jA l/\call T 28 [.byt codes .no] [] 0=some ⟨.lst 4 (ik l) .no,[],[]⟩:=by
 have hB:(codes.take 200).length<=1000:=by rw[aj];omega
 have g:=f29 codes 200;rw[xkO]at g;generalize codes.take 200=B at*;have h0:ChP [] 1:=⟨fun i hi=>absurd hi (by simp),fun i hi=>absurd hi (by simp),fun i hi=>absurd hi (by simp),fun i hi=>absurd hi (by simp)⟩;obtain⟨a1,j1,p1,n1,w1,t1⟩:=XY B hB 1 (by decide) (by decide) [] 0 (by decide) h0;rw[aF]at p1 w1 t1;obtain⟨a2,j2,p2,n2,w2,t2⟩:=XY B hB 2 (by decide) (by decide) a1 j1 (by omega) (yD p1 (by decide));obtain⟨a3,j3,p3,n3,w3,t3⟩:=XY B hB 3 (by decide) (by decide) (a1++a2) j2 (by rw[ac];omega) (yD p2 (by decide));obtain⟨a4,j4,p4,n4,w4,t4⟩:=XY B hB 4 (by decide) (by decide) (a1++a2++a3) j3 (by simp only[ac];omega) (yD p3 (by decide));refine⟨a1++a2++a3++a4,⟨?_, ?_,p4.ok,p4.ord,p4.dup,ui (ui (ui (w1 (Or.inl rfl)))),ui (w3 (Or.inr rfl))⟩, ?_⟩
 ·obtain⟨i,hi,_⟩:=w1 (Or.inl rfl)
  simp only[ac];omega
 ·simp only[ac];omega
 ·rw[ao xlC]
  rw[show(1:Int)+1=2 from rfl]at t1;rw[show(2:Int)+1=3 from rfl]at t2;rw[show(3:Int)+1=4 from rfl]at t3;rw[show(4:Int)+1=5 from rfl]at t4
  have t5:run T (.loop qd) ⟨[(3,.ptr 12100 0),(4,.lst 4 (ik (a1++a2++a3++a4)) (.id 104)),(5,.int .i64 5)],[(12100,bn B j4)],[104]⟩=some (.x 0,⟨[(4,.lst 4 (ik (a1++a2++a3++a4)) (.id 104))],[(12100,bn B j4)],[104]⟩):=by rw[ai];simp only[bn,go_sem,Q0,Q1,Q2,Q3,Q4,Q5,Q6,Q7,Q8,Q9,Qa,Qb,Qc,Qd,Qe,Qf,Qg,Qh,Qi,Qj,Qk,reduceCtorEq,reduceIte]
  rw[t5]at t4;rw[t4]at t3;rw[t3]at t2;rw[t2]at t1;have e0:ik []=[]:=rfl;rw[e0]at t1;simp only[bn,c0,ay]at g t1;simp only[go_sem,Q0,Q1,Q2,Q3,Q4,Q5,Q6,Q7,Q8,Q9,Qa,Qb,Qc,Qd,Qe,Qf,Qg,Qh,Qi,Qj,Qk,reduceCtorEq,reduceIte,g,xiO,t1,ay]

theorem f33(role:Int):call T 33 [.int .i64 role] [] 0=some ⟨.int .i64 (zZ role),[],[]⟩:=by
 rw[ao xlz];unfold zZ
 by_cases h1:role=1
 ·subst h1;simp only[go_sem,Q0,Q1,Q2,Q3,Q4,Q5,Q6,Q7,Q8,Q9,Qa,Qb,Qc,Qd,Qe,Qf,Qg,Qh,Qi,Qj,Qk,reduceCtorEq,reduceIte,oY]
 by_cases h2:role=2
 ·subst h2;simp only[go_sem,Q0,Q1,Q2,Q3,Q4,Q5,Q6,Q7,Q8,Q9,Qa,Qb,Qc,Qd,Qe,Qf,Qg,Qh,Qi,Qj,Qk,reduceCtorEq,reduceIte,oY]
 by_cases h3:role=3
 ·subst h3;simp only[go_sem,Q0,Q1,Q2,Q3,Q4,Q5,Q6,Q7,Q8,Q9,Qa,Qb,Qc,Qd,Qe,Qf,Qg,Qh,Qi,Qj,Qk,reduceCtorEq,reduceIte,oY]
 by_cases h4:role=4
 ·subst h4;simp only[go_sem,Q0,Q1,Q2,Q3,Q4,Q5,Q6,Q7,Q8,Q9,Qa,Qb,Qc,Qd,Qe,Qf,Qg,Qh,Qi,Qj,Qk,reduceCtorEq,reduceIte,oY]
 by_cases h0:role=0
 ·subst h0;simp only[go_sem,Q0,Q1,Q2,Q3,Q4,Q5,Q6,Q7,Q8,Q9,Qa,Qb,Qc,Qd,Qe,Qf,Qg,Qh,Qi,Qj,Qk,reduceCtorEq,reduceIte,oY]
 by_cases h5:role<0
 ·simp only[go_sem,Q0,Q1,Q2,Q3,Q4,Q5,Q6,Q7,Q8,Q9,Qa,Qb,Qc,Qd,Qe,Qf,Qg,Qh,Qi,Qj,Qk,reduceCtorEq,reduceIte,h1,h2,h3,h4,h5]
 ·have h6:5<=role:=by omega
  simp only[go_sem,Q0,Q1,Q2,Q3,Q4,Q5,Q6,Q7,Q8,Q9,Qa,Qb,Qc,Qd,Qe,Qf,Qg,Qh,Qi,Qj,Qk,reduceCtorEq,reduceIte,h1,h2,h3,h4,h5,h6]
theorem f77(a b:List UInt8):call T 77 [.byt a .no,.byt b .no] [] 0=some ⟨.bool (decide (a=b)),[],[]⟩:=by rw[ao xk4];simp only[go_sem,Q0,Q1,Q2,Q3,Q4,Q5,Q6,Q7,Q8,Q9,Qa,Qb,Qc,Qd,Qe,Qf,Qg,Qh,Qi,Qj,Qk,reduceCtorEq,reduceIte]
def P7(b:List UInt8):Bool:=b.all fun c=> !(decide (c<32)||decide (126<c))
def nW(m:Bool)(d s:List UInt8):Bool:=if(0:Int)<d.length then(m&&decide (d=s))else true
def Ye(e:Ev):Bool:=
 if e.kind=1 then true
 else if e.kind=2 then(if e.data=[0,0,0,0]then nW true (e.dg.getD 0 []) (lG e.data)&&nW true (e.dg.getD 1 []) (sha e.data)else false)
 else if e.kind=3 then(if(e.data.length:Int)=0 then false else if P7 e.data=true then nW true (e.dg.getD 0 []) (lG e.data)&&nW true (e.dg.getD 1 []) (sha e.data)else false)
 else if e.kind=4 then nW true (e.dg.getD 0 []) (lG e.data)&&nW true (e.dg.getD 1 []) (sha e.data)
 else if e.kind=5 then nW false (e.dg.getD 0 []) []&&nW false (e.dg.getD 1 []) []
 else false
theorem xjw(O:SV)(m:Bool)(ob:List (Nat×aG))(b:List UInt8)(hb:b.length<=1000000000000):∀(n i:Nat),b.length-i=n->i<=b.length->
 run T (.loop xR) ⟨[(1,O),(3,.bool m),(34,.byt b .no),(35,.int .i64 b.length),(36,.int .i64 i)],ob,[]⟩=
 if P7 (b.drop i)=true then some (.x 1,⟨[(1,O),(3,.bool m)],ob,[]⟩)else some (.r,⟨[(2,.bool false)],ob,[]⟩):=by
 intro n;induction n with
 |zero=>
  intro i h0 h1;have hi:i=b.length:=by omega
  subst hi;rw[ai,bl];simp only[go_sem,Q0,Q1,Q2,Q3,Q4,Q5,Q6,Q7,Q8,Q9,Qa,Qb,Qc,Qd,Qe,Qf,Qg,Qh,Qi,Qj,Qk,reduceCtorEq,reduceIte,P7]
 |succ n ih=>
  intro i h0 h1;have hi:i<b.length:=by omega
  have e1:=cE i (by omega);have ih':=ih (i+1) (by omega) (by omega);rw[ai,dh b i hi];unfold P7 at ih' ⊢;rw[iD];generalize hc:b.getD i 0=c at*;generalize (jq (i+1) b).all _=q at*
  by_cases a1:c<32
  ·simp only[go_sem,Q0,Q1,Q2,Q3,Q4,Q5,Q6,Q7,Q8,Q9,Qa,Qb,Qc,Qd,Qe,Qf,Qg,Qh,Qi,Qj,Qk,reduceCtorEq,reduceIte,hi,hc,e1,a1]
  ·by_cases a2:126<c
   ·simp only[go_sem,Q0,Q1,Q2,Q3,Q4,Q5,Q6,Q7,Q8,Q9,Qa,Qb,Qc,Qd,Qe,Qf,Qg,Qh,Qi,Qj,Qk,reduceCtorEq,reduceIte,hi,hc,e1,a1,a2]
   ·simp only[go_sem,Q0,Q1,Q2,Q3,Q4,Q5,Q6,Q7,Q8,Q9,Qa,Qb,Qc,Qd,Qe,Qf,Qg,Qh,Qi,Qj,Qk,reduceCtorEq,reduceIte,hi,hc,e1,a1,a2,ih']
theorem xid(
 m:Bool)(g k:Int)(d0 d1 b s0 s1:List UInt8)(hb:b.length<=1000000)(h0:m=true->s0=lG b)(h1:m=true->s1=sha b):
 run T (.loop xQ) ⟨[(1,.ptr 101 0),(3,.bool m),(53,.int .i64 2),(54,.int .i64 0)],[(101,.rc [.int .i64 g,.int .i64 k,.lst 1 [[.byt d0 .no],[.byt d1 .no]] .no,.byt b .no])],[]⟩=
 if(nW m d0 s0&&nW m d1 s1)=true then some (.x 3,⟨[],[(101,.rc [.int .i64 g,.int .i64 k,.lst 1 [[.byt d0 .no],[.byt d1 .no]] .no,.byt b .no])],[]⟩)
 else some (.r,⟨[(2,.bool false)],[(101,.rc [.int .i64 g,.int .i64 k,.lst 1 [[.byt d0 .no],[.byt d1 .no]] .no,.byt b .no])],[]⟩):=by
 have g0:=xj2 b (by omega);have g1:=f90 b (by omega);have g2:=f77 d0 (lG b);have g3:=f77 d1 (sha b);have k1:af.wrap 1=1:=rfl;have k2:af.wrap 2=2:=rfl;unfold nW;cases m with
 |false=>
  by_cases a1:(0:Int)<d0.length
  ·rw[ai];simp only[go_sem,Q0,Q1,Q2,Q3,Q4,Q5,Q6,Q7,Q8,Q9,Qa,Qb,Qc,Qd,Qe,Qf,Qg,Qh,Qi,Qj,Qk,reduceCtorEq,reduceIte,a1]
  ·by_cases a2:(0:Int)<d1.length
   ·iterate 2
     rw[ai];simp only[go_sem,Q0,Q1,Q2,Q3,Q4,Q5,Q6,Q7,Q8,Q9,Qa,Qb,Qc,Qd,Qe,Qf,Qg,Qh,Qi,Qj,Qk,reduceCtorEq,reduceIte,a1,a2,k1,k2]
   ·iterate 3
     rw[ai];simp only[go_sem,Q0,Q1,Q2,Q3,Q4,Q5,Q6,Q7,Q8,Q9,Qa,Qb,Qc,Qd,Qe,Qf,Qg,Qh,Qi,Qj,Qk,reduceCtorEq,reduceIte,a1,a2,k1,k2]
 |true=>
  rw[h0 rfl,h1 rfl]
  by_cases a1:(0:Int)<d0.length
  ·by_cases b1:d0=lG b
   ·have g2':call T 77 [.byt d0 .no,.byt (lG b) .no] [] 0=some ⟨.bool true,[],[]⟩:=by rw[g2,decide_eq_true b1]
    by_cases a2:(0:Int)<d1.length
    ·by_cases b2:d1=sha b
     ·have g3':call T 77 [.byt d1 .no,.byt (sha b) .no] [] 0=some ⟨.bool true,[],[]⟩:=by rw[g3,decide_eq_true b2]
      rw[decide_eq_true b1,decide_eq_true b2]
      iterate 3
       rw[ai];simp only[go_sem,Q0,Q1,Q2,Q3,Q4,Q5,Q6,Q7,Q8,Q9,Qa,Qb,Qc,Qd,Qe,Qf,Qg,Qh,Qi,Qj,Qk,reduceCtorEq,reduceIte,a1,a2,k1,k2,g0,g1,g2',g3',xx,vN]
     ·have g3':call T 77 [.byt d1 .no,.byt (sha b) .no] [] 0=some ⟨.bool false,[],[]⟩:=by rw[g3,decide_eq_false b2]
      rw[decide_eq_true b1,decide_eq_false b2]
      iterate 2
       rw[ai];simp only[go_sem,Q0,Q1,Q2,Q3,Q4,Q5,Q6,Q7,Q8,Q9,Qa,Qb,Qc,Qd,Qe,Qf,Qg,Qh,Qi,Qj,Qk,reduceCtorEq,reduceIte,a1,a2,k1,k2,g0,g1,g2',g3',xx,vN]
    ·rw[decide_eq_true b1]
     iterate 3
      rw[ai];simp only[go_sem,Q0,Q1,Q2,Q3,Q4,Q5,Q6,Q7,Q8,Q9,Qa,Qb,Qc,Qd,Qe,Qf,Qg,Qh,Qi,Qj,Qk,reduceCtorEq,reduceIte,a1,a2,k1,k2,g0,g1,g2',xx,vN]
   ·have g2':call T 77 [.byt d0 .no,.byt (lG b) .no] [] 0=some ⟨.bool false,[],[]⟩:=by rw[g2,decide_eq_false b1]
    rw[decide_eq_false b1];rw[ai];simp only[go_sem,Q0,Q1,Q2,Q3,Q4,Q5,Q6,Q7,Q8,Q9,Qa,Qb,Qc,Qd,Qe,Qf,Qg,Qh,Qi,Qj,Qk,reduceCtorEq,reduceIte,a1,k1,k2,g0,g1,g2',xx,vN]
  ·by_cases a2:(0:Int)<d1.length
   ·by_cases b2:d1=sha b
    ·have g3':call T 77 [.byt d1 .no,.byt (sha b) .no] [] 0=some ⟨.bool true,[],[]⟩:=by rw[g3,decide_eq_true b2]
     rw[decide_eq_true b2]
     iterate 3
      rw[ai];simp only[go_sem,Q0,Q1,Q2,Q3,Q4,Q5,Q6,Q7,Q8,Q9,Qa,Qb,Qc,Qd,Qe,Qf,Qg,Qh,Qi,Qj,Qk,reduceCtorEq,reduceIte,a1,a2,k1,k2,g0,g1,g3',xx,vN]
    ·have g3':call T 77 [.byt d1 .no,.byt (sha b) .no] [] 0=some ⟨.bool false,[],[]⟩:=by rw[g3,decide_eq_false b2]
     rw[decide_eq_false b2]
     iterate 2
      rw[ai];simp only[go_sem,Q0,Q1,Q2,Q3,Q4,Q5,Q6,Q7,Q8,Q9,Qa,Qb,Qc,Qd,Qe,Qf,Qg,Qh,Qi,Qj,Qk,reduceCtorEq,reduceIte,a1,a2,k1,k2,g0,g1,g3',xx,vN]
   ·iterate 3
     rw[ai];simp only[go_sem,Q0,Q1,Q2,Q3,Q4,Q5,Q6,Q7,Q8,Q9,Qa,Qb,Qc,Qd,Qe,Qf,Qg,Qh,Qi,Qj,Qk,reduceCtorEq,reduceIte,a1,a2,k1,k2]
theorem two{α:Type}(l:List α)(d:α)(h:l.length=2):l=[l.getD 0 d,l.getD 1 d]:=by
 match l,h with
 |[a,b],_=>rfl
theorem f79(e:Ev)(hd:e.dg.length=2)(hb:e.data.length<=1000000):call T 79 [.agg e.sv] [] 0=some ⟨.bool (Ye e),[],[]⟩:=by
 obtain⟨g,k,ds,b⟩:=e;simp only at hd hb;rw[two ds [] hd];generalize ds.getD 0 []=d0;generalize ds.getD 1 []=d1;clear hd;have q0:=xid false g k d0 d1 b [] [] hb (fun h=>by cases h) (fun h=>by cases h);have q1:=xid true g k d0 d1 b (lG b) (sha b) hb (fun _=>rfl) (fun _=>rfl);have p:=xjw (.ptr 101 0) true [(101,.rc [.int .i64 g,.int .i64 k,.lst 1 [[.byt d0 .no],[.byt d1 .no]] .no,.byt b .no])] b (by omega) _ 0 rfl (by omega);have p4:=f77 b [0,0,0,0];simp only[aA,bh]at p;have hbl:bls [d0,d1]=[[.byt d0 .no],[.byt d1 .no]]:=rfl;rw[ao xk2];unfold Ye Ev.sv;simp only[hbl,cn,cJ];generalize (nW false d0 []&&nW false d1 [])=z0 at*;generalize (nW true d0 (lG b)&&nW true d1 (sha b))=z1 at*
 by_cases h1:k=1
 ·subst h1;simp only[go_sem,Q0,Q1,Q2,Q3,Q4,Q5,Q6,Q7,Q8,Q9,Qa,Qb,Qc,Qd,Qe,Qf,Qg,Qh,Qi,Qj,Qk,reduceCtorEq,reduceIte]
 by_cases h2:k=2
 ·subst h2
  by_cases h3:b=[0,0,0,0]
  ·rw[decide_eq_true h3]at p4
   cases z1<;>simp only[go_sem,Q0,Q1,Q2,Q3,Q4,Q5,Q6,Q7,Q8,Q9,Qa,Qb,Qc,Qd,Qe,Qf,Qg,Qh,Qi,Qj,Qk,reduceCtorEq,reduceIte,h3,aq]at p4 q1 ⊢ <;>simp only[go_sem,Q0,Q1,Q2,Q3,Q4,Q5,Q6,Q7,Q8,Q9,Qa,Qb,Qc,Qd,Qe,Qf,Qg,Qh,Qi,Qj,Qk,reduceCtorEq,reduceIte,p4,vN,q1,aq]
  ·rw[decide_eq_false h3]at p4
   simp only[go_sem,Q0,Q1,Q2,Q3,Q4,Q5,Q6,Q7,Q8,Q9,Qa,Qb,Qc,Qd,Qe,Qf,Qg,Qh,Qi,Qj,Qk,reduceCtorEq,reduceIte,h3,p4,vN,aq]
 by_cases h3:k=3
 ·subst h3
  by_cases h4:(b.length:Int)=0
  ·simp only[go_sem,Q0,Q1,Q2,Q3,Q4,Q5,Q6,Q7,Q8,Q9,Qa,Qb,Qc,Qd,Qe,Qf,Qg,Qh,Qi,Qj,Qk,reduceCtorEq,reduceIte,h4]
  ·cases hp:P7 b with
   |true=>rw[if_pos hp]at p;cases z1<;>simp only[go_sem,Q0,Q1,Q2,Q3,Q4,Q5,Q6,Q7,Q8,Q9,Qa,Qb,Qc,Qd,Qe,Qf,Qg,Qh,Qi,Qj,Qk,reduceCtorEq,reduceIte]at q1<;>simp only[go_sem,Q0,Q1,Q2,Q3,Q4,Q5,Q6,Q7,Q8,Q9,Qa,Qb,Qc,Qd,Qe,Qf,Qg,Qh,Qi,Qj,Qk,reduceCtorEq,reduceIte,h4,p,q1,hp]
   |false=>rw[if_neg (by rw[hp];simp)]at p;simp only[go_sem,Q0,Q1,Q2,Q3,Q4,Q5,Q6,Q7,Q8,Q9,Qa,Qb,Qc,Qd,Qe,Qf,Qg,Qh,Qi,Qj,Qk,reduceCtorEq,reduceIte,h4,p,hp]
 by_cases h4:k=4
 ·subst h4
  cases z1<;>simp only[go_sem,Q0,Q1,Q2,Q3,Q4,Q5,Q6,Q7,Q8,Q9,Qa,Qb,Qc,Qd,Qe,Qf,Qg,Qh,Qi,Qj,Qk,reduceCtorEq,reduceIte]at q1<;>simp only[go_sem,Q0,Q1,Q2,Q3,Q4,Q5,Q6,Q7,Q8,Q9,Qa,Qb,Qc,Qd,Qe,Qf,Qg,Qh,Qi,Qj,Qk,reduceCtorEq,reduceIte,q1]
 by_cases h5:k=5
 ·subst h5
  cases z0<;>simp only[go_sem,Q0,Q1,Q2,Q3,Q4,Q5,Q6,Q7,Q8,Q9,Qa,Qb,Qc,Qd,Qe,Qf,Qg,Qh,Qi,Qj,Qk,reduceCtorEq,reduceIte]at q0<;>simp only[go_sem,Q0,Q1,Q2,Q3,Q4,Q5,Q6,Q7,Q8,Q9,Qa,Qb,Qc,Qd,Qe,Qf,Qg,Qh,Qi,Qj,Qk,reduceCtorEq,reduceIte,q0]
 simp only[go_sem,Q0,Q1,Q2,Q3,Q4,Q5,Q6,Q7,Q8,Q9,Qa,Qb,Qc,Qd,Qe,Qf,Qg,Qh,Qi,Qj,Qk,reduceCtorEq,reduceIte,h1,h2,h3,h4,h5]
end Go.Proofs.YtkcjdeofknkndaaGreatDoor
