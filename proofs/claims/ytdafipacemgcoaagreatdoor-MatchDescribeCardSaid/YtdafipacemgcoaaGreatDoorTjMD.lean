/- Contracts. No condition. -/
import Derived.Test.YtdafipacemgcoaaGreatDoorTfMD
open Bool renaming and_eq_true -> aA, false_or -> eu, true_or -> m7
open Go.IntKind renaming i64 -> aj
open List renaming append_assoc -> aZ, append_nil -> bK, drop -> lm, drop_eq_getElem_cons -> aU, drop_length -> bh, drop_zero -> bi, flatMap_cons -> dZ, getD_cons_succ -> bF, getD_cons_zero -> bp, getD_eq_getElem?_getD -> aa, getElem?_append_left -> aY, getElem?_append_right -> bj, getElem?_eq_getElem -> af, getElem_mem -> bo, getElem_of_mem -> bl, length_append -> ah, length_cons -> av, length_drop -> aE, length_map -> aQ, length_nil -> bg, length_replicate -> bQ, length_set -> cw, length_singleton -> aL, length_take -> aD, map_append -> dh, map_cons -> aO, map_nil -> ic, mem_append -> ak, mem_cons -> an, mem_cons_of_mem -> aq, mem_cons_self -> ax, mem_map -> aS, mem_of_mem_drop -> dQ, mem_of_mem_take -> bL, mem_singleton -> aN, nil_append -> bw, replicate -> au, take -> dj, take_length -> bt
open Nat renaming add_zero -> fm, le_refl -> aI, lt_or_ge -> bH, mul_one -> iF, zero_add -> bC, zero_le -> cu
open UInt8 renaming ofInt -> dO
set_option maxRecDepth 100000
set_option maxHeartbeats 16000000
set_option linter.unusedSimpArgs false
set_option linter.unusedVariables false
namespace Go.Proofs.YtdafipacemgcoaaGreatDoor
open Go.Sy
open UInt8 renaming reduceLT -> Q0, reduceLE -> Q1
open Int renaming reduceToNat -> Q2, reduceLE -> Q3, reduceLT -> Q4, reduceEq -> Q5, reduceNe -> Q6, reduceNeg -> Q7, reduceAdd -> Q8, reduceSub -> Q9, reduceMul -> Qa
open Nat renaming reducePow -> Qb, reduceDiv -> Qc, reduceMod -> Qd, reduceAdd -> Qe, reduceSub -> Qf, reduceMul -> Qg, reduceLT -> Qh, reduceLeDiff -> Qi, reduceEqDiff -> Qj, reduceBEq -> Qk
theorem xfE(n:Int):me n 2=0\/me n 2=1:=by
 unfold me;rw[if_neg (by omega)]
 have:n.tmod 2=0\/n.tmod 2=1\/n.tmod 2= -1:=by have z:=Int.tmod_lt_of_pos n (show(0:Int)<2 by decide);have B:=Int.lt_tmod_of_pos n (show(0:Int)<2 by decide);omega
 rcases this with h|h|h<;>rw[h]<;>simp
theorem f29(n:Int)(z: -9223372036854775808<=n)(B:n<=9223372036854775807):call T 29 [.int .i64 n] [] 0=some ⟨.int .i64 (2+me n 2),[],[]⟩:=by
 have g:=f18 n 2 z B (by omega);have e:aj.wrap (2+me n 2)=2+me n 2:=by rcases xfE n with h|h<;>rw[h]<;>rfl
 rw[az xlh];simp only[go_sem,Q0,Q1,Q2,Q3,Q4,Q5,Q6,Q7,Q8,Q9,Qa,Qb,Qc,Qd,Qe,Qf,Qg,Qh,Qi,Qj,Qk,reduceCtorEq,reduceIte,g,Rc,e]
def jO(h:t8):t6:=h.flatMap fun t=>jt t++ [10]
theorem Da(h:t8)(t:Nat):jO (h++ [t])=jO h++(jt t++ [10]):=by simp[jO]
theorem qG(t:Nat):(jt t).length<=8:=by unfold jt;split<;>simp
theorem uo(h:t8):(jO h).length<=9*h.length:=by
 induction h with
 |nil=>simp[jO]
 |cons t r z=>rw[jO,dZ,ah,ah,av,av,bg];have:=qG t;unfold jO at z;omega
theorem FR(t:Nat)(r:t6)(o:List t6)(z:o.length<4):lnF (jt t++10::r) o []=lnF r (o++ [jt t]) []:=by
 have h:¬(4:Int)<=o.length:=by omega
 unfold jt;split<;>simp[lnF,h]
theorem BV:∀(z:t8)(o:List t6),o.length+z.length<=4->lnF (jO z) o []=some (o++z.map jt,[])
 |[],o,_=>by simp[jO,lnF]
 |t::r,o,h=>by
  rw[av]at h;have e:jO (t::r)=jt t++10::jO r:=by simp[jO]
  rw[e,FR t _ o (by omega),BV r _ (by rw[ah,aL];omega)];simp
theorem wk(z:t8)(h:z.length<=4):dN (jO z)=z.map jt:=by unfold dN;rw[BV z [] (by simpa using h)];simp
theorem xjG(B:t6)(E:B.length<=1000):∀(k:Nat)(h:t8)(j:Nat),k<=4->h.length+k<=100->∃us C,us.length=k/\
 run T (.loop xU) ⟨[(0,.ptr 0 0),(3,.byt (jO h) (.id 103)),(4,.int .i64 k)],[(0,bN B j)],[103]⟩=some (.x 0,⟨[(3,.byt (jO (h++us)) (.id 103))],[(0,bN B C)],[103]⟩):=by
 intro k;induction k with
 |zero=>intro h j J H;refine⟨[],j,rfl, ?_⟩;rw[al,bK];simp only[go_sem,Q0,Q1,Q2,Q3,Q4,Q5,Q6,Q7,Q8,Q9,Qa,Qb,Qc,Qd,Qe,Qf,Qg,Qh,Qi,Qj,Qk,reduceCtorEq,reduceIte]
 |succ k L=>
  intro h j J H;obtain⟨us,C,hu,z⟩:=L (h++ [dX B j 6]) (cX B j) (by omega) (by rw[ah,aL];omega);refine⟨dX B j 6::us,C,by rw[av,hu], ?_⟩;have g:=f86 B j E;have Q:=uo h;have O:=qG (dX B j 6);have F:aj.wrap (((k+1:Nat):Int)-1)=(k:Int):=wZ (by omega)
  have I:(0:Int)<((k+1:Nat):Int):=by omega
  have c1:(jO h).length+(jt (dX B j 6)).length<=140737488355328:=by omega
  have c2:(jO h).length+(jt (dX B j 6)).length+1<=140737488355328:=by omega
  rw[Da]at z;rw[show h++dX B j 6::us=h++ [dX B j 6]++us from by simp];rw[al];simp only[bN]at g z ⊢;simp only[go_sem,Q0,Q1,Q2,Q3,Q4,Q5,Q6,Q7,Q8,Q9,Qa,Qb,Qc,Qd,Qe,Qf,Qg,Qh,Qi,Qj,Qk,reduceCtorEq,reduceIte,I,g,xls,c1,c2,F,z]
theorem xki(B:t6)(i:Nat)(C:B.length<=1000):∃z j,1<=z.length/\z.length<=4/\call T 109 [.ptr 0 0] [bN B i] 0=some ⟨.byt (jO z) .no,[(0,bN B j)],[]⟩:=by
 have g:=f37 B i 4 (by omega) (by omega);have F:=gB B i 4 (by omega);obtain⟨us,j,hu,h⟩:=xjG B C (1+dX B i 4) [] (cX B i) (by omega) (by simp only[bg];omega);have e:aj.wrap (1+((dX B i 4:Nat):Int))=((1+dX B i 4:Nat):Int):=wZ (by omega)
 refine⟨us,j,by omega,by omega, ?_⟩;have E:jO []=[]:=rfl;rw[E,bw]at h;rw[cz4]at g;simp only[bN]at g h ⊢;rw[az xgR];simp only[go_sem,Q0,Q1,Q2,Q3,Q4,Q5,Q6,Q7,Q8,Q9,Qa,Qb,Qc,Qd,Qe,Qf,Qg,Qh,Qi,Qj,Qk,reduceCtorEq,reduceIte,g,sQ,e,h]
def fD:Nat->t6
 |0=> [97]
 |1=> [103,114,117,98]
 |2=> [108,105,110,117,120]
 |3=> [110,101,116,45,48]
 |_=> [116,119,101,108,118,101,45,98,121,116,101,115]
theorem xkj:call T 108 [] [] 0=some ⟨.agg [.str (fD 0),.str (fD 1),.str (fD 2),.str (fD 3),.str (fD 4)],[],[]⟩:=by rw[az xgS];simp only[go_sem,Q0,Q1,Q2,Q3,Q4,Q5,Q6,Q7,Q8,Q9,Qa,Qb,Qc,Qd,Qe,Qf,Qg,Qh,Qi,Qj,Qk,reduceCtorEq,reduceIte,fD]
theorem FJ:∀v,v<5->Pr.nameB (fD v)=true:=by decide
theorem l65(B:t6)(S:B.length<=1000)(role H:Int)(F:t6):∀(n i:Nat)(l:t6)(j:Nat),l.length-i=n->i<=l.length->l.length<=6->∃h z,h.length=l.length/\
 run T (.loop s6) ⟨[(0,.ptr 0 0),(4,.ptr 104 0),(5,.ptr 105 0),(6,.int .i64 i)],[(0,bN B j),(104,.rc [.int .i64 0,.str [],.int .i64 0,.byt [] .clip]),(105,.rc [.int .i64 role,.str F,.int .i64 H,.psl 130 1 0 l.length (some l.length)]),(130,.bar l)],[]⟩=
  some (.x 0,⟨[(4,.ptr 104 0),(5,.ptr 105 0)],[(0,bN B z),(104,.rc [.int .i64 0,.str [],.int .i64 0,.byt [] .clip]),(105,.rc [.int .i64 role,.str F,.int .i64 H,.psl 130 1 0 l.length (some l.length)]),(130,.bar h)],[]⟩):=by
 intro n;induction n with
 |zero=>
  intro i l j I O L;have:i=l.length:=by omega
  refine⟨l,j,rfl, ?_⟩;subst this;rw[al];simp only[go_sem,Q0,Q1,Q2,Q3,Q4,Q5,Q6,Q7,Q8,Q9,Qa,Qb,Qc,Qd,Qe,Qf,Qg,Qh,Qi,Qj,Qk,reduceCtorEq,reduceIte]
 |succ n Q=>
  intro i l j I O L;have hi:i<l.length:=by omega
  have J:=cA i (by omega);have g:=f37 B j 256 (by omega) (by omega);rw[xks]at g;obtain⟨h,z,E,C⟩:=Q (i+1) (l.set i (dO ((dX B j 256:Nat):Int))) (cX B j) (by rw[cw];omega) (by rw[cw];omega) (by rw[cw];omega);rw[cw]at E C;refine⟨h,z,E, ?_⟩;rw[al];simp only[bN]at g C ⊢;simp only[go_sem,Q0,Q1,Q2,Q3,Q4,Q5,Q6,Q7,Q8,Q9,Qa,Qb,Qc,Qd,Qe,Qf,Qg,Qh,Qi,Qj,Qk,reduceCtorEq,reduceIte,hi,J,g,sQ,C]
theorem f65(B:t6)(j:Nat)(hB:B.length<=1000)(role:Int)(h1:1<=role)(h4:role<=4):∃(x:Img)(H:Nat),dD x=0/\x.role=role/\(¬role=4->x.pay.length<=6)/\
 call T 65 [.ptr 0 0,.int .i64 role] [bN B j] 0=some ⟨.agg x.sv,[(0,bN B H)],[]⟩:=by
 have g1:=xkj;have g2:=f37 B j 5 (by omega) (by omega);have v2:=gB B j 5 (by omega);have g3:=f37 B (cX B j) 5 (by omega) (by omega);have v3:=gB B (cX B j) 5 (by omega);have g4:=f37 B (cX B (cX B j)) 9 (by omega) (by omega);have g5:=f37 B (cX B (cX B (cX B j))) 3 (by omega) (by omega);have v5:=gB B (cX B (cX B (cX B j))) 3 (by omega);rw[cz5]at g2 g3;rw[c9]at g4;rw[cz3]at g5;generalize dX B j 5=z at*;generalize dX B (cX B j) 5=w3 at*;generalize dX B (cX B (cX B j)) 9=w4 at*;generalize dX B (cX B (cX B (cX B j))) 3=w5 at*;simp only[bN]at g2 g3 g4 g5
 have hN:(lm z [SV.str (fD 0),.str (fD 1),.str (fD 2),.str (fD 3),.str (fD 4)]).getD 0 .undef= .str (fD z):=by
  have hn:z=0\/z=1\/z=2\/z=3\/z=4:=by omega
  rcases hn with rfl|rfl|rfl|rfl|rfl<;>rfl
 have Q:(z:Int)<5:=by omega
 have em:z*1=z:=iF _;have a2:=FJ z v2;have ew:aj.wrap (1000000-(w5:Int))=1000000-(w5:Int):=w64 (by omega) (by omega)
 have a1:∀(L:Nat)(F:Int),0<=F->F<=1000000->∃(x:Img)(H:Nat),dD x=0/\x.role=role/\x.name=fD z/\x.ver=F/\
  (role=4->call T 109 [.ptr 0 0] [bN B L] 0=some ⟨.byt x.pay .no,[(0,bN B H)],[]⟩)/\
  (¬role=4->∃(j1 n:Nat),n<7/\call T 37 [.ptr 0 0,.int .i64 7] [bN B L] 0=some ⟨.int .i64 (n:Int),[(0,bN B j1)],[]⟩/\x.pay.length=n/\
   run T (.loop s6) ⟨[(0,.ptr 0 0),(4,.ptr 104 0),(5,.ptr 105 0),(6,.int .i64 0)],[(0,bN B j1),(104,.rc [.int .i64 0,.str [],.int .i64 0,.byt [] .clip]),(105,.rc [.int .i64 role,.str (fD z),.int .i64 F,.psl 130 1 0 n (some n)]),(130,.bar (au n 0))],[]⟩=
    some (.x 0,⟨[(4,.ptr 104 0),(5,.ptr 105 0)],[(0,bN B H),(104,.rc [.int .i64 0,.str [],.int .i64 0,.byt [] .clip]),(105,.rc [.int .i64 role,.str (fD z),.int .i64 F,.psl 130 1 0 n (some n)]),(130,.bar x.pay)],[]⟩)):=by
  intro L F a4 a3
  by_cases C:role=4
  ·obtain⟨ts,H,U,S,O⟩:=xki B L hB
   refine⟨⟨role,fD z,F,jO ts⟩,H, ?_,rfl,rfl,rfl,fun _=>O,fun h=>absurd C h⟩;have hl:=uo ts;have hL:=wk ts S;unfold dD;rw[if_neg (by show ¬role<1;omega),if_neg (by show ¬4<role;omega),if_neg (by show ¬F<0;omega),if_neg (by show ¬1000000<F;omega),if_neg (by show ¬Pr.nameB (fD z)=false;rw[a2];simp),if_neg (by show ¬(64:Int)<(jO ts).length;omega)];show(if role=4 then(if((dN (jO ts)).length:Int)=0 then 40 else 0)else 0)=(0:Int);rw[if_pos C,hL,if_neg];rw[aQ];omega
  ·have g7:=f37 B L 7 (by omega) (by omega)
   have v7:=gB B L 7 (by omega);rw[show((7:Nat):Int)=7 from rfl]at g7;obtain⟨l',H,q1,q2⟩:=l65 B hB role F (fD z) (dX B L 7) 0 (au (dX B L 7) 0) (cX B L) (by rw[bQ];rfl) (cu _) (by rw[bQ];omega);rw[bQ]at q1 q2;refine⟨⟨role,fD z,F,l'⟩,H, ?_,rfl,rfl,rfl,fun h=>absurd h C,fun _=>⟨cX B L,dX B L 7,v7,g7,q1,q2⟩⟩;unfold dD;rw[if_neg (by show ¬role<1;omega),if_neg (by show ¬4<role;omega),if_neg (by show ¬F<0;omega),if_neg (by show ¬1000000<F;omega),if_neg (by show ¬Pr.nameB (fD z)=false;rw[a2];simp),if_neg (by show ¬(64:Int)<l'.length;omega)];show(if role=4 then(if((dN l').length:Int)=0 then 40 else 0)else 0)=(0:Int);rw[if_neg C]
 by_cases p4:w4=8
 ·have I:(w4:Int)=8:=by omega
  obtain⟨⟨xr,xn,xv,E⟩,H,e0,e1,e2,e3,e4,e5⟩:=a1 (cX B (cX B (cX B (cX B j)))) (1000000-(w5:Int)) (by omega) (by omega);simp only at e1 e2 e3 e4 e5;subst e1 e2 e3;refine⟨_,H,e0,rfl,fun C=> ?_, ?_⟩
  ·obtain⟨j1,n,hn,U,S,O⟩:=e5 C
   have J:E.length=n:=S;show E.length<=6;omega
  rw[az xiD]
  by_cases C:xr=4
  ·have t:=e4 C
   simp only[bN,Img.sv]at t ⊢;simp only[go_sem,Q0,Q1,Q2,Q3,Q4,Q5,Q6,Q7,Q8,Q9,Qa,Qb,Qc,Qd,Qe,Qf,Qg,Qh,Qi,Qj,Qk,reduceCtorEq,reduceIte,bN,g1,Eh,g2,sQ,g3,g4,g5,I,ew,C,hN,Q,em,t,Y7]
  ·obtain⟨j1,n,hn,U,S,O⟩:=e5 C
   have J:E.length=n:=S;have W:n<=E.length:=by omega
   have hq:dj n E=E:=by rw[<-J,bt]
   have Z:(n:Int)<7:=by omega
   have a0:(n:Int)<=140737488355328:=by omega
   simp only[bN,Img.sv]at U O ⊢;simp only[go_sem,Q0,Q1,Q2,Q3,Q4,Q5,Q6,Q7,Q8,Q9,Qa,Qb,Qc,Qd,Qe,Qf,Qg,Qh,Qi,Qj,Qk,reduceCtorEq,reduceIte,bN,g1,Eh,g2,sQ,g3,g4,g5,I,ew,C,hN,Q,em,U,Z,a0,O,W,hq]
 ·have I:¬(w4:Int)=8:=by omega
  obtain⟨⟨xr,xn,xv,E⟩,H,e0,e1,e2,e3,e4,e5⟩:=a1 (cX B (cX B (cX B j))) (w3:Int) (by omega) (by omega);simp only at e1 e2 e3 e4 e5;subst e1 e2 e3;refine⟨_,H,e0,rfl,fun C=> ?_, ?_⟩
  ·obtain⟨j1,n,hn,U,S,O⟩:=e5 C
   have J:E.length=n:=S;show E.length<=6;omega
  rw[az xiD]
  by_cases C:xr=4
  ·have t:=e4 C
   simp only[bN,Img.sv]at t ⊢;simp only[go_sem,Q0,Q1,Q2,Q3,Q4,Q5,Q6,Q7,Q8,Q9,Qa,Qb,Qc,Qd,Qe,Qf,Qg,Qh,Qi,Qj,Qk,reduceCtorEq,reduceIte,bN,g1,Eh,g2,sQ,g3,g4,I,C,hN,Q,em,t,Y7]
  ·obtain⟨j1,n,hn,U,S,O⟩:=e5 C
   have J:E.length=n:=S;have W:n<=E.length:=by omega
   have hq:dj n E=E:=by rw[<-J,bt]
   have Z:(n:Int)<7:=by omega
   have a0:(n:Int)<=140737488355328:=by omega
   simp only[bN,Img.sv]at U O ⊢;simp only[go_sem,Q0,Q1,Q2,Q3,Q4,Q5,Q6,Q7,Q8,Q9,Qa,Qb,Qc,Qd,Qe,Qf,Qg,Qh,Qi,Qj,Qk,reduceCtorEq,reduceIte,bN,g1,Eh,g2,sQ,g3,g4,I,C,hN,Q,em,U,Z,a0,O,W,hq]
theorem Du(l:List Img)(i:Nat)(h:i<l.length):l.getD i im0∈l:=by rw[aa,af h];exact bo _
theorem iJ{α:Type}(l:List α)(x d:α)(i:Nat)(h:i<l.length):(l++ [x]).getD i d=l.getD i d:=by rw[aa,aa,aY h]
theorem l7{α:Type}(l:List α)(x d:α):(l++ [x]).getD l.length d=x:=by rw[aa,bj (aI _),Nat.sub_self];rfl
structure ChP(l:List Img)(role:Int):Prop where
 ok:∀i,i<l.length->dD (l.getD i im0)=0
 le:∀i,i<l.length->(l.getD i im0).role<=role
 ord:∀i,i+1<l.length->(l.getD i im0).role<=(l.getD (i+1) im0).role
 dup:∀i,i<l.length->∀k,k<i->(l.getD k im0).role=(l.getD i im0).role->(l.getD k im0).name≠(l.getD i im0).name
 sh:∀i,i<l.length->¬(l.getD i im0).role=4->(l.getD i im0).pay.length<=6
def agn(x:Img)(l:List Img):Bool:=l.any fun y=>decide (y.role=x.role)&&decide (y.name=x.name)
theorem ChP.snoc{l:List Img}{role:Int}(h:ChP l role){x:Img}(L:dD x=0)(E:x.role=role)(C:agn x l=false)(H:¬role=4->x.pay.length<=6):ChP (l++ [x]) role:=by
 have F:(l++ [x]).length=l.length+1:=by simp
 refine⟨fun i hi=> ?_,fun i hi=> ?_,fun i hi=> ?_,fun i hi k B=> ?_,fun i hi=> ?_⟩
 ·rcases bH i l.length with z|z
  ·rw[iJ l x im0 i z];exact h.ok i z
  ·rw[show i=l.length from by omega,l7];exact L
 ·rcases bH i l.length with z|z
  ·rw[iJ l x im0 i z];exact h.le i z
  ·rw[show i=l.length from by omega,l7,E];exact Int.le_refl _
 ·rw[iJ l x im0 i (by omega)]
  rcases bH (i+1) l.length with z|z
  ·rw[iJ l x im0 (i+1) z];exact h.ord i z
  ·rw[show i+1=l.length from by omega,l7,E];exact h.le i (by omega)
 ·rcases bH i l.length with z|z
  ·rw[iJ l x im0 i z,iJ l x im0 k (by omega)];exact h.dup i z k B
  ·rw[show i=l.length from by omega]at B ⊢
   rw[l7,iJ l x im0 k B];intro J I;unfold agn at C;rw[List.any_eq_false]at C;have:=C (l.getD k im0) (Du l k B);rw[decide_eq_true J,decide_eq_true I]at this;exact this rfl
 ·rcases bH i l.length with z|z
  ·rw[iJ l x im0 i z];exact h.sh i z
  ·rw[show i=l.length from by omega,l7,E];exact H
theorem xjw(B:t6)(j:Nat)(l:List Img)(x:Img)(role n:Int)(U:l.length<=100):∀(k i:Nat)(z:Bool),l.length-i=k->i<=l.length->
 run T (.loop xE) ⟨[(3,.ptr 12100 0),(4,.lst 4 (eP l) (.id 104)),(5,.int .i64 role),(6,.int .i64 n),(7,.ptr 107 0),(8,.bool z),(9,.int .i64 i)],[(107,.rc x.sv),(12100,bN B j)],[104]⟩=
 some (.x 4,⟨[(3,.ptr 12100 0),(4,.lst 4 (eP l) (.id 104)),(5,.int .i64 role),(6,.int .i64 n),(7,.ptr 107 0),(8,.bool (z||agn x (l.drop i)))],[(107,.rc x.sv),(12100,bN B j)],[104]⟩):=by
 intro k;induction k with
 |zero=>
  intro i z J O;have:i=l.length:=by omega
  subst this;have C:=dx l;obtain⟨a,b,c,d⟩:=x;simp only[bN,Img.sv]at*;rw[al,bh];simp only[go_sem,Q0,Q1,Q2,Q3,Q4,Q5,Q6,Q7,Q8,Q9,Qa,Qb,Qc,Qd,Qe,Qf,Qg,Qh,Qi,Qj,Qk,reduceCtorEq,reduceIte,C,agn,List.any_nil,Bool.or_false]
 |succ k Q=>
  intro i z J O;have hi:i<l.length:=by omega
  have E:=cA i (by omega);have h:=Q (i+1) (z||(decide ((l.getD i im0).role=x.role)&&decide ((l.getD i im0).name=x.name))) (by omega) (by omega);have C:=dx l;have H:=eO l i hi;have hd:l.drop i=l.getD i im0::l.drop (i+1):=by rw[aU hi,aa,af hi];rfl
  have I:agn x (l.drop i)=((decide ((l.getD i im0).role=x.role)&&decide ((l.getD i im0).name=x.name))||agn x (l.drop (i+1))):=by rw[hd];rfl
  rw[I,<-Bool.or_assoc];rw[al];generalize agn x (l.drop (i+1))=R at*;generalize l.getD i im0=y at*;obtain⟨a,b,c,d⟩:=x;obtain⟨L,S,c2,d2⟩:=y;simp only[bN,Img.sv]at*;cases z with
  |true=>simp only[m7]at h ⊢;simp only[go_sem,Q0,Q1,Q2,Q3,Q4,Q5,Q6,Q7,Q8,Q9,Qa,Qb,Qc,Qd,Qe,Qf,Qg,Qh,Qi,Qj,Qk,reduceCtorEq,reduceIte,hi,E,C,H,h]
  |false=>
   by_cases p1:L=a
   ·by_cases F:S=b
    ·rw[decide_eq_true p1,decide_eq_true F]at h ⊢
     simp only[Bool.and_self,eu,m7]at h ⊢;simp only[go_sem,Q0,Q1,Q2,Q3,Q4,Q5,Q6,Q7,Q8,Q9,Qa,Qb,Qc,Qd,Qe,Qf,Qg,Qh,Qi,Qj,Qk,reduceCtorEq,reduceIte,hi,E,C,H,p1,F,h]
    ·rw[decide_eq_true p1,decide_eq_false F]at h ⊢
     simp only[Bool.and_false,eu]at h ⊢;simp only[go_sem,Q0,Q1,Q2,Q3,Q4,Q5,Q6,Q7,Q8,Q9,Qa,Qb,Qc,Qd,Qe,Qf,Qg,Qh,Qi,Qj,Qk,reduceCtorEq,reduceIte,hi,E,C,H,p1,F,h]
   ·rw[decide_eq_false p1]at h ⊢
    simp only[Bool.false_and,eu]at h ⊢;simp only[go_sem,Q0,Q1,Q2,Q3,Q4,Q5,Q6,Q7,Q8,Q9,Qa,Qb,Qc,Qd,Qe,Qf,Qg,Qh,Qi,Qj,Qk,reduceCtorEq,reduceIte,hi,E,C,H,p1,h]
theorem qL(l:List Img)(x:Img):eP l++ [x.sv]=eP (l++ [x]):=by rw[eP,eP,dh];rfl
theorem Gz{x:Img}{l:List Img}(h:agn x l=true):∃i,i<l.length/\(l.getD i im0).role=x.role:=by unfold agn at h;rw[List.any_eq_true]at h;obtain⟨y,z,h⟩:=h;obtain⟨i,hi,rfl⟩:=bl z;refine⟨i,hi, ?_⟩;rw[aA]at h;rw[aa,af hi];exact of_decide_eq_true h.1
theorem Yj(B:t6)(hB:B.length<=1000)(role:Int)(r1:1<=role)(r4:role<=4):∀(n:Nat)(l:List Img)(j:Nat),l.length+n<=8->ChP l role->
 ∃r E,ChP (l++r) role/\r.length<=n/\(1<=n->∃i,i<(l++r).length/\((l++r).getD i im0).role=role)/\
 run T (.loop xD) ⟨[(3,.ptr 12100 0),(4,.lst 4 (eP l) (.id 104)),(5,.int .i64 role),(6,.int .i64 (n:Int))],[(12100,bN B j)],[104]⟩=
  some (.x 2,⟨[(3,.ptr 12100 0),(4,.lst 4 (eP (l++r)) (.id 104)),(5,.int .i64 role)],[(12100,bN B E)],[104]⟩):=by
 intro n;induction n with
 |zero=>intro l j hl H;refine⟨[],j,by rw[bK];exact H,cu _,fun h=>absurd h (by omega), ?_⟩;rw[bK,al];simp only[bN];simp only[go_sem,Q0,Q1,Q2,Q3,Q4,Q5,Q6,Q7,Q8,Q9,Qa,Qb,Qc,Qd,Qe,Qf,Qg,Qh,Qi,Qj,Qk,reduceCtorEq,reduceIte]
 |succ n Q=>
  intro l j hl H;obtain⟨x,J,Z,I,L,g⟩:=f65 B j hB role r1 r4;have z:=xjw B J l x role ((n+1:Nat):Int) (by omega) l.length 0 false (by omega) (cu _);have O:(0:Int)<((n+1:Nat):Int):=by omega
  have S:aj.wrap (((n+1:Nat):Int)-1)=(n:Int):=wZ (by omega)
  have hv:=dx l;have W:=qL l x;have c1:(l.length+1)*56<=140737488355328:=by omega
  rw[bi,eu,show((0:Nat):Int)=0 from rfl]at z;cases ha:agn x l with
  |true=>
   rw[ha]at z;obtain⟨r,E,F,q2,U,C⟩:=Q l J (by omega) H;refine⟨r,E,F,by omega,fun _=> ?_, ?_⟩
   ·obtain⟨i,hi,e⟩:=Gz ha
    refine⟨i,by rw[ah];omega, ?_⟩;rw[aa,aY hi,<-aa,e,I]
   ·rw[al]
    obtain⟨a,b,c,d⟩:=x;simp only[bN,Img.sv]at g z C W ⊢;simp only[go_sem,Q0,Q1,Q2,Q3,Q4,Q5,Q6,Q7,Q8,Q9,Qa,Qb,Qc,Qd,Qe,Qf,Qg,Qh,Qi,Qj,Qk,reduceCtorEq,reduceIte,O,g,xiM,S,z,C]
  |false=>
   rw[ha]at z;obtain⟨r,E,F,q2,U,C⟩:=Q (l++ [x]) J (by rw[ah,aL];omega) (H.snoc Z I ha L);rw[aZ]at F U C;refine⟨[x]++r,E,F,by rw[ah,aL];omega,fun _=> ?_, ?_⟩
   ·refine⟨l.length,by rw[ah,ah,aL];omega, ?_⟩
    rw[aa,bj (aI _),Nat.sub_self];exact I
   ·rw[al]
    obtain⟨a,b,c,d⟩:=x;rw[<-aZ,<-qL]at*;simp only[bN,Img.sv]at g z C ⊢;simp only[go_sem,Q0,Q1,Q2,Q3,Q4,Q5,Q6,Q7,Q8,Q9,Qa,Qb,Qc,Qd,Qe,Qf,Qg,Qh,Qi,Qj,Qk,reduceCtorEq,reduceIte,O,g,xiM,S,z,hv,c1,C]
theorem tv{l r:List Img}{c:Int}(h:∃i,i<l.length/\(l.getD i im0).role=c):∃i,i<(l++r).length/\((l++r).getD i im0).role=c:=by obtain⟨i,hi,e⟩:=h;refine⟨i,by rw[ah];omega, ?_⟩;rw[aa,aY hi,<-aa,e]
theorem Yi(B:t6)(J:B.length<=1000)(role:Int)(r1:1<=role)(W:role<=4)(l:List Img)(j:Nat)(S:l.length+2<=8)(L:ChP l role):
 ∃r C,ChP (l++r) role/\r.length<=2/\(role=1\/role=3->∃i,i<(l++r).length/\((l++r).getD i im0).role=role)/\
 run T (.loop pK) ⟨[(3,.ptr 12100 0),(4,.lst 4 (eP l) (.id 104)),(5,.int .i64 role)],[(12100,bN B j)],[104]⟩=
 run T (.loop pK) ⟨[(3,.ptr 12100 0),(4,.lst 4 (eP (l++r)) (.id 104)),(5,.int .i64 (role+1))],[(12100,bN B C)],[104]⟩:=by
 have E:=f37 B j 3 (by omega) (by omega);have H:=f37 B (cX B j) 2 (by omega) (by omega);have v1:=gB B j 3 (by omega);have U:=gB B (cX B j) 2 (by omega);rw[cz3]at E;rw[c2]at H;have e:aj.wrap (1+((dX B (cX B j) 2:Nat):Int))=((1+dX B (cX B j) 2:Nat):Int):=wZ (by omega)
 have Q:role=1\/role=2\/role=3\/role=4:=by omega
 rcases Q with rfl|rfl|rfl|rfl
 ·obtain⟨r,C,F,O,I,z⟩:=Yj B J 1 (by decide) (by decide) (1+dX B (cX B j) 2) l (cX B (cX B j)) (by omega) L
  refine⟨r,C,F,by omega,fun _=>I (by omega), ?_⟩;rw[al];simp only[bN]at E H z ⊢;simp only[go_sem,Q0,Q1,Q2,Q3,Q4,Q5,Q6,Q7,Q8,Q9,Qa,Qb,Qc,Qd,Qe,Qf,Qg,Qh,Qi,Qj,Qk,reduceCtorEq,reduceIte,E,H,sQ,e,z];rfl
 ·obtain⟨r,C,F,O,I,z⟩:=Yj B J 2 (by decide) (by decide) (dX B j 3) l (cX B j) (by omega) L
  refine⟨r,C,F,by omega,fun h=>absurd h (by decide), ?_⟩;rw[al];simp only[bN]at E H z ⊢;simp only[go_sem,Q0,Q1,Q2,Q3,Q4,Q5,Q6,Q7,Q8,Q9,Qa,Qb,Qc,Qd,Qe,Qf,Qg,Qh,Qi,Qj,Qk,reduceCtorEq,reduceIte,E,sQ,z];rfl
 ·obtain⟨r,C,F,O,I,z⟩:=Yj B J 3 (by decide) (by decide) (1+dX B (cX B j) 2) l (cX B (cX B j)) (by omega) L
  refine⟨r,C,F,by omega,fun _=>I (by omega), ?_⟩;rw[al];simp only[bN]at E H z ⊢;simp only[go_sem,Q0,Q1,Q2,Q3,Q4,Q5,Q6,Q7,Q8,Q9,Qa,Qb,Qc,Qd,Qe,Qf,Qg,Qh,Qi,Qj,Qk,reduceCtorEq,reduceIte,E,H,sQ,e,z];rfl
 ·obtain⟨r,C,F,O,I,z⟩:=Yj B J 4 (by decide) (by decide) (dX B j 3) l (cX B j) (by omega) L
  refine⟨r,C,F,by omega,fun h=>absurd h (by decide), ?_⟩;rw[al];simp only[bN]at E H z ⊢;simp only[go_sem,Q0,Q1,Q2,Q3,Q4,Q5,Q6,Q7,Q8,Q9,Qa,Qb,Qc,Qd,Qe,Qf,Qg,Qh,Qi,Qj,Qk,reduceCtorEq,reduceIte,E,sQ,z];rfl
theorem ya{l:List Img}{a b:Int}(h:ChP l a)(z:a<=b):ChP l b:=⟨h.ok,fun i hi=>Int.le_trans (h.le i hi) z,h.ord,h.dup,h.sh⟩
def w9(l:List Img):Prop:=∀i,i<l.length->¬(l.getD i im0).role=4->(l.getD i im0).pay.length<=6
theorem xjV(h:t6):∃l,cd l/\w9 l/\call T 24 [.byt h .no] [] 0=some ⟨.lst 4 (eP l) .no,[],[]⟩:=by
 have F:(h.take 200).length<=1000:=by rw[aD];omega
 have g:=f35 h 200;rw[xkt]at g;generalize h.take 200=B at*;have Z:ChP [] 1:=⟨fun i hi=>absurd hi (by simp),fun i hi=>absurd hi (by simp),fun i hi=>absurd hi (by simp),fun i hi=>absurd hi (by simp),fun i hi=>absurd hi (by simp)⟩;obtain⟨z,j1,p1,n1,w1,C⟩:=Yi B F 1 (by decide) (by decide) [] 0 (by decide) Z;rw[bw]at p1 w1 C;obtain⟨E,W,p2,n2,w2,L⟩:=Yi B F 2 (by decide) (by decide) z j1 (by omega) (ya p1 (by decide));obtain⟨H,j3,p3,n3,U,O⟩:=Yi B F 3 (by decide) (by decide) (z++E) W (by rw[ah];omega) (ya p2 (by decide));obtain⟨Q,S,I,n4,w4,J⟩:=Yi B F 4 (by decide) (by decide) (z++E++H) j3 (by simp only[ah];omega) (ya p3 (by decide));refine⟨z++E++H++Q,⟨?_, ?_,I.ok,I.ord,I.dup,tv (tv (tv (w1 (Or.inl rfl)))),tv (U (Or.inr rfl))⟩,I.sh, ?_⟩
 ·obtain⟨i,hi,_⟩:=w1 (Or.inl rfl)
  simp only[ah];omega
 ·simp only[ah];omega
 ·rw[az xlj]
  rw[show(1:Int)+1=2 from rfl]at C;rw[show(2:Int)+1=3 from rfl]at L;rw[show(3:Int)+1=4 from rfl]at O;rw[show(4:Int)+1=5 from rfl]at J
  have t5:run T (.loop pK) ⟨[(3,.ptr 12100 0),(4,.lst 4 (eP (z++E++H++Q)) (.id 104)),(5,.int .i64 5)],[(12100,bN B S)],[104]⟩=some (.x 0,⟨[(4,.lst 4 (eP (z++E++H++Q)) (.id 104))],[(12100,bN B S)],[104]⟩):=by rw[al];simp only[bN,go_sem,Q0,Q1,Q2,Q3,Q4,Q5,Q6,Q7,Q8,Q9,Qa,Qb,Qc,Qd,Qe,Qf,Qg,Qh,Qi,Qj,Qk,reduceCtorEq,reduceIte]
  rw[t5]at J;rw[J]at O;rw[O]at L;rw[L]at C;have e0:eP []=[]:=rfl;rw[e0]at C;simp only[bN,c0,aZ]at g C;simp only[go_sem,Q0,Q1,Q2,Q3,Q4,Q5,Q6,Q7,Q8,Q9,Qa,Qb,Qc,Qd,Qe,Qf,Qg,Qh,Qi,Qj,Qk,reduceCtorEq,reduceIte,g,xlD,C,aZ]
structure EvS(e:Ev):Prop where
 d2:e.dg.length=2
 b:e.data.length<=1000
 d0:(e.dg.getD 0 []).length<=1000
 d1:(e.dg.getD 1 []).length<=1000
theorem Ye(r k a:Int)(d:t6)(h:d.length<=1000):EvS (mkV r k a d):=by
 have B:=ue d;have C:=eZ d
 by_cases z:k=5
 ·refine⟨?_,h, ?_, ?_⟩<;>simp only[mkV,z,if_true]<;>decide
 ·refine⟨?_,h, ?_, ?_⟩<;>simp only[mkV,z,if_false]
  ·rfl
  ·rw[bp]
   split
   ·omega
   ·exact cu _
  ·rw[bF,bp]
   split
   ·omega
   ·exact cu _
theorem oN{α:Type}{P:α->Prop}{l r:List α}(h:∀e,e∈l->P e)(C:∀e,e∈r->P e):∀e,e∈l++r->P e:=by
 intro e B;rcases ak.mp B with z|z
 ·exact h e z
 ·exact C e z
theorem xde(x:Img)(a:Int):((q8 (dl x) a).getD 0 []).length<=1000/\((q8 (dl x) a).getD 1 []).length<=1000:=by
 have h:=ue (dl x);have z:=eZ (dl x);unfold q8;split
 ·exact⟨cu _,cu _⟩
 ·constructor
  ·rw[bp]
   split
   ·omega
   ·exact cu _
  ·rw[bF,bp]
   split
   ·omega
   ·exact cu _
theorem xfm{x:Img}(a:Int)(h:dD x=0):EvS (ofI x a):=by obtain⟨J,I,z,O,C,H⟩:=eA h;have hn:=ks C;obtain⟨v,B⟩:=Int.eq_ofNat_of_zero_le z;have L:=kh 6 v (by omega);obtain⟨F,E⟩:=xde x a;refine⟨uS _ _, ?_,F,E⟩;show(uD x.name x.ver).length<=1000;unfold uD;rw[B,ah,av];show x.name.length+((dec v).length+1)<=1000;omega
theorem xc2{x:Img}(a role:Int)(h:dD x=0):∀e,e∈dn a role x->EvS e:=by
 intro e z;obtain⟨H,F,E,J,I,C⟩:=eA h;unfold dn at z;split at z
 ·split at z
  ·obtain⟨y,B,rfl⟩:=aS.1 z
   have:=(mF x.pay).2 y B;exact Ye _ _ _ _ (by omega)
  ·rw[aN.1 z];exact xfm a h
 ·cases z
theorem GG(a:Int):∀n i e,e∈iS a i n->EvS e
 |0,i,e,he=>by cases he
 |n+1,i,e,he=>by
  rw[iS]at he;rcases an.1 he with rfl|he
  ·exact Ye _ _ _ _ (by decide)
  ·exact GG a n _ e he
theorem xjh{l:List Img}{x:Img}(h:x∈l)(z:∀i,i<l.length->dD (l.getD i im0)=0):dD x=0:=by obtain⟨i,hi,rfl⟩:=bl h;have:=z i hi;rwa[aa,af hi]at this
theorem xf5{l:List Img}(B:cd l)(a:Int):∀e,e∈evF l a->EvS e:=by
 have z:∀role e,e∈l.flatMap (dn a role)->EvS e:=by intro role e C;obtain⟨x,E,h⟩:=List.mem_flatMap.1 C;exact xc2 a role (xjh E B.ok) e h
 unfold evF;exact oN (z 1) (oN (z 2) (oN (GG a 8 0) (oN (z 3) (z 4))))
theorem P3{l:List Img}(h:cd l)(a:Int):8<=(evF l a).length/\(evF l a).length<=150:=by have n8:=h.n8;have b1:=fF l a 1;have C:=fF l a 2;have B:=fF l a 3;have z:=fF l a 4;have b0:=j7 a 8 0;unfold evF;simp only[ah];omega

def fg(x:Ent):List Ent->Nat
 |[]=>0
 |y::r=>if eo y x=true then fg x r+1 else 0
theorem rU(x:Ent):∀l,fg x l<=l.length
 |[]=>aI _
 |y::r=>by have:=rU x r;rw[fg,av];split<;>omega
def mO(v:t6)(h:Int)(l:List Ent)(tk:Tok):aC:= .rc [.str v,.int .i64 h,.int .i64 0,.int .i64 0,.int .i64 1099511627776,.lst 4 (cO l) tk,.lst 4 [] .clip]
def mZ:aC:= .rc [.str [],.int .i64 0,.int .i64 0,.int .i64 0,.int .i64 0,.lst 4 [] .clip,.lst 4 [] .clip]
theorem xjt(I:f8)(v:t6)(S i:Int)(l:List Ent)(x:Ent)(hl:l.length<=1000)(hd:∀y∈l,y.dig.length<=1000):∀(n k:Nat),l.length-k=n->k<=l.length->
 run T (.loop xy) ⟨[(2,.lst 4 I .no),(6,.ptr 106 0),(7,.ptr 107 0),(8,.int .i64 i),(10,.ptr 110 0),(11,.int .i64 k)],[(106,mZ),(107,mO v S l .no),(110,.rc x.sv)],[]⟩=
  some (.x 2,⟨[(2,.lst 4 I .no),(6,.ptr 106 0),(7,.ptr 107 0),(8,.int .i64 i),(10,.ptr 110 0),(11,.int .i64 ((k+fg x (l.drop k):Nat):Int))],[(106,mZ),(107,mO v S l .no),(110,.rc x.sv)],[]⟩):=by
 intro n;induction n with
 |zero=>
  intro k W h1;have:k=l.length:=by omega
  subst this;have E:=dd l;rw[bh,al];simp only[fg,fm,mO,mZ];simp only[go_sem,Q0,Q1,Q2,Q3,Q4,Q5,Q6,Q7,Q8,Q9,Qa,Qb,Qc,Qd,Qe,Qf,Qg,Qh,Qi,Qj,Qk,reduceCtorEq,reduceIte,E]
 |succ n ih=>
  intro k W h1;have h:k<l.length:=by omega
  have Q:=cA k (by omega);have B:=ih (k+1) (by omega) (by omega);have E:=dd l;have F:=eE l k h;have O:l.drop k=l.getD k en0::l.drop (k+1):=by rw[aU h,aa,af h];rfl
  have hm:=cJ l en0 k h;have z:=f84 (l.getD k en0) x (by have:=hd _ hm;omega);have C:(k:Int)<(l.length:Int):=by omega
  rw[O,fg,al];generalize l.getD k en0=y at*;obtain⟨x1,x2,J,L⟩:=x;obtain⟨y1,Z,y3,U⟩:=y
  by_cases H:eo ⟨y1,Z,y3,U⟩ ⟨x1,x2,J,L⟩=true
  ·rw[if_pos H]
   rw[H]at z;rw[show k+(fg ⟨x1,x2,J,L⟩ (l.drop (k+1))+1)=k+1+fg ⟨x1,x2,J,L⟩ (l.drop (k+1))from by omega];simp only[mO,mZ,Ent.sv]at B z F ⊢;simp only[go_sem,Q0,Q1,Q2,Q3,Q4,Q5,Q6,Q7,Q8,Q9,Qa,Qb,Qc,Qd,Qe,Qf,Qg,Qh,Qi,Qj,Qk,reduceCtorEq,reduceIte,h,C,Q,E,F,z,YP,B]
  ·rw[if_neg H]
   rw[eq_false_of_ne_true H]at z;rw[fm];simp only[mO,mZ,Ent.sv]at z F ⊢;simp only[go_sem,Q0,Q1,Q2,Q3,Q4,Q5,Q6,Q7,Q8,Q9,Qa,Qb,Qc,Qd,Qe,Qf,Qg,Qh,Qi,Qj,Qk,reduceCtorEq,reduceIte,h,C,Q,E,F,z,YP]
theorem oH{x:Img}(h:dD x=0):¬(dl x).length=0:=by unfold dl;rw[if_pos h,dy];omega
def dU(y:Img):Ent:=⟨y.role,y.name,y.ver,sha (dl y)⟩
def lx(x:Ent)(l:List Ent):List Ent:=if fg x l<l.length/\eo x (l.getD (fg x l) en0)=false then l else l.take (fg x l)++x::l.drop (fg x l)
def iX(y:Img)(l:List Ent):List Ent:=if y.role=4 then l else lx (dU y) l
theorem s34(F:List Img)(hc:∀i,i<F.length->dD (F.getD i im0)=0)(a4:F.length<=1000)(v:t6)(ve:Int)(l:List Ent)(hl:l.length<=900)(hd:∀y∈l,y.dig.length<=1000)(i:Nat)(hi:i<F.length):
 run T (.loop lC) ⟨[(2,.lst 4 (eP F) .no),(6,.ptr 106 0),(7,.ptr 107 0),(8,.int .i64 i)],[(106,mZ),(107,mO v ve l .no)],[]⟩=
 run T (.loop lC) ⟨[(2,.lst 4 (eP F) .no),(6,.ptr 106 0),(7,.ptr 107 0),(8,.int .i64 ((i+1:Nat):Int))],[(106,mZ),(107,mO v ve (iX (F.getD i im0) l) .no)],[]⟩:=by
 have L:(i:Int)<(F.length:Int):=by omega
 have hv:=dx F;have U:=eO F i hi;have h0:=hc i hi;have e1:=cA i (by omega);generalize F.getD i im0=y at*;obtain⟨u1,u2⟩:=gV h0;have Q:=f33 y u1 u2;have a3:=jc y u1 u2;have g2:=f80 (dl y) (by omega);have J:¬(dl y).length=0:=oH h0;have C:¬((dl y).length:Int)=0:=by omega
 have a2:=eZ (dl y);have B:=xjt (eP F) v ve i l (dU y) (by omega) hd l.length 0 (by omega) (cu _);rw[bC,bi,show((0:Nat):Int)=0 from rfl]at B;have a1:=rU (dU y) l;have O:=dd l;unfold iX lx;generalize hE:dl y=E at*
 by_cases W:y.role=4
 ·rw[if_pos W]
  obtain⟨y1,y2,y3,y4⟩:=y;simp only at W;subst W;rw[al];simp only[mO,mZ,Img.sv]at Q U ⊢;simp only[go_sem,Q0,Q1,Q2,Q3,Q4,Q5,Q6,Q7,Q8,Q9,Qa,Qb,Qc,Qd,Qe,Qf,Qg,Qh,Qi,Qj,Qk,reduceCtorEq,reduceIte,L,hi,hv,U,Q,sR,J,C,e1]
 ·rw[if_neg W]
  have a0:dU y=⟨y.role,y.name,y.ver,sha E⟩:=by rw[<-hE];rfl
  rw[a0]at B a1 ⊢
  by_cases hk:fg ⟨y.role,y.name,y.ver,sha E⟩ l<l.length
  ·have S:=f84 ⟨y.role,y.name,y.ver,sha E⟩ (l.getD (fg ⟨y.role,y.name,y.ver,sha E⟩ l) en0) (by show(sha E).length<=_;omega)
   have H:=eE l _ hk;have I:(fg ⟨y.role,y.name,y.ver,sha E⟩ l:Int)<(l.length:Int):=by omega
   have e2:cO (l.take (fg ⟨y.role,y.name,y.ver,sha E⟩ l)++⟨y.role,y.name,y.ver,sha E⟩::l.drop (fg ⟨y.role,y.name,y.ver,sha E⟩ l))=dj (fg ⟨y.role,y.name,y.ver,sha E⟩ l) (cO l)++(Ent.sv ⟨y.role,y.name,y.ver,sha E⟩::lm (fg ⟨y.role,y.name,y.ver,sha E⟩ l) (cO l)):=by rw[cO,cO,dh,aO,List.map_take,List.map_drop]
   generalize fg ⟨y.role,y.name,y.ver,sha E⟩ l=k at*;generalize l.getD k en0=z at*;have Z:k<=l.length:=by omega
   have tf:dj l.length (cO l)=cO l:=by rw[<-O,bt]
   have vA:(dj k (cO l)).length=k:=by rw[aD,O];omega
   have vD:(lm k (cO l)).length=l.length-k:=by rw[aE,O]
   have b1:k*56<=140737488355328:=by omega
   have b3:(k+1)*56<=140737488355328:=by omega
   have b2:(k+(1+(l.length-k)))*56<=140737488355328:=by omega
   have b4:(k+1+(l.length-k))*56<=140737488355328:=by omega
   obtain⟨y1,y2,y3,y4⟩:=y;obtain⟨z1,z2,z3,z4⟩:=z
   by_cases hb:eo ⟨y1,y2,y3,sha E⟩ ⟨z1,z2,z3,z4⟩=false
   ·rw[if_pos ⟨hk,hb⟩]
    simp only at S;rw[hb]at S;rw[al];simp only[mO,mZ,Img.sv,Ent.sv]at Q U B S H ⊢;simp only[go_sem,Q0,Q1,Q2,Q3,Q4,Q5,Q6,Q7,Q8,Q9,Qa,Qb,Qc,Qd,Qe,Qf,Qg,Qh,Qi,Qj,Qk,reduceCtorEq,reduceIte,L,hi,hv,U,Q,sR,J,C,W,g2,Et,B,O,hk,I,H,S,YP,e1]
   ·rw[if_neg (fun h=>hb h.2)]
    simp only at S;rw[eq_true_of_ne_false hb]at S;rw[al];simp only[mO,e2];simp only[mO,mZ,Img.sv,Ent.sv]at Q U B S H ⊢;simp only[go_sem,Q0,Q1,Q2,Q3,Q4,Q5,Q6,Q7,Q8,Q9,Qa,Qb,Qc,Qd,Qe,Qf,Qg,Qh,Qi,Qj,Qk,reduceCtorEq,reduceIte,L,hi,hv,U,Q,sR,J,C,W,g2,Et,B,O,hk,I,Z,H,S,YP,e1,tf,vA,vD,b1,b2,b3,b4]
  ·have I:¬(fg ⟨y.role,y.name,y.ver,sha E⟩ l:Int)<(l.length:Int):=by omega
   rw[if_neg (fun h=>hk h.1)]
   have e2:cO (l.take (fg ⟨y.role,y.name,y.ver,sha E⟩ l)++⟨y.role,y.name,y.ver,sha E⟩::l.drop (fg ⟨y.role,y.name,y.ver,sha E⟩ l))=dj (fg ⟨y.role,y.name,y.ver,sha E⟩ l) (cO l)++(Ent.sv ⟨y.role,y.name,y.ver,sha E⟩::lm (fg ⟨y.role,y.name,y.ver,sha E⟩ l) (cO l)):=by rw[cO,cO,dh,aO,List.map_take,List.map_drop]
   generalize fg ⟨y.role,y.name,y.ver,sha E⟩ l=k at*;have Z:k<=l.length:=by omega
   have tf:dj l.length (cO l)=cO l:=by rw[<-O,bt]
   have vA:(dj k (cO l)).length=k:=by rw[aD,O];omega
   have vD:(lm k (cO l)).length=l.length-k:=by rw[aE,O]
   have b1:k*56<=140737488355328:=by omega
   have b3:(k+1)*56<=140737488355328:=by omega
   have b2:(k+(1+(l.length-k)))*56<=140737488355328:=by omega
   have b4:(k+1+(l.length-k))*56<=140737488355328:=by omega
   obtain⟨y1,y2,y3,y4⟩:=y;rw[al];simp only[mO,e2];simp only[mO,mZ,Img.sv,Ent.sv]at Q U B ⊢;simp only[go_sem,Q0,Q1,Q2,Q3,Q4,Q5,Q6,Q7,Q8,Q9,Qa,Qb,Qc,Qd,Qe,Qf,Qg,Qh,Qi,Qj,Qk,reduceCtorEq,reduceIte,L,hi,hv,U,Q,sR,J,C,W,g2,Et,B,O,hk,I,Z,e1,tf,vA,vD,b1,b2,b3,b4]
structure lG(l:List Ent)(n:Nat):Prop where
 len:l.length<=n
 e:∀x∈l,x.name.length<=1000000/\x.dig.length=32
theorem FM{x z:Ent}{l:List Ent}(h:z∈lx x l):z=x\/z∈l:=by
 unfold lx at h;split at h
 ·exact .inr h
 ·rw[ak,an]at h
  rcases h with h|h|h
  ·exact .inr (bL h)
  ·exact .inl h
  ·exact .inr (dQ h)
theorem FS(x:Ent)(l:List Ent):(lx x l).length<=l.length+1:=by
 unfold lx;have:=rU x l;split
 ·omega
 ·rw[ah,av,aD,aE];omega
theorem F3{y:Img}(h:dD y=0):y.name.length<=1000000:=(gV h).1
theorem sN{y:Img}(B:dD y=0){l:List Ent}{n:Nat}(h:lG l n):lG (iX y l) (n+1):=by
 unfold iX;split
 ·exact⟨Nat.le_succ_of_le h.len,h.e⟩
 ·refine⟨?_,fun x z=> ?_⟩
  ·have:=FS (dU y) l
   have:=h.len;omega
  ·rcases FM z with rfl|z
   ·exact⟨F3 B,eZ _⟩
   ·exact h.e x z
def gO(l:List Img)(h:List Ent):List Ent:=l.foldl (fun a y=>iX y a) h
theorem Cn:∀(l:List Img)(B:List Ent)(n:Nat),(∀y∈l,dD y=0)->lG B n->lG (gO l B) (n+l.length)
 |[],B,n,_,h=>h
 |y::r,B,n,hl,h=>by have:=Cn r (iX y B) (n+1) (fun z hz=>hl z (aq _ hz)) (sN (hl y ax) h);rw[av,show n+(r.length+1)=n+1+r.length from by omega];exact this
theorem xi1(h:List Img)(Z:h.length<=1000)(hi:0<h.length)(L:dD (h.getD 0 im0)=0)(S:(h.getD 0 im0).role=1)(v:t6)(Q:Int):
 run T (.loop lC) ⟨[(2,.lst 4 (eP h) .no),(6,.ptr 106 0),(7,.ptr 107 0),(8,.int .i64 0)],[(106,mZ),(107,mO v Q [] .clip)],[]⟩=
 run T (.loop lC) ⟨[(2,.lst 4 (eP h) .no),(6,.ptr 106 0),(7,.ptr 107 0),(8,.int .i64 1)],[(106,mZ),(107,mO v Q [dU (h.getD 0 im0)] .no)],[]⟩:=by
 have F:(0:Int)<(h.length:Int):=by omega
 have U:=dx h;have I:=eO h 0 hi;have e1:aj.wrap 1=1:=rfl;generalize h.getD 0 im0=y at*;obtain⟨W,J⟩:=gV L;have H:=f33 y W J;have a0:=jc y W J;have O:=f80 (dl y) (by omega);have C:¬(dl y).length=0:=oH L;have z:¬((dl y).length:Int)=0:=by omega
 have B:dU y=⟨y.role,y.name,y.ver,sha (dl y)⟩:=rfl;rw[B];generalize dl y=E at*;obtain⟨y1,y2,y3,y4⟩:=y;simp only at S;subst S;rw[al];simp only[mO,mZ,Img.sv,cO,ic,aO,Ent.sv]at H I ⊢;simp only[go_sem,Q0,Q1,Q2,Q3,Q4,Q5,Q6,Q7,Q8,Q9,Qa,Qb,Qc,Qd,Qe,Qf,Qg,Qh,Qi,Qj,Qk,reduceCtorEq,reduceIte,F,hi,U,I,H,sR,C,z,O,Et];rw[al];simp only[go_sem,Q0,Q1,Q2,Q3,Q4,Q5,Q6,Q7,Q8,Q9,Qa,Qb,Qc,Qd,Qe,Qf,Qg,Qh,Qi,Qj,Qk,reduceCtorEq,reduceIte,F,hi,U,I,H,sR,C,z,O,Et,e1]
theorem l34(h:List Img)(E:∀i,i<h.length->dD (h.getD i im0)=0)(H:h.length<=800)(v:t6)(C:Int):∀(n i:Nat)(z:List Ent),h.length-i=n->i<=h.length->lG z i->
 run T (.loop lC) ⟨[(2,.lst 4 (eP h) .no),(6,.ptr 106 0),(7,.ptr 107 0),(8,.int .i64 i)],[(106,mZ),(107,mO v C z .no)],[]⟩=
 some (.x 0,⟨[(6,.ptr 106 0),(7,.ptr 107 0)],[(106,mZ),(107,mO v C (gO (h.drop i) z) .no)],[]⟩):=by
 intro n;induction n with
 |zero=>
  intro i z F J B;have:i=h.length:=by omega
  subst this;have L:=dx h;rw[bh,al];simp only[mO,mZ,gO,List.foldl_nil];simp only[go_sem,Q0,Q1,Q2,Q3,Q4,Q5,Q6,Q7,Q8,Q9,Qa,Qb,Qc,Qd,Qe,Qf,Qg,Qh,Qi,Qj,Qk,reduceCtorEq,reduceIte,L]
 |succ n O=>
  intro i z F J B;have hi:i<h.length:=by omega
  have hd:h.drop i=h.getD i im0::h.drop (i+1):=by rw[aU hi,aa,af hi];rfl
  have Q:=B.len;rw[s34 h E (by omega) v C z (by omega) (fun y I=>by have:=(B.e y I).2;omega) i hi,O (i+1) _ (by omega) (by omega) (sN (E i hi) B),hd];rfl
def xis(v:t6)(z:Int)(h:List Img):Man:=⟨v,z,0,0,1099511627776,gO h [],[]⟩
theorem tV{z:List Img}(B:cd z):(z.getD 0 im0).role=1:=by
 obtain⟨i,hi,H⟩:=B.fw
 have C:∀k,k<z.length->(z.getD 0 im0).role<=(z.getD k im0).role:=by
  intro k;induction k with
  |zero=>intro _;exact Int.le_refl _
  |succ k E=>intro h;exact Int.le_trans (E (by omega)) (B.ord k h)
 have F:=C i hi;have I:=(eA (B.ok 0 (by have:=B.n1;omega))).1;omega
theorem f34(h:List Img)(B:cd h)(v:t6)(C:Int):call T 34 [.str v,.int .i64 C,.lst 4 (eP h) .no] [] 0=some ⟨.agg [.str v,.int .i64 C,.int .i64 0,.int .i64 0,.int .i64 1099511627776,.lst 4 (cO (gO h [])) .no,.lst 4 [] .clip],[],[]⟩:=by
 have n1:=B.n1;have n8:=B.n8;have H:=tV B;have F:=B.ok 0 (by omega);have z:=xi1 h (by omega) (by omega) F H v C
 have E:iX (h.getD 0 im0) []=[dU (h.getD 0 im0)]:=by unfold iX lx;rw[if_neg (by rw[H];decide),if_neg (by simp)];rfl
 have J:lG [dU (h.getD 0 im0)] 1:=by rw[<-E];exact sN F ⟨aI _,fun x I=>by cases I⟩
 have l:=l34 h B.ok (by omega) v C _ 1 [dU (h.getD 0 im0)] rfl (by omega) J
 have hd:gO (h.drop 1) [dU (h.getD 0 im0)]=gO h []:=by
  have:h=h.getD 0 im0::h.drop 1:=by
   rw[aa,af (by omega:0<h.length)];cases h with
   |nil=>simp at n1
   |cons x r=>rfl
  conv=>rhs;rw[this]
  rw[<-E];rfl
 rw[hd]at l;rw[show((1:Nat):Int)=1 from rfl]at l;rw[l]at z;rw[az xlc];simp only[mO,mZ,cO,ic]at z;simp only[cO];simp only[go_sem,Q0,Q1,Q2,Q3,Q4,Q5,Q6,Q7,Q8,Q9,Qa,Qb,Qc,Qd,Qe,Qf,Qg,Qh,Qi,Qj,Qk,reduceCtorEq,reduceIte,z]
theorem Cl{h:List Img}(z:cd h):lG (gO h []) 8:=by
 have:=Cn h [] 0 (fun y B=>by obtain⟨i,hi,rfl⟩:=bl B;have:=z.ok i hi;rwa[aa,af hi]at this) ⟨aI _,fun x C=>by cases C⟩
 have n8:=z.n8;exact⟨by have:=this.len;omega,this.e⟩
end Go.Proofs.YtdafipacemgcoaaGreatDoor
