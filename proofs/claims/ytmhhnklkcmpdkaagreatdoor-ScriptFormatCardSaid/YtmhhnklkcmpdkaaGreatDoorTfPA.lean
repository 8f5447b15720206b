/- Contracts. No condition. -/
import Derived.Test.YtmhhnklkcmpdkaaGreatDoorTePA
open Bool renaming and_eq_true -> aw, and_false -> dp, and_self -> dL, false_and -> dl
open Go.IntKind renaming i64 -> ai
open List renaming append_assoc -> ay, append_nil -> aZ, drop_eq_getElem_cons -> aF, drop_length -> bB, drop_zero -> bj, flatMap_cons -> ia, getD_eq_getElem?_getD -> aa, getElem?_append_left -> bi, getElem?_append_right -> bo, getElem?_eq_getElem -> ab, getElem_mem -> aU, getElem_of_mem -> bH, length_append -> ac, length_cons -> ah, length_map -> aC, length_nil -> au, length_replicate -> dG, length_set -> cW, length_singleton -> aD, length_take -> av, map_append -> cz, nil_append -> aR, replicate -> aJ, take -> fg, take_length -> ba
open Nat renaming le_refl -> bc, lt_or_ge -> bP, mul_one -> js, zero_le -> bC
open UInt8 renaming ofInt -> dQ
set_option maxRecDepth 100000
set_option maxHeartbeats 16000000
set_option linter.unusedSimpArgs false
set_option linter.unusedVariables false
namespace Go.Proofs.YtmhhnklkcmpdkaaGreatDoor
open Go.Sy
open UInt8 renaming reduceLT -> Q0, reduceLE -> Q1
open Int renaming reduceToNat -> Q2, reduceLE -> Q3, reduceLT -> Q4, reduceEq -> Q5, reduceNe -> Q6, reduceNeg -> Q7, reduceAdd -> Q8, reduceSub -> Q9, reduceMul -> Qa
open Nat renaming reducePow -> Qb, reduceDiv -> Qc, reduceMod -> Qd, reduceAdd -> Qe, reduceSub -> Qf, reduceMul -> Qg, reduceLT -> Qh, reduceLeDiff -> Qi, reduceEqDiff -> Qj, reduceBEq -> Qk
def kI(h:t7):d9:=h.flatMap fun t=>kg t++ [10]
theorem Di(h:t7)(t:Nat):kI (h++ [t])=kI h++(kg t++ [10]):=by simp[kI]
theorem sw(t:Nat):(kg t).length<=8:=by unfold kg;split<;>simp
theorem vT(h:t7):(kI h).length<=9*h.length:=by
 induction h with
 |nil=>simp[kI]
 |cons t r y=>rw[kI,ia,ac,ac,ah,ah,au];have:=sw t;unfold kI at y;omega
theorem FS(t:Nat)(r:d9)(o:List d9)(y:o.length<4):lnF (kg t++10::r) o []=lnF r (o++ [kg t]) []:=by
 have h:¬(4:Int)<=o.length:=by omega
 unfold kg;split<;>simp[lnF,h]
theorem Cg:∀(y:t7)(o:List d9),o.length+y.length<=4->lnF (kI y) o []=some (o++y.map kg,[])
 |[],o,_=>by simp[kI,lnF]
 |t::r,o,h=>by
  rw[ah]at h;have e:kI (t::r)=kg t++10::kI r:=by simp[kI]
  rw[e,FS t _ o (by omega),Cg r _ (by rw[ac,aD];omega)];simp
theorem xR(y:t7)(h:y.length<=4):fS (kI y)=y.map kg:=by unfold fS;rw[Cg y [] (by simpa using h)];simp
theorem xmB(B:d9)(C:B.length<=1000):∀(k:Nat)(h:t7)(j:Nat),k<=4->h.length+k<=100->∃us z,us.length=k/\
 run T (.loop zE) ⟨[(0,.ptr 0 0),(3,.byt (kI h) (.id 103)),(4,.int .i64 k)],[(0,bg B j)],[103]⟩=some (.x 0,⟨[(3,.byt (kI (h++us)) (.id 103))],[(0,bg B z)],[103]⟩):=by
 intro k;induction k with
 |zero=>intro h j L J;refine⟨[],j,rfl, ?_⟩;rw[aj,aZ];simp only[go_sem,Q0,Q1,Q2,Q3,Q4,Q5,Q6,Q7,Q8,Q9,Qa,Qb,Qc,Qd,Qe,Qf,Qg,Qh,Qi,Qj,Qk,reduceCtorEq,reduceIte]
 |succ k I=>
  intro h j L J;obtain⟨us,z,hu,y⟩:=I (h++ [bz B j 6]) (aV B j) (by omega) (by rw[ac,aD];omega);refine⟨bz B j 6::us,z,by rw[ah,hu], ?_⟩;have g:=xnk B j C;have O:=vT h;have F:=sw (bz B j 6);have H:ai.wrap (((k+1:Nat):Int)-1)=(k:Int):=wZ (by omega)
  have E:(0:Int)<((k+1:Nat):Int):=by omega
  have c1:(kI h).length+(kg (bz B j 6)).length<=140737488355328:=by omega
  have c2:(kI h).length+(kg (bz B j 6)).length+1<=140737488355328:=by omega
  rw[Di]at y;rw[show h++bz B j 6::us=h++ [bz B j 6]++us from by simp];rw[aj];simp only[bg]at g y ⊢;simp only[go_sem,Q0,Q1,Q2,Q3,Q4,Q5,Q6,Q7,Q8,Q9,Qa,Qb,Qc,Qd,Qe,Qf,Qg,Qh,Qi,Qj,Qk,reduceCtorEq,reduceIte,E,g,xiQ,c1,c2,H,y]
theorem xnf(B:d9)(i:Nat)(z:B.length<=1000):∃y j,1<=y.length/\y.length<=4/\call T 145 [.ptr 0 0] [bg B i] 0=some ⟨.byt (kI y) .no,[(0,bg B j)],[]⟩:=by
 have g:=f15 B i 4 (by omega) (by omega);have hv:=bD B i 4 (by omega);obtain⟨us,j,hu,h⟩:=xmB B z (1+bz B i 4) [] (aV B i) (by omega) (by simp only[au];omega);have e:ai.wrap (1+((bz B i 4:Nat):Int))=((1+bz B i 4:Nat):Int):=wZ (by omega)
 refine⟨us,j,by omega,by omega, ?_⟩;have C:kI []=[]:=rfl;rw[C,aR]at h;rw[cz4]at g;simp only[bg]at g h ⊢;rw[am xiq];simp only[go_sem,Q0,Q1,Q2,Q3,Q4,Q5,Q6,Q7,Q8,Q9,Qa,Qb,Qc,Qd,Qe,Qf,Qg,Qh,Qi,Qj,Qk,reduceCtorEq,reduceIte,g,fW,e,h]
def gD:Nat->d9
 |0=> [97]
 |1=> [103,114,117,98]
 |2=> [108,105,110,117,120]
 |3=> [110,101,116,45,48]
 |_=> [116,119,101,108,118,101,45,98,121,116,101,115]
theorem xng:call T 144 [] [] 0=some ⟨.agg [.str (gD 0),.str (gD 1),.str (gD 2),.str (gD 3),.str (gD 4)],[],[]⟩:=by rw[am xir];simp only[go_sem,Q0,Q1,Q2,Q3,Q4,Q5,Q6,Q7,Q8,Q9,Qa,Qb,Qc,Qd,Qe,Qf,Qg,Qh,Qi,Qj,Qk,reduceCtorEq,reduceIte,gD]
theorem FO:∀v,v<5->Pr.nameB (gD v)=true:=by decide
theorem l75(B:d9)(Q:B.length<=1000)(role F:Int)(C:d9):∀(n i:Nat)(l:d9)(j:Nat),l.length-i=n->i<=l.length->l.length<=6->∃h y,h.length=l.length/\
 run T (.loop uM) ⟨[(0,.ptr 0 0),(4,.ptr 104 0),(5,.ptr 105 0),(6,.int .i64 i)],[(0,bg B j),(104,.rc [.int .i64 0,.str [],.int .i64 0,.byt [] .clip]),(105,.rc [.int .i64 role,.str C,.int .i64 F,.psl 130 1 0 l.length (some l.length)]),(130,.bar l)],[]⟩=
  some (.x 0,⟨[(4,.ptr 104 0),(5,.ptr 105 0)],[(0,bg B y),(104,.rc [.int .i64 0,.str [],.int .i64 0,.byt [] .clip]),(105,.rc [.int .i64 role,.str C,.int .i64 F,.psl 130 1 0 l.length (some l.length)]),(130,.bar h)],[]⟩):=by
 intro n;induction n with
 |zero=>
  intro i l j H O L;have:i=l.length:=by omega
  refine⟨l,j,rfl, ?_⟩;subst this;rw[aj];simp only[go_sem,Q0,Q1,Q2,Q3,Q4,Q5,Q6,Q7,Q8,Q9,Qa,Qb,Qc,Qd,Qe,Qf,Qg,Qh,Qi,Qj,Qk,reduceCtorEq,reduceIte]
 |succ n J=>
  intro i l j H O L;have hi:i<l.length:=by omega
  have I:=cX i (by omega);have g:=f15 B j 256 (by omega) (by omega);rw[xnq]at g;obtain⟨h,y,E,z⟩:=J (i+1) (l.set i (dQ ((bz B j 256:Nat):Int))) (aV B j) (by rw[cW];omega) (by rw[cW];omega) (by rw[cW];omega);rw[cW]at E z;refine⟨h,y,E, ?_⟩;rw[aj];simp only[bg]at g z ⊢;simp only[go_sem,Q0,Q1,Q2,Q3,Q4,Q5,Q6,Q7,Q8,Q9,Qa,Qb,Qc,Qd,Qe,Qf,Qg,Qh,Qi,Qj,Qk,reduceCtorEq,reduceIte,hi,I,g,fW,z]
theorem f75(B:d9)(j:Nat)(hB:B.length<=1000)(role:Int)(h1:1<=role)(h4:role<=4):∃(x:Img)(E:Nat),eW x=0/\x.role=role/\
 call T 75 [.ptr 0 0,.int .i64 role] [bg B j] 0=some ⟨.agg x.sv,[(0,bg B E)],[]⟩:=by
 have g1:=xng;have Z:=f15 B j 5 (by omega) (by omega);have v2:=bD B j 5 (by omega);have g3:=f15 B (aV B j) 5 (by omega) (by omega);have v3:=bD B (aV B j) 5 (by omega);have g4:=f15 B (aV B (aV B j)) 9 (by omega) (by omega);have g5:=f15 B (aV B (aV B (aV B j))) 3 (by omega) (by omega);have v5:=bD B (aV B (aV B (aV B j))) 3 (by omega);rw[cz5]at Z g3;rw[c9]at g4;rw[cz3]at g5;generalize bz B j 5=y at*;generalize bz B (aV B j) 5=w3 at*;generalize bz B (aV B (aV B j)) 9=w4 at*;generalize bz B (aV B (aV B (aV B j))) 3=w5 at*;simp only[bg]at Z g3 g4 g5
 have hN:(List.drop y [SV.str (gD 0),.str (gD 1),.str (gD 2),.str (gD 3),.str (gD 4)]).getD 0 .undef= .str (gD y):=by
  have hn:y=0\/y=1\/y=2\/y=3\/y=4:=by omega
  rcases hn with rfl|rfl|rfl|rfl|rfl<;>rfl
 have J:(y:Int)<5:=by omega
 have em:y*1=y:=js _;have a6:=FO y v2;have ew:ai.wrap (1000000-(w5:Int))=1000000-(w5:Int):=w64 (by omega) (by omega)
 have a1:∀(H:Nat)(C:Int),0<=C->C<=1000000->∃(x:Img)(E:Nat),eW x=0/\x.role=role/\x.name=gD y/\x.ver=C/\
  (role=4->call T 145 [.ptr 0 0] [bg B H] 0=some ⟨.byt x.pay .no,[(0,bg B E)],[]⟩)/\
  (¬role=4->∃(j1 n:Nat),n<7/\call T 15 [.ptr 0 0,.int .i64 7] [bg B H] 0=some ⟨.int .i64 (n:Int),[(0,bg B j1)],[]⟩/\x.pay.length=n/\
   run T (.loop uM) ⟨[(0,.ptr 0 0),(4,.ptr 104 0),(5,.ptr 105 0),(6,.int .i64 0)],[(0,bg B j1),(104,.rc [.int .i64 0,.str [],.int .i64 0,.byt [] .clip]),(105,.rc [.int .i64 role,.str (gD y),.int .i64 C,.psl 130 1 0 n (some n)]),(130,.bar (aJ n 0))],[]⟩=
    some (.x 0,⟨[(4,.ptr 104 0),(5,.ptr 105 0)],[(0,bg B E),(104,.rc [.int .i64 0,.str [],.int .i64 0,.byt [] .clip]),(105,.rc [.int .i64 role,.str (gD y),.int .i64 C,.psl 130 1 0 n (some n)]),(130,.bar x.pay)],[]⟩)):=by
  intro H C hv0 a7
  by_cases z:role=4
  ·obtain⟨ts,E,t1,t2,t3⟩:=xnf B H hB
   refine⟨⟨role,gD y,C,kI ts⟩,E, ?_,rfl,rfl,rfl,fun _=>t3,fun h=>absurd z h⟩;have hl:=vT ts;have hL:=xR ts t2;unfold eW;rw[if_neg (by show ¬role<1;omega),if_neg (by show ¬4<role;omega),if_neg (by show ¬C<0;omega),if_neg (by show ¬1000000<C;omega),if_neg (by show ¬Pr.nameB (gD y)=false;rw[a6];simp),if_neg (by show ¬(64:Int)<(kI ts).length;omega)];show(if role=4 then(if((fS (kI ts)).length:Int)=0 then 40 else 0)else 0)=(0:Int);rw[if_pos z,hL,if_neg];rw[aC];omega
  ·have g7:=f15 B H 7 (by omega) (by omega)
   have v7:=bD B H 7 (by omega);rw[show((7:Nat):Int)=7 from rfl]at g7;obtain⟨l',E,q1,q2⟩:=l75 B hB role C (gD y) (bz B H 7) 0 (aJ (bz B H 7) 0) (aV B H) (by rw[dG];rfl) (bC _) (by rw[dG];omega);rw[dG]at q1 q2;refine⟨⟨role,gD y,C,l'⟩,E, ?_,rfl,rfl,rfl,fun h=>absurd h z,fun _=>⟨aV B H,bz B H 7,v7,g7,q1,q2⟩⟩;unfold eW;rw[if_neg (by show ¬role<1;omega),if_neg (by show ¬4<role;omega),if_neg (by show ¬C<0;omega),if_neg (by show ¬1000000<C;omega),if_neg (by show ¬Pr.nameB (gD y)=false;rw[a6];simp),if_neg (by show ¬(64:Int)<l'.length;omega)];show(if role=4 then(if((fS l').length:Int)=0 then 40 else 0)else 0)=(0:Int);rw[if_neg z]
 by_cases p4:w4=8
 ·have F:(w4:Int)=8:=by omega
  obtain⟨⟨xr,xn,xv,I⟩,E,e0,e1,e2,e3,e4,e5⟩:=a1 (aV B (aV B (aV B (aV B j)))) (1000000-(w5:Int)) (by omega) (by omega);simp only at e1 e2 e3 e4 e5;subst e1 e2 e3;refine⟨_,E,e0,rfl, ?_⟩;rw[am xli]
  by_cases z:xr=4
  ·have t:=e4 z
   simp only[bg,Img.sv]at t ⊢;simp only[go_sem,Q0,Q1,Q2,Q3,Q4,Q5,Q6,Q7,Q8,Q9,Qa,Qb,Qc,Qd,Qe,Qf,Qg,Qh,Qi,Qj,Qk,reduceCtorEq,reduceIte,bg,g1,Er,Z,fW,g3,g4,g5,F,ew,z,hN,J,em,t,ZN]
  ·obtain⟨j1,n,hn,t1,t2,t3⟩:=e5 z
   have L:I.length=n:=t2;have Q:n<=I.length:=by omega
   have hq:fg n I=I:=by rw[<-L,ba]
   have O:(n:Int)<7:=by omega
   have W:(n:Int)<=140737488355328:=by omega
   simp only[bg,Img.sv]at t1 t3 ⊢;simp only[go_sem,Q0,Q1,Q2,Q3,Q4,Q5,Q6,Q7,Q8,Q9,Qa,Qb,Qc,Qd,Qe,Qf,Qg,Qh,Qi,Qj,Qk,reduceCtorEq,reduceIte,bg,g1,Er,Z,fW,g3,g4,g5,F,ew,z,hN,J,em,t1,O,W,t3,Q,hq]
 ·have F:¬(w4:Int)=8:=by omega
  obtain⟨⟨xr,xn,xv,I⟩,E,e0,e1,e2,e3,e4,e5⟩:=a1 (aV B (aV B (aV B j))) (w3:Int) (by omega) (by omega);simp only at e1 e2 e3 e4 e5;subst e1 e2 e3;refine⟨_,E,e0,rfl, ?_⟩;rw[am xli]
  by_cases z:xr=4
  ·have t:=e4 z
   simp only[bg,Img.sv]at t ⊢;simp only[go_sem,Q0,Q1,Q2,Q3,Q4,Q5,Q6,Q7,Q8,Q9,Qa,Qb,Qc,Qd,Qe,Qf,Qg,Qh,Qi,Qj,Qk,reduceCtorEq,reduceIte,bg,g1,Er,Z,fW,g3,g4,F,z,hN,J,em,t,ZN]
  ·obtain⟨j1,n,hn,t1,t2,t3⟩:=e5 z
   have L:I.length=n:=t2;have Q:n<=I.length:=by omega
   have hq:fg n I=I:=by rw[<-L,ba]
   have O:(n:Int)<7:=by omega
   have W:(n:Int)<=140737488355328:=by omega
   simp only[bg,Img.sv]at t1 t3 ⊢;simp only[go_sem,Q0,Q1,Q2,Q3,Q4,Q5,Q6,Q7,Q8,Q9,Qa,Qb,Qc,Qd,Qe,Qf,Qg,Qh,Qi,Qj,Qk,reduceCtorEq,reduceIte,bg,g1,Er,Z,fW,g3,g4,F,z,hN,J,em,t1,O,W,t3,Q,hq]
theorem Dx(l:List Img)(i:Nat)(h:i<l.length):l.getD i im0∈l:=by rw[aa,ab h];exact aU _
theorem ko{α:Type}(l:List α)(x d:α)(i:Nat)(h:i<l.length):(l++ [x]).getD i d=l.getD i d:=by rw[aa,aa,bi h]
theorem pl{α:Type}(l:List α)(x d:α):(l++ [x]).getD l.length d=x:=by rw[aa,bo (bc _),Nat.sub_self];rfl
structure ChP(l:List Img)(role:Int):Prop where
 ok:∀i,i<l.length->eW (l.getD i im0)=0
 le:∀i,i<l.length->(l.getD i im0).role<=role
 ord:∀i,i+1<l.length->(l.getD i im0).role<=(l.getD (i+1) im0).role
 dup:∀i,i<l.length->∀k,k<i->(l.getD k im0).role=(l.getD i im0).role->(l.getD k im0).name≠(l.getD i im0).name
def agn(x:Img)(l:List Img):Bool:=l.any fun y=>decide (y.role=x.role)&&decide (y.name=x.name)
theorem ChP.snoc{l:List Img}{role:Int}(h:ChP l role){x:Img}(I:eW x=0)(F:x.role=role)(C:agn x l=false):ChP (l++ [x]) role:=by
 have E:(l++ [x]).length=l.length+1:=by simp
 refine⟨fun i hi=> ?_,fun i hi=> ?_,fun i hi=> ?_,fun i hi k z=> ?_⟩
 ·rcases bP i l.length with y|y
  ·rw[ko l x im0 i y];exact h.ok i y
  ·rw[show i=l.length from by omega,pl];exact I
 ·rcases bP i l.length with y|y
  ·rw[ko l x im0 i y];exact h.le i y
  ·rw[show i=l.length from by omega,pl,F];exact Int.le_refl _
 ·rw[ko l x im0 i (by omega)]
  rcases bP (i+1) l.length with y|y
  ·rw[ko l x im0 (i+1) y];exact h.ord i y
  ·rw[show i+1=l.length from by omega,pl,F];exact h.le i (by omega)
 ·rcases bP i l.length with y|y
  ·rw[ko l x im0 i y,ko l x im0 k (by omega)];exact h.dup i y k z
  ·rw[show i=l.length from by omega]at z ⊢
   rw[pl,ko l x im0 k z];intro H J;unfold agn at C;rw[List.any_eq_false]at C;have:=C (l.getD k im0) (Dx l k z);rw[decide_eq_true H,decide_eq_true J]at this;exact this rfl
theorem ChP.up{l:List Img}{r y:Int}(h:ChP l r)(z:r<=y):ChP l y:=⟨h.ok,fun i hi=>Int.le_trans (h.le i hi) z,h.ord,h.dup⟩
theorem xmh(B:d9)(j:Nat)(l:List Img)(x:Img)(role n:Int)(W:l.length<=100):∀(k i:Nat)(z:Bool),l.length-i=k->i<=l.length->
 run T (.loop yZ) ⟨[(3,.ptr 12100 0),(4,.lst 4 (cZ l) (.id 104)),(5,.int .i64 role),(6,.int .i64 n),(7,.ptr 107 0),(8,.bool z),(9,.int .i64 i)],[(107,.rc x.sv),(12100,bg B j)],[104]⟩=
 some (.x 4,⟨[(3,.ptr 12100 0),(4,.lst 4 (cZ l) (.id 104)),(5,.int .i64 role),(6,.int .i64 n),(7,.ptr 107 0),(8,.bool (z||agn x (l.drop i)))],[(107,.rc x.sv),(12100,bg B j)],[104]⟩):=by
 intro k;induction k with
 |zero=>
  intro i z I Q;have:i=l.length:=by omega
  subst this;have hv:=cg l;obtain⟨a,b,c,d⟩:=x;simp only[bg,Img.sv]at*;rw[aj,bB];simp only[go_sem,Q0,Q1,Q2,Q3,Q4,Q5,Q6,Q7,Q8,Q9,Qa,Qb,Qc,Qd,Qe,Qf,Qg,Qh,Qi,Qj,Qk,reduceCtorEq,reduceIte,hv,agn,List.any_nil,Bool.or_false]
 |succ k J=>
  intro i z I Q;have hi:i<l.length:=by omega
  have F:=cX i (by omega);have h:=J (i+1) (z||(decide ((l.getD i im0).role=x.role)&&decide ((l.getD i im0).name=x.name))) (by omega) (by omega);have hv:=cg l;have E:=fH l i hi;have hd:l.drop i=l.getD i im0::l.drop (i+1):=by rw[aF hi,aa,ab hi];rfl
  have L:agn x (l.drop i)=((decide ((l.getD i im0).role=x.role)&&decide ((l.getD i im0).name=x.name))||agn x (l.drop (i+1))):=by rw[hd];rfl
  rw[L,<-Bool.or_assoc];rw[aj];generalize agn x (l.drop (i+1))=R at*;generalize l.getD i im0=y at*;obtain⟨a,b,c,d⟩:=x;obtain⟨a2,O,c2,d2⟩:=y;simp only[bg,Img.sv]at*;cases z with
  |true=>simp only[Bool.true_or]at h ⊢;simp only[go_sem,Q0,Q1,Q2,Q3,Q4,Q5,Q6,Q7,Q8,Q9,Qa,Qb,Qc,Qd,Qe,Qf,Qg,Qh,Qi,Qj,Qk,reduceCtorEq,reduceIte,hi,F,hv,E,h]
  |false=>
   by_cases C:a2=a
   ·by_cases H:O=b
    ·rw[decide_eq_true C,decide_eq_true H]at h ⊢
     simp only[dL,Bool.false_or,Bool.true_or]at h ⊢;simp only[go_sem,Q0,Q1,Q2,Q3,Q4,Q5,Q6,Q7,Q8,Q9,Qa,Qb,Qc,Qd,Qe,Qf,Qg,Qh,Qi,Qj,Qk,reduceCtorEq,reduceIte,hi,F,hv,E,C,H,h]
    ·rw[decide_eq_true C,decide_eq_false H]at h ⊢
     simp only[dp,Bool.false_or]at h ⊢;simp only[go_sem,Q0,Q1,Q2,Q3,Q4,Q5,Q6,Q7,Q8,Q9,Qa,Qb,Qc,Qd,Qe,Qf,Qg,Qh,Qi,Qj,Qk,reduceCtorEq,reduceIte,hi,F,hv,E,C,H,h]
   ·rw[decide_eq_false C]at h ⊢
    simp only[dl,Bool.false_or]at h ⊢;simp only[go_sem,Q0,Q1,Q2,Q3,Q4,Q5,Q6,Q7,Q8,Q9,Qa,Qb,Qc,Qd,Qe,Qf,Qg,Qh,Qi,Qj,Qk,reduceCtorEq,reduceIte,hi,F,hv,E,C,h]
theorem jz(l:List Img)(x:Img):cZ l++ [x.sv]=cZ (l++ [x]):=by rw[cZ,cZ,cz];rfl
theorem GC{x:Img}{l:List Img}(h:agn x l=true):∃i,i<l.length/\(l.getD i im0).role=x.role:=by unfold agn at h;rw[List.any_eq_true]at h;obtain⟨y,z,h⟩:=h;obtain⟨i,hi,rfl⟩:=bH z;refine⟨i,hi, ?_⟩;rw[aw]at h;rw[aa,ab hi];exact of_decide_eq_true h.1
theorem YP(B:d9)(W:B.length<=1000)(role:Int)(r1:1<=role)(Z:role<=4):∀(n:Nat)(l:List Img)(j:Nat),l.length+n<=8->ChP l role->
 ∃r C,ChP (l++r) role/\r.length<=n/\(1<=n->∃i,i<(l++r).length/\((l++r).getD i im0).role=role)/\
 run T (.loop yY) ⟨[(3,.ptr 12100 0),(4,.lst 4 (cZ l) (.id 104)),(5,.int .i64 role),(6,.int .i64 (n:Int))],[(12100,bg B j)],[104]⟩=
  some (.x 2,⟨[(3,.ptr 12100 0),(4,.lst 4 (cZ (l++r)) (.id 104)),(5,.int .i64 role)],[(12100,bg B C)],[104]⟩):=by
 intro n;induction n with
 |zero=>intro l j hl F;refine⟨[],j,by rw[aZ];exact F,bC _,fun h=>absurd h (by omega), ?_⟩;rw[aZ,aj];simp only[bg];simp only[go_sem,Q0,Q1,Q2,Q3,Q4,Q5,Q6,Q7,Q8,Q9,Qa,Qb,Qc,Qd,Qe,Qf,Qg,Qh,Qi,Qj,Qk,reduceCtorEq,reduceIte]
 |succ n O=>
  intro l j hl F;obtain⟨x,I,hx,J,g⟩:=f75 B j W role r1 Z;have z:=xmh B I l x role ((n+1:Nat):Int) (by omega) l.length 0 false (by omega) (bC _);have Q:(0:Int)<((n+1:Nat):Int):=by omega
  have L:ai.wrap (((n+1:Nat):Int)-1)=(n:Int):=wZ (by omega)
  have hv:=cg l;have hs:=jz l x;have c1:(l.length+1)*56<=140737488355328:=by omega
  rw[bj,Bool.false_or,show((0:Nat):Int)=0 from rfl]at z;cases ha:agn x l with
  |true=>
   rw[ha]at z;obtain⟨r,C,H,q2,E,y⟩:=O l I (by omega) F;refine⟨r,C,H,by omega,fun _=> ?_, ?_⟩
   ·obtain⟨i,hi,e⟩:=GC ha
    refine⟨i,by rw[ac];omega, ?_⟩;rw[aa,bi hi,<-aa,e,J]
   ·rw[aj]
    obtain⟨a,b,c,d⟩:=x;simp only[bg,Img.sv]at g z y hs ⊢;simp only[go_sem,Q0,Q1,Q2,Q3,Q4,Q5,Q6,Q7,Q8,Q9,Qa,Qb,Qc,Qd,Qe,Qf,Qg,Qh,Qi,Qj,Qk,reduceCtorEq,reduceIte,Q,g,xlj,L,z,y]
  |false=>
   rw[ha]at z;obtain⟨r,C,H,q2,E,y⟩:=O (l++ [x]) I (by rw[ac,aD];omega) (F.snoc hx J ha);rw[ay]at H E y;refine⟨[x]++r,C,H,by rw[ac,aD];omega,fun _=> ?_, ?_⟩
   ·refine⟨l.length,by rw[ac,ac,aD];omega, ?_⟩
    rw[aa,bo (bc _),Nat.sub_self];exact J
   ·rw[aj]
    obtain⟨a,b,c,d⟩:=x;rw[<-ay,<-jz]at*;simp only[bg,Img.sv]at g z y ⊢;simp only[go_sem,Q0,Q1,Q2,Q3,Q4,Q5,Q6,Q7,Q8,Q9,Qa,Qb,Qc,Qd,Qe,Qf,Qg,Qh,Qi,Qj,Qk,reduceCtorEq,reduceIte,Q,g,xlj,L,z,hv,c1,y]
theorem u7{l r:List Img}{c:Int}(h:∃i,i<l.length/\(l.getD i im0).role=c):∃i,i<(l++r).length/\((l++r).getD i im0).role=c:=by obtain⟨i,hi,e⟩:=h;refine⟨i,by rw[ac];omega, ?_⟩;rw[aa,bi hi,<-aa,e]
theorem YO(B:d9)(H:B.length<=1000)(role:Int)(W:1<=role)(Q:role<=4)(l:List Img)(j:Nat)(Z:l.length+2<=8)(I:ChP l role):
 ∃r C,ChP (l++r) role/\r.length<=2/\(role=1\/role=3->∃i,i<(l++r).length/\((l++r).getD i im0).role=role)/\
 run T (.loop rk) ⟨[(3,.ptr 12100 0),(4,.lst 4 (cZ l) (.id 104)),(5,.int .i64 role)],[(12100,bg B j)],[104]⟩=
 run T (.loop rk) ⟨[(3,.ptr 12100 0),(4,.lst 4 (cZ (l++r)) (.id 104)),(5,.int .i64 (role+1))],[(12100,bg B C)],[104]⟩:=by
 have g1:=f15 B j 3 (by omega) (by omega);have E:=f15 B (aV B j) 2 (by omega) (by omega);have O:=bD B j 3 (by omega);have v2:=bD B (aV B j) 2 (by omega);rw[cz3]at g1;rw[c2]at E;have e:ai.wrap (1+((bz B (aV B j) 2:Nat):Int))=((1+bz B (aV B j) 2:Nat):Int):=wZ (by omega)
 have L:role=1\/role=2\/role=3\/role=4:=by omega
 rcases L with rfl|rfl|rfl|rfl
 ·obtain⟨r,C,F,J,z,y⟩:=YP B H 1 (by decide) (by decide) (1+bz B (aV B j) 2) l (aV B (aV B j)) (by omega) I
  refine⟨r,C,F,by omega,fun _=>z (by omega), ?_⟩;rw[aj];simp only[bg]at g1 E y ⊢;simp only[go_sem,Q0,Q1,Q2,Q3,Q4,Q5,Q6,Q7,Q8,Q9,Qa,Qb,Qc,Qd,Qe,Qf,Qg,Qh,Qi,Qj,Qk,reduceCtorEq,reduceIte,g1,E,fW,e,y];rfl
 ·obtain⟨r,C,F,J,z,y⟩:=YP B H 2 (by decide) (by decide) (bz B j 3) l (aV B j) (by omega) I
  refine⟨r,C,F,by omega,fun h=>absurd h (by decide), ?_⟩;rw[aj];simp only[bg]at g1 E y ⊢;simp only[go_sem,Q0,Q1,Q2,Q3,Q4,Q5,Q6,Q7,Q8,Q9,Qa,Qb,Qc,Qd,Qe,Qf,Qg,Qh,Qi,Qj,Qk,reduceCtorEq,reduceIte,g1,fW,y];rfl
 ·obtain⟨r,C,F,J,z,y⟩:=YP B H 3 (by decide) (by decide) (1+bz B (aV B j) 2) l (aV B (aV B j)) (by omega) I
  refine⟨r,C,F,by omega,fun _=>z (by omega), ?_⟩;rw[aj];simp only[bg]at g1 E y ⊢;simp only[go_sem,Q0,Q1,Q2,Q3,Q4,Q5,Q6,Q7,Q8,Q9,Qa,Qb,Qc,Qd,Qe,Qf,Qg,Qh,Qi,Qj,Qk,reduceCtorEq,reduceIte,g1,E,fW,e,y];rfl
 ·obtain⟨r,C,F,J,z,y⟩:=YP B H 4 (by decide) (by decide) (bz B j 3) l (aV B j) (by omega) I
  refine⟨r,C,F,by omega,fun h=>absurd h (by decide), ?_⟩;rw[aj];simp only[bg]at g1 E y ⊢;simp only[go_sem,Q0,Q1,Q2,Q3,Q4,Q5,Q6,Q7,Q8,Q9,Qa,Qb,Qc,Qd,Qe,Qf,Qg,Qh,Qi,Qj,Qk,reduceCtorEq,reduceIte,g1,fW,y];rfl
theorem zL{l:List Img}{a b:Int}(h:ChP l a)(y:a<=b):ChP l b:=⟨h.ok,fun i hi=>Int.le_trans (h.le i hi) y,h.ord,h.dup⟩
theorem f32(h:d9):∃l,qp l/\call T 32 [.byt h .no] [] 0=some ⟨.lst 4 (cZ l) .no,[],[]⟩:=by
 have C:(h.take 200).length<=1000:=by rw[av];omega
 have g:=f14 h 200;rw[xle]at g;generalize h.take 200=B at*;have I:ChP [] 1:=⟨fun i hi=>absurd hi (by simp),fun i hi=>absurd hi (by simp),fun i hi=>absurd hi (by simp),fun i hi=>absurd hi (by simp)⟩;obtain⟨z,O,H,n1,w1,y⟩:=YO B C 1 (by decide) (by decide) [] 0 (by decide) I;rw[aR]at H w1 y;obtain⟨a2,Z,W,n2,w2,t2⟩:=YO B C 2 (by decide) (by decide) z O (by omega) (zL H (by decide));obtain⟨a3,L,Q,n3,J,t3⟩:=YO B C 3 (by decide) (by decide) (z++a2) Z (by rw[ac];omega) (zL W (by decide));obtain⟨a4,F,E,n4,w4,t4⟩:=YO B C 4 (by decide) (by decide) (z++a2++a3) L (by simp only[ac];omega) (zL Q (by decide));refine⟨z++a2++a3++a4,⟨?_, ?_,E.ok,E.ord,E.dup,u7 (u7 (u7 (w1 (Or.inl rfl)))),u7 (J (Or.inr rfl))⟩, ?_⟩
 ·obtain⟨i,hi,_⟩:=w1 (Or.inl rfl)
  simp only[ac];omega
 ·simp only[ac];omega
 ·rw[am xnX]
  rw[show(1:Int)+1=2 from rfl]at y;rw[show(2:Int)+1=3 from rfl]at t2;rw[show(3:Int)+1=4 from rfl]at t3;rw[show(4:Int)+1=5 from rfl]at t4
  have t5:run T (.loop rk) ⟨[(3,.ptr 12100 0),(4,.lst 4 (cZ (z++a2++a3++a4)) (.id 104)),(5,.int .i64 5)],[(12100,bg B F)],[104]⟩=some (.x 0,⟨[(4,.lst 4 (cZ (z++a2++a3++a4)) (.id 104))],[(12100,bg B F)],[104]⟩):=by rw[aj];simp only[bg,go_sem,Q0,Q1,Q2,Q3,Q4,Q5,Q6,Q7,Q8,Q9,Qa,Qb,Qc,Qd,Qe,Qf,Qg,Qh,Qi,Qj,Qk,reduceCtorEq,reduceIte]
  rw[t5]at t4;rw[t4]at t3;rw[t3]at t2;rw[t2]at y;have e0:cZ []=[]:=rfl;rw[e0]at y;simp only[bg,c0,ay]at g y;simp only[go_sem,Q0,Q1,Q2,Q3,Q4,Q5,Q6,Q7,Q8,Q9,Qa,Qb,Qc,Qd,Qe,Qf,Qg,Qh,Qi,Qj,Qk,reduceCtorEq,reduceIte,g,Oc,y,ay]
end Go.Proofs.YtmhhnklkcmpdkaaGreatDoor
