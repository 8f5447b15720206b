/- What the functions come to. No condition. -/
import Derived.Test.YtkggincjigbelaaGreatDoorTnD
open Bool renaming and_eq_true -> aA
open Go.IntKind renaming i64 -> af
open List renaming append_assoc -> av, append_nil -> aZ, drop_eq_getElem_cons -> bq, drop_length -> bP, drop_zero -> bj, flatMap_cons -> dl, getD_eq_getElem?_getD -> aa, getElem?_append_left -> bv, getElem?_append_right -> bB, getElem?_eq_getElem -> ab, getElem_mem -> bi, getElem_of_mem -> bM, length_append -> ac, length_cons -> ai, length_map -> aN, length_nil -> aw, length_replicate -> cj, length_set -> cZ, length_singleton -> aV, length_take -> ax, map_append -> cE, nil_append -> aF, replicate -> aD, take -> kG, take_length -> bY
open Nat renaming le_refl -> aH, lt_or_ge -> bL, mul_one -> fH, sub_self -> kr, zero_le -> bJ
open UInt8 renaming ofInt -> co
set_option maxRecDepth 100000
set_option maxHeartbeats 16000000
set_option linter.unusedSimpArgs false
set_option linter.unusedVariables false
namespace Go.Proofs.YtkggincjigbelaaGreatDoor
open Go.Sy
open UInt8 renaming reduceLT -> Q0, reduceLE -> Q1
open Int renaming reduceToNat -> Q2, reduceLE -> Q3, reduceLT -> Q4, reduceEq -> Q5, reduceNe -> Q6, reduceNeg -> Q7, reduceAdd -> Q8, reduceSub -> Q9, reduceMul -> Qa
open Nat renaming reducePow -> Qb, reduceDiv -> Qc, reduceMod -> Qd, reduceAdd -> Qe, reduceSub -> Qf, reduceMul -> Qg, reduceLT -> Qh, reduceLeDiff -> Qi, reduceEqDiff -> Qj, reduceBEq -> Qk
def jt(ts:List Nat):List UInt8:=ts.flatMap fun t=>iW t++ [10]
theorem Cj(ts:List Nat)(t:Nat):jt (ts++ [t])=jt ts++(iW t++ [10]):=by simp[jt]
theorem pT(t:Nat):(iW t).length<=8:=by unfold iW;split<;>simp
theorem tQ(ts:List Nat):(jt ts).length<=9*ts.length:=by
 induction ts with
 |nil=>simp[jt]
 |cons t r ih=>rw[jt,dl,ac,ac,ai,ai,aw];have:=pT t;unfold jt at ih;omega
theorem EU(t:Nat)(r:List UInt8)(o:List (List UInt8))(ho:o.length<4):lnF (iW t++10::r) o []=lnF r (o++ [iW t]) []:=by
 have h:¬(4:Int)<=o.length:=by omega
 unfold iW;split<;>simp[lnF,h]
theorem AW:∀(ts:List Nat)(o:List (List UInt8)),o.length+ts.length<=4->lnF (jt ts) o []=some (o++ts.map iW,[])
 |[],o,_=>by simp[jt,lnF]
 |t::r,o,h=>by
  rw[ai]at h;have e:jt (t::r)=iW t++10::jt r:=by simp[jt]
  rw[e,EU t _ o (by omega),AW r _ (by rw[ac,aV];omega)];simp
theorem vM(ts:List Nat)(h:ts.length<=4):gb (jt ts)=ts.map iW:=by unfold gb;rw[AW ts [] (by simpa using h)];simp
theorem xkP(B:List UInt8)(hB:B.length<=1000):∀(k:Nat)(ts:List Nat)(j:Nat),k<=4->ts.length+k<=100->∃us j',us.length=k/\
 run T (.loop xL) ⟨[(0,.ptr 0 0),(3,.byt (jt ts) (.id 103)),(4,.int .i64 k)],[(0,bG B j)],[103]⟩=some (.x 0,⟨[(3,.byt (jt (ts++us)) (.id 103))],[(0,bG B j')],[103]⟩):=by
 intro k;induction k with
 |zero=>intro ts j h1 h2;refine⟨[],j,rfl, ?_⟩;rw[ah,aZ];simp only[go_sem,Q0,Q1,Q2,Q3,Q4,Q5,Q6,Q7,Q8,Q9,Qa,Qb,Qc,Qd,Qe,Qf,Qg,Qh,Qi,Qj,Qk,reduceCtorEq,reduceIte]
 |succ k ih=>
  intro ts j h1 h2;obtain⟨us,j',hu,ih'⟩:=ih (ts++ [dL B j 6]) (cP B j) (by omega) (by rw[ac,aV];omega);refine⟨dL B j 6::us,j',by rw[ai,hu], ?_⟩;have g:=xlI B j hB;have hl:=tQ ts;have hl2:=pT (dL B j 6);have e1:af.wrap (((k+1:Nat):Int)-1)=(k:Int):=wZ (by omega)
  have hp:(0:Int)<((k+1:Nat):Int):=by omega
  have c1:(jt ts).length+(iW (dL B j 6)).length<=140737488355328:=by omega
  have c2:(jt ts).length+(iW (dL B j 6)).length+1<=140737488355328:=by omega
  rw[Cj]at ih';rw[show ts++dL B j 6::us=ts++ [dL B j 6]++us from by simp];rw[ah];simp only[bG]at g ih' ⊢;simp only[go_sem,Q0,Q1,Q2,Q3,Q4,Q5,Q6,Q7,Q8,Q9,Qa,Qb,Qc,Qd,Qe,Qf,Qg,Qh,Qi,Qj,Qk,reduceCtorEq,reduceIte,hp,g,xhB,c1,c2,e1,ih']
theorem xlP(B:List UInt8)(i:Nat)(hB:B.length<=1000):∃ts j,1<=ts.length/\ts.length<=4/\call T 114 [.ptr 0 0] [bG B i] 0=some ⟨.byt (jt ts) .no,[(0,bG B j)],[]⟩:=by
 have g:=f52 B i 4 (by omega) (by omega);have hv:=fQ B i 4 (by omega);obtain⟨us,j,hu,h⟩:=xkP B hB (1+dL B i 4) [] (cP B i) (by omega) (by simp only[aw];omega);have e:af.wrap (1+((dL B i 4:Nat):Int))=((1+dL B i 4:Nat):Int):=wZ (by omega)
 refine⟨us,j,by omega,by omega, ?_⟩;have hp:jt []=[]:=rfl;rw[hp,aF]at h;rw[cz4]at g;simp only[bG]at g h ⊢;rw[aj xg9];simp only[go_sem,Q0,Q1,Q2,Q3,Q4,Q5,Q6,Q7,Q8,Q9,Qa,Qb,Qc,Qd,Qe,Qf,Qg,Qh,Qi,Qj,Qk,reduceCtorEq,reduceIte,g,r9,e,h]
def fd:Nat->List UInt8
 |0=> [97]
 |1=> [103,114,117,98]
 |2=> [108,105,110,117,120]
 |3=> [110,101,116,45,48]
 |_=> [116,119,101,108,118,101,45,98,121,116,101,115]
theorem xlQ:call T 113 [] [] 0=some ⟨.agg [.str (fd 0),.str (fd 1),.str (fd 2),.str (fd 3),.str (fd 4)],[],[]⟩:=by rw[aj xha];simp only[go_sem,Q0,Q1,Q2,Q3,Q4,Q5,Q6,Q7,Q8,Q9,Qa,Qb,Qc,Qd,Qe,Qf,Qg,Qh,Qi,Qj,Qk,reduceCtorEq,reduceIte,fd]
theorem EK:∀v,v<5->Pr.nameB (fd v)=true:=by decide
theorem l70(B:List UInt8)(hB:B.length<=1000)(role ve:Int)(na:List UInt8):∀(n i:Nat)(l:List UInt8)(j:Nat),l.length-i=n->i<=l.length->l.length<=6->∃l' j',l'.length=l.length/\
 run T (.loop sA) ⟨[(0,.ptr 0 0),(4,.ptr 104 0),(5,.ptr 105 0),(6,.int .i64 i)],[(0,bG B j),(104,.rc [.int .i64 0,.str [],.int .i64 0,.byt [] .clip]),(105,.rc [.int .i64 role,.str na,.int .i64 ve,.psl 130 1 0 l.length (some l.length)]),(130,.bar l)],[]⟩=
  some (.x 0,⟨[(4,.ptr 104 0),(5,.ptr 105 0)],[(0,bG B j'),(104,.rc [.int .i64 0,.str [],.int .i64 0,.byt [] .clip]),(105,.rc [.int .i64 role,.str na,.int .i64 ve,.psl 130 1 0 l.length (some l.length)]),(130,.bar l')],[]⟩):=by
 intro n;induction n with
 |zero=>
  intro i l j h0 h1 h2;have:i=l.length:=by omega
  refine⟨l,j,rfl, ?_⟩;subst this;rw[ah];simp only[go_sem,Q0,Q1,Q2,Q3,Q4,Q5,Q6,Q7,Q8,Q9,Qa,Qb,Qc,Qd,Qe,Qf,Qg,Qh,Qi,Qj,Qk,reduceCtorEq,reduceIte]
 |succ n ih=>
  intro i l j h0 h1 h2;have hi:i<l.length:=by omega
  have e1:=cR i (by omega);have g:=f52 B j 256 (by omega) (by omega);rw[xl2]at g;obtain⟨l',j',q1,q2⟩:=ih (i+1) (l.set i (co ((dL B j 256:Nat):Int))) (cP B j) (by rw[cZ];omega) (by rw[cZ];omega) (by rw[cZ];omega);rw[cZ]at q1 q2;refine⟨l',j',q1, ?_⟩;rw[ah];simp only[bG]at g q2 ⊢;simp only[go_sem,Q0,Q1,Q2,Q3,Q4,Q5,Q6,Q7,Q8,Q9,Qa,Qb,Qc,Qd,Qe,Qf,Qg,Qh,Qi,Qj,Qk,reduceCtorEq,reduceIte,hi,e1,g,r9,q2]
theorem f70(B:List UInt8)(j:Nat)(hB:B.length<=1000)(role:Int)(h1:1<=role)(h4:role<=4):∃(x:Img)(j':Nat),gz x=0/\x.role=role/\
 call T 70 [.ptr 0 0,.int .i64 role] [bG B j] 0=some ⟨.agg x.sv,[(0,bG B j')],[]⟩:=by
 have g1:=xlQ;have g2:=f52 B j 5 (by omega) (by omega);have v2:=fQ B j 5 (by omega);have g3:=f52 B (cP B j) 5 (by omega) (by omega);have v3:=fQ B (cP B j) 5 (by omega);have g4:=f52 B (cP B (cP B j)) 9 (by omega) (by omega);have g5:=f52 B (cP B (cP B (cP B j))) 3 (by omega) (by omega);have v5:=fQ B (cP B (cP B (cP B j))) 3 (by omega);rw[cz5]at g2 g3;rw[c9]at g4;rw[cz3]at g5;generalize dL B j 5=w2 at*;generalize dL B (cP B j) 5=w3 at*;generalize dL B (cP B (cP B j)) 9=w4 at*;generalize dL B (cP B (cP B (cP B j))) 3=w5 at*;simp only[bG]at g2 g3 g4 g5
 have hN:(List.drop w2 [SV.str (fd 0),.str (fd 1),.str (fd 2),.str (fd 3),.str (fd 4)]).getD 0 .undef= .str (fd w2):=by
  have hn:w2=0\/w2=1\/w2=2\/w2=3\/w2=4:=by omega
  rcases hn with rfl|rfl|rfl|rfl|rfl<;>rfl
 have hw2:(w2:Int)<5:=by omega
 have em:w2*1=w2:=fH _;have hnb:=EK w2 v2;have ew:af.wrap (1000000-(w5:Int))=1000000-(w5:Int):=w64 (by omega) (by omega)
 have key:∀(jj:Nat)(ve:Int),0<=ve->ve<=1000000->∃(x:Img)(j':Nat),gz x=0/\x.role=role/\x.name=fd w2/\x.ver=ve/\
  (role=4->call T 114 [.ptr 0 0] [bG B jj] 0=some ⟨.byt x.pay .no,[(0,bG B j')],[]⟩)/\
  (¬role=4->∃(j1 n:Nat),n<7/\call T 52 [.ptr 0 0,.int .i64 7] [bG B jj] 0=some ⟨.int .i64 (n:Int),[(0,bG B j1)],[]⟩/\x.pay.length=n/\
   run T (.loop sA) ⟨[(0,.ptr 0 0),(4,.ptr 104 0),(5,.ptr 105 0),(6,.int .i64 0)],[(0,bG B j1),(104,.rc [.int .i64 0,.str [],.int .i64 0,.byt [] .clip]),(105,.rc [.int .i64 role,.str (fd w2),.int .i64 ve,.psl 130 1 0 n (some n)]),(130,.bar (aD n 0))],[]⟩=
    some (.x 0,⟨[(4,.ptr 104 0),(5,.ptr 105 0)],[(0,bG B j'),(104,.rc [.int .i64 0,.str [],.int .i64 0,.byt [] .clip]),(105,.rc [.int .i64 role,.str (fd w2),.int .i64 ve,.psl 130 1 0 n (some n)]),(130,.bar x.pay)],[]⟩)):=by
  intro jj ve hv0 hv1
  by_cases hr:role=4
  ·obtain⟨ts,j',t1,t2,t3⟩:=xlP B jj hB
   refine⟨⟨role,fd w2,ve,jt ts⟩,j', ?_,rfl,rfl,rfl,fun _=>t3,fun h=>absurd hr h⟩;have hl:=tQ ts;have hL:=vM ts t2;unfold gz;rw[if_neg (by show ¬role<1;omega),if_neg (by show ¬4<role;omega),if_neg (by show ¬ve<0;omega),if_neg (by show ¬1000000<ve;omega),if_neg (by show ¬Pr.nameB (fd w2)=false;rw[hnb];simp),if_neg (by show ¬(64:Int)<(jt ts).length;omega)];show(if role=4 then(if((gb (jt ts)).length:Int)=0 then 40 else 0)else 0)=(0:Int);rw[if_pos hr,hL,if_neg];rw[aN];omega
  ·have g7:=f52 B jj 7 (by omega) (by omega)
   have v7:=fQ B jj 7 (by omega);rw[show((7:Nat):Int)=7 from rfl]at g7;obtain⟨l',j',q1,q2⟩:=l70 B hB role ve (fd w2) (dL B jj 7) 0 (aD (dL B jj 7) 0) (cP B jj) (by rw[cj];rfl) (bJ _) (by rw[cj];omega);rw[cj]at q1 q2;refine⟨⟨role,fd w2,ve,l'⟩,j', ?_,rfl,rfl,rfl,fun h=>absurd h hr,fun _=>⟨cP B jj,dL B jj 7,v7,g7,q1,q2⟩⟩;unfold gz;rw[if_neg (by show ¬role<1;omega),if_neg (by show ¬4<role;omega),if_neg (by show ¬ve<0;omega),if_neg (by show ¬1000000<ve;omega),if_neg (by show ¬Pr.nameB (fd w2)=false;rw[hnb];simp),if_neg (by show ¬(64:Int)<l'.length;omega)];show(if role=4 then(if((gb l').length:Int)=0 then 40 else 0)else 0)=(0:Int);rw[if_neg hr]
 by_cases p4:w4=8
 ·have p4':(w4:Int)=8:=by omega
  obtain⟨⟨xr,xn,xv,xp⟩,j',e0,e1,e2,e3,e4,e5⟩:=key (cP B (cP B (cP B (cP B j)))) (1000000-(w5:Int)) (by omega) (by omega);simp only at e1 e2 e3 e4 e5;subst e1 e2 e3;refine⟨_,j',e0,rfl, ?_⟩;rw[aj xju]
  by_cases hr:xr=4
  ·have t:=e4 hr
   simp only[bG,Img.sv]at t ⊢;simp only[go_sem,Q0,Q1,Q2,Q3,Q4,Q5,Q6,Q7,Q8,Q9,Qa,Qb,Qc,Qd,Qe,Qf,Qg,Qh,Qi,Qj,Qk,reduceCtorEq,reduceIte,bG,g1,Ds,g2,r9,g3,g4,g5,p4',ew,hr,hN,hw2,em,t,Ya]
  ·obtain⟨j1,n,hn,t1,t2,t3⟩:=e5 hr
   have t2':xp.length=n:=t2;have hle:n<=xp.length:=by omega
   have hq:kG n xp=xp:=by rw[<-t2',bY]
   have hn':(n:Int)<7:=by omega
   have hn2:(n:Int)<=140737488355328:=by omega
   simp only[bG,Img.sv]at t1 t3 ⊢;simp only[go_sem,Q0,Q1,Q2,Q3,Q4,Q5,Q6,Q7,Q8,Q9,Qa,Qb,Qc,Qd,Qe,Qf,Qg,Qh,Qi,Qj,Qk,reduceCtorEq,reduceIte,bG,g1,Ds,g2,r9,g3,g4,g5,p4',ew,hr,hN,hw2,em,t1,hn',hn2,t3,hle,hq]
 ·have p4':¬(w4:Int)=8:=by omega
  obtain⟨⟨xr,xn,xv,xp⟩,j',e0,e1,e2,e3,e4,e5⟩:=key (cP B (cP B (cP B j))) (w3:Int) (by omega) (by omega);simp only at e1 e2 e3 e4 e5;subst e1 e2 e3;refine⟨_,j',e0,rfl, ?_⟩;rw[aj xju]
  by_cases hr:xr=4
  ·have t:=e4 hr
   simp only[bG,Img.sv]at t ⊢;simp only[go_sem,Q0,Q1,Q2,Q3,Q4,Q5,Q6,Q7,Q8,Q9,Qa,Qb,Qc,Qd,Qe,Qf,Qg,Qh,Qi,Qj,Qk,reduceCtorEq,reduceIte,bG,g1,Ds,g2,r9,g3,g4,p4',hr,hN,hw2,em,t,Ya]
  ·obtain⟨j1,n,hn,t1,t2,t3⟩:=e5 hr
   have t2':xp.length=n:=t2;have hle:n<=xp.length:=by omega
   have hq:kG n xp=xp:=by rw[<-t2',bY]
   have hn':(n:Int)<7:=by omega
   have hn2:(n:Int)<=140737488355328:=by omega
   simp only[bG,Img.sv]at t1 t3 ⊢;simp only[go_sem,Q0,Q1,Q2,Q3,Q4,Q5,Q6,Q7,Q8,Q9,Qa,Qb,Qc,Qd,Qe,Qf,Qg,Qh,Qi,Qj,Qk,reduceCtorEq,reduceIte,bG,g1,Ds,g2,r9,g3,g4,p4',hr,hN,hw2,em,t1,hn',hn2,t3,hle,hq]
theorem CB(l:List Img)(i:Nat)(h:i<l.length):l.getD i im0∈l:=by rw[aa,ab h];exact bi _
theorem i7{α:Type}(l:List α)(x d:α)(i:Nat)(h:i<l.length):(l++ [x]).getD i d=l.getD i d:=by rw[aa,aa,bv h]
theorem mY{α:Type}(l:List α)(x d:α):(l++ [x]).getD l.length d=x:=by rw[aa,bB (aH _),kr];rfl
structure ChP(l:List Img)(role:Int):Prop where
 ok:∀i,i<l.length->gz (l.getD i im0)=0
 le:∀i,i<l.length->(l.getD i im0).role<=role
 ord:∀i,i+1<l.length->(l.getD i im0).role<=(l.getD (i+1) im0).role
 dup:∀i,i<l.length->∀k,k<i->(l.getD k im0).role=(l.getD i im0).role->(l.getD k im0).name≠(l.getD i im0).name
def agn(x:Img)(l:List Img):Bool:=l.any fun y=>decide (y.role=x.role)&&decide (y.name=x.name)
theorem ChP.snoc{l:List Img}{role:Int}(h:ChP l role){x:Img}(hx:gz x=0)(hr:x.role=role)(ha:agn x l=false):ChP (l++ [x]) role:=by
 have hlen:(l++ [x]).length=l.length+1:=by simp
 refine⟨fun i hi=> ?_,fun i hi=> ?_,fun i hi=> ?_,fun i hi k hk=> ?_⟩
 ·rcases bL i l.length with h1|h1
  ·rw[i7 l x im0 i h1];exact h.ok i h1
  ·rw[show i=l.length from by omega,mY];exact hx
 ·rcases bL i l.length with h1|h1
  ·rw[i7 l x im0 i h1];exact h.le i h1
  ·rw[show i=l.length from by omega,mY,hr];exact Int.le_refl _
 ·rw[i7 l x im0 i (by omega)]
  rcases bL (i+1) l.length with h1|h1
  ·rw[i7 l x im0 (i+1) h1];exact h.ord i h1
  ·rw[show i+1=l.length from by omega,mY,hr];exact h.le i (by omega)
 ·rcases bL i l.length with h1|h1
  ·rw[i7 l x im0 i h1,i7 l x im0 k (by omega)];exact h.dup i h1 k hk
  ·rw[show i=l.length from by omega]at hk ⊢
   rw[mY,i7 l x im0 k hk];intro q1 q2;unfold agn at ha;rw[List.any_eq_false]at ha;have:=ha (l.getD k im0) (CB l k hk);rw[decide_eq_true q1,decide_eq_true q2]at this;exact this rfl
theorem ChP.up{l:List Img}{r r':Int}(h:ChP l r)(hr:r<=r'):ChP l r':=⟨h.ok,fun i hi=>Int.le_trans (h.le i hi) hr,h.ord,h.dup⟩
theorem xkz(B:List UInt8)(j:Nat)(l:List Img)(x:Img)(role n:Int)(hl:l.length<=100):∀(k i:Nat)(ag:Bool),l.length-i=k->i<=l.length->
 run T (.loop xd) ⟨[(3,.ptr 12100 0),(4,.lst 4 (kC l) (.id 104)),(5,.int .i64 role),(6,.int .i64 n),(7,.ptr 107 0),(8,.bool ag),(9,.int .i64 i)],[(107,.rc x.sv),(12100,bG B j)],[104]⟩=
 some (.x 4,⟨[(3,.ptr 12100 0),(4,.lst 4 (kC l) (.id 104)),(5,.int .i64 role),(6,.int .i64 n),(7,.ptr 107 0),(8,.bool (ag||agn x (l.drop i)))],[(107,.rc x.sv),(12100,bG B j)],[104]⟩):=by
 intro k;induction k with
 |zero=>
  intro i ag h0 h1;have:i=l.length:=by omega
  subst this;have hv:=jR l;obtain⟨a,b,c,d⟩:=x;simp only[bG,Img.sv]at*;rw[ah,bP];simp only[go_sem,Q0,Q1,Q2,Q3,Q4,Q5,Q6,Q7,Q8,Q9,Qa,Qb,Qc,Qd,Qe,Qf,Qg,Qh,Qi,Qj,Qk,reduceCtorEq,reduceIte,hv,agn,List.any_nil,Bool.or_false]
 |succ k ih=>
  intro i ag h0 h1;have hi:i<l.length:=by omega
  have e1:=cR i (by omega);have ih':=ih (i+1) (ag||(decide ((l.getD i im0).role=x.role)&&decide ((l.getD i im0).name=x.name))) (by omega) (by omega);have hv:=jR l;have hg:=uh l i hi;have hd:l.drop i=l.getD i im0::l.drop (i+1):=by rw[bq hi,aa,ab hi];rfl
  have ha:agn x (l.drop i)=((decide ((l.getD i im0).role=x.role)&&decide ((l.getD i im0).name=x.name))||agn x (l.drop (i+1))):=by rw[hd];rfl
  rw[ha,<-Bool.or_assoc];rw[ah];generalize agn x (l.drop (i+1))=R at*;generalize l.getD i im0=y at*;obtain⟨a,b,c,d⟩:=x;obtain⟨a2,b2,c2,d2⟩:=y;simp only[bG,Img.sv]at*;cases ag with
  |true=>simp only[Bool.true_or]at ih' ⊢;simp only[go_sem,Q0,Q1,Q2,Q3,Q4,Q5,Q6,Q7,Q8,Q9,Qa,Qb,Qc,Qd,Qe,Qf,Qg,Qh,Qi,Qj,Qk,reduceCtorEq,reduceIte,hi,e1,hv,hg,ih']
  |false=>
   by_cases p1:a2=a
   ·by_cases p2:b2=b
    ·rw[decide_eq_true p1,decide_eq_true p2]at ih' ⊢
     simp only[Bool.and_self,Bool.false_or,Bool.true_or]at ih' ⊢;simp only[go_sem,Q0,Q1,Q2,Q3,Q4,Q5,Q6,Q7,Q8,Q9,Qa,Qb,Qc,Qd,Qe,Qf,Qg,Qh,Qi,Qj,Qk,reduceCtorEq,reduceIte,hi,e1,hv,hg,p1,p2,ih']
    ·rw[decide_eq_true p1,decide_eq_false p2]at ih' ⊢
     simp only[Bool.and_false,Bool.false_or]at ih' ⊢;simp only[go_sem,Q0,Q1,Q2,Q3,Q4,Q5,Q6,Q7,Q8,Q9,Qa,Qb,Qc,Qd,Qe,Qf,Qg,Qh,Qi,Qj,Qk,reduceCtorEq,reduceIte,hi,e1,hv,hg,p1,p2,ih']
   ·rw[decide_eq_false p1]at ih' ⊢
    simp only[Bool.false_and,Bool.false_or]at ih' ⊢;simp only[go_sem,Q0,Q1,Q2,Q3,Q4,Q5,Q6,Q7,Q8,Q9,Qa,Qb,Qc,Qd,Qe,Qf,Qg,Qh,Qi,Qj,Qk,reduceCtorEq,reduceIte,hi,e1,hv,hg,p1,ih']
theorem pX(l:List Img)(x:Img):kC l++ [x.sv]=kC (l++ [x]):=by rw[kC,kC,cE];rfl
theorem FM{x:Img}{l:List Img}(h:agn x l=true):∃i,i<l.length/\(l.getD i im0).role=x.role:=by unfold agn at h;rw[List.any_eq_true]at h;obtain⟨y,hy,h⟩:=h;obtain⟨i,hi,rfl⟩:=bM hy;refine⟨i,hi, ?_⟩;rw[aA]at h;rw[aa,ab hi];exact of_decide_eq_true h.1
theorem Xi(B:List UInt8)(hB:B.length<=1000)(role:Int)(r1:1<=role)(r4:role<=4):∀(n:Nat)(l:List Img)(j:Nat),l.length+n<=8->ChP l role->
 ∃r j',ChP (l++r) role/\r.length<=n/\(1<=n->∃i,i<(l++r).length/\((l++r).getD i im0).role=role)/\
 run T (.loop xc) ⟨[(3,.ptr 12100 0),(4,.lst 4 (kC l) (.id 104)),(5,.int .i64 role),(6,.int .i64 (n:Int))],[(12100,bG B j)],[104]⟩=
  some (.x 2,⟨[(3,.ptr 12100 0),(4,.lst 4 (kC (l++r)) (.id 104)),(5,.int .i64 role)],[(12100,bG B j')],[104]⟩):=by
 intro n;induction n with
 |zero=>intro l j hl hc;refine⟨[],j,by rw[aZ];exact hc,bJ _,fun h=>absurd h (by omega), ?_⟩;rw[aZ,ah];simp only[bG];simp only[go_sem,Q0,Q1,Q2,Q3,Q4,Q5,Q6,Q7,Q8,Q9,Qa,Qb,Qc,Qd,Qe,Qf,Qg,Qh,Qi,Qj,Qk,reduceCtorEq,reduceIte]
 |succ n ih=>
  intro l j hl hc;obtain⟨x,j1,hx,hr,g⟩:=f70 B j hB role r1 r4;have ga:=xkz B j1 l x role ((n+1:Nat):Int) (by omega) l.length 0 false (by omega) (bJ _);have hp:(0:Int)<((n+1:Nat):Int):=by omega
  have e1:af.wrap (((n+1:Nat):Int)-1)=(n:Int):=wZ (by omega)
  have hv:=jR l;have hs:=pX l x;have c1:(l.length+1)*56<=140737488355328:=by omega
  rw[bj,Bool.false_or,show((0:Nat):Int)=0 from rfl]at ga;cases ha:agn x l with
  |true=>
   rw[ha]at ga;obtain⟨r,j',q1,q2,q3,q4⟩:=ih l j1 (by omega) hc;refine⟨r,j',q1,by omega,fun _=> ?_, ?_⟩
   ·obtain⟨i,hi,e⟩:=FM ha
    refine⟨i,by rw[ac];omega, ?_⟩;rw[aa,bv hi,<-aa,e,hr]
   ·rw[ah]
    obtain⟨a,b,c,d⟩:=x;simp only[bG,Img.sv]at g ga q4 hs ⊢;simp only[go_sem,Q0,Q1,Q2,Q3,Q4,Q5,Q6,Q7,Q8,Q9,Qa,Qb,Qc,Qd,Qe,Qf,Qg,Qh,Qi,Qj,Qk,reduceCtorEq,reduceIte,hp,g,xjI,e1,ga,q4]
  |false=>
   rw[ha]at ga;obtain⟨r,j',q1,q2,q3,q4⟩:=ih (l++ [x]) j1 (by rw[ac,aV];omega) (hc.snoc hx hr ha);rw[av]at q1 q3 q4;refine⟨[x]++r,j',q1,by rw[ac,aV];omega,fun _=> ?_, ?_⟩
   ·refine⟨l.length,by rw[ac,ac,aV];omega, ?_⟩
    rw[aa,bB (aH _),kr];exact hr
   ·rw[ah]
    obtain⟨a,b,c,d⟩:=x;rw[<-av,<-pX]at*;simp only[bG,Img.sv]at g ga q4 ⊢;simp only[go_sem,Q0,Q1,Q2,Q3,Q4,Q5,Q6,Q7,Q8,Q9,Qa,Qb,Qc,Qd,Qe,Qf,Qg,Qh,Qi,Qj,Qk,reduceCtorEq,reduceIte,hp,g,xjI,e1,ga,hv,c1,q4]
theorem sP{l r:List Img}{c:Int}(h:∃i,i<l.length/\(l.getD i im0).role=c):∃i,i<(l++r).length/\((l++r).getD i im0).role=c:=by obtain⟨i,hi,e⟩:=h;refine⟨i,by rw[ac];omega, ?_⟩;rw[aa,bv hi,<-aa,e]
theorem Xh(B:List UInt8)(hB:B.length<=1000)(role:Int)(r1:1<=role)(r4:role<=4)(l:List Img)(j:Nat)(hl:l.length+2<=8)(hc:ChP l role):
 ∃r j',ChP (l++r) role/\r.length<=2/\(role=1\/role=3->∃i,i<(l++r).length/\((l++r).getD i im0).role=role)/\
 run T (.loop oT) ⟨[(3,.ptr 12100 0),(4,.lst 4 (kC l) (.id 104)),(5,.int .i64 role)],[(12100,bG B j)],[104]⟩=
 run T (.loop oT) ⟨[(3,.ptr 12100 0),(4,.lst 4 (kC (l++r)) (.id 104)),(5,.int .i64 (role+1))],[(12100,bG B j')],[104]⟩:=by
 have g1:=f52 B j 3 (by omega) (by omega);have g2:=f52 B (cP B j) 2 (by omega) (by omega);have v1:=fQ B j 3 (by omega);have v2:=fQ B (cP B j) 2 (by omega);rw[cz3]at g1;rw[c2]at g2;have e:af.wrap (1+((dL B (cP B j) 2:Nat):Int))=((1+dL B (cP B j) 2:Nat):Int):=wZ (by omega)
 have hr:role=1\/role=2\/role=3\/role=4:=by omega
 rcases hr with rfl|rfl|rfl|rfl
 ·obtain⟨r,j',q1,q2,q3,q4⟩:=Xi B hB 1 (by decide) (by decide) (1+dL B (cP B j) 2) l (cP B (cP B j)) (by omega) hc
  refine⟨r,j',q1,by omega,fun _=>q3 (by omega), ?_⟩;rw[ah];simp only[bG]at g1 g2 q4 ⊢;simp only[go_sem,Q0,Q1,Q2,Q3,Q4,Q5,Q6,Q7,Q8,Q9,Qa,Qb,Qc,Qd,Qe,Qf,Qg,Qh,Qi,Qj,Qk,reduceCtorEq,reduceIte,g1,g2,r9,e,q4];rfl
 ·obtain⟨r,j',q1,q2,q3,q4⟩:=Xi B hB 2 (by decide) (by decide) (dL B j 3) l (cP B j) (by omega) hc
  refine⟨r,j',q1,by omega,fun h=>absurd h (by decide), ?_⟩;rw[ah];simp only[bG]at g1 g2 q4 ⊢;simp only[go_sem,Q0,Q1,Q2,Q3,Q4,Q5,Q6,Q7,Q8,Q9,Qa,Qb,Qc,Qd,Qe,Qf,Qg,Qh,Qi,Qj,Qk,reduceCtorEq,reduceIte,g1,r9,q4];rfl
 ·obtain⟨r,j',q1,q2,q3,q4⟩:=Xi B hB 3 (by decide) (by decide) (1+dL B (cP B j) 2) l (cP B (cP B j)) (by omega) hc
  refine⟨r,j',q1,by omega,fun _=>q3 (by omega), ?_⟩;rw[ah];simp only[bG]at g1 g2 q4 ⊢;simp only[go_sem,Q0,Q1,Q2,Q3,Q4,Q5,Q6,Q7,Q8,Q9,Qa,Qb,Qc,Qd,Qe,Qf,Qg,Qh,Qi,Qj,Qk,reduceCtorEq,reduceIte,g1,g2,r9,e,q4];rfl
 ·obtain⟨r,j',q1,q2,q3,q4⟩:=Xi B hB 4 (by decide) (by decide) (dL B j 3) l (cP B j) (by omega) hc
  refine⟨r,j',q1,by omega,fun h=>absurd h (by decide), ?_⟩;rw[ah];simp only[bG]at g1 g2 q4 ⊢;simp only[go_sem,Q0,Q1,Q2,Q3,Q4,Q5,Q6,Q7,Q8,Q9,Qa,Qb,Qc,Qd,Qe,Qf,Qg,Qh,Qi,Qj,Qk,reduceCtorEq,reduceIte,g1,r9,q4];rfl
theorem xV{l:List Img}{a b:Int}(h:ChP l a)(hab:a<=b):ChP l b:=⟨h.ok,fun i hi=>Int.le_trans (h.le i hi) hab,h.ord,h.dup⟩
theorem f37(codes:List UInt8):∃l,lI l/\call T 37 [.byt codes .no] [] 0=some ⟨.lst 4 (kC l) .no,[],[]⟩:=by
 have hB:(codes.take 200).length<=1000:=by rw[ax];omega
 have g:=f51 codes 200;rw[xl3]at g;generalize codes.take 200=B at*;have h0:ChP [] 1:=⟨fun i hi=>absurd hi (by simp),fun i hi=>absurd hi (by simp),fun i hi=>absurd hi (by simp),fun i hi=>absurd hi (by simp)⟩;obtain⟨a1,j1,p1,n1,w1,t1⟩:=Xh B hB 1 (by decide) (by decide) [] 0 (by decide) h0;rw[aF]at p1 w1 t1;obtain⟨a2,j2,p2,n2,w2,t2⟩:=Xh B hB 2 (by decide) (by decide) a1 j1 (by omega) (xV p1 (by decide));obtain⟨a3,j3,p3,n3,w3,t3⟩:=Xh B hB 3 (by decide) (by decide) (a1++a2) j2 (by rw[ac];omega) (xV p2 (by decide));obtain⟨a4,j4,p4,n4,w4,t4⟩:=Xh B hB 4 (by decide) (by decide) (a1++a2++a3) j3 (by simp only[ac];omega) (xV p3 (by decide));refine⟨a1++a2++a3++a4,⟨?_, ?_,p4.ok,p4.ord,p4.dup,sP (sP (sP (w1 (Or.inl rfl)))),sP (w3 (Or.inr rfl))⟩, ?_⟩
 ·obtain⟨i,hi,_⟩:=w1 (Or.inl rfl)
  simp only[ac];omega
 ·simp only[ac];omega
 ·rw[aj xmJ]
  rw[show(1:Int)+1=2 from rfl]at t1;rw[show(2:Int)+1=3 from rfl]at t2;rw[show(3:Int)+1=4 from rfl]at t3;rw[show(4:Int)+1=5 from rfl]at t4
  have t5:run T (.loop oT) ⟨[(3,.ptr 12100 0),(4,.lst 4 (kC (a1++a2++a3++a4)) (.id 104)),(5,.int .i64 5)],[(12100,bG B j4)],[104]⟩=some (.x 0,⟨[(4,.lst 4 (kC (a1++a2++a3++a4)) (.id 104))],[(12100,bG B j4)],[104]⟩):=by rw[ah];simp only[bG,go_sem,Q0,Q1,Q2,Q3,Q4,Q5,Q6,Q7,Q8,Q9,Qa,Qb,Qc,Qd,Qe,Qf,Qg,Qh,Qi,Qj,Qk,reduceCtorEq,reduceIte]
  rw[t5]at t4;rw[t4]at t3;rw[t3]at t2;rw[t2]at t1;have e0:kC []=[]:=rfl;rw[e0]at t1;simp only[bG,c0,av]at g t1;simp only[go_sem,Q0,Q1,Q2,Q3,Q4,Q5,Q6,Q7,Q8,Q9,Qa,Qb,Qc,Qd,Qe,Qf,Qg,Qh,Qi,Qj,Qk,reduceCtorEq,reduceIte,g,xmZ,t1,av]
end Go.Proofs.YtkggincjigbelaaGreatDoor
