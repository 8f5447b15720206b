/- Contracts. No condition. -/
import Derived.Test.YtkcjdeofknkndaaGreatDoorTkDF
import Derived.Test.YtkcjdeofknkndaaGreatDoorTlDF
open Int renaming natCast_zero -> aD
open List renaming append_assoc -> ax, append_nil -> bf, cons_append -> aV, drop_eq_getElem_cons -> aY, drop_length -> bv, drop_zero -> bh, flatMap_cons -> jw, getD_eq_getElem?_getD -> aa, getElem?_eq_getElem -> ab, length_append -> af, length_cons -> ay, length_nil -> bl, length_singleton -> aP, length_take -> aA, map_cons -> aG, map_nil -> eU, mem_append -> ak, mem_singleton -> aW, nil_append -> aK, replicate -> ao, singleton_append -> dC, take_length -> bB
open Nat renaming add_zero -> dU, zero_le -> bD
set_option maxRecDepth 100000
set_option maxHeartbeats 16000000
set_option linter.unusedSimpArgs false
set_option linter.unusedVariables false
namespace Go.Proofs.YtkcjdeofknkndaaGreatDoor
open Go.Sy
open UInt8 renaming reduceLT -> Q0, reduceLE -> Q1
open Int renaming reduceToNat -> Q2, reduceLE -> Q3, reduceLT -> Q4, reduceEq -> Q5, reduceNe -> Q6, reduceNeg -> Q7, reduceAdd -> Q8, reduceSub -> Q9, reduceMul -> Qa
open Nat renaming reducePow -> Qb, reduceDiv -> Qc, reduceMod -> Qd, reduceAdd -> Qe, reduceSub -> Qf, reduceMul -> Qg, reduceLT -> Qh, reduceLeDiff -> Qi, reduceEqDiff -> Qj, reduceBEq -> Qk
theorem yb:∀(p:t6)(o:List t6)(l:t6)(z:List t6)(E:t6),lnF p o l=some (z,E)->(∀d∈o,¬d=[]/\uu d=true)->uu l=true->∀d∈z,¬d=[]/\uu d=true
 |[],o,l,z,E,h,ho,hl=>by unfold lnF at h;cases h;exact ho
 |c::r,o,l,z,E,h,ho,hl=>by
  unfold lnF at h
  by_cases F:c=10
  ·rw[if_pos F]at h
   by_cases y:(l.length:Int)=0
   ·rw[if_pos y]at h;cases h
   ·rw[if_neg y]at h
    by_cases C:(4:Int)<=o.length
    ·rw[if_pos C]at h;cases h
    ·rw[if_neg C]at h
     refine yb r _ _ z E h (fun d hd=> ?_) rfl;rcases ak.1 hd with hd|hd
     ·exact ho d hd
     ·rw[aW.1 hd]
      exact⟨fun e=>y (by rw[e];rfl),hl⟩
  ·rw[if_neg F]at h
   by_cases y:c<32
   ·rw[if_pos y]at h;cases h
   ·rw[if_neg y]at h
    by_cases C:126<c
    ·rw[if_pos C]at h;cases h
    ·rw[if_neg C]at h
     refine yb r _ _ z E h ho ?_;unfold uu at hl ⊢;rw[List.all_append,hl];simp[y,C]
theorem CW{p d:t6}(h:d∈dk p):¬d=[]/\uu d=true:=by
 unfold dk at h;cases hq:lnF p [] []with
 |none=>rw[hq]at h;cases h
 |some q=>
  obtain⟨o,l⟩:=q;rw[hq]at h;simp only at h;split at h
  ·cases h
  ·exact yb p [] [] o l hq (fun d hd=>by cases hd) rfl d h
def cS(id:Nat)(s:List Ev):SV:=if s=[]then .lst 4 [] .clip else .lst 4 (fT s) (.id id)
def kS(id:Nat)(s:List Ev):t8:=if s=[]then []else [id]
def oS(C y h z:List Ev):aC:= .rc [.lst 4 [] .clip,cS 1001 C,cS 1002 y,cS 1003 h,cS 2004 z]
def tS(C y h z:List Ev):t8:=kS 1001 C++(kS 1002 y++(kS 1003 h++kS 2004 z))
theorem k5':((5:Nat):Int)=5:=rfl
theorem mg(s:List Ev)(e:Ev):¬s++ [e]=[]:=by simp
def p9(a:Int)(I:f8)(i:Int):List (Nat×SV):=[(1,.int .i64 a),(5,.ptr 105 0),(23,.lst 4 I .no),(24,.int .i64 I.length),(25,.int .i64 i)]
theorem s39(a:Int)(I:f8)(i:Nat)(hi:i<I.length)(hn:I.length<=8)(z:Int)(hr:z=1\/z=2\/z=3)(L:t6)(U:Int)(p:t6)(C y h E:List Ev)
 (b1:C.length<=1000) (b2:y.length<=1000) (b3:h.length<=1000) (e:Ev)
 (hg:I.getD i []=[.int .i64 z,.str L,.int .i64 U,.byt p .no])
 (g:call T 97 [.agg [.int .i64 z,.str L,.int .i64 U,.byt p .no],.int .i64 a] [] 0=some ⟨.agg e.sv,[],[]⟩):
 run T (.loop jC) ⟨p9 a I i,[(105,oS C y h E)],tS C y h E⟩=
 run T (.loop jC) ⟨p9 a I ((i+1:Nat):Int),[(105,oS (if z=1 then C++ [e]else C) (if z=2 then y++ [e]else y) (if z=3 then h++ [e]else h) E)],
  tS (if z=1 then C++ [e]else C) (if z=2 then y++ [e]else y) (if z=3 then h++ [e]else h) E⟩:=by
 have H:(i:Int)<(I.length:Int):=by omega
 have w1:=cA i (by omega);have l1:((fT C).length+1)*64<=140737488355328:=by rw[ep];omega
 have l2:((fT y).length+1)*64<=140737488355328:=by rw[ep];omega
 have l3:((fT h).length+1)*64<=140737488355328:=by rw[ep];omega
 have z0:fT []=[]:=rfl;have O:=iW C e;have Q:=iW y e;have J:=iW h e;have F:=iW [] e;have n1:=mg C e;have n2:=mg y e;have n3:=mg h e;have n0:=mg [] e;rw[z0,aK]at F;unfold Ev.sv at g O Q J F;rcases hr with rfl|rfl|rfl<;>by_cases W:C=[]<;>by_cases h2:y=[]<;>by_cases Z:h=[]<;>by_cases h4:E=[]<;>
 ·simp only[p9,oS,tS,cS,kS,W,h2,Z,h4,n0,n1,n2,n3,if_true,if_false,Int.reduceEq,reduceIte,aK,aV,F,O,Q,J]
  conv=>lhs;rw[al]
  simp only[go_sem,Q0,Q1,Q2,Q3,Q4,Q5,Q6,Q7,Q8,Q9,Qa,Qb,Qc,Qd,Qe,Qf,Qg,Qh,Qi,Qj,Qk,reduceCtorEq,reduceIte,hi,H,w1,hg,g,xlI,l1,l2,l3,k5']
theorem xjH(a:Int)(I:f8)(i:Int)(na:t6)(ve:Int)(p:t6)(F C E:List Ev)(mk:t6->Ev)(h:List t6)(a1:h.length<=4)
 (g0:call T 33 [.int .i64 4] [] 0=some ⟨.int .i64 9,[],[]⟩)
 (g:∀d∈h,call T 99 [.int .i64 9,.int .i64 3,.int .i64 a,.byt d .no] [] 0=some ⟨.agg (mk d).sv,[],[]⟩):∀(n k:Nat)(y:List Ev),h.length-k=n->k<=h.length->y.length<=900+k->
 run T (.loop xF) ⟨[(1,.int .i64 a),(5,.ptr 105 0),(7,.ptr 107 0),(23,.lst 4 I .no),(24,.int .i64 I.length),(25,.int .i64 i),(45,.lst 1 (bls h) .no),(46,.int .i64 h.length),(47,.int .i64 k)],[(105,oS F C E y),(107,.rc [.int .i64 4,.str na,.int .i64 ve,.byt p .no])],tS F C E y⟩=
 some (.x 2,⟨p9 a I i,[(105,oS F C E (y++(h.drop k).map mk)),(107,.rc [.int .i64 4,.str na,.int .i64 ve,.byt p .no])],tS F C E (y++(h.drop k).map mk)⟩):=by
 intro n;induction n with
 |zero=>
  intro k y h0 H J;have:k=h.length:=by omega
  subst this;rw[bv,eU,bf]
  by_cases H:F=[]<;>by_cases J:C=[]<;>by_cases Q:E=[]<;>by_cases U:y=[]<;>
  ·simp only[p9,oS,tS,cS,kS,H,J,Q,U,if_true,if_false,reduceIte,aK,aV]
   rw[al];simp only[go_sem,Q0,Q1,Q2,Q3,Q4,Q5,Q6,Q7,Q8,Q9,Qa,Qb,Qc,Qd,Qe,Qf,Qg,Qh,Qi,Qj,Qk,reduceCtorEq,reduceIte]
 |succ n ih=>
  intro k y h0 H J;have L:k<h.length:=by omega
  have O:(k:Int)<(h.length:Int):=by omega
  have w1:=cA k (by omega);have hd:h.drop k=h.getD k []::h.drop (k+1):=by rw[aY L,aa,ab L];rfl
  have hb:=QX h k L;have W:=iE h;have g1:=g _ (dd h [] k L);have z:=ih (k+1) (y++ [mk (h.getD k [])]) (by omega) (by omega) (by rw[af,aP];omega);rw[hd,aG];rw[ax,dC]at z;generalize y++mk (h.getD k [])::(h.drop (k+1)).map mk=Z at*;generalize h.getD k []=d at*;generalize mk d=e at*;have l4:((fT y).length+1)*64<=140737488355328:=by rw[ep];omega
  have z0:fT []=[]:=rfl;have a4:=iW y e;have n4:=mg y e;have a0:fT [e]=[e.sv]:=rfl;have n0:¬ [e]=[]:=by simp
  unfold Ev.sv at g1 a4 a0
  by_cases H:F=[]<;>by_cases J:C=[]<;>by_cases Q:E=[]<;>by_cases U:y=[]<;>
  ·simp only[oS,tS,cS,kS,H,J,Q,U,n0,n4,if_true,if_false,reduceIte,aK,aV,a0,a4]at z ⊢
   rw[al];simp only[go_sem,Q0,Q1,Q2,Q3,Q4,Q5,Q6,Q7,Q8,Q9,Qa,Qb,Qc,Qd,Qe,Qf,Qg,Qh,Qi,Qj,Qk,reduceCtorEq,reduceIte,L,O,w1,hb,W,g0,wQ,g1,xiK,l4,k5',z]
theorem xja(a:Int)(I:f8)(i:Nat)(hi:i<I.length)(hn:I.length<=8)(L:t6)(O:Int)(p:t6)(E C F z:List Ev)(b4:z.length<=900)(mk:t6->Ev)(y:List t6)(J:y.length<=4)
 (W:I.getD i []=[.int .i64 4,.str L,.int .i64 O,.byt p .no])
 (gl:call T 98 [.agg [.int .i64 4,.str L,.int .i64 O,.byt p .no]] [] 0=some ⟨.lst 1 (bls y) .no,[],[]⟩)
 (g0:call T 33 [.int .i64 4] [] 0=some ⟨.int .i64 9,[],[]⟩)
 (g:∀d∈y,call T 99 [.int .i64 9,.int .i64 3,.int .i64 a,.byt d .no] [] 0=some ⟨.agg (mk d).sv,[],[]⟩):
 run T (.loop jC) ⟨p9 a I i,[(105,oS E C F z)],tS E C F z⟩=
 run T (.loop jC) ⟨p9 a I ((i+1:Nat):Int),[(105,oS E C F (z++y.map mk))],tS E C F (z++y.map mk)⟩:=by
 have H:(i:Int)<(I.length:Int):=by omega
 have w1:=cA i (by omega);have Q:=iE y;have h:=xjH a I i L O p E C F mk y J g0 g y.length 0 z (by omega) (bD _) (by omega);rw[bh,aD]at h;generalize z++y.map mk=Z at*
 by_cases U:E=[]<;>by_cases h2:C=[]<;>by_cases h3:F=[]<;>by_cases h4:z=[]<;>by_cases h5:Z=[]<;>
 ·simp only[p9,oS,tS,cS,kS,U,h2,h3,h4,h5,if_true,if_false,reduceIte,aK,aV]at h ⊢
  conv=>lhs;rw[al]
  simp only[go_sem,Q0,Q1,Q2,Q3,Q4,Q5,Q6,Q7,Q8,Q9,Qa,Qb,Qc,Qd,Qe,Qf,Qg,Qh,Qi,Qj,Qk,reduceCtorEq,reduceIte,hi,H,w1,W,gl,Rk,Q,h]
theorem xjF(a:Int)(I:f8)(hn:I.length<=8)(y h z C:List Ev):
 run T (.loop jC) ⟨p9 a I (I.length:Nat),[(105,oS y h z C)],tS y h z C⟩=some (.x 0,⟨[(1,.int .i64 a),(5,.ptr 105 0)],[(105,oS y h z C)],tS y h z C⟩):=by
 by_cases E:y=[]<;>by_cases J:h=[]<;>by_cases H:z=[]<;>by_cases F:C=[]<;>
 ·simp only[p9,oS,tS,cS,kS,E,J,H,F,if_true,if_false,reduceIte,aK,aV]
  rw[al];simp only[go_sem,Q0,Q1,Q2,Q3,Q4,Q5,Q6,Q7,Q8,Q9,Qa,Qb,Qc,Qd,Qe,Qf,Qg,Qh,Qi,Qj,Qk,reduceCtorEq,reduceIte]
def rN(f:Nat->Ev):Nat->Nat->List Ev
 |_,0=> []
 |i,n+1=>f i::rN f (i+1) n
theorem ud(f:Nat->Ev):∀n i,(rN f i n).length=n
 |0,_=>rfl
 |n+1,i=>by rw[rN,ay,ud f n]
theorem xjG(a:Int)(I C F E:List Ev)(U:¬I=[])(h3:¬F=[])(y:Nat->Ev)
 (O:∀k:Nat,k<8->call T 99 [.int .i64 k,.int .i64 2,.int .i64 a,.byt [0,0,0,0] .no] [] 0=some ⟨.agg (y k).sv,[],[]⟩):∀(n k:Nat)(h:List Ev),8-k=n->k<=8->h.length<=10000+k->
 run T (.loop xE) ⟨[(1,.int .i64 a),(5,.ptr 105 0),(10,.lst 4 (fT h) (.id 110)),(73,.int .i64 k)],[(105,oS I C F E)],110::(kS 1002 C++(kS 1003 F++kS 2004 E))⟩=
 some (.x 4,⟨[(5,.ptr 105 0),(10,.lst 4 (fT (h++rN y k n)) (.id 110))],[(105,oS I C F E)],110::(kS 1002 C++(kS 1003 F++kS 2004 E))⟩):=by
 intro n;induction n with
 |zero=>
  intro k h e0 e1 e2;have:k=8:=by omega
  subst this;have k8:((8:Nat):Int)=8:=rfl;rw[rN,bf]
  by_cases L:C=[]<;>by_cases H:E=[]<;>
  ·simp only[oS,cS,kS,U,L,h3,H,if_true,if_false,reduceIte,aK,aV]
   rw[al];simp only[go_sem,Q0,Q1,Q2,Q3,Q4,Q5,Q6,Q7,Q8,Q9,Qa,Qb,Qc,Qd,Qe,Qf,Qg,Qh,Qi,Qj,Qk,reduceCtorEq,reduceIte,k8]
 |succ n ih=>
  intro k h e0 e1 e2;have W:k<8:=by omega
  have J:(k:Int)<8:=by omega
  have w1:=cA k (by omega);have g:=O k W;have z:=ih (k+1) (h++ [y k]) (by omega) (by omega) (by rw[af,aP];omega);rw[ax,dC]at z;rw[rN];have Q:=iW h (y k);have lE:((fT h).length+1)*64<=140737488355328:=by rw[ep];omega
  generalize h++y k::rN y (k+1) n=Z at*;generalize y k=e at*;unfold Ev.sv at g Q;rw[Q]at z
  by_cases L:C=[]<;>by_cases H:E=[]<;>
  ·simp only[oS,cS,kS,U,L,h3,H,if_true,if_false,reduceIte,aK,aV]at z ⊢
   rw[al];simp only[go_sem,Q0,Q1,Q2,Q3,Q4,Q5,Q6,Q7,Q8,Q9,Qa,Qb,Qc,Qd,Qe,Qf,Qg,Qh,Qi,Qj,Qk,reduceCtorEq,reduceIte,W,J,w1,g,xiK,lE,ao,z]
theorem pD(a b:List Ev):fT a++fT b=fT (a++b):=by simp[fT]
theorem xkb(a:Int)(I:f8)(h y z E:List Ev)(L:¬h=[])(O:¬z=[])(b1:h.length<=1000)(b2:y.length<=1000)(b3:z.length<=1000)(b4:E.length<=1000)
 (h0:1<=a) (h9:a<=3) (C:Nat->Ev)
 (H:call T 96 [.lst 4 I .no] [] 0=some ⟨.int .i64 0,[],[]⟩)
 (W:run T (.loop jC) ⟨p9 a I 0,[(105,oS [] [] [] [])],tS [] [] [] []⟩=some (.x 0,⟨[(1,.int .i64 a),(5,.ptr 105 0)],[(105,oS h y z E)],tS h y z E⟩))
 (J:∀k:Nat,k<8->call T 99 [.int .i64 k,.int .i64 2,.int .i64 a,.byt [0,0,0,0] .no] [] 0=some ⟨.agg (C k).sv,[],[]⟩):
 call T 39 [.lst 4 I .no,.int .i64 a] [] 0=some ⟨.lst 4 (fT (h++(y++(rN C 0 8++(z++E))))) .no,[],[]⟩:=by
 have k1:¬a<1:=by omega
 have k2:¬3<a:=by omega
 have l1:=ep h;have l2:=ep y;have l3:=ep z;have l4:=ep E;have lq:=ud C 8 0;have F:=xjG a h y z E L O C J 8 0 (h++y) rfl (by omega) (by rw[af];omega);rw[aD]at F;have m1:h.length*64<=140737488355328:=by omega
 have U:(h.length+y.length)*64<=140737488355328:=by omega
 generalize hQ:rN C 0 8=Q at*;have lA:(fT (h++y++Q)).length=h.length+y.length+8:=by rw[ep,af,af,lq]
 have m3:(h.length+y.length+8+z.length)*64<=140737488355328:=by omega
 have Z:(h.length+y.length+8+z.length+E.length)*64<=140737488355328:=by omega
 have m5:(h.length+8+z.length)*64<=140737488355328:=by omega
 have m6:(h.length+8+z.length+E.length)*64<=140737488355328:=by omega
 have fin:fT (h++(y++(Q++(z++E))))=(fT (h++y++Q)++fT z)++fT E:=by rw[pD,pD,ax,ax,ax]
 rw[fin];rw[<-pD h y]at F;generalize fT (h++y++Q)=A at*;have z0:fT []=[]:=rfl;rw[au xlq]
 by_cases h2:y=[]<;>by_cases h4:E=[]<;>
 ·simp only[p9,oS,tS,cS,kS,L,h2,O,h4,z0,if_true,if_false,reduceIte,aK,bf,aV,aD]at W F U m3 Z lA ⊢
  simp only[go_sem,Q0,Q1,Q2,Q3,Q4,Q5,Q6,Q7,Q8,Q9,Qa,Qb,Qc,Qd,Qe,Qf,Qg,Qh,Qi,Qj,Qk,reduceCtorEq,reduceIte,k1,k2,H,xlJ,W,k5',l1,l2,l3,l4,m1,U,F,lA,m3,Z,m5,m6,af,bl,dU]
theorem zt(a:Int):∀n i:Nat,rN (fun k=>mkV k 2 a [0,0,0,0]) i n=uf a i n
 |0,_=>rfl
 |n+1,i=>by rw[rN,uf,zt a n (i+1)]
theorem dL{a r:Int}{x:Img}(h:¬x.role=r):gV a r x=[]:=if_neg h
theorem l6{a r:Int}{x:Img}(h:x.role=r)(y:¬r=4):gV a r x=[ofI x a]:=by unfold gV;rw[if_pos h,if_neg y]
def stg(l:List Img)(a r:Int)(i:Nat):List Ev:=(l.take i).flatMap (gV a r)
theorem Eo(l:List Img)(a r:Int){i:Nat}(hi:i<l.length):stg l a r (i+1)=stg l a r i++gV a r (l.getD i im0):=by unfold stg;rw[List.take_succ_eq_append_getElem hi,List.flatMap_append,jw,List.flatMap_nil,bf,aa,ab hi];rfl
theorem nX(l:List Img)(a r:Int)(i:Nat)(h:l.length<=8):(stg l a r i).length<=32:=by have:=eI (l.take i) a r;rw[aA]at this;unfold stg;omega
theorem l39(l:List Img)(I:ej l)(a:Int)(L:vi a):∀(n i:Nat),l.length-i=n->i<=l.length->
 run T (.loop jC) ⟨p9 a (dS l) i,[(105,oS (stg l a 1 i) (stg l a 2 i) (stg l a 3 i) (stg l a 4 i))],tS (stg l a 1 i) (stg l a 2 i) (stg l a 3 i) (stg l a 4 i)⟩=
 some (.x 0,⟨[(1,.int .i64 a),(5,.ptr 105 0)],[(105,oS (stg l a 1 l.length) (stg l a 2 l.length) (stg l a 3 l.length) (stg l a 4 l.length))],tS (stg l a 1 l.length) (stg l a 2 l.length) (stg l a 3 l.length) (stg l a 4 l.length)⟩):=by
 have n8:=I.n8;have Q:=dY l;intro n;induction n with
 |zero=>
  intro i W O;have:i=l.length:=by omega
  subst this;have h:=xjF a (dS l) (by omega) (stg l a 1 l.length) (stg l a 2 l.length) (stg l a 3 l.length) (stg l a 4 l.length);rw[Q]at h;exact h
 |succ n U=>
  intro i W O;have hi:i<l.length:=by omega
  have F:=U (i+1) (by omega) (by omega);rw[<-F];have J:=gA l i hi;have z:=I.ok i hi;have E:=fun r=>Eo l a r hi
  have q1:=nX l a 1 i n8;have q2:=nX l a 2 i n8;have q3:=nX l a 3 i n8;have q4:=nX l a 4 i n8;rw[E 1,E 2,E 3,E 4];obtain⟨r1,r2,_⟩:=iz z
  by_cases C:(l.getD i im0).role=4
  ·obtain⟨k1,k2⟩:=mE (l.getD i im0).pay
   have hp:=(kU z).2;have gl:=f98 (l.getD i im0) (by omega);have g0:=f33 4;have g:=fun d (hd:d∈dk (l.getD i im0).pay)=>f99 9 3 a d L (by decide) (CW hd).1 (by have:=k2 d hd;omega)
   rw[dL (r:=1) (by omega),dL (r:=2) (by omega),dL (r:=3) (by omega),bf,bf,bf];have he:gV a 4 (l.getD i im0)=(dk (l.getD i im0).pay).map (mkV 9 3 a):=by unfold gV;rw[if_pos C,if_pos rfl]
   rw[he];generalize l.getD i im0=x at*;obtain⟨ro,Z,ve,p⟩:=x;simp only at C;subst C;exact xja a (dS l) i (by omega) (by omega) Z ve p _ _ _ _ (by omega) (mkV 9 3 a) (dk p) k1 J gl g0 g
  ·have g:=f97 (l.getD i im0) a L z C
   have y:(l.getD i im0).role=1\/(l.getD i im0).role=2\/(l.getD i im0).role=3:=by omega
   have H:=s39 a (dS l) i (by omega) (by omega) (l.getD i im0).role y (l.getD i im0).name (l.getD i im0).ver (l.getD i im0).pay (stg l a 1 i) (stg l a 2 i) (stg l a 3 i) (stg l a 4 i) (by omega) (by omega) (by omega) (ofI (l.getD i im0) a) J g;rw[H,dL (r:=4) C,bf];rcases y with y|y|y
   ·rw[l6 y (by decide),dL (r:=2) (by omega),dL (r:=3) (by omega),y]
    simp only[bf,reduceIte,Int.reduceEq]
   ·rw[l6 (r:=2) y (by decide),dL (r:=1) (by omega),dL (r:=3) (by omega),y]
    simp only[bf,reduceIte,Int.reduceEq]
   ·rw[l6 (r:=3) y (by decide),dL (r:=1) (by omega),dL (r:=2) (by omega),y]
    simp only[bf,reduceIte,Int.reduceEq]
theorem BS{l:List Img}{a r:Int}(z:¬r=4){x:Img}(y:x∈l)(h:x.role=r):¬l.flatMap (gV a r)=[]:=by intro e;have:ofI x a∈l.flatMap (gV a r):=List.mem_flatMap.2 ⟨x,y,by rw[l6 h z];exact aW.2 rfl⟩;rw[e]at this;cases this
theorem f39(l:List Img)(y:ej l)(a:Int)(C:vi a):call T 39 [.lst 4 (dS l) .no,.int .i64 a] [] 0=some ⟨.lst 4 (fT (evF l a)) .no,[],[]⟩:=by
 have n8:=y.n8;have g:=l39 l y a C _ 0 rfl (bD _);have H:∀r,stg l a r 0=[]:=fun r=>by unfold stg;rw[List.take_zero];rfl
 have F:∀r,stg l a r l.length=l.flatMap (gV a r):=fun r=>by unfold stg;rw[bB]
 simp only[H,F,aD]at g;have b1:=eI l a 1;have O:=eI l a 2;have J:=eI l a 3;have L:=eI l a 4;obtain⟨i,hi,I⟩:=y.fw;obtain⟨k,E,hn⟩:=y.kn;have z:1<=a/\a<=3:=by rcases C with h|h|h<;>omega
 have h:=xkb a (dS l) (l.flatMap (gV a 1)) (l.flatMap (gV a 2)) (l.flatMap (gV a 3)) (l.flatMap (gV a 4)) (BS (by decide) (dd l im0 i hi) I) (BS (by decide) (dd l im0 k E) hn)
  (by omega) (by omega) (by omega) (by omega) z.1 z.2 (fun k=>mkV k 2 a [0,0,0,0]) (f96 l y) g (fun k _=>f99 k 2 a [0,0,0,0] C (by decide) (by simp) (by simp))
 rw[zt]at h;exact h
end Go.Proofs.YtkcjdeofknkndaaGreatDoor
