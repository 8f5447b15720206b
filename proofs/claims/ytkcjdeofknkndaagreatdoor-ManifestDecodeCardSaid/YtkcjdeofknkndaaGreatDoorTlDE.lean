/- Contracts. No condition. -/
import Derived.Test.YtkcjdeofknkndaaGreatDoorTiDE
import Derived.Test.YtkcjdeofknkndaaGreatDoorTjDE
open Int renaming natCast_zero -> aB
open List renaming Pairwise -> eg, drop_eq_getElem_cons -> aM, drop_length -> ba, drop_zero -> aV, foldl_cons -> bS, foldl_nil -> fp, getD_eq_getElem?_getD -> aa, getElem?_eq_getElem -> ab, length_append -> ac, length_cons -> aA, length_nil -> aY, length_pos_iff -> mi, length_take -> aw, map_append -> cV, map_cons -> aE, map_nil -> cT, mem_cons_of_mem -> am, mem_cons_self -> ax, mem_singleton -> aZ, nil_append -> aG, take -> dd, take_length -> bi
open Nat renaming le_refl -> aN, zero_add -> cj, zero_le -> bH
set_option maxRecDepth 100000
set_option maxHeartbeats 16000000
set_option linter.unusedSimpArgs false
set_option linter.unusedVariables false
namespace Go.Proofs.YtkcjdeofknkndaaGreatDoor
open Go.Sy
open UInt8 renaming reduceLT -> Q0, reduceLE -> Q1
open Int renaming reduceToNat -> Q2, reduceLE -> Q3, reduceLT -> Q4, reduceEq -> Q5, reduceNe -> Q6, reduceNeg -> Q7, reduceAdd -> Q8, reduceSub -> Q9, reduceMul -> Qa
open Nat renaming reducePow -> Qb, reduceDiv -> Qc, reduceMod -> Qd, reduceAdd -> Qe, reduceSub -> Qf, reduceMul -> Qg, reduceLT -> Qh, reduceLeDiff -> Qi, reduceEqDiff -> Qj, reduceBEq -> Qk
section
open SortT
structure xj5(y:Img):Prop where
 n:y.name.length<=1000000
 p:y.pay.length<=1000000
def mD(v:t7)(h:Int)(e:SV):aC:= .rc [.str v,.int .i64 h,.int .i64 0,.int .i64 0,.int .i64 1099511627776,e,.lst 4 [] .clip]
def EF(l:List Ent):SV:=if l=[]then .lst 4 [] .clip else .psl 140 4 0 l.length none
def EG(l:List Ent):List (Nat×aC):=if l=[]then []else [(140,.arr 4 (bP l))]
def nU(l:List Ent)(y:Img):List Ent:=if eX y=0 then(if y.role=4 then l else l++ [jv y])else l
theorem vH(l:List Ent)(y:Img):(nU l y).length<=l.length+1:=by
 unfold nU;split
 ·split
  ·omega
  ·simp
 ·omega
theorem rP(l:List Ent)(x:Ent):bP (l++ [x])=bP l++ [x.sv]:=by rw[bP,bP,cV];rfl
theorem l37(z:List Img)(a1:z.length<=1000)(v:t7)(ve:Int):∀(n i:Nat)(L:List Ent),z.length-i=n->i<=z.length->L.length<=i->
 run T (.loop PE) ⟨[(6,.ptr 106 0),(7,.ptr 107 0),(13,.lst 4 (ic z) .no),(14,.int .i64 z.length),(15,.int .i64 i)],(106,mZ)::(107,mD v ve (EF L))::EG L,[]⟩=
  some (.x 0,⟨[(6,.ptr 106 0),(7,.ptr 107 0)],(106,mZ)::(107,mD v ve (EF ((z.drop i).foldl nU L)))::EG ((z.drop i).foldl nU L),[]⟩):=by
 intro n;induction n with
 |zero=>
  intro i L I h1 hL;have hi:i=z.length:=by omega
  subst hi;rw[ba,fp,ai];unfold EG EF mD mZ
  by_cases hz:L=[]
  ·simp only[if_pos hz,go_sem,Q0,Q1,Q2,Q3,Q4,Q5,Q6,Q7,Q8,Q9,Qa,Qb,Qc,Qd,Qe,Qf,Qg,Qh,Qi,Qj,Qk,reduceCtorEq,reduceIte]
  ·simp only[if_neg hz,go_sem,Q0,Q1,Q2,Q3,Q4,Q5,Q6,Q7,Q8,Q9,Qa,Qb,Qc,Qd,Qe,Qf,Qg,Qh,Qi,Qj,Qk,reduceCtorEq,reduceIte]
 |succ n ih=>
  intro i L I h1 hL;have hi:i<z.length:=by omega
  have F:(i:Int)<(z.length:Int):=by omega
  have O:=bW i (by omega);have Q:=gF z;have H:=ma z i hi;have hd:z.drop i=z.getD i im0::z.drop (i+1):=by rw[aM hi,aa,ab hi];rfl
  rw[hd,bS];have h:=ih (i+1) (nU L (z.getD i im0)) (by omega) (by omega) (by have:=vH L (z.getD i im0);omega);generalize List.foldl nU (nU L (z.getD i im0)) (z.drop (i+1))=Z at*;generalize z.getD i im0=y at*;have C:=xk7 y;have g2:=xmY y;have a2:=SB y;have g3:=f90 (fm y) (by omega);unfold nU jv at h;generalize hE:fm y=E at*
  by_cases I:eX y=0
  ·by_cases J:y.role=4
   ·rw[if_pos I,if_pos J]at h
    rw[I]at C;obtain⟨y1,y2,y3,y4⟩:=y;simp only at J;subst J;unfold EG EF mD mZ at h ⊢
    by_cases hz:L=[]
    ·simp only[if_pos hz,Img.sv]at h H C ⊢
     rw[ai];simp only[go_sem,Q0,Q1,Q2,Q3,Q4,Q5,Q6,Q7,Q8,Q9,Qa,Qb,Qc,Qd,Qe,Qf,Qg,Qh,Qi,Qj,Qk,reduceCtorEq,reduceIte,hi,F,Q,H,C,tx,O,h]
    ·simp only[if_neg hz,Img.sv]at h H C ⊢
     rw[ai];simp only[go_sem,Q0,Q1,Q2,Q3,Q4,Q5,Q6,Q7,Q8,Q9,Qa,Qb,Qc,Qd,Qe,Qf,Qg,Qh,Qi,Qj,Qk,reduceCtorEq,reduceIte,hi,F,Q,H,C,tx,O,h]
   ·rw[if_pos I,if_neg J]at h
    rw[I]at C;obtain⟨y1,y2,y3,y4⟩:=y;simp only at J h hE
    try rw[hE]at h
    have a0:¬L++ [(⟨y1,y2,y3,sha E⟩:Ent)]=[]:=by simp
    have W:(L++ [(⟨y1,y2,y3,sha E⟩:Ent)]).length=L.length+1:=by simp
    unfold EG EF mD mZ at h ⊢
    by_cases hz:L=[]
    ·subst hz
     simp only[if_neg a0,W,if_true,Img.sv,rP,Ent.sv,bP,cT]at h H C g2 g3 ⊢;simp only[aG,aE,cT,Ent.sv,aY,cj]at h;rw[ai];simp only[go_sem,Q0,Q1,Q2,Q3,Q4,Q5,Q6,Q7,Q8,Q9,Qa,Qb,Qc,Qd,Qe,Qf,Qg,Qh,Qi,Qj,Qk,reduceCtorEq,reduceIte,hi,F,Q,H,C,tx,J,g2,xlA,g3,xg,O,h]
    ·have U:=bL L
     have tf:dd L.length (bP L)=bP L:=by rw[<-U,bi]
     have b1:(L.length+1)*56<=140737488355328:=by omega
     simp only[if_neg a0,if_neg hz,W,Img.sv,rP,Ent.sv]at h H C g2 g3 ⊢;rw[ai];simp only[go_sem,Q0,Q1,Q2,Q3,Q4,Q5,Q6,Q7,Q8,Q9,Qa,Qb,Qc,Qd,Qe,Qf,Qg,Qh,Qi,Qj,Qk,reduceCtorEq,reduceIte,hi,F,Q,H,C,tx,J,g2,xlA,g3,xg,O,U,tf,b1,h]
  ·rw[if_neg I]at h
   obtain⟨y1,y2,y3,y4⟩:=y;unfold EG EF mD mZ at h ⊢
   by_cases hz:L=[]
   ·simp only[if_pos hz,Img.sv]at h H C ⊢
    rw[ai];simp only[go_sem,Q0,Q1,Q2,Q3,Q4,Q5,Q6,Q7,Q8,Q9,Qa,Qb,Qc,Qd,Qe,Qf,Qg,Qh,Qi,Qj,Qk,reduceCtorEq,reduceIte,hi,F,Q,H,C,tx,I,O,h]
   ·simp only[if_neg hz,Img.sv]at h H C ⊢
    rw[ai];simp only[go_sem,Q0,Q1,Q2,Q3,Q4,Q5,Q6,Q7,Q8,Q9,Qa,Qb,Qc,Qd,Qe,Qf,Qg,Qh,Qi,Qj,Qk,reduceCtorEq,reduceIte,hi,F,Q,H,C,tx,I,O,h]
theorem vi:∀(h:List Img)(L:List Ent),(h.foldl nU L).length<=L.length+h.length
 |[],L=>aN _
 |y::r,L=>by have C:=vi r (nU L y);have z:=vH L y;rw[bS,aA];omega
def OR(h:List Img):List Ent:=cpt eqE (isr eG en0 ((h.foldl nU []).length-1) 1 (h.foldl nU []))
theorem xm2(y:List Img)(a0:y.length<=12)(v:t7)(F:Int):call T 37 [.str v,.int .i64 F,.lst 4 (ic y) .no] [] 0=
 some ⟨.agg [.str v,.int .i64 F,.int .i64 0,.int .i64 0,.int .i64 1099511627776,.lst 4 (bP (OR y)) .no,.lst 4 [] .clip],[],[]⟩:=by
 have h:=l37 y (by omega) v F _ 0 [] rfl (bH _) (aN _);have W:=vi y [];rw[aB,aV]at h;have I:=gF y;unfold OR;generalize y.foldl nU []=L at*;simp only[aY,cj]at W;unfold EF EG mD mZ at h;rw[an xoo]
 by_cases hz:L=[]
 ·subst hz
  have E:=xmX;have z:=xmW;simp only[if_true]at h;simp only[go_sem,Q0,Q1,Q2,Q3,Q4,Q5,Q6,Q7,Q8,Q9,Qa,Qb,Qc,Qd,Qe,Qf,Qg,Qh,Qi,Qj,Qk,reduceCtorEq,reduceIte,I,h,E,xlz,z,xly];rfl
 ·have U:0<L.length:=mi.2 hz
  have E:=f92 L U (by omega);have H:=Cu eG en0 (L.length-1) 1 L;obtain⟨R,Z,r1,J,r3,z⟩:=f93 (isr eG en0 (L.length-1) 1 L) (by omega) (by omega);rw[H]at z r1 J;have C:=bL L;have Q:=bL (isr eG en0 (L.length-1) 1 L);rw[<-r3];simp only[if_neg hz,if_true]at h;have O:Z<=R.length:=by omega
  simp only[go_sem,Q0,Q1,Q2,Q3,Q4,Q5,Q6,Q7,Q8,Q9,Qa,Qb,Qc,Qd,Qe,Qf,Qg,Qh,Qi,Qj,Qk,reduceCtorEq,reduceIte,I,h,E,xlz,z,xly,C,O]
theorem f37(h:List Img)(E:∀y∈h,xj5 y)(C:h.length<=12)(v:t7)(z:Int):call T 37 [.str v,.int .i64 z,.lst 4 (ic h) .no] [] 0=
 some ⟨.agg [.str v,.int .i64 z,.int .i64 0,.int .i64 0,.int .i64 1099511627776,.lst 4 (bP (OR h)) .no,.lst 4 [] .clip],[],[]⟩:=xm2 h C v z
def OY(l:List Ent)(y:Img):List Ent:=if eX y=0 then ng y l else l
theorem rH:∀(E:List Img)(A B:List Ent),A.foldl (fun a x=>oU eG x a) []=B->(E.foldl nU A).foldl (fun a x=>oU eG x a) []=E.foldl OY B
 |[],_,_,h=>h
 |y::r,A,B,h=>by
  rw[bS,bS];refine rH r _ _ ?_;unfold nU OY ng
  by_cases z:eX y=0
  ·rw[if_pos z,if_pos z]
   by_cases C:y.role=4
   ·rw[if_pos C,if_pos C];exact h
   ·rw[if_neg C,if_neg C,List.foldl_append,h,sP];rfl
  ·rw[if_neg z,if_neg z];exact h
theorem SM(h:List Img):OR h=h.foldl OY []:=by unfold OR;rw[E0 qJ Sv,rH h [] [] rfl]
theorem pj:∀(C:List Img)(B:List Ent),(∀y∈C,eX y=0)->C.foldl OY B=m9 C B
 |[],_,_=>rfl
 |y::r,B,h=>by
  rw[bS];unfold m9;rw[bS];have:OY B y=ng y B:=by unfold OY;rw[if_pos (h y ax)]
  rw[this];exact pj r _ fun z hz=>h z (am _ hz)
end
section
open SortT
theorem EvS.bd{e:Ev}(h:EvS e):xlN e:=⟨h.d2,by have:=h.b;omega,by have:=h.d0;omega,by have:=h.d1;omega⟩
theorem f12(h y:t7):∃m,xbc m/\call T 12 [.byt h .no,.byt y .no] [] 0=some ⟨.agg m.sv,[],[]⟩:=by have z:=f29 h 60;obtain⟨F,I,E⟩:=f28 y;obtain⟨m,J,H,C⟩:=f41 (h.take 60) (by rw[aw];omega) 0 F I;refine⟨m,H, ?_⟩;rw[show((60:Nat):Int)=60 from rfl]at z;rw[an xoF];simp only[bg,Man.sv,aB]at z C ⊢;simp only[go_sem,Q0,Q1,Q2,Q3,Q4,Q5,Q6,Q7,Q8,Q9,Qa,Qb,Qc,Qd,Qe,Qf,Qg,Qh,Qi,Qj,Qk,reduceCtorEq,reduceIte,z,xlK,E,xoT,C,xoN]
def imA:Img:=⟨3,[107],3,[112]⟩
theorem qC:eX imA=0:=by decide
def mnA:Man:=⟨[118],1,0,0,1099511627776,[jv imA],[]⟩
def mnB:Man:=⟨[118],1,0,0,5,[],[]⟩
theorem xaq:m9 [imA] []=[jv imA]:=by unfold m9;rw[bS,fp];unfold ng sQ;rw[if_neg (by decide),if_neg (by simp)];rfl
theorem xnB:OR [imA]=[jv imA]:=by rw[SM,pj [imA] [] (fun y h=>by rw[aZ.1 h];exact qC),xaq]
theorem yv:fj mnA=0:=by have h:=sX [imA] [] (fun y C=>by rw[aZ.1 C];exact qC) (fun x z=>by cases z) eg.nil;rw[xaq]at h;exact i7 (by decide) (by decide) (by decide) (by decide) (by decide) (by decide) (by decide) (by decide) (by decide) h.1 h.2 (fun x z=>by cases z)
theorem xeV:fj mnB=0:=i7 (by decide) (by decide) (by decide) (by decide) (by decide) (by decide) (by decide) (by decide) (by decide) (fun x h=>by cases h) eg.nil (fun x h=>by cases h)
theorem qx:dV mnA:=by refine⟨by decide,by show 1<=1000000;decide,by decide, ?_,fun x h=>by cases h⟩;intro x h;have:x=jv imA:=aZ.1 h;subst this;exact⟨by decide,by show(sha _).length<=_;rw[kY];decide⟩
theorem xeW:dV mnB:=⟨by decide,by decide,by decide,(fun x h=>by cases h),(fun x h=>by cases h)⟩
theorem xft{x:Img}(h:eX x=0):fm x≠ []:=fun e=>sW h (by rw[e];rfl)
theorem itA:Em mnA (ofI imA 2)=0:=by
 have h:itE (ofI imA 2) (jv imA)=true:=by
  have hd:(ofI imA 2).dg.getD 1 []=sha (fm imA):=by unfold ofI sY;simp only;rw[if_neg (xft qC)];rfl
  unfold itE;rw[hd];simp only[ofI,jv,decide_true,Bool.and_self]
 unfold Em;rw[if_pos yv,if_pos (show(ofI imA 2).kind=1 from rfl)];unfold mnA jB;rw[if_pos h];rfl
theorem Cy{m:Man}(h:fj m=0):fX m≠ []:=by
 intro e;have y:=CA h;rw[e]at y
 have z:nT []=none:=by unfold nT;rw[if_neg];rintro⟨h, -⟩;exact absurd h (by decide)
 rw[z]at y;cases y
theorem Gr{m:Man}(h:fj m=0):(SQ m).length=32:=by unfold SQ Es;rw[if_neg (Cy h),kY]
theorem Gj:(fX mnB).length=26:=by unfold fX hdM;rw[if_pos xeV];show(eA ([]++bu 1 21) [118]++bu 4 1++bu 4 0++bu 6 0++bu 6 5++bu 1 0++bu 1 0).length=26;unfold eA;simp only[ac,bM,eE,aY,aw,aA];rfl
theorem RT{m:Man}(h:dV m):(fX m).length<=1000000000:=by have:=md m h;omega
theorem f10:call T 10 [] [] 0=some ⟨.bool true,[],[]⟩:=by
 have H:=f37 [imA] (fun y hy=>by rw[aZ.1 hy];exact⟨by decide,by decide⟩) (by decide) [118] 1;rw[xnB]at H;have g2:=f16 mnA qx;have h:=f17 (fX mnA) (RT qx);have hd:nT (fX mnA)=some mnA:=CA yv;unfold kv sZ at h;rw[hd]at h;simp only at h;have J:=f18 mnA mnA qx;rw[PO rfl]at J;have U:=f21 mnA qx;have l5:=Gr yv;have L:=f40 imA 2 (.inr (.inl rfl)) qC (by decide);have z:=f31 mnA qx (ofI imA 2) (xhX 2 qC).bd;rw[itA]at z;have W:=f16 mnB xeW;have l8:=Gj;have F:mnA.sv=[.str [118],.int .i64 1,.int .i64 0,.int .i64 0,.int .i64 1099511627776,.lst 4 (bP [jv imA]) .no,.lst 4 [] .no]:=rfl;have O:mnB.sv=[.str [118],.int .i64 1,.int .i64 0,.int .i64 0,.int .i64 5,.lst 4 [] .no,.lst 4 [] .no]:=rfl;have hi:ic [imA]=[[.int .i64 3,.str [107],.int .i64 3,.byt [112] .no]]:=rfl;have I:imA.sv=[.int .i64 3,.str [107],.int .i64 3,.byt [112] .no]:=rfl;have Z:=bL [jv imA];have C:[jv imA].length=1:=rfl;rw[C]at Z;rw[hi]at H;rw[I]at L;rw[F]at g2 h J U z;rw[O]at W;generalize bP [jv imA]=E at*;generalize fX mnA=A at*;generalize fX mnB=B at*;generalize SQ mnA=D at*;have Q:(ofI imA 2).sv=[.int .i64 8,.int .i64 1,.lst 1 (bls (sY (fm imA) 2)) .no,.byt (wK [107] 3) .no]:=rfl;rw[Q]at L z;generalize bls (sY (fm imA) 2)=DG at*;generalize wK [107] 3=LB at*;rw[an xoG];simp only[go_sem,Q0,Q1,Q2,Q3,Q4,Q5,Q6,Q7,Q8,Q9,Qa,Qb,Qc,Qd,Qe,Qf,Qg,Qh,Qi,Qj,Qk,reduceCtorEq,reduceIte,H,xoP,g2,xaU,h,xlM,J,xlL,U,xoW,L,xoO,z,xoS,W,Z,l5,l8,c1,c26,c32]
end
end Go.Proofs.YtkcjdeofknkndaaGreatDoor
