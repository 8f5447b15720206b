/- What the functions come to. No condition. -/
import Derived.Test.YtkcjdeofknkndaaGreatDoorTjZ2
import Derived.Test.YtkcjdeofknkndaaGreatDoorTlZ2
open Int renaming natCast_zero -> aA
open List renaming Pairwise -> eu, drop_eq_getElem_cons -> aV, drop_length -> bl, drop_zero -> bh, foldl_cons -> cy, foldl_nil -> oa, getD_eq_getElem?_getD -> aa, getElem?_eq_getElem -> ab, getElem_mem -> bA, length_append -> ac, length_cons -> aC, length_map -> au, length_nil -> az, length_pos_iff -> bT, length_take -> aj, map_append -> bU, map_cons -> aI, map_nil -> bi, mem_cons_of_mem -> an, mem_cons_self -> aB, mem_map -> aT, mem_range -> jC, mem_singleton -> ba, nil_append -> aF, range -> cd, take -> du, take_length -> bQ
open Nat renaming add_assoc -> eF, add_zero -> eE, le_refl -> aO, zero_add -> cM, zero_le -> bW, zero_mul -> lu
open UInt8 renaming ofNat -> iC
set_option maxRecDepth 100000
set_option maxHeartbeats 16000000
set_option linter.unusedSimpArgs false
set_option linter.unusedVariables false
namespace Go.Proofs.YtkcjdeofknkndaaGreatDoor
open Go.Sy
open UInt8 renaming reduceLT -> Q0, reduceLE -> Q1
open Int renaming reduceToNat -> Q2, reduceLE -> Q3, reduceLT -> Q4, reduceEq -> Q5, reduceNe -> Q6, reduceNeg -> Q7, reduceAdd -> Q8, reduceSub -> Q9, reduceMul -> Qa
open Nat renaming reducePow -> Qb, reduceDiv -> Qc, reduceMod -> Qd, reduceAdd -> Qe, reduceSub -> Qf, reduceMul -> Qg, reduceLT -> Qh, reduceLeDiff -> Qi, reduceEqDiff -> Qj, reduceBEq -> Qk
section
open SortT
structure YO(y:Img):Prop where
 n:y.name.length<=1000000
 p:y.pay.length<=1000000
def mD(v:List UInt8)(ve:Int)(e:SV):aG:= .rc [.str v,.int .i64 ve,.int .i64 0,.int .i64 0,.int .i64 1099511627776,e,.lst 4 [] .clip]
def Ep(l:List Ent):SV:=if l=[]then .lst 4 [] .clip else .psl 140 4 0 l.length none
def Er(l:List Ent):List (Nat×aG):=if l=[]then []else [(140,.arr 4 (bf l))]
def nX(l:List Ent)(y:Img):List Ent:=if fC y=0 then(if y.role=4 then l else l++ [jn y])else l
theorem vL(l:List Ent)(y:Img):(nX l y).length<=l.length+1:=by
 unfold nX;split
 ·split
  ·omega
  ·simp
 ·omega
theorem rQ(l:List Ent)(x:Ent):bf (l++ [x])=bf l++ [x.sv]:=by rw[bf,bf,bU];rfl
theorem l37(ch:List Img)(hb:∀y∈ch,YO y)(hcl:ch.length<=1000)(v:List UInt8)(ve:Int):∀(n i:Nat)(L:List Ent),ch.length-i=n->i<=ch.length->L.length<=i->
 run T (.loop Om) ⟨[(6,.ptr 106 0),(7,.ptr 107 0),(13,.lst 4 (ik ch) .no),(14,.int .i64 ch.length),(15,.int .i64 i)],(106,mZ)::(107,mD v ve (Ep L))::Er L,[]⟩=
  some (.x 0,⟨[(6,.ptr 106 0),(7,.ptr 107 0)],(106,mZ)::(107,mD v ve (Ep ((ch.drop i).foldl nX L)))::Er ((ch.drop i).foldl nX L),[]⟩):=by
 intro n;induction n with
 |zero=>
  intro i L h0 h1 hL;have hi:i=ch.length:=by omega
  subst hi;rw[bl,oa,ai];unfold Er Ep mD mZ
  by_cases hz:L=[]
  ·simp only[if_pos hz,go_sem,Q0,Q1,Q2,Q3,Q4,Q5,Q6,Q7,Q8,Q9,Qa,Qb,Qc,Qd,Qe,Qf,Qg,Qh,Qi,Qj,Qk,reduceCtorEq,reduceIte]
  ·simp only[if_neg hz,go_sem,Q0,Q1,Q2,Q3,Q4,Q5,Q6,Q7,Q8,Q9,Qa,Qb,Qc,Qd,Qe,Qf,Qg,Qh,Qi,Qj,Qk,reduceCtorEq,reduceIte]
 |succ n ih=>
  intro i L h0 h1 hL;have hi:i<ch.length:=by omega
  have hiI:(i:Int)<(ch.length:Int):=by omega
  have e1:=cE i (by omega);have hv:=gB ch;have hg:=mf ch i hi;have hd:ch.drop i=ch.getD i im0::ch.drop (i+1):=by rw[aV hi,aa,ab hi];rfl
  rw[hd,cy];have hbd:=hb (ch.getD i im0) (cC ch im0 i hi);have ih':=ih (i+1) (nX L (ch.getD i im0)) (by omega) (by omega) (by have:=vL L (ch.getD i im0);omega);generalize List.foldl nX (nX L (ch.getD i im0)) (ch.drop (i+1))=Z at*;generalize ch.getD i im0=y at*;have g1:=f89 y (by have:=hbd.p;omega);have g2:=f91 y hbd.n hbd.p;have hel:=mj y hbd.n hbd.p;have g3:=f90 (fT y) (by omega);unfold nX jn at ih';generalize hE:fT y=E at*
  by_cases h0:fC y=0
  ·by_cases h4:y.role=4
   ·rw[if_pos h0,if_pos h4]at ih'
    rw[h0]at g1;obtain⟨y1,y2,y3,y4⟩:=y;simp only at h4;subst h4;unfold Er Ep mD mZ at ih' ⊢
    by_cases hz:L=[]
    ·simp only[if_pos hz,Img.sv]at ih' hg g1 ⊢
     rw[ai];simp only[go_sem,Q0,Q1,Q2,Q3,Q4,Q5,Q6,Q7,Q8,Q9,Qa,Qb,Qc,Qd,Qe,Qf,Qg,Qh,Qi,Qj,Qk,reduceCtorEq,reduceIte,hi,hiI,hv,hg,g1,vM,e1,ih']
    ·simp only[if_neg hz,Img.sv]at ih' hg g1 ⊢
     rw[ai];simp only[go_sem,Q0,Q1,Q2,Q3,Q4,Q5,Q6,Q7,Q8,Q9,Qa,Qb,Qc,Qd,Qe,Qf,Qg,Qh,Qi,Qj,Qk,reduceCtorEq,reduceIte,hi,hiI,hv,hg,g1,vM,e1,ih']
   ·rw[if_pos h0,if_neg h4]at ih'
    rw[h0]at g1;obtain⟨y1,y2,y3,y4⟩:=y;simp only at h4 ih' hE
    try rw[hE]at ih'
    have hne:¬L++ [(⟨y1,y2,y3,sha E⟩:Ent)]=[]:=by simp
    have hln:(L++ [(⟨y1,y2,y3,sha E⟩:Ent)]).length=L.length+1:=by simp
    unfold Er Ep mD mZ at ih' ⊢
    by_cases hz:L=[]
    ·subst hz
     simp only[if_neg hne,hln,if_true,Img.sv,rQ,Ent.sv,bf,bi]at ih' hg g1 g2 g3 ⊢;simp only[aF,aI,bi,Ent.sv,az,cM]at ih';rw[ai];simp only[go_sem,Q0,Q1,Q2,Q3,Q4,Q5,Q6,Q7,Q8,Q9,Qa,Qb,Qc,Qd,Qe,Qf,Qg,Qh,Qi,Qj,Qk,reduceCtorEq,reduceIte,hi,hiI,hv,hg,g1,vM,h4,g2,xiG,g3,xx,e1,ih']
    ·have hvL:=aQ L
     have tf:du L.length (bf L)=bf L:=by rw[<-hvL,bQ]
     have b1:(L.length+1)*56<=140737488355328:=by omega
     simp only[if_neg hne,if_neg hz,hln,Img.sv,rQ,Ent.sv]at ih' hg g1 g2 g3 ⊢;rw[ai];simp only[go_sem,Q0,Q1,Q2,Q3,Q4,Q5,Q6,Q7,Q8,Q9,Qa,Qb,Qc,Qd,Qe,Qf,Qg,Qh,Qi,Qj,Qk,reduceCtorEq,reduceIte,hi,hiI,hv,hg,g1,vM,h4,g2,xiG,g3,xx,e1,hvL,tf,b1,ih']
  ·rw[if_neg h0]at ih'
   obtain⟨y1,y2,y3,y4⟩:=y;unfold Er Ep mD mZ at ih' ⊢
   by_cases hz:L=[]
   ·simp only[if_pos hz,Img.sv]at ih' hg g1 ⊢
    rw[ai];simp only[go_sem,Q0,Q1,Q2,Q3,Q4,Q5,Q6,Q7,Q8,Q9,Qa,Qb,Qc,Qd,Qe,Qf,Qg,Qh,Qi,Qj,Qk,reduceCtorEq,reduceIte,hi,hiI,hv,hg,g1,vM,h0,e1,ih']
   ·simp only[if_neg hz,Img.sv]at ih' hg g1 ⊢
    rw[ai];simp only[go_sem,Q0,Q1,Q2,Q3,Q4,Q5,Q6,Q7,Q8,Q9,Qa,Qb,Qc,Qd,Qe,Qf,Qg,Qh,Qi,Qj,Qk,reduceCtorEq,reduceIte,hi,hiI,hv,hg,g1,vM,h0,e1,ih']
theorem vq:∀(ch:List Img)(L:List Ent),(ch.foldl nX L).length<=L.length+ch.length
 |[],L=>aO _
 |y::r,L=>by have h1:=vq r (nX L y);have h2:=vL L y;rw[cy,aC];omega
def Rw(ch:List Img):List Ent:=cpt eqE (isr eM en0 ((ch.foldl nX []).length-1) 1 (ch.foldl nX []))
theorem f37(ch:List Img)(hb:∀y∈ch,YO y)(hcl:ch.length<=12)(v:List UInt8)(ve:Int):call T 37 [.str v,.int .i64 ve,.lst 4 (ik ch) .no] [] 0=
 some ⟨.agg [.str v,.int .i64 ve,.int .i64 0,.int .i64 0,.int .i64 1099511627776,.lst 4 (bf (Rw ch)) .no,.lst 4 [] .clip],[],[]⟩:=by
 have h:=l37 ch hb (by omega) v ve _ 0 [] rfl (bW _) (aO _);have hl:=vq ch [];rw[aA,bh]at h;have hv:=gB ch;unfold Rw;generalize ch.foldl nX []=L at*;simp only[az,cM]at hl;unfold Ep Er mD mZ at h;rw[ao xlw]
 by_cases hz:L=[]
 ·subst hz
  have g1:=xj1;have g2:=xj0;simp only[if_true]at h;simp only[go_sem,Q0,Q1,Q2,Q3,Q4,Q5,Q6,Q7,Q8,Q9,Qa,Qb,Qc,Qd,Qe,Qf,Qg,Qh,Qi,Qj,Qk,reduceCtorEq,reduceIte,hv,h,g1,xiF,g2,xiE];rfl
 ·have h0:0<L.length:=bT.2 hz
  have g1:=f92 L h0 (by omega);have hil:=Cm eM en0 (L.length-1) 1 L;obtain⟨R,k',r1,r2,r3,g2⟩:=f93 (isr eM en0 (L.length-1) 1 L) (by omega) (by omega);rw[hil]at g2 r1 r2;have hvl:=aQ L;have hvi:=aQ (isr eM en0 (L.length-1) 1 L);rw[<-r3];simp only[if_neg hz,if_true]at h;have r4:k'<=R.length:=by omega
  simp only[go_sem,Q0,Q1,Q2,Q3,Q4,Q5,Q6,Q7,Q8,Q9,Qa,Qb,Qc,Qd,Qe,Qf,Qg,Qh,Qi,Qj,Qk,reduceCtorEq,reduceIte,hv,h,g1,xiF,g2,xiE,hvl,r4]
def NR(l:List Ent)(y:Img):List Ent:=if fC y=0 then nq y l else l
theorem rK:∀(ch:List Img)(A B:List Ent),A.foldl (fun a x=>oW eM x a) []=B->(ch.foldl nX A).foldl (fun a x=>oW eM x a) []=ch.foldl NR B
 |[],_,_,h=>h
 |y::r,A,B,h=>by
  rw[cy,cy];refine rK r _ _ ?_;unfold nX NR nq
  by_cases h0:fC y=0
  ·rw[if_pos h0,if_pos h0]
   by_cases h4:y.role=4
   ·rw[if_pos h4,if_pos h4];exact h
   ·rw[if_neg h4,if_neg h4,List.foldl_append,h,sS];rfl
  ·rw[if_neg h0,if_neg h0];exact h
theorem Rv(ch:List Img):Rw ch=ch.foldl NR []:=by unfold Rw;rw[EO qE Rf,rK ch [] [] rfl]
theorem pm:∀(ch:List Img)(B:List Ent),(∀y∈ch,fC y=0)->ch.foldl NR B=nl ch B
 |[],_,_=>rfl
 |y::r,B,h=>by
  rw[cy];unfold nl;rw[cy];have:NR B y=nq y B:=by unfold NR;rw[if_pos (h y aB)]
  rw[this];exact pm r _ fun z hz=>h z (an _ hz)
end
section
open SortT
theorem EvS.bd{e:Ev}(h:EvS e):xiT e:=⟨h.d2,by have:=h.b;omega,by have:=h.d0;omega,by have:=h.d1;omega⟩
theorem f12(codes chain:List UInt8):∃m,YN m/\call T 12 [.byt codes .no,.byt chain .no] [] 0=some ⟨.agg m.sv,[],[]⟩:=by have g1:=f29 codes 60;obtain⟨ch,hc,g2⟩:=f28 chain;obtain⟨m,j',hm,g3⟩:=f41 (codes.take 60) (by rw[aj];omega) 0 ch hc;refine⟨m,hm, ?_⟩;rw[show((60:Nat):Int)=60 from rfl]at g1;rw[ao xlM];simp only[bn,Man.sv,aA]at g1 g3 ⊢;simp only[go_sem,Q0,Q1,Q2,Q3,Q4,Q5,Q6,Q7,Q8,Q9,Qa,Qb,Qc,Qd,Qe,Qf,Qg,Qh,Qi,Qj,Qk,reduceCtorEq,reduceIte,g1,xiO,g2,xl3,g3,xlX]
def imA:Img:=⟨3,[107],3,[112]⟩
theorem qu:fC imA=0:=by decide
def mnA:Man:=⟨[118],1,0,0,1099511627776,[jn imA],[]⟩
def mnB:Man:=⟨[118],1,0,0,5,[],[]⟩
theorem Yb:nl [imA] []=[jn imA]:=by unfold nl;rw[cy,oa];unfold nq sT;rw[if_neg (by decide),if_neg (by simp)];rfl
theorem xkB:Rw [imA]=[jn imA]:=by rw[Rv,pm [imA] [] (fun y hy=>by rw[ba.1 hy];exact qu),Yb]
theorem yz:dn mnA=0:=by have h:=s6 [imA] [] (fun y hy=>by rw[ba.1 hy];exact qu) (fun x hx=>by cases hx) eu.nil;rw[Yb]at h;exact iX (by decide) (by decide) (by decide) (by decide) (by decide) (by decide) (by decide) (by decide) (by decide) h.1 h.2 (fun x hx=>by cases hx)
theorem xcg:dn mnB=0:=iX (by decide) (by decide) (by decide) (by decide) (by decide) (by decide) (by decide) (by decide) (by decide) (fun x hx=>by cases hx) eu.nil (fun x hx=>by cases hx)
theorem qp:cQ mnA:=by refine⟨by decide,by show 1<=1000000;decide,by decide, ?_,fun x hx=>by cases hx⟩;intro x hx;have:x=jn imA:=ba.1 hx;subst this;exact⟨by decide,by show(sha _).length<=_;rw[jt];decide⟩
theorem xch:cQ mnB:=⟨by decide,by decide,by decide,(fun x hx=>by cases hx),(fun x hx=>by cases hx)⟩
theorem xcL{x:Img}(h:fC x=0):fT x≠ []:=fun e=>s5 h (by rw[e];rfl)
theorem itA:Eb mnA (ofI imA 2)=0:=by
 have h:itE (ofI imA 2) (jn imA)=true:=by
  have hd:(ofI imA 2).dg.getD 1 []=sha (fT imA):=by unfold ofI s7;simp only;rw[if_neg (xcL qu)];rfl
  unfold itE;rw[hd];simp only[ofI,jn,decide_true,Bool.and_self]
 unfold Eb;rw[if_pos yz,if_pos (show(ofI imA 2).kind=1 from rfl)];unfold mnA jv;rw[if_pos h];rfl
theorem Rk{m:Man}(h:dn m=0):gF m≠ []:=by
 intro e;have h1:=s8 h;rw[e]at h1
 have h2:vF []=none:=by unfold vF;rw[if_neg];rintro⟨h, -⟩;exact absurd h (by decide)
 rw[h2]at h1;cases h1
theorem Ge{m:Man}(h:dn m=0):(nV m).length=32:=by unfold nV qQ;rw[if_neg (Rk h),jt]
theorem F7:(gF mnB).length=26:=by unfold gF hdM;rw[if_pos xcg];show(ie ([]++bu 1 21) [118]++bu 4 1++bu 4 0++bu 6 0++bu 6 5++bu 1 0++bu 1 0).length=26;unfold ie;simp only[ac,cA,eJ,az,aj,aC];rfl
theorem QB{m:Man}(hm:cQ m):(gF m).length<=1000000000:=by have:=ky m hm;omega
theorem f10:call T 10 [] [] 0=some ⟨.bool true,[],[]⟩:=by
 have g1:=f37 [imA] (fun y hy=>by rw[ba.1 hy];exact⟨by decide,by decide⟩) (by decide) [118] 1;rw[xkB]at g1;have g2:=f16 mnA qp;have g3:=f17 (gF mnA) (QB qp);have hd:vF (gF mnA)=some mnA:=s8 yz;unfold Yc Yd at g3;rw[hd]at g3;simp only at g3;have g4:=f18 mnA mnA qp;rw[OD rfl]at g4;have g5:=f21 mnA qp;have l5:=Ge yz;have g6:=f40 imA 2 (.inr (.inl rfl)) qu (by decide);have g7:=f31 mnA qp (ofI imA 2) (xe5 2 qu).bd;rw[itA]at g7;have g8:=f16 mnB xch;have l8:=F7;have hsA:mnA.sv=[.str [118],.int .i64 1,.int .i64 0,.int .i64 0,.int .i64 1099511627776,.lst 4 (bf [jn imA]) .no,.lst 4 [] .no]:=rfl;have hsB:mnB.sv=[.str [118],.int .i64 1,.int .i64 0,.int .i64 0,.int .i64 5,.lst 4 [] .no,.lst 4 [] .no]:=rfl;have hi:ik [imA]=[[.int .i64 3,.str [107],.int .i64 3,.byt [112] .no]]:=rfl;have hi2:imA.sv=[.int .i64 3,.str [107],.int .i64 3,.byt [112] .no]:=rfl;have hv:=aQ [jn imA];have hl1:[jn imA].length=1:=rfl;rw[hl1]at hv;rw[hi]at g1;rw[hi2]at g6;rw[hsA]at g2 g3 g4 g5 g7;rw[hsB]at g8;generalize bf [jn imA]=E at*;generalize gF mnA=A at*;generalize gF mnB=B at*;generalize nV mnA=D at*;have hso:(ofI imA 2).sv=[.int .i64 8,.int .i64 1,.lst 1 (bls (s7 (fT imA) 2)) .no,.byt (wP [107] 3) .no]:=rfl;rw[hso]at g6 g7;generalize bls (s7 (fT imA) 2)=DG at*;generalize wP [107] 3=LB at*;rw[ao xlO];simp only[go_sem,Q0,Q1,Q2,Q3,Q4,Q5,Q6,Q7,Q8,Q9,Qa,Qb,Qc,Qd,Qe,Qf,Qg,Qh,Qi,Qj,Qk,reduceCtorEq,reduceIte,g1,xlZ,g2,Yv,g3,xiS,g4,xiR,g5,xiQ,g6,xlY,g7,xl2,g8,hv,l5,l8,c1,c26,c32]
end
theorem pA(n m:Int)(h:1<=m):0<=eY n m/\eY n m<m:=by
 unfold eY;rw[if_neg (by omega)];have h1:=Int.tmod_lt_of_pos n (show(0:Int)<m by omega)
 have h2: -m<n.tmod m:=by have:=Int.lt_tmod_of_pos n (show(0:Int)<m by omega);exact this
 split<;>constructor<;>omega
theorem iV(n:Int)(m:Nat)(h:0<m):∃k:Nat,eY n m=k/\k<m:=by obtain⟨h1,h2⟩:=pA n m (by omega);exact⟨(eY n m).toNat,by omega,by omega⟩
theorem gV(m:Man):cQ (nU m):=by
 refine⟨?_, ?_, ?_, ?_, ?_⟩
 ·show(m.vendor.take 30).length<=_
  rw[aj];omega
 ·show((m.ents.take 20).map fe).length<=_
  rw[au,aj];omega
 ·show((m.ruls.take 12).map ib).length<=_
  rw[au,aj];omega
 ·intro x hx
  obtain⟨y,_,rfl⟩:=aT.1 hx;show(y.name.take 30).length<=_/\(y.dig.take 40).length<=_;rw[aj,aj];omega
 ·intro x hx
  obtain⟨y,_,rfl⟩:=aT.1 hx;show(y.text.take 60).length<=_;rw[aj];omega
theorem Cv(m:Man):(nV m).length<=32:=by
 unfold nV qQ;split
 ·exact bW _
 ·rw[jt];exact aO _
theorem f4(raw:Man)(codes chain:List UInt8):call T 4 [.agg raw.sv,.byt codes .no,.byt chain .no] [] 0=some ⟨.bool true,[],[]⟩:=by have ga:=f10;have gf:=f11 raw;obtain⟨m,hm,gm⟩:=f12 codes chain;have bm:=hm.bd;have br:=gV raw;generalize nU raw=w at*;have g1:=f16 m bm;have lm:=ky m bm;have g2:=f17 (gF m) (by omega);have hd:vF (gF m)=some m:=s8 hm.ok;unfold Yc Yd at g2;rw[hd]at g2;simp only at g2;have g3:=f18 m m bm;rw[OD rfl]at g3;have g4:=f20 m bm;have g5:=f19 (gF m) (gF m) (by omega);rw[decide_eq_true rfl]at g5;have g6:=f21 m bm;have g7:=f22 m bm;have ld:=Cv m;have g8:=f19 (nV m) (nV m) (by omega);rw[decide_eq_true rfl]at g8;have h1:=f16 w br;have lw:=ky w br;have h4:=f20 w br;have h5:=f19 (gF w) (gF w) (by omega);rw[decide_eq_true rfl]at h5;have h6:=f21 w br;have h7:=f22 w br;have lw2:=Cv w;have h8:=f19 (nV w) (nV w) (by omega);rw[decide_eq_true rfl]at h8;clear hm bm br hd;generalize gF m=A at*;generalize nV m=D at*;generalize gF w=A2 at*;generalize nV w=D2 at*;obtain⟨v,a1,a2,a3,a4,es,rs⟩:=m;obtain⟨v',b1,b2,b3,b4,es',rs'⟩:=w;obtain⟨v'',c1,c2,c3,c4,es'',rs''⟩:=raw;rw[ao T_4];simp only[Man.sv]at*;simp only[go_sem,Q0,Q1,Q2,Q3,Q4,Q5,Q6,Q7,Q8,Q9,Qa,Qb,Qc,Qd,Qe,Qf,Qg,Qh,Qi,Qj,Qk,reduceCtorEq,reduceIte,ga,jz,gf,jy,gm,jx,g1,Yv,g2,xiS,g3,xiR,g4,xdc,g5,Yu,g6,xiQ,g7,xl4,g8,h1,h4,h5,h6,h7,h8]
end Go.Proofs.YtkcjdeofknkndaaGreatDoor
namespace Go.Sy
open Go.ChangeShapes Go.WideShapes
section
variable {H : Type} {enc : TypeId × Value -> H} {P : Program} {w : World} {base : Nat} {hd : Bool} {r : Reach} {b0 : Nat} {t e : TypeId} {v : Value} {d : DataW H} {ps : List MemPlace}
theorem lF{a:Addr}{v:Value}(h:w.cell? a=some v):a.spot=none:=by
 unfold World.cell? at h;split at h
 ·by_cases hs:a.spot.isSome=true
  ·rw[if_pos hs]at h;cases h
  ·simpa using hs
 ·cases h
theorem sa(a:Addr):a.add 0=a:=by unfold Addr.add;rw[if_pos rfl]
variable [bc]
theorem wL{fuel:Nat}{v:Value}{x:DataW H×List MemPlace}(ht:P.underlying t=some (.slice e))(he:P.underlying e=some (.int .u8))(hc:P.cellsOf e=1)(h:DataW.trod enc P w base (fun _=>true) hd fuel t [v]=some x):
 ∃l:List UInt8,cV (qY w).G (.byt l .no) v:=by
 rcases open_ints ht he hc h with⟨hcs,_⟩|⟨a,len,cap,zs,hcs,_,hl,hm,hz,_,hcell,hwf⟩
 ·obtain rfl:v= .slice none 0 0:=by simpa using hcs
  exact⟨[],.bytN .no⟩
 ·obtain rfl:v= .slice (some a) len cap:=by simpa using hcs
  simp only[if_true]at hz
  by_cases h0:cap=0
  ·obtain rfl:len=0:=by omega
   subst h0;exact⟨[],.bytE .no a⟩
  ·have hs:a.spot=none:=by
    have:=lF (hcell 0 (by omega));rwa[sa]at this
   obtain⟨b,off,spot⟩:=a;simp only at hs;subst hs;refine⟨(zs.take len).map fun n=>iC n.toNat,.byt _ .no b off cap len (by simp;omega) hl (fun i hi=> ?_)⟩;have h1:=hcell i (by omega);have hi':i<zs.length:=by omega
   rw[add_plain]at h1
   have e1:((zs.take len).map fun n=>iC n.toNat).getD i 0=iC (zs.getD i 0).toNat:=by simp[aa,hi',hi]
   show w.cell? _=_;rw[h1,e1]
   congr 2
   refine(Gw (hwf _ ?_)).symm;rw[aa,ab hi'];exact bA hi'
omit [bc] in
theorem ru{K:List SV->Prop}{fuel:Nat}{v:Value}{x:DataW H×List MemPlace}(ht:P.underlying t=some (.slice e))(ce:P.cellsOf e=4)
 (row:∀(n:Nat)(cs:List Value)(y:DataW H×List MemPlace),cs.length=4->DataW.trod enc P w base (fun _=>true) hd n e cs=some y->∃q:List SV,K q/\q.length=4/\∀j,j<4->cV (qY w).G (q.getD j .undef) (cs.getD j Go.undef))
 (h:DataW.trod enc P w base (fun _=>true) hd fuel t [v]=some x):
 ∃l:List (List SV),(∀q∈l,K q)/\cV (qY w).G (.lst 4 l .no) v:=by
 rcases Go.Deep.open_slice ht h with⟨hcs,_⟩|⟨a,len,cap,m,n,D,Pl,hcs,_,hl,hm,hmm,_,hx⟩
 ·obtain rfl:v= .slice none 0 0:=by simpa using hcs
  exact⟨[],fun q hq=>(by cases hq),.lstN 4 .no⟩
 ·obtain rfl:v= .slice (some a) len cap:=by simpa using hcs
  simp only[if_true]at hmm;subst hmm
  by_cases h0:m=0
  ·obtain rfl:len=0:=by omega
   subst h0;exact⟨[],fun q hq=>(by cases hq),.lstE 4 .no a⟩
  ·have each:∀i,i<m->∃p:List SV×List Value,K p.1/\p.1.length=4/\(∀j,j<4->cV (qY w).G (p.1.getD j .undef) (p.2.getD j Go.undef))/\∀j,j<4->w.cell? (a.add (i*4+j))=some (p.2.getD j Go.undef):=by
    intro i hi;obtain⟨cs',h1,h2⟩:=hx i hi;rw[ce]at h1;obtain⟨_,hlen,hcell⟩:=World.cells?_some h1;obtain⟨q,k1,k2,k3⟩:=row n cs' _ hlen h2;refine⟨(q,cs'),k1,k2,k3,fun j hj=> ?_⟩;have:=hcell j (by omega);rw[Go.Deep.add_add]at this;rw[this,aa,ab (by omega)];rfl
   obtain⟨p,hp⟩:=Go.Deep.choose_lt each
   have hs:a.spot=none:=by have:=lF ((hp 0 (by omega)).2.2.2 0 (by decide));rwa[lu,eE,sa]at this
   obtain⟨b,off,spot⟩:=a;simp only at hs;subst hs
   have hrow:∀i,i<len->((cd len).map fun i=>(p i).1).getD i []=(p i).1:=fun i hi=>by simp[aa,hi]
   refine⟨(cd len).map fun i=>(p i).1,fun q hq=> ?_,.lst 4 _ .no b off m len (fun i j=>(p i).2.getD j Go.undef) (by simp) hl (fun i hi=>by rw[hrow i hi];exact(hp i (by omega)).2.1) (fun i j hi hj=> ?_) (fun i j hi hj=> ?_)⟩
   ·obtain⟨i,hi,rfl⟩:=aT.1 hq
    exact(hp i (by have:=jC.1 hi;omega)).1
   ·have:=(hp i (by omega)).2.2.2 j hj
    rw[add_plain]at this;show w.cell? _=_;rw[eF];exact this
   ·rw[hrow i hi]
    exact(hp i (by omega)).2.2.1 j hj
def OA(q:List SV):Prop:=∃(a:Int)(n:List UInt8)(v:Int)(b:List UInt8),q=[.int .i64 a,.str n,.int .i64 v,.byt b .no]
def Oz(q:List SV):Prop:=∃(a:Int)(n:List UInt8)(v:Int)(b:Int),q=[.int .i64 a,.str n,.int .i64 v,.int .i64 b]
section
variable {fa fb fc fd : Field} (he : P.underlying e = some (.struct #[fa, fb, fc, fd])) (o0 : fa.offset = 0) (o1 : fb.offset = 1) (o2 : fc.offset = 2) (o3 : fd.offset = 3)
 (c0:P.cellsOf fa.type=1) (c1:P.cellsOf fb.type=1) (c2:P.cellsOf fc.type=1) (c3:P.cellsOf fd.type=1)
 (t0:P.underlying fa.type=some (.int .i64)) (t1:P.underlying fb.type=some .string) (t2:P.underlying fc.type=some (.int .i64))
include he o0 o1 o2 o3 c0 c1 c2 c3 t0 t1 t2
theorem PQ{u:TypeId}(t3:P.underlying fd.type=some (.slice u))(hu:P.underlying u=some (.int .u8))(cu:P.cellsOf u=1)(n:Nat)(cs:List Value)(y:DataW H×List MemPlace)(hlen:cs.length=4)(h:DataW.trod enc P w base (fun _=>true) hd n e cs=some y):
 ∃q:List SV,OA q/\q.length=4/\∀j,j<4->cV (qY w).G (q.getD j .undef) (cs.getD j Go.undef):=by
 obtain⟨xs,k,_,_,_,hxl,hf⟩:=DataW.trod_struct he h
 match cs,hlen,xs,hxl with
 |[v0,v1,v2,v3],_,[y0,y1,y2,y3],_=>
  have g0:=hf 0 fa rfl;have g1:=hf 1 fb rfl;have g2:=hf 2 fc rfl;have g3:=hf 3 fd rfl;simp[o0,o1,o2,o3,c0,c1,c2,c3]at g0 g1 g2 g3;obtain⟨a,e0,_,_⟩:=DataW.trod_int t0 g0;obtain⟨⟨⟨s⟩⟩,e1,_,_⟩:=DataW.trod_string t1 g1;obtain⟨c,e2,_,_⟩:=DataW.trod_int t2 g2;obtain⟨l,hl⟩:=wL t3 hu cu g3;obtain rfl:v0= .int .i64 a:=by simpa using e0
  obtain rfl:v1= .string ⟨⟨s⟩⟩:=by simpa using e1
  obtain rfl:v2= .int .i64 c:=by simpa using e2
  refine⟨[.int .i64 a,.str s,.int .i64 c,.byt l .no],⟨a,s,c,l,rfl⟩,rfl,fun j hj=> ?_⟩
  match j,hj with
  |0,_=>exact .int _ _
  |1,_=>exact .str _
  |2,_=>exact .int _ _
  |3,_=>exact hl
omit [bc] in
theorem PO(t3:P.underlying fd.type=some (.int .i64))(n:Nat)(cs:List Value)(y:DataW H×List MemPlace)(hlen:cs.length=4)(h:DataW.trod enc P w base (fun _=>true) hd n e cs=some y):
 ∃q:List SV,Oz q/\q.length=4/\∀j,j<4->cV (qY w).G (q.getD j .undef) (cs.getD j Go.undef):=by
 obtain⟨xs,k,_,_,_,hxl,hf⟩:=DataW.trod_struct he h
 match cs,hlen,xs,hxl with
 |[v0,v1,v2,v3],_,[y0,y1,y2,y3],_=>
  have g0:=hf 0 fa rfl;have g1:=hf 1 fb rfl;have g2:=hf 2 fc rfl;have g3:=hf 3 fd rfl;simp[o0,o1,o2,o3,c0,c1,c2,c3]at g0 g1 g2 g3;obtain⟨a,e0,_,_⟩:=DataW.trod_int t0 g0;obtain⟨⟨⟨s⟩⟩,e1,_,_⟩:=DataW.trod_string t1 g1;obtain⟨c,e2,_,_⟩:=DataW.trod_int t2 g2;obtain⟨l,e3,_,_⟩:=DataW.trod_int t3 g3;obtain rfl:v0= .int .i64 a:=by simpa using e0
  obtain rfl:v1= .string ⟨⟨s⟩⟩:=by simpa using e1
  obtain rfl:v2= .int .i64 c:=by simpa using e2
  obtain rfl:v3= .int .i64 l:=by simpa using e3
  refine⟨[.int .i64 a,.str s,.int .i64 c,.int .i64 l],⟨a,s,c,l,rfl⟩,rfl,fun j hj=> ?_⟩
  match j,hj with
  |0,_=>exact .int _ _
  |1,_=>exact .str _
  |2,_=>exact .int _ _
  |3,_=>exact .int _ _
end
end
end Go.Sy
namespace Go.Proofs.YtkcjdeofknkndaaGreatDoor
open Go.Sy
open UInt8 renaming reduceLT -> Q0, reduceLE -> Q1
open Int renaming reduceToNat -> Q2, reduceLE -> Q3, reduceLT -> Q4, reduceEq -> Q5, reduceNe -> Q6, reduceNeg -> Q7, reduceAdd -> Q8, reduceSub -> Q9, reduceMul -> Qa
open Nat renaming reducePow -> Qb, reduceDiv -> Qc, reduceMod -> Qd, reduceAdd -> Qe, reduceSub -> Qf, reduceMul -> Qg, reduceLT -> Qh, reduceLeDiff -> Qi, reduceEqDiff -> Qj, reduceBEq -> Qk
section
theorem Cr:∀(l:List (List SV)),(∀q∈l,OA q)->∃es:List Ent,bf es=l
 |[],_=>⟨[],rfl⟩
 |q::r,h=>by
  obtain⟨es,he⟩:=Cr r fun x hx=>h x (an _ hx)
  obtain⟨a,n,v,b,rfl⟩:=h q aB;exact⟨⟨a,n,v,b⟩::es,by rw[<-he];rfl⟩
theorem zX:∀(l:List (List SV)),(∀q∈l,Oz q)->∃es:List Rul,bO es=l
 |[],_=>⟨[],rfl⟩
 |q::r,h=>by
  obtain⟨es,he⟩:=zX r fun x hx=>h x (an _ hx)
  obtain⟨a,n,v,b,rfl⟩:=h q aB;exact⟨⟨a,n,v,b⟩::es,by rw[<-he];rfl⟩
section
open Go.ChangeShapes Go.WideShapes
variable {H : Type} {enc : TypeId × Value -> H} {w : World} {base : Nat} {hd : Bool} {r : Reach} {b0 : Nat} {v : Value} {d : DataW H} {ps : List MemPlace}
theorem CA(hval:Value.okWide Tryz.prog w r b0 25 v)(h:DataW.Trod enc Tryz.prog w base (fun _=>true) hd 25 v d ps):∃m:Man,Rep (qY w) (.agg m.sv) v:=by
 obtain⟨cs,rfl,hcs⟩:=okWide_struct Tryz.underlying25 hval;rw[show Tryz.prog.cellsOf 25=7 by kernel_rfl]at hcs;obtain⟨fuel,hf⟩:=h;obtain⟨xs,n,_,_,hl,hlen,hf⟩:=DataW.trod_struct Tryz.underlying25 hf;have c9:Tryz.prog.cellsOf 9=1:=by kernel_rfl
 have c3:Tryz.prog.cellsOf 3=1:=by kernel_rfl
 have c5:Tryz.prog.cellsOf 5=1:=by kernel_rfl
 have c22:Tryz.prog.cellsOf 22=1:=by kernel_rfl
 have c23:Tryz.prog.cellsOf 23=1:=by kernel_rfl
 have c26:Tryz.prog.cellsOf 26=1:=by kernel_rfl
 have c34:Tryz.prog.cellsOf 34=4:=by kernel_rfl
 have c65:Tryz.prog.cellsOf 65=4:=by kernel_rfl
 simp only[Value.cells]at hl hf;have hx:xs.length=7:=hlen;obtain⟨l⟩:=cs;have hl7:l.length=7:=by simpa using hcs
 match xs,hx,l,hl7 with
 |[y0,y1,y2,y3,y4,y5,y6],_,[v0,v1,v2,v3,v4,v5,v6],_=>
  have g0:=hf 0 _ rfl;have g1:=hf 1 _ rfl;have g2:=hf 2 _ rfl;have g3:=hf 3 _ rfl;have g4:=hf 4 _ rfl;have g5:=hf 5 _ rfl;have g6:=hf 6 _ rfl;simp[c9,c3,c22,c23]at g0 g1 g2 g3 g4 g5 g6;obtain⟨⟨⟨s⟩⟩,e0,_,_⟩:=DataW.trod_string Tryz.underlying9 g0;obtain⟨a1,e1,_,_⟩:=DataW.trod_int Tryz.underlying3 g1;obtain⟨a2,e2,_,_⟩:=DataW.trod_int Tryz.underlying3 g2;obtain⟨a3,e3,_,_⟩:=DataW.trod_int Tryz.underlying3 g3;obtain⟨a4,e4,_,_⟩:=DataW.trod_int Tryz.underlying3 g4;obtain⟨le,he1,he2⟩:=ru (K:=OA) Tryz.underlying22 c34 (PQ Tryz.underlying34 rfl rfl rfl rfl c3 c9 c3 c26 Tryz.underlying3 Tryz.underlying9 Tryz.underlying3 Tryz.underlying26 Tryz.underlying5 c5) g5;obtain⟨lr,hr1,hr2⟩:=ru (K:=Oz) Tryz.underlying23 c65 (PO Tryz.underlying65 rfl rfl rfl rfl c3 c9 c3 c3 Tryz.underlying3 Tryz.underlying9 Tryz.underlying3 Tryz.underlying3) g6;obtain⟨es,rfl⟩:=Cr le he1;obtain⟨rs,rfl⟩:=zX lr hr1;obtain rfl:v0= .string ⟨⟨s⟩⟩:=by simpa using e0
  obtain rfl:v1= .int .i64 a1:=by simpa using e1
  obtain rfl:v2= .int .i64 a2:=by simpa using e2
  obtain rfl:v3= .int .i64 a3:=by simpa using e3
  obtain rfl:v4= .int .i64 a4:=by simpa using e4
  refine⟨⟨s,a1,a2,a3,a4,es,rs⟩,.agg _ _ rfl fun i hi=> ?_⟩
  match i,hi with
  |0,_=>exact .dat _ _ (.str _) trivial
  |1,_=>exact .dat _ _ (.int _ _) trivial
  |2,_=>exact .dat _ _ (.int _ _) trivial
  |3,_=>exact .dat _ _ (.int _ _) trivial
  |4,_=>exact .dat _ _ (.int _ _) trivial
  |5,_=>exact .dat _ _ he2 trivial
  |6,_=>exact .dat _ _ hr2 trivial
  |i+7,hi=>exact absurd hi (by simp[Man.sv])
end
end
end Go.Proofs.YtkcjdeofknkndaaGreatDoor
