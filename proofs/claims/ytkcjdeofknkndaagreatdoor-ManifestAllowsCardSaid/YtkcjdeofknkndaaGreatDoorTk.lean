/- What the functions come to. No condition. -/
import Derived.Test.YtkcjdeofknkndaaGreatDoorTi
import Derived.Test.YtkcjdeofknkndaaGreatDoorTj
open Bool renaming and_eq_true -> ay
open Int renaming natCast_zero -> aC
open Go.IntKind renaming i64 -> ac
open List renaming Pairwise -> ey, drop -> ig, drop_eq_getElem_cons -> aX, drop_length -> bl, drop_zero -> bh, foldl_cons -> cH, getD_eq_getElem?_getD -> aa, getElem?_eq_getElem -> ab, length_append -> af, length_cons -> ax, length_nil -> aV, length_take -> av, map_append -> cV, map_cons -> aE, map_nil -> cQ, mem_cons_of_mem -> ao, mem_cons_self -> az, mem_singleton -> aN, nil_append -> aQ, take -> dr, take_length -> bK
open Nat renaming le_refl -> aL, zero_add -> bW, zero_le -> bM
set_option maxRecDepth 100000
set_option maxHeartbeats 16000000
set_option linter.unusedSimpArgs false
set_option linter.unusedVariables false
namespace Go.Proofs.YtkcjdeofknkndaaGreatDoor
open Go.Sy
open UInt8 renaming reduceLT -> Q0, reduceLE -> Q1
open Int renaming reduceToNat -> Q2, reduceLE -> Q3, reduceLT -> Q4, reduceEq -> Q5, reduceNe -> Q6, reduceNeg -> Q7, reduceAdd -> Q8, reduceSub -> Q9, reduceMul -> Qa
open Nat renaming reducePow -> Qb, reduceDiv -> Qc, reduceMod -> Qd, reduceAdd -> Qe, reduceSub -> Qf, reduceMul -> Qg, reduceLT -> Qh, reduceLeDiff -> Qi, reduceEqDiff -> Qj, reduceBEq -> Qk
section
open SortT
structure YE(y:Img):Prop where
 n:y.name.length<=1000000
 p:y.pay.length<=1000000
def mD(v:List UInt8)(ve:Int)(e:SV):aB:= .rc [.str v,.int .i64 ve,.int .i64 0,.int .i64 0,.int .i64 1099511627776,e,.lst 4 [] .clip]
def Ej(l:List Ent):SV:=if l=[]then .lst 4 [] .clip else .psl 140 4 0 l.length none
def Ek(l:List Ent):List (Nat×aB):=if l=[]then []else [(140,.arr 4 (bX l))]
def nJ(l:List Ent)(y:Img):List Ent:=if fe y=0 then(if y.role=4 then l else l++ [jf y])else l
theorem vw(l:List Ent)(y:Img):(nJ l y).length<=l.length+1:=by
 unfold nJ;split
 ·split
  ·omega
  ·simp
 ·omega
theorem rt(l:List Ent)(x:Ent):bX (l++ [x])=bX l++ [x.sv]:=by rw[bX,bX,cV];rfl
theorem l37(ch:List Img)(hb:∀y∈ch,YE y)(hcl:ch.length<=1000)(v:List UInt8)(ve:Int):∀(n i:Nat)(L:List Ent),ch.length-i=n->i<=ch.length->L.length<=i->
 run T (.loop Od) ⟨[(6,.ptr 106 0),(7,.ptr 107 0),(13,.lst 4 (fo ch) .no),(14,.int .i64 ch.length),(15,.int .i64 i)],(106,mZ)::(107,mD v ve (Ej L))::Ek L,[]⟩=
  some (.x 0,⟨[(6,.ptr 106 0),(7,.ptr 107 0)],(106,mZ)::(107,mD v ve (Ej ((ch.drop i).foldl nJ L)))::Ek ((ch.drop i).foldl nJ L),[]⟩):=by
 intro n;induction n with
 |zero=>
  intro i L h0 h1 hL;have hi:i=ch.length:=by omega
  subst hi;rw[bl,List.foldl_nil,ai];unfold Ek Ej mD mZ
  by_cases hz:L=[]
  ·simp only[if_pos hz,go_sem,Q0,Q1,Q2,Q3,Q4,Q5,Q6,Q7,Q8,Q9,Qa,Qb,Qc,Qd,Qe,Qf,Qg,Qh,Qi,Qj,Qk,reduceCtorEq,reduceIte]
  ·simp only[if_neg hz,go_sem,Q0,Q1,Q2,Q3,Q4,Q5,Q6,Q7,Q8,Q9,Qa,Qb,Qc,Qd,Qe,Qf,Qg,Qh,Qi,Qj,Qk,reduceCtorEq,reduceIte]
 |succ n ih=>
  intro i L h0 h1 hL;have hi:i<ch.length:=by omega
  have hiI:(i:Int)<(ch.length:Int):=by omega
  have e1:=cy i (by omega);have hv:=dS ch;have hg:=fK ch i hi;have hd:ch.drop i=ch.getD i im0::ch.drop (i+1):=by rw[aX hi,aa,ab hi];rfl
  rw[hd,cH];have hbd:=hb (ch.getD i im0) (dv ch im0 i hi);have ih':=ih (i+1) (nJ L (ch.getD i im0)) (by omega) (by omega) (by have:=vw L (ch.getD i im0);omega);generalize List.foldl nJ (nJ L (ch.getD i im0)) (ch.drop (i+1))=Z at*;generalize ch.getD i im0=y at*;have g1:=f89 y (by have:=hbd.p;omega);have g2:=f91 y hbd.n hbd.p;have hel:=lT y hbd.n hbd.p;have g3:=f90 (fZ y) (by omega);unfold nJ jf at ih';generalize hE:fZ y=E at*
  by_cases h0:fe y=0
  ·by_cases h4:y.role=4
   ·rw[if_pos h0,if_pos h4]at ih'
    rw[h0]at g1;obtain⟨y1,y2,y3,y4⟩:=y;simp only at h4;subst h4;unfold Ek Ej mD mZ at ih' ⊢
    by_cases hz:L=[]
    ·simp only[if_pos hz,Img.sv]at ih' hg g1 ⊢
     rw[ai];simp only[go_sem,Q0,Q1,Q2,Q3,Q4,Q5,Q6,Q7,Q8,Q9,Qa,Qb,Qc,Qd,Qe,Qf,Qg,Qh,Qi,Qj,Qk,reduceCtorEq,reduceIte,hi,hiI,hv,hg,g1,vx,e1,ih']
    ·simp only[if_neg hz,Img.sv]at ih' hg g1 ⊢
     rw[ai];simp only[go_sem,Q0,Q1,Q2,Q3,Q4,Q5,Q6,Q7,Q8,Q9,Qa,Qb,Qc,Qd,Qe,Qf,Qg,Qh,Qi,Qj,Qk,reduceCtorEq,reduceIte,hi,hiI,hv,hg,g1,vx,e1,ih']
   ·rw[if_pos h0,if_neg h4]at ih'
    rw[h0]at g1;obtain⟨y1,y2,y3,y4⟩:=y;simp only at h4 ih' hE
    try rw[hE]at ih'
    have hne:¬L++ [(⟨y1,y2,y3,sha E⟩:Ent)]=[]:=by simp
    have hln:(L++ [(⟨y1,y2,y3,sha E⟩:Ent)]).length=L.length+1:=by simp
    unfold Ek Ej mD mZ at ih' ⊢
    by_cases hz:L=[]
    ·subst hz
     simp only[if_neg hne,hln,if_true,Img.sv,rt,Ent.sv,bX,cQ]at ih' hg g1 g2 g3 ⊢;simp only[aQ,aE,cQ,Ent.sv,aV,bW]at ih';rw[ai];simp only[go_sem,Q0,Q1,Q2,Q3,Q4,Q5,Q6,Q7,Q8,Q9,Qa,Qb,Qc,Qd,Qe,Qf,Qg,Qh,Qi,Qj,Qk,reduceCtorEq,reduceIte,hi,hiI,hv,hg,g1,vx,h4,g2,xiE,g3,xj,e1,ih']
    ·have hvL:=cm L
     have tf:dr L.length (bX L)=bX L:=by rw[<-hvL,bK]
     have b1:(L.length+1)*56<=140737488355328:=by omega
     simp only[if_neg hne,if_neg hz,hln,Img.sv,rt,Ent.sv]at ih' hg g1 g2 g3 ⊢;rw[ai];simp only[go_sem,Q0,Q1,Q2,Q3,Q4,Q5,Q6,Q7,Q8,Q9,Qa,Qb,Qc,Qd,Qe,Qf,Qg,Qh,Qi,Qj,Qk,reduceCtorEq,reduceIte,hi,hiI,hv,hg,g1,vx,h4,g2,xiE,g3,xj,e1,hvL,tf,b1,ih']
  ·rw[if_neg h0]at ih'
   obtain⟨y1,y2,y3,y4⟩:=y;unfold Ek Ej mD mZ at ih' ⊢
   by_cases hz:L=[]
   ·simp only[if_pos hz,Img.sv]at ih' hg g1 ⊢
    rw[ai];simp only[go_sem,Q0,Q1,Q2,Q3,Q4,Q5,Q6,Q7,Q8,Q9,Qa,Qb,Qc,Qd,Qe,Qf,Qg,Qh,Qi,Qj,Qk,reduceCtorEq,reduceIte,hi,hiI,hv,hg,g1,vx,h0,e1,ih']
   ·simp only[if_neg hz,Img.sv]at ih' hg g1 ⊢
    rw[ai];simp only[go_sem,Q0,Q1,Q2,Q3,Q4,Q5,Q6,Q7,Q8,Q9,Qa,Qb,Qc,Qd,Qe,Qf,Qg,Qh,Qi,Qj,Qk,reduceCtorEq,reduceIte,hi,hiI,hv,hg,g1,vx,h0,e1,ih']
theorem uX:∀(ch:List Img)(L:List Ent),(ch.foldl nJ L).length<=L.length+ch.length
 |[],L=>aL _
 |y::r,L=>by have h1:=uX r (nJ L y);have h2:=vw L y;rw[cH,ax];omega
def Rd(ch:List Img):List Ent:=cpt eqE (isr eX en0 ((ch.foldl nJ []).length-1) 1 (ch.foldl nJ []))
theorem f37(ch:List Img)(hb:∀y∈ch,YE y)(hcl:ch.length<=12)(v:List UInt8)(ve:Int):call T 37 [.str v,.int .i64 ve,.lst 4 (fo ch) .no] [] 0=
 some ⟨.agg [.str v,.int .i64 ve,.int .i64 0,.int .i64 0,.int .i64 1099511627776,.lst 4 (bX (Rd ch)) .no,.lst 4 [] .clip],[],[]⟩:=by
 have h:=l37 ch hb (by omega) v ve _ 0 [] rfl (bM _) (aL _);have hl:=uX ch [];rw[aC,bh]at h;have hv:=dS ch;unfold Rd;generalize ch.foldl nJ []=L at*;simp only[aV,bW]at hl;unfold Ej Ek mD mZ at h;rw[an xlh]
 by_cases hz:L=[]
 ·subst hz
  have g1:=xjU;have g2:=xjT;simp only[if_true]at h;simp only[go_sem,Q0,Q1,Q2,Q3,Q4,Q5,Q6,Q7,Q8,Q9,Qa,Qb,Qc,Qd,Qe,Qf,Qg,Qh,Qi,Qj,Qk,reduceCtorEq,reduceIte,hv,h,g1,xiD,g2,xiC];rfl
 ·have h0:0<L.length:=List.length_pos_iff.2 hz
  have g1:=f92 L h0 (by omega);have hil:=Cj eX en0 (L.length-1) 1 L;obtain⟨R,k',r1,r2,r3,g2⟩:=f93 (isr eX en0 (L.length-1) 1 L) (by omega) (by omega);rw[hil]at g2 r1 r2;have hvl:=cm L;have hvi:=cm (isr eX en0 (L.length-1) 1 L);rw[<-r3];simp only[if_neg hz,if_true]at h;have r4:k'<=R.length:=by omega
  simp only[go_sem,Q0,Q1,Q2,Q3,Q4,Q5,Q6,Q7,Q8,Q9,Qa,Qb,Qc,Qd,Qe,Qf,Qg,Qh,Qi,Qj,Qk,reduceCtorEq,reduceIte,hv,h,g1,xiD,g2,xiC,hvl,r4]
def NF(l:List Ent)(y:Img):List Ent:=if fe y=0 then mT y l else l
theorem ri:∀(ch:List Img)(A B:List Ent),A.foldl (fun a x=>oF eX x a) []=B->(ch.foldl nJ A).foldl (fun a x=>oF eX x a) []=ch.foldl NF B
 |[],_,_,h=>h
 |y::r,A,B,h=>by
  rw[cH,cH];refine ri r _ _ ?_;unfold nJ NF mT
  by_cases h0:fe y=0
  ·rw[if_pos h0,if_pos h0]
   by_cases h4:y.role=4
   ·rw[if_pos h4,if_pos h4];exact h
   ·rw[if_neg h4,if_neg h4,List.foldl_append,h,sx];rfl
  ·rw[if_neg h0,if_neg h0];exact h
theorem Rc(ch:List Img):Rd ch=ch.foldl NF []:=by unfold Rd;rw[EI ql QO,ri ch [] [] rfl]
theorem oW:∀(ch:List Img)(B:List Ent),(∀y∈ch,fe y=0)->ch.foldl NF B=mN ch B
 |[],_,_=>rfl
 |y::r,B,h=>by
  rw[cH];unfold mN;rw[cH];have:NF B y=mT y B:=by unfold NF;rw[if_pos (h y az)]
  rw[this];exact oW r _ fun z hz=>h z (ao _ hz)
end
section
open SortT
theorem EvS.bd{e:Ev}(h:EvS e):xiL e:=⟨h.d2,by have:=h.b;omega,by have:=h.d0;omega,by have:=h.d1;omega⟩
theorem f12(codes chain:List UInt8):∃m,RM m/\call T 12 [.byt codes .no,.byt chain .no] [] 0=some ⟨.agg m.sv,[],[]⟩:=by have g1:=f29 codes 60;obtain⟨ch,hc,g2⟩:=f28 chain;obtain⟨m,j',hm,g3⟩:=f41 (codes.take 60) (by rw[av];omega) 0 ch hc;refine⟨m,hm, ?_⟩;rw[show((60:Nat):Int)=60 from rfl]at g1;rw[an xlx];simp only[aM,Man.sv,aC]at g1 g3 ⊢;simp only[go_sem,Q0,Q1,Q2,Q3,Q4,Q5,Q6,Q7,Q8,Q9,Qa,Qb,Qc,Qd,Qe,Qf,Qg,Qh,Qi,Qj,Qk,reduceCtorEq,reduceIte,g1,RK,g2,Et,g3,xlI]
def imA:Img:=⟨3,[107],3,[112]⟩
theorem qa:fe imA=0:=by decide
def mnA:Man:=⟨[118],1,0,0,1099511627776,[jf imA],[]⟩
def mnB:Man:=⟨[118],1,0,0,5,[],[]⟩
theorem X1:mN [imA] []=[jf imA]:=by unfold mN;rw[cH,List.foldl_nil];unfold mT sA;rw[if_neg (by decide),if_neg (by simp)];rfl
theorem xku:Rd [imA]=[jf imA]:=by rw[Rc,oW [imA] [] (fun y hy=>by rw[aN.1 hy];exact qa),X1]
theorem yw:gJ mnA=0:=by have h:=sJ [imA] [] (fun y hy=>by rw[aN.1 hy];exact qa) (fun x hx=>by cases hx) ey.nil;rw[X1]at h;exact iQ (by decide) (by decide) (by decide) (by decide) (by decide) (by decide) (by decide) (by decide) (by decide) h.1 h.2 (fun x hx=>by cases hx)
theorem xb9:gJ mnB=0:=iQ (by decide) (by decide) (by decide) (by decide) (by decide) (by decide) (by decide) (by decide) (by decide) (fun x hx=>by cases hx) ey.nil (fun x hx=>by cases hx)
theorem pZ:hC mnA:=by refine⟨by decide,by show 1<=1000000;decide,by decide, ?_,fun x hx=>by cases hx⟩;intro x hx;have:x=jf imA:=aN.1 hx;subst this;exact⟨by decide,by show(sha _).length<=_;rw[gV];decide⟩
theorem xca:hC mnB:=⟨by decide,by decide,by decide,(fun x hx=>by cases hx),(fun x hx=>by cases hx)⟩
theorem xcG{x:Img}(h:fe x=0):fZ x≠ []:=fun e=>sI h (by rw[e];rfl)
theorem itA:wI mnA (ofI imA 2)=0:=by
 have h:itE (ofI imA 2) (jf imA)=true:=by
  have hd:(ofI imA 2).dg.getD 1 []=sha (fZ imA):=by unfold ofI sK;simp only;rw[if_neg (xcG qa)];rfl
  unfold itE;rw[hd];simp only[ofI,jf,decide_true,Bool.and_self]
 unfold wI;rw[if_pos yw,if_pos (show(ofI imA 2).kind=1 from rfl)];unfold mnA iD;rw[if_pos h];rfl
theorem sH{m:Man}(h:gJ m=0):eB m≠ []:=by
 intro e;have h1:=oP h;rw[e]at h1
 have h2:wW []=none:=by unfold wW;rw[if_neg];rintro⟨h, -⟩;exact absurd h (by decide)
 rw[h2]at h1;cases h1
theorem pD{m:Man}(h:gJ m=0):(lr m).length=32:=by unfold lr tI;rw[if_neg (sH h),gV]
theorem F5:(eB mnB).length=26:=by unfold eB hdM;rw[if_pos xb9];show(jh ([]++bu 1 21) [118]++bu 4 1++bu 4 0++bu 6 0++bu 6 5++bu 1 0++bu 1 0).length=26;unfold jh;simp only[af,cU,eL,aV,av,ax];rfl
theorem P7{m:Man}(hm:hC m):(eB m).length<=1000000000:=by have:=lS m hm;omega
theorem f10:call T 10 [] [] 0=some ⟨.bool true,[],[]⟩:=by
 have g1:=f37 [imA] (fun y hy=>by rw[aN.1 hy];exact⟨by decide,by decide⟩) (by decide) [118] 1;rw[xku]at g1;have g2:=f16 mnA pZ;have g3:=f17 (eB mnA) (P7 pZ);have hd:wW (eB mnA)=some mnA:=oP yw;unfold xc5 xc6 at g3;rw[hd]at g3;simp only at g3;have g4:=f18 mnA mnA pZ;rw[Oo rfl]at g4;have g5:=f21 mnA pZ;have l5:=pD yw;have g6:=f40 imA 2 (.inr (.inl rfl)) qa (by decide);have g7:=f31 mnA pZ (ofI imA 2) (XA 2 qa).bd;rw[itA]at g7;have g8:=f16 mnB xca;have l8:=F5;have hsA:mnA.sv=[.str [118],.int .i64 1,.int .i64 0,.int .i64 0,.int .i64 1099511627776,.lst 4 (bX [jf imA]) .no,.lst 4 [] .no]:=rfl;have hsB:mnB.sv=[.str [118],.int .i64 1,.int .i64 0,.int .i64 0,.int .i64 5,.lst 4 [] .no,.lst 4 [] .no]:=rfl;have hi:fo [imA]=[[.int .i64 3,.str [107],.int .i64 3,.byt [112] .no]]:=rfl;have hi2:imA.sv=[.int .i64 3,.str [107],.int .i64 3,.byt [112] .no]:=rfl;have hv:=cm [jf imA];have hl1:[jf imA].length=1:=rfl;rw[hl1]at hv;rw[hi]at g1;rw[hi2]at g6;rw[hsA]at g2 g3 g4 g5 g7;rw[hsB]at g8;generalize bX [jf imA]=E at*;generalize eB mnA=A at*;generalize eB mnB=B at*;generalize lr mnA=D at*;have hso:(ofI imA 2).sv=[.int .i64 8,.int .i64 1,.lst 1 (bls (sK (fZ imA) 2)) .no,.byt (uS [107] 3) .no]:=rfl;rw[hso]at g6 g7;generalize bls (sK (fZ imA) 2)=DG at*;generalize uS [107] 3=LB at*;rw[an xly];simp only[go_sem,Q0,Q1,Q2,Q3,Q4,Q5,Q6,Q7,Q8,Q9,Qa,Qb,Qc,Qd,Qe,Qf,Qg,Qh,Qi,Qj,Qk,reduceCtorEq,reduceIte,g1,xlJ,g2,NH,g3,xlM,g4,Yk,g5,Yj,g6,xiK,g7,Es,g8,hv,l5,l8,c1,c26,c32]
end
theorem Ds{t:Int}{a b:List UInt8}(h:frame t a=frame t b):a=b:=by
 have h2:=congrArg (ig 5) h;have e:∀X:List UInt8,(frame t X).drop 5=X:=fun X=>by simp[frame,w4]
 rwa[e,e]at h2
theorem f6(a b chain other:List UInt8):call T 6 [.byt a .no,.byt b .no,.byt chain .no,.byt other .no] [] 0=some ⟨.bool true,[],[]⟩:=by
 have ga:=f10;obtain⟨m,hm,gm⟩:=f12 a chain;obtain⟨n,hn,gn⟩:=f12 b other;have bm:=hm.bd;have bn:=hn.bd;have g1:=f16 m bm;have g2:=f16 n bn;have lm:=lS m bm;have ln:=lS n bn;have g3:=f19 (eB m) (eB n) (by omega);have g4:=f18 m n bm;have g5:=f21 m bm;have g6:=f21 n bn;have dm:=pD hm.ok;have dn:=pD hn.ok;have g7:=f19 (lr m) (lr n) (by omega);have g8:=f26 (eB m) (by omega);have g9:=f26 (eB n) (by omega);have fm:=mu 21 (eB m);have fn:=mu 21 (eB n);have gc:=f25 (frame 21 (eB m)) (frame 21 (eB n)) (by omega) (by omega);have sm:lr m=sha (frame 21 (eB m)):=by unfold lr tI;rw[if_neg (sH hm.ok)]
 have sn:lr n=sha (frame 21 (eB n)):=by unfold lr tI;rw[if_neg (sH hn.ok)]
 by_cases h:m=n
 ·subst h
  rw[Oo rfl]at g4;rw[decide_eq_true rfl]at g3 g7;clear hm hn bm bn gc sm sn;rw[an T_6];generalize eB m=A at*;generalize lr m=D at*;obtain⟨v,a1,a2,a3,a4,es,rs⟩:=m;simp only[Man.sv]at*;simp only[go_sem,Q0,Q1,Q2,Q3,Q4,Q5,Q6,Q7,Q8,Q9,Qa,Qb,Qc,Qd,Qe,Qf,Qg,Qh,Qi,Qj,Qk,reduceCtorEq,reduceIte,ga,xy,gm,gn,xw,g1,g2,NH,g3,vz,g4,Yk,g5,g6,Yj,g7]
 ·rw[lR h]at g4
  have he:¬eB m=eB n:=fun e=>h (QS hm.ok hn.ok e)
  have hf:¬frame 21 (eB m)=frame 21 (eB n):=fun e=>he (Ds e)
  rw[decide_eq_false he]at g3
  by_cases hd:lr m=lr n
  ·have hs:sha (frame 21 (eB m))=sha (frame 21 (eB n)):=by rw[<-sm,<-sn,hd]
   have hcv:X2 (frame 21 (eB m)) (frame 21 (eB n))=true:=by unfold X2;rw[decide_eq_false hf,decide_eq_true hs];rfl
   rw[hcv]at gc;rw[decide_eq_true hd]at g7;clear hm hn bm bn sm sn he hf hs hcv h;rw[an T_6];generalize frame 21 (eB m)=FA at*;generalize frame 21 (eB n)=FB at*;generalize eB m=A at*;generalize lr m=D at*;generalize eB n=B at*;generalize lr n=C at*;obtain⟨v,a1,a2,a3,a4,es,rs⟩:=m;obtain⟨w,b1,b2,b3,b4,fs,qs⟩:=n;simp only[Man.sv]at*;simp only[go_sem,Q0,Q1,Q2,Q3,Q4,Q5,Q6,Q7,Q8,Q9,Qa,Qb,Qc,Qd,Qe,Qf,Qg,Qh,Qi,Qj,Qk,reduceCtorEq,reduceIte,ga,xy,gm,gn,xw,g1,g2,NH,g3,vz,g4,Yk,g5,g6,Yj,g7,g8,g9,xlK,gc,xlL]
  ·rw[decide_eq_false hd]at g7
   clear hm hn bm bn sm sn he hf h gc;rw[an T_6];generalize eB m=A at*;generalize lr m=D at*;generalize eB n=B at*;generalize lr n=C at*;obtain⟨v,a1,a2,a3,a4,es,rs⟩:=m;obtain⟨w,b1,b2,b3,b4,fs,qs⟩:=n;simp only[Man.sv]at*;simp only[go_sem,Q0,Q1,Q2,Q3,Q4,Q5,Q6,Q7,Q8,Q9,Qa,Qb,Qc,Qd,Qe,Qf,Qg,Qh,Qi,Qj,Qk,reduceCtorEq,reduceIte,ga,xy,gm,gn,xw,g1,g2,NH,g3,vz,g4,Yk,g5,g6,Yj,g7]
theorem Fx(n m:Int)(h:1<=m):0<=Cg n m/\Cg n m<m:=by
 unfold Cg;rw[if_neg (by omega)];have h1:=Int.tmod_lt_of_pos n (show(0:Int)<m by omega)
 have h2: -m<n.tmod m:=by have:=Int.lt_tmod_of_pos n (show(0:Int)<m by omega);exact this
 split<;>constructor<;>omega
theorem FC(n:Int)(m:Nat)(h:0<m):∃k:Nat,Cg n m=k/\k<m:=by obtain⟨h1,h2⟩:=Fx n m (by omega);exact⟨(Cg n m).toNat,by omega,by omega⟩
theorem sC{α:Type}(p:α->Bool)(d:α):∀(l:List α)(s:Nat),iD p l s= -1\/∃i,i<l.length/\iD p l s=((s+i:Nat):Int)/\p (l.getD i d)=true
 |[],s=> .inl rfl
 |x::r,s=>by
  unfold iD
  by_cases h:p x=true
  ·rw[if_pos h]
   exact .inr ⟨0,by simp,rfl,h⟩
  ·rw[if_neg h]
   rcases sC p d r (s+1)with q|⟨i,h1,h2,h3⟩
   ·exact .inl q
   ·exact .inr ⟨i+1,by simp;omega,by rw[h2];omega,by simpa using h3⟩
theorem zF{ds:List (List UInt8)}(h:ds.length=2):(bls ds).getD 1 []=[.byt (ds.getD 1 []) .no]/\(bls ds).length=2:=by
 obtain⟨a,b,rfl⟩:∃a b,ds=[a,b]:=by
  match ds,h with
  |[a,b],_=>exact⟨a,b,rfl⟩
 exact⟨rfl,rfl⟩
theorem vu(m:Man)(hm:RM m)(e:Ev)(he:EvS e):
 call T 31 [.agg m.sv,.agg e.sv] [] 0=some ⟨.int .i64 (-1),[],[]⟩\/
 (∃(i:Nat)(x:Ent),i<m.ents.length/\m.ents.getD i en0=x/\call T 31 [.agg m.sv,.agg e.sv] [] 0=some ⟨.int .i64 (i:Int),[],[]⟩/\e.kind=1/\
  call T 33 [.int .i64 x.role] [] 0=some ⟨.int .i64 e.reg,[],[]⟩/\call T 19 [.byt x.dig .no,.byt (e.dg.getD 1 []) .no] [] 0=some ⟨.bool true,[],[]⟩/\
  ∃lab,call T 34 [.str x.name,.int .i64 x.ver] [] 0=some ⟨.byt lab .no,[],[]⟩/\call T 19 [.byt e.data .no,.byt lab .no] [] 0=some ⟨.bool true,[],[]⟩)\/
 (∃(i:Nat)(r:Rul),i<m.ruls.length/\m.ruls.getD i rl0=r/\call T 31 [.agg m.sv,.agg e.sv] [] 0=some ⟨.int .i64 ((m.ents.length+i:Nat):Int),[],[]⟩/\e.kind=3/\e.reg=9/\
  call T 35 [.agg r.sv,.byt e.data .no] [] 0=some ⟨.bool true,[],[]⟩):=by
 have g:=f31 m hm.bd e he.bd;unfold wI at g;rw[if_pos hm.ok]at g;have hb:=he.b;have hd1:=he.d1
 by_cases h1:e.kind=1
 ·rw[if_pos h1]at g
  rcases sC (itE e) en0 m.ents 0 with q|⟨i,q1,q2,q3⟩
  ·rw[q]at g;exact .inl g
  ·rw[q2,bW]at g
   right;left;have hx:=sr hm.ok _ (dv m.ents en0 i q1);refine⟨i,m.ents.getD i en0,q1,rfl,g,h1, ?_⟩;generalize m.ents.getD i en0=x at*;unfold itE at q3;rw[ay,ay,decide_eq_true_eq,decide_eq_true_eq,decide_eq_true_eq]at q3;obtain⟨a1,a2,a3⟩:=q3;obtain⟨_,_,⟨b0,b1,b2⟩,b3,_⟩:=hx;have k1:=f33 x.role;rw[<-a1]at k1;have k2:=f19 x.dig (e.dg.getD 1 []) (by omega);rw[a2,decide_eq_true rfl]at k2;have k3:=f34 x.name x.ver b2 b0 b1;have k4:=f19 e.data (uS x.name x.ver) (by omega);rw[decide_eq_true a3]at k4;rw[a2];exact⟨k1,k2,_,k3,k4⟩
 ·rw[if_neg h1]at g
  by_cases h3:e.kind=3
  ·rw[if_pos h3]at g
   by_cases h9:e.reg=9
   ·rw[if_pos h9]at g
    by_cases hc:Rm e=true
    ·rw[if_pos hc]at g
     rcases sC (alR e.data) rl0 m.ruls 0 with q|⟨i,q1,q2,q3⟩
     ·rw[q,if_neg (by decide)]at g
      exact .inl g
     ·rw[q2,bW,if_pos (by omega)]at g
      right;right;have hr:=hm.r _ (dv m.ruls rl0 i q1);refine⟨i,m.ruls.getD i rl0,q1,rfl, ?_,h3,h9, ?_⟩
      ·rw[g,Int.natCast_add]
      ·generalize m.ruls.getD i rl0=r at*
       have k:=f35 r.kind r.text r.lo r.hi e.data (by omega) (by omega);unfold alR at q3;rw[q3]at k;exact k
    ·rw[if_neg hc]at g;exact .inl g
   ·rw[if_neg h9]at g;exact .inl g
  ·rw[if_neg h3]at g;exact .inl g
theorem f8(codes chain one:List UInt8)(at':Int)(a0: -9223372036854775808<=at')(a1:at'<=9223372036854775807)(bank:Bool):
 call T 8 [.byt codes .no,.byt chain .no,.byt one .no,.int .i64 at',.bool bank] [] 0=some ⟨.bool true,[],[]⟩:=by
 have ga:=f10;obtain⟨m,hm,gm⟩:=f12 codes chain;obtain⟨ch,hc,gc⟩:=f28 chain;have gev:=f27 ch hc 2 (.inr (.inl rfl));have hS:=xfQ hc 2;obtain⟨hl8,hl⟩:=QJ hc 2;generalize evF ch 2=L at*;have gmod:=f15 at' (L.length:Int) a0 a1 (by omega);obtain⟨i,ei,hi⟩:=FC at' L.length (by omega);rw[ei]at gmod;have hLv:=lQ L;have hLg:=Dy L i hi;have hS0:=hS _ (dv L ev0 i hi);generalize L.getD i ev0=e0 at*;have g29:=f29 one 20;obtain⟨e1,j',hS1,g30⟩:=f30 (one.take 20) (by rw[av];omega) 0 2 (.inr (.inl rfl));have hen:=hm.en;have hrn:=hm.rn;have hvE:=cm m.ents;have hvR:=dR m.ruls;have wa:ac.wrap ((m.ents.length:Int)+(m.ruls.length:Int))=((m.ents.length+m.ruls.length:Nat):Int):=wZ (by omega)
 have n0:¬((m.ents.length+m.ruls.length:Nat):Int)<= -1:=by omega
 rw[show((20:Nat):Int)=20 from rfl]at g29;clear hS hl8 hc ei;cases bank with
 |false=>
  have hd:=zF hS0.d2;rcases vu m hm e0 hS0 with q|⟨k,x,q1,q2,q3,q4,q5,q6,lab,q7,q8⟩|⟨k,r,q1,q2,q3,q4,q5,q6⟩
  ·clear hm hS0 hS1
   obtain⟨v,b1,b2,b3,b4,es,rs⟩:=m;obtain⟨eg,ek,eds,eb⟩:=e0;rw[an T_8];simp only[Man.sv,Ev.sv]at*;simp only[go_sem,Q0,Q1,Q2,Q3,Q4,Q5,Q6,Q7,Q8,Q9,Qa,Qb,Qc,Qd,Qe,Qf,Qg,Qh,Qi,Qj,Qk,reduceCtorEq,reduceIte,ga,xy,gm,xw,gc,Et,gev,NG,gmod,NI,hLv,hi,hLg,q,Es,hvE,hvR,wa,n0]
  ·clear hm hS0 hS1
   have hxg:=dB m.ents k q1;rw[q2]at hxg;obtain⟨v,b1,b2,b3,b4,es,rs⟩:=m;obtain⟨eg,ek,eds,eb⟩:=e0;obtain⟨xr,xn,xv,xd⟩:=x;simp only at q4;subst q4;have m1:¬(k:Int)< -1:=by omega
   have m2:¬((es.length+rs.length:Nat):Int)<=(k:Int):=by simp only at q1;omega
   have m2':¬es.length+rs.length<=k:=by simp only at q1;omega
   have m3:¬(k:Int)<0:=by omega
   rw[an T_8];simp only[Man.sv,Ev.sv,Ent.sv]at*;simp only[go_sem,Q0,Q1,Q2,Q3,Q4,Q5,Q6,Q7,Q8,Q9,Qa,Qb,Qc,Qd,Qe,Qf,Qg,Qh,Qi,Qj,Qk,reduceCtorEq,reduceIte,ga,xy,gm,xw,gc,Et,gev,NG,gmod,NI,hLv,hi,hLg,q3,Es,hvE,hvR,wa,m1,m2,m2',m3,q1,hxg,q5,xl,hd,q6,vz,q7,xdh,q8]
  ·clear hm hS0 hS1
   have hrg:=hJ m.ruls k q1;rw[q2]at hrg;obtain⟨v,b1,b2,b3,b4,es,rs⟩:=m;obtain⟨eg,ek,eds,eb⟩:=e0;obtain⟨xr,xn,xv,xd⟩:=r;simp only at q4 q5;subst q4;subst q5;have m1:¬((es.length+k:Nat):Int)< -1:=by omega
   have m2:¬((es.length+rs.length:Nat):Int)<=((es.length+k:Nat):Int):=by simp only at q1;omega
   have m2':¬es.length+rs.length<=es.length+k:=by simp only at q1;omega
   have m3:¬((es.length+k:Nat):Int)<0:=by omega
   have m4:¬((es.length+k:Nat):Int)<(es.length:Int):=by omega
   have m4':¬es.length+k<es.length:=by omega
   have m5:ac.wrap (((es.length+k:Nat):Int)-(es.length:Int))=(k:Int):=by rw[w64 (by omega) (by simp only at q1 hrn;omega)];omega
   rw[an T_8];simp only[Man.sv,Ev.sv,Rul.sv]at*;simp only[go_sem,Q0,Q1,Q2,Q3,Q4,Q5,Q6,Q7,Q8,Q9,Qa,Qb,Qc,Qd,Qe,Qf,Qg,Qh,Qi,Qj,Qk,reduceCtorEq,reduceIte,ga,xy,gm,xw,gc,Et,gev,NG,gmod,NI,hLv,hi,hLg,q3,Es,hvE,hvR,wa,m1,m2,m2',m3,m4,m4',m5,q1,hrg,q6,xdg]
 |true=>
  have hd:=zF hS1.d2;rcases vu m hm e1 hS1 with q|⟨k,x,q1,q2,q3,q4,q5,q6,lab,q7,q8⟩|⟨k,r,q1,q2,q3,q4,q5,q6⟩
  ·clear hm hS0 hS1
   obtain⟨v,b1,b2,b3,b4,es,rs⟩:=m;obtain⟨fg,fk,fds,fb⟩:=e0;obtain⟨eg,ek,eds,eb⟩:=e1;rw[an T_8];simp only[aM,aC,Man.sv,Ev.sv]at*;simp only[go_sem,Q0,Q1,Q2,Q3,Q4,Q5,Q6,Q7,Q8,Q9,Qa,Qb,Qc,Qd,Qe,Qf,Qg,Qh,Qi,Qj,Qk,reduceCtorEq,reduceIte,ga,xy,gm,xw,gc,Et,gev,NG,gmod,NI,hLv,hi,hLg,g29,RK,g30,xdi,q,Es,hvE,hvR,wa,n0]
  ·clear hm hS0 hS1
   have hxg:=dB m.ents k q1;rw[q2]at hxg;obtain⟨v,b1,b2,b3,b4,es,rs⟩:=m;obtain⟨fg,fk,fds,fb⟩:=e0;obtain⟨eg,ek,eds,eb⟩:=e1;obtain⟨xr,xn,xv,xd⟩:=x;simp only at q4;subst q4;have m1:¬(k:Int)< -1:=by omega
   have m2:¬((es.length+rs.length:Nat):Int)<=(k:Int):=by simp only at q1;omega
   have m2':¬es.length+rs.length<=k:=by simp only at q1;omega
   have m3:¬(k:Int)<0:=by omega
   rw[an T_8];simp only[aM,aC,Man.sv,Ev.sv,Ent.sv]at*;simp only[go_sem,Q0,Q1,Q2,Q3,Q4,Q5,Q6,Q7,Q8,Q9,Qa,Qb,Qc,Qd,Qe,Qf,Qg,Qh,Qi,Qj,Qk,reduceCtorEq,reduceIte,ga,xy,gm,xw,gc,Et,gev,NG,gmod,NI,hLv,hi,hLg,g29,RK,g30,xdi,q3,Es,hvE,hvR,wa,m1,m2,m2',m3,q1,hxg,q5,xl,hd,q6,vz,q7,xdh,q8]
  ·clear hm hS0 hS1
   have hrg:=hJ m.ruls k q1;rw[q2]at hrg;obtain⟨v,b1,b2,b3,b4,es,rs⟩:=m;obtain⟨fg,fk,fds,fb⟩:=e0;obtain⟨eg,ek,eds,eb⟩:=e1;obtain⟨xr,xn,xv,xd⟩:=r;simp only at q4 q5;subst q4;subst q5;have m1:¬((es.length+k:Nat):Int)< -1:=by omega
   have m2:¬((es.length+rs.length:Nat):Int)<=((es.length+k:Nat):Int):=by simp only at q1;omega
   have m2':¬es.length+rs.length<=es.length+k:=by simp only at q1;omega
   have m3:¬((es.length+k:Nat):Int)<0:=by omega
   have m4:¬((es.length+k:Nat):Int)<(es.length:Int):=by omega
   have m4':¬es.length+k<es.length:=by omega
   have m5:ac.wrap (((es.length+k:Nat):Int)-(es.length:Int))=(k:Int):=by rw[w64 (by omega) (by simp only at q1 hrn;omega)];omega
   rw[an T_8];simp only[aM,aC,Man.sv,Ev.sv,Rul.sv]at*;simp only[go_sem,Q0,Q1,Q2,Q3,Q4,Q5,Q6,Q7,Q8,Q9,Qa,Qb,Qc,Qd,Qe,Qf,Qg,Qh,Qi,Qj,Qk,reduceCtorEq,reduceIte,ga,xy,gm,xw,gc,Et,gev,NG,gmod,NI,hLv,hi,hLg,g29,RK,g30,xdi,q3,Es,hvE,hvR,wa,m1,m2,m2',m3,m4,m4',m5,q1,hrg,q6,xdg]
end Go.Proofs.YtkcjdeofknkndaaGreatDoor
