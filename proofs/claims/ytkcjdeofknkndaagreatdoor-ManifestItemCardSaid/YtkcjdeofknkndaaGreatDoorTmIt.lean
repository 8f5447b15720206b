/- What the functions come to. No condition. -/
import Derived.Test.YtkcjdeofknkndaaGreatDoorTjIt
import Derived.Test.YtkcjdeofknkndaaGreatDoorTlIt
open Int renaming natCast_zero -> av
open List renaming Pairwise -> eD, drop_eq_getElem_cons -> aS, drop_length -> aX, drop_zero -> bh, foldl_cons -> cT, getD_eq_getElem?_getD -> aa, getElem?_eq_getElem -> ab, getElem_mem -> bp, length_append -> af, length_cons -> aC, length_map -> au, length_nil -> aB, length_take -> aj, map_append -> cn, map_cons -> aI, map_nil -> bn, mem_cons -> an, mem_cons_of_mem -> aq, mem_cons_self -> aD, mem_map -> aV, mem_range -> gX, mem_singleton -> ba, nil_append -> aF, not_mem_nil -> cz, range -> cj, take -> du, take_length -> bv
open Nat renaming add_assoc -> eL, add_zero -> eK, le_refl -> aQ, zero_add -> cK, zero_le -> bU, zero_mul -> ly
open UInt8 renaming ofNat -> iK
set_option maxRecDepth 100000
set_option maxHeartbeats 16000000
set_option linter.unusedSimpArgs false
set_option linter.unusedVariables false
namespace Go.Proofs.YtkcjdeofknkndaaGreatDoor
open Go.Sy
open UInt8 renaming reduceLT -> Q0, reduceLE -> Q1
open Int renaming reduceToNat -> Q2, reduceLE -> Q3, reduceLT -> Q4, reduceEq -> Q5, reduceNe -> Q6, reduceNeg -> Q7, reduceAdd -> Q8, reduceSub -> Q9, reduceMul -> Qa
open Nat renaming reducePow -> Qb, reduceDiv -> Qc, reduceMod -> Qd, reduceAdd -> Qe, reduceSub -> Qf, reduceMul -> Qg, reduceLT -> Qh, reduceLeDiff -> Qi, reduceEqDiff -> Qj, reduceBEq -> Qk
section
open SortT
structure xaS(y:Img):Prop where
 n:y.name.length<=1000000
 p:y.pay.length<=1000000
def mD(v:List UInt8)(ve:Int)(e:SV):aG:= .rc [.str v,.int .i64 ve,.int .i64 0,.int .i64 0,.int .i64 1099511627776,e,.lst 4 [] .clip]
def Ff(l:List Ent):SV:=if l=[]then .lst 4 [] .clip else .psl 140 4 0 l.length none
def Fg(l:List Ent):List (Nat×aG):=if l=[]then []else [(140,.arr 4 (bD l))]
def ot(l:List Ent)(y:Img):List Ent:=if fv y=0 then(if y.role=4 then l else l++ [js y])else l
theorem wt(l:List Ent)(y:Img):(ot l y).length<=l.length+1:=by
 unfold ot;split
 ·split
  ·omega
  ·simp
 ·omega
theorem se(l:List Ent)(x:Ent):bD (l++ [x])=bD l++ [x.sv]:=by rw[bD,bD,cn];rfl
theorem l37(ch:List Img)(hb:∀y∈ch,xaS y)(hcl:ch.length<=1000)(v:List UInt8)(ve:Int):∀(n i:Nat)(L:List Ent),ch.length-i=n->i<=ch.length->L.length<=i->
 run T (.loop P5) ⟨[(6,.ptr 106 0),(7,.ptr 107 0),(13,.lst 4 (fy ch) .no),(14,.int .i64 ch.length),(15,.int .i64 i)],(106,mZ)::(107,mD v ve (Ff L))::Fg L,[]⟩=
  some (.x 0,⟨[(6,.ptr 106 0),(7,.ptr 107 0)],(106,mZ)::(107,mD v ve (Ff ((ch.drop i).foldl ot L)))::Fg ((ch.drop i).foldl ot L),[]⟩):=by
 intro n;induction n with
 |zero=>
  intro i L h0 h1 hL;have hi:i=ch.length:=by omega
  subst hi;rw[aX,List.foldl_nil,ai];unfold Fg Ff mD mZ
  by_cases hz:L=[]
  ·simp only[if_pos hz,go_sem,Q0,Q1,Q2,Q3,Q4,Q5,Q6,Q7,Q8,Q9,Qa,Qb,Qc,Qd,Qe,Qf,Qg,Qh,Qi,Qj,Qk,reduceCtorEq,reduceIte]
  ·simp only[if_neg hz,go_sem,Q0,Q1,Q2,Q3,Q4,Q5,Q6,Q7,Q8,Q9,Qa,Qb,Qc,Qd,Qe,Qf,Qg,Qh,Qi,Qj,Qk,reduceCtorEq,reduceIte]
 |succ n ih=>
  intro i L h0 h1 hL;have hi:i<ch.length:=by omega
  have hiI:(i:Int)<(ch.length:Int):=by omega
  have e1:=cg i (by omega);have hv:=dU ch;have hg:=fQ ch i hi;have hd:ch.drop i=ch.getD i im0::ch.drop (i+1):=by rw[aS hi,aa,ab hi];rfl
  rw[hd,cT];have hbd:=hb (ch.getD i im0) (cY ch im0 i hi);have ih':=ih (i+1) (ot L (ch.getD i im0)) (by omega) (by omega) (by have:=wt L (ch.getD i im0);omega);generalize List.foldl ot (ot L (ch.getD i im0)) (ch.drop (i+1))=Z at*;generalize ch.getD i im0=y at*;have g1:=f89 y (by have:=hbd.p;omega);have g2:=f91 y hbd.n hbd.p;have hel:=mu y hbd.n hbd.p;have g3:=f90 (gk y) (by omega);unfold ot js at ih';generalize hE:gk y=E at*
  by_cases h0:fv y=0
  ·by_cases h4:y.role=4
   ·rw[if_pos h0,if_pos h4]at ih'
    rw[h0]at g1;obtain⟨y1,y2,y3,y4⟩:=y;simp only at h4;subst h4;unfold Fg Ff mD mZ at ih' ⊢
    by_cases hz:L=[]
    ·simp only[if_pos hz,Img.sv]at ih' hg g1 ⊢
     rw[ai];simp only[go_sem,Q0,Q1,Q2,Q3,Q4,Q5,Q6,Q7,Q8,Q9,Qa,Qb,Qc,Qd,Qe,Qf,Qg,Qh,Qi,Qj,Qk,reduceCtorEq,reduceIte,hi,hiI,hv,hg,g1,wu,e1,ih']
    ·simp only[if_neg hz,Img.sv]at ih' hg g1 ⊢
     rw[ai];simp only[go_sem,Q0,Q1,Q2,Q3,Q4,Q5,Q6,Q7,Q8,Q9,Qa,Qb,Qc,Qd,Qe,Qf,Qg,Qh,Qi,Qj,Qk,reduceCtorEq,reduceIte,hi,hiI,hv,hg,g1,wu,e1,ih']
   ·rw[if_pos h0,if_neg h4]at ih'
    rw[h0]at g1;obtain⟨y1,y2,y3,y4⟩:=y;simp only at h4 ih' hE
    try rw[hE]at ih'
    have hne:¬L++ [(⟨y1,y2,y3,sha E⟩:Ent)]=[]:=by simp
    have hln:(L++ [(⟨y1,y2,y3,sha E⟩:Ent)]).length=L.length+1:=by simp
    unfold Fg Ff mD mZ at ih' ⊢
    by_cases hz:L=[]
    ·subst hz
     simp only[if_neg hne,hln,if_true,Img.sv,se,Ent.sv,bD,bn]at ih' hg g1 g2 g3 ⊢;simp only[aF,aI,bn,Ent.sv,aB,cK]at ih';rw[ai];simp only[go_sem,Q0,Q1,Q2,Q3,Q4,Q5,Q6,Q7,Q8,Q9,Qa,Qb,Qc,Qd,Qe,Qf,Qg,Qh,Qi,Qj,Qk,reduceCtorEq,reduceIte,hi,hiI,hv,hg,g1,wu,h4,g2,xlc,g3,xW,e1,ih']
    ·have hvL:=bf L
     have tf:du L.length (bD L)=bD L:=by rw[<-hvL,bv]
     have b1:(L.length+1)*56<=140737488355328:=by omega
     simp only[if_neg hne,if_neg hz,hln,Img.sv,se,Ent.sv]at ih' hg g1 g2 g3 ⊢;rw[ai];simp only[go_sem,Q0,Q1,Q2,Q3,Q4,Q5,Q6,Q7,Q8,Q9,Qa,Qb,Qc,Qd,Qe,Qf,Qg,Qh,Qi,Qj,Qk,reduceCtorEq,reduceIte,hi,hiI,hv,hg,g1,wu,h4,g2,xlc,g3,xW,e1,hvL,tf,b1,ih']
  ·rw[if_neg h0]at ih'
   obtain⟨y1,y2,y3,y4⟩:=y;unfold Fg Ff mD mZ at ih' ⊢
   by_cases hz:L=[]
   ·simp only[if_pos hz,Img.sv]at ih' hg g1 ⊢
    rw[ai];simp only[go_sem,Q0,Q1,Q2,Q3,Q4,Q5,Q6,Q7,Q8,Q9,Qa,Qb,Qc,Qd,Qe,Qf,Qg,Qh,Qi,Qj,Qk,reduceCtorEq,reduceIte,hi,hiI,hv,hg,g1,wu,h0,e1,ih']
   ·simp only[if_neg hz,Img.sv]at ih' hg g1 ⊢
    rw[ai];simp only[go_sem,Q0,Q1,Q2,Q3,Q4,Q5,Q6,Q7,Q8,Q9,Qa,Qb,Qc,Qd,Qe,Qf,Qg,Qh,Qi,Qj,Qk,reduceCtorEq,reduceIte,hi,hiI,hv,hg,g1,wu,h0,e1,ih']
theorem vQ:∀(ch:List Img)(L:List Ent),(ch.foldl ot L).length<=L.length+ch.length
 |[],L=>aQ _
 |y::r,L=>by have h1:=vQ r (ot L y);have h2:=wt L y;rw[cT,aC];omega
def Tw(ch:List Img):List Ent:=cpt eqE (isr eV en0 ((ch.foldl ot []).length-1) 1 (ch.foldl ot []))
theorem f37(ch:List Img)(hb:∀y∈ch,xaS y)(hcl:ch.length<=12)(v:List UInt8)(ve:Int):call T 37 [.str v,.int .i64 ve,.lst 4 (fy ch) .no] [] 0=
 some ⟨.agg [.str v,.int .i64 ve,.int .i64 0,.int .i64 0,.int .i64 1099511627776,.lst 4 (bD (Tw ch)) .no,.lst 4 [] .clip],[],[]⟩:=by
 have h:=l37 ch hb (by omega) v ve _ 0 [] rfl (bU _) (aQ _);have hl:=vQ ch [];rw[av,bh]at h;have hv:=dU ch;unfold Tw;generalize ch.foldl ot []=L at*;simp only[aB,cK]at hl;unfold Ff Fg mD mZ at h;rw[ao xnW]
 by_cases hz:L=[]
 ·subst hz
  have g1:=xmx;have g2:=xmw;simp only[if_true]at h;simp only[go_sem,Q0,Q1,Q2,Q3,Q4,Q5,Q6,Q7,Q8,Q9,Qa,Qb,Qc,Qd,Qe,Qf,Qg,Qh,Qi,Qj,Qk,reduceCtorEq,reduceIte,hv,h,g1,xlb,g2,xla];rfl
 ·have h0:0<L.length:=List.length_pos_iff.2 hz
  have g1:=f92 L h0 (by omega);have hil:=C3 eV en0 (L.length-1) 1 L;obtain⟨R,k',r1,r2,r3,g2⟩:=f93 (isr eV en0 (L.length-1) 1 L) (by omega) (by omega);rw[hil]at g2 r1 r2;have hvl:=bf L;have hvi:=bf (isr eV en0 (L.length-1) 1 L);rw[<-r3];simp only[if_neg hz,if_true]at h;have r4:k'<=R.length:=by omega
  simp only[go_sem,Q0,Q1,Q2,Q3,Q4,Q5,Q6,Q7,Q8,Q9,Qa,Qb,Qc,Qd,Qe,Qf,Qg,Qh,Qi,Qj,Qk,reduceCtorEq,reduceIte,hv,h,g1,xlb,g2,xla,hvl,r4]
def Pv(l:List Ent)(y:Img):List Ent:=if fv y=0 then nE y l else l
theorem rZ:∀(ch:List Img)(A B:List Ent),A.foldl (fun a x=>pf eV x a) []=B->(ch.foldl ot A).foldl (fun a x=>pf eV x a) []=ch.foldl Pv B
 |[],_,_,h=>h
 |y::r,A,B,h=>by
  rw[cT,cT];refine rZ r _ _ ?_;unfold ot Pv nE
  by_cases h0:fv y=0
  ·rw[if_pos h0,if_pos h0]
   by_cases h4:y.role=4
   ·rw[if_pos h4,if_pos h4];exact h
   ·rw[if_neg h4,if_neg h4,List.foldl_append,h,tj];rfl
  ·rw[if_neg h0,if_neg h0];exact h
theorem Tv(ch:List Img):Tw ch=ch.foldl Pv []:=by unfold Tw;rw[FJ qS Tg,rZ ch [] [] rfl]
theorem pB:∀(ch:List Img)(B:List Ent),(∀y∈ch,fv y=0)->ch.foldl Pv B=nA ch B
 |[],_,_=>rfl
 |y::r,B,h=>by
  rw[cT];unfold nA;rw[cT];have:Pv B y=nE y B:=by unfold Pv;rw[if_pos (h y aD)]
  rw[this];exact pB r _ fun z hz=>h z (aq _ hz)
end
section
open SortT
theorem EvS.bd{e:Ev}(h:EvS e):Pz e:=⟨h.d2,by have:=h.b;omega,by have:=h.d0;omega,by have:=h.d1;omega⟩
theorem f12(codes chain:List UInt8):∃m,xaR m/\call T 12 [.byt codes .no,.byt chain .no] [] 0=some ⟨.agg m.sv,[],[]⟩:=by have g1:=f29 codes 60;obtain⟨ch,hc,g2⟩:=f28 chain;obtain⟨m,j',hm,g3⟩:=f41 (codes.take 60) (by rw[aj];omega) 0 ch hc;refine⟨m,hm, ?_⟩;rw[show((60:Nat):Int)=60 from rfl]at g1;rw[ao xod];simp only[aR,Man.sv,av]at g1 g3 ⊢;simp only[go_sem,Q0,Q1,Q2,Q3,Q4,Q5,Q6,Q7,Q8,Q9,Qa,Qb,Qc,Qd,Qe,Qf,Qg,Qh,Qi,Qj,Qk,reduceCtorEq,reduceIte,g1,xfK,g2,xlj,g3,xon]
def imA:Img:=⟨3,[107],3,[112]⟩
theorem qJ:fv imA=0:=by decide
def mnA:Man:=⟨[118],1,0,0,1099511627776,[js imA],[]⟩
def mnB:Man:=⟨[118],1,0,0,5,[],[]⟩
theorem xai:nA [imA] []=[js imA]:=by unfold nA;rw[cT,List.foldl_nil];unfold nE tn;rw[if_neg (by decide),if_neg (by simp)];rfl
theorem xm9:Tw [imA]=[js imA]:=by rw[Tv,pB [imA] [] (fun y hy=>by rw[ba.1 hy];exact qJ),xai]
theorem yZ:gA mnA=0:=by have h:=tv [imA] [] (fun y hy=>by rw[ba.1 hy];exact qJ) (fun x hx=>by cases hx) eD.nil;rw[xai]at h;exact i6 (by decide) (by decide) (by decide) (by decide) (by decide) (by decide) (by decide) (by decide) (by decide) h.1 h.2 (fun x hx=>by cases hx)
theorem xeA:gA mnB=0:=i6 (by decide) (by decide) (by decide) (by decide) (by decide) (by decide) (by decide) (by decide) (by decide) (fun x hx=>by cases hx) eD.nil (fun x hx=>by cases hx)
theorem qG:eI mnA:=by refine⟨by decide,by show 1<=1000000;decide,by decide, ?_,fun x hx=>by cases hx⟩;intro x hx;have:x=js imA:=ba.1 hx;subst this;exact⟨by decide,by show(sha _).length<=_;rw[jw];decide⟩
theorem xeB:eI mnB:=⟨by decide,by decide,by decide,(fun x hx=>by cases hx),(fun x hx=>by cases hx)⟩
theorem xe9{x:Img}(h:fv x=0):gk x≠ []:=fun e=>tu h (by rw[e];rfl)
theorem itA:pd mnA (ofI imA 2)=0:=by
 have h:itE (ofI imA 2) (js imA)=true:=by
  have hd:(ofI imA 2).dg.getD 1 []=sha (gk imA):=by unfold ofI tx;simp only;rw[if_neg (xe9 qJ)];rfl
  unfold itE;rw[hd];simp only[ofI,js,decide_true,Bool.and_self]
 unfold pd;rw[if_pos yZ,if_pos (show(ofI imA 2).kind=1 from rfl)];unfold mnA gi;rw[if_pos h];rfl
theorem Tl{m:Man}(h:gA m=0):lu m≠ []:=by
 intro e;have h1:=Da h;rw[e]at h1
 have h2:xL []=none:=by unfold xL;rw[if_neg];rintro⟨h, -⟩;exact absurd h (by decide)
 rw[h2]at h1;cases h1
theorem G8{m:Man}(h:gA m=0):(Ty m).length=32:=by unfold Ty E3;rw[if_neg (Tl h),jw]
theorem GZ:(lu mnB).length=26:=by unfold lu hdM;rw[if_pos xeA];show(ju ([]++bu 1 21) [118]++bu 4 1++bu 4 0++bu 6 0++bu 6 5++bu 1 0++bu 1 0).length=26;unfold ju;simp only[af,dd,eS,aB,aj,aC];rfl
theorem SF{m:Man}(hm:eI m):(lu m).length<=1000000000:=by have:=we m hm;omega
theorem f10:call T 10 [] [] 0=some ⟨.bool true,[],[]⟩:=by
 have g1:=f37 [imA] (fun y hy=>by rw[ba.1 hy];exact⟨by decide,by decide⟩) (by decide) [118] 1;rw[xm9]at g1;have g2:=f16 mnA qG;have g3:=f17 (lu mnA) (SF qG);have hd:xL (lu mnA)=some mnA:=Da yZ;unfold xfx xfy at g3;rw[hd]at g3;simp only at g3;have g4:=f18 mnA mnA qG;rw[xah rfl]at g4;have g5:=f21 mnA qG;have l5:=G8 yZ;have g6:=f40 imA 2 (.inr (.inl rfl)) qJ (by decide);have g7:=f31 mnA qG (ofI imA 2) (ZS 2 qJ).bd;rw[itA]at g7;have g8:=f16 mnB xeB;have l8:=GZ;have hsA:mnA.sv=[.str [118],.int .i64 1,.int .i64 0,.int .i64 0,.int .i64 1099511627776,.lst 4 (bD [js imA]) .no,.lst 4 [] .no]:=rfl;have hsB:mnB.sv=[.str [118],.int .i64 1,.int .i64 0,.int .i64 0,.int .i64 5,.lst 4 [] .no,.lst 4 [] .no]:=rfl;have hi:fy [imA]=[[.int .i64 3,.str [107],.int .i64 3,.byt [112] .no]]:=rfl;have hi2:imA.sv=[.int .i64 3,.str [107],.int .i64 3,.byt [112] .no]:=rfl;have hv:=bf [js imA];have hl1:[js imA].length=1:=rfl;rw[hl1]at hv;rw[hi]at g1;rw[hi2]at g6;rw[hsA]at g2 g3 g4 g5 g7;rw[hsB]at g8;generalize bD [js imA]=E at*;generalize lu mnA=A at*;generalize lu mnB=B at*;generalize Ty mnA=D at*;have hso:(ofI imA 2).sv=[.int .i64 8,.int .i64 1,.lst 1 (bls (tx (gk imA) 2)) .no,.byt (rQ [107] 3) .no]:=rfl;rw[hso]at g6 g7;generalize bls (tx (gk imA) 2)=DG at*;generalize rQ [107] 3=LB at*;rw[ao xof];simp only[go_sem,Q0,Q1,Q2,Q3,Q4,Q5,Q6,Q7,Q8,Q9,Qa,Qb,Qc,Qd,Qe,Qf,Qg,Qh,Qi,Qj,Qk,reduceCtorEq,reduceIte,g1,xoo,g2,xfL,g3,xow,g4,xov,g5,xou,g6,xlh,g7,xli,g8,hv,l5,l8,c1,c26,c32]
end
theorem Gv(n m:Int)(h:1<=m):0<=C0 n m/\C0 n m<m:=by
 unfold C0;rw[if_neg (by omega)];have h1:=Int.tmod_lt_of_pos n (show(0:Int)<m by omega)
 have h2: -m<n.tmod m:=by have:=Int.lt_tmod_of_pos n (show(0:Int)<m by omega);exact this
 split<;>constructor<;>omega
theorem Gw(n:Int)(m:Nat)(h:0<m):∃k:Nat,C0 n m=k/\k<m:=by obtain⟨h1,h2⟩:=Gv n m (by omega);exact⟨(C0 n m).toNat,by omega,by omega⟩
theorem xeZ(m:Man):eI (xaa m):=by
 refine⟨?_, ?_, ?_, ?_, ?_⟩
 ·show(m.vendor.take 30).length<=_
  rw[aj];omega
 ·show((m.ents.take 20).map fp).length<=_
  rw[au,aj];omega
 ·show((m.ruls.take 12).map ij).length<=_
  rw[au,aj];omega
 ·intro x hx
  obtain⟨y,_,rfl⟩:=aV.1 hx;show(y.name.take 30).length<=_/\(y.dig.take 40).length<=_;rw[aj,aj];omega
 ·intro x hx
  obtain⟨y,_,rfl⟩:=aV.1 hx;show(y.text.take 60).length<=_;rw[aj];omega
theorem l7(X:List UInt8)(j1 j2:Nat)(m w:Man)(bm:eI m)(bw:eI w)(L:List Ev)(hL:∀e∈L,Pz e)(hn:L.length<=100):∀(n i:Nat),L.length-i=n->i<=L.length->
 run T (.loop PM) ⟨[(5,.ptr 105 0),(11,.ptr 111 0),(38,.lst 4 (mJ L) .clip),(39,.int .i64 (L.length:Int)),(40,.int .i64 (i:Int))],[(105,.rc w.sv),(111,.rc m.sv),(27100,.rc [.byt X .no,.int .i64 (j1:Int)]),(30100,.rc [.byt X .no,.int .i64 (j2:Int)])],[]⟩=
  some (.x 0,⟨[],[(105,.rc w.sv),(111,.rc m.sv),(27100,.rc [.byt X .no,.int .i64 (j1:Int)]),(30100,.rc [.byt X .no,.int .i64 (j2:Int)])],[]⟩):=by
 intro n;induction n with
 |zero=>
  intro i h0 h1;have h3:¬i<L.length:=by omega
  have h3i:¬(i:Int)<(L.length:Int):=by omega
  rw[ai];simp only[go_sem,Q0,Q1,Q2,Q3,Q4,Q5,Q6,Q7,Q8,Q9,Qa,Qb,Qc,Qd,Qe,Qf,Qg,Qh,Qi,Qj,Qk,reduceCtorEq,reduceIte,h3,h3i]
 |succ n ih=>
  intro i h0 h1;have hi:i<L.length:=by omega
  have hiI:(i:Int)<(L.length:Int):=by omega
  have e1:=cg i (by omega);have k:=ih (i+1) (by omega) (by omega);have hv:=kA L;have hg:=r9 L i hi;have he:=hL _ (cY L ev0 i hi);generalize L.getD i ev0=e at*;have g1:=f31 m bm e he;have g2:=f32 m bm e he;have g3:=f31 w bw e he;have g4:=f32 w bw e he;generalize pd m e=p at*;generalize pd w e=q at*;clear bm bw he hL ih;obtain⟨v,a1,a2,a3,a4,es,rs⟩:=m;obtain⟨v',b1,b2,b3,b4,es',rs'⟩:=w;obtain⟨eg,ek,eds,eb⟩:=e;rw[ai];simp only[Man.sv,Ev.sv]at*;simp only[go_sem,Q0,Q1,Q2,Q3,Q4,Q5,Q6,Q7,Q8,Q9,Qa,Qb,Qc,Qd,Qe,Qf,Qg,Qh,Qi,Qj,Qk,reduceCtorEq,reduceIte,hi,hiI,e1,hv,hg,g1,xli,g2,xoq,g3,g4,k]
theorem f7(raw:Man)(codes chain one:List UInt8)(at':Int)(a0: -9223372036854775808<=at')(a1:at'<=9223372036854775807):
 call T 7 [.agg raw.sv,.byt codes .no,.byt chain .no,.byt one .no,.int .i64 at'] [] 0=some ⟨.bool true,[],[]⟩:=by
 have ga:=f10;have gf:=f11 raw;obtain⟨m,hm,gm⟩:=f12 codes chain;have bm:=hm.bd;have br:=xeZ raw;generalize xaa raw=w at*;obtain⟨ch,hc,gc⟩:=f28 chain;have gev:=f27 ch hc 3 (.inr (.inr rfl));have hS:=xis hc 3;obtain⟨hl8,hl⟩:=Tb hc 3;generalize evF ch 3=L at*;have gmod:=f15 at' (L.length:Int) a0 a1 (by omega);obtain⟨i,ei,hi⟩:=Gw at' L.length (by omega);rw[ei]at gmod;have hLv:=kA L;have hLg:=r9 L i hi;have hS0:=hS _ (cY L ev0 i hi);generalize L.getD i ev0=e0 at*;have g29:=f29 one 20;obtain⟨e1,j1,hS1,g30⟩:=f30 (one.take 20) (by rw[aj];omega) 0 3 (.inr (.inr rfl));obtain⟨e2,j2,hS2,g31⟩:=f30 (one.take 20) (by rw[aj];omega) 0 1 (.inl rfl)
 have k:=l7 (one.take 20) j1 j2 m w bm br [e1,e2,e0] (by
  intro e he;simp only[an,cz,or_false]at he;rcases he with rfl|rfl|rfl
  ·exact hS1.bd
  ·exact hS2.bd
  ·exact hS0.bd) (by show 3<=100;decide) _ 0 rfl (bU _)
 rw[show((20:Nat):Int)=20 from rfl]at g29;have q1:mJ [e1,e2,e0]=[e1.sv,e2.sv,e0.sv]:=rfl;have q2:(([e1,e2,e0]:List Ev).length:Int)=3:=rfl;simp only[q1,q2,av]at k;clear hS hl8 hc ei bm br hm hS0 hS1 hS2 q1 q2;obtain⟨v,b1,b2,b3,b4,es,rs⟩:=m;obtain⟨v',c1,c2,c3,c4,es',rs'⟩:=w;obtain⟨v'',d1,d2,d3,d4,es'',rs''⟩:=raw;obtain⟨g0',k0,ds0,b0⟩:=e0;obtain⟨g1',k1,ds1,b1'⟩:=e1;obtain⟨g2',k2,ds2,b2'⟩:=e2;rw[ao T_7];simp only[aR,av,Man.sv,Ev.sv]at*;simp only[go_sem,Q0,Q1,Q2,Q3,Q4,Q5,Q6,Q7,Q8,Q9,Qa,Qb,Qc,Qd,Qe,Qf,Qg,Qh,Qi,Qj,Qk,reduceCtorEq,reduceIte,ga,xoA,gf,xoz,gm,xoy,gc,xlj,gev,xot,gmod,xox,hLv,hi,hLg,g29,xfK,g30,g31,xos,k]
end Go.Proofs.YtkcjdeofknkndaaGreatDoor
namespace Go.Sy
open Go.ChangeShapes Go.WideShapes
section
variable {H : Type} {enc : TypeId × Value -> H} {P : Program} {w : World} {base : Nat} {hd : Bool} {r : Reach} {b0 : Nat} {t e : TypeId} {v : Value} {d : DataW H} {ps : List MemPlace}
theorem lJ{a:Addr}{v:Value}(h:w.cell? a=some v):a.spot=none:=by
 unfold World.cell? at h;split at h
 ·by_cases hs:a.spot.isSome=true
  ·rw[if_pos hs]at h;cases h
  ·simpa using hs
 ·cases h
theorem sw(a:Addr):a.add 0=a:=by unfold Addr.add;rw[if_pos rfl]
variable [bg]
theorem xq{fuel:Nat}{v:Value}{x:DataW H×List MemPlace}(ht:P.underlying t=some (.slice e))(he:P.underlying e=some (.int .u8))(hc:P.cellsOf e=1)(h:DataW.trod enc P w base (fun _=>true) hd fuel t [v]=some x):
 ∃l:List UInt8,cS (rA w).G (.byt l .no) v:=by
 rcases open_ints ht he hc h with⟨hcs,_⟩|⟨a,len,cap,zs,hcs,_,hl,hm,hz,_,hcell,hwf⟩
 ·obtain rfl:v= .slice none 0 0:=by simpa using hcs
  exact⟨[],.bytN .no⟩
 ·obtain rfl:v= .slice (some a) len cap:=by simpa using hcs
  simp only[if_true]at hz
  by_cases h0:cap=0
  ·obtain rfl:len=0:=by omega
   subst h0;exact⟨[],.bytE .no a⟩
  ·have hs:a.spot=none:=by
    have:=lJ (hcell 0 (by omega));rwa[sw]at this
   obtain⟨b,off,spot⟩:=a;simp only at hs;subst hs;refine⟨(zs.take len).map fun n=>iK n.toNat,.byt _ .no b off cap len (by simp;omega) hl (fun i hi=> ?_)⟩;have h1:=hcell i (by omega);have hi':i<zs.length:=by omega
   rw[add_plain]at h1
   have e1:((zs.take len).map fun n=>iK n.toNat).getD i 0=iK (zs.getD i 0).toNat:=by simp[aa,hi',hi]
   show w.cell? _=_;rw[h1,e1]
   congr 2
   refine(Hs (hwf _ ?_)).symm;rw[aa,ab hi'];exact bp hi'
omit [bg] in
theorem rK{K:List SV->Prop}{fuel:Nat}{v:Value}{x:DataW H×List MemPlace}(ht:P.underlying t=some (.slice e))(ce:P.cellsOf e=4)
 (row:∀(n:Nat)(cs:List Value)(y:DataW H×List MemPlace),cs.length=4->DataW.trod enc P w base (fun _=>true) hd n e cs=some y->∃q:List SV,K q/\q.length=4/\∀j,j<4->cS (rA w).G (q.getD j .undef) (cs.getD j Go.undef))
 (h:DataW.trod enc P w base (fun _=>true) hd fuel t [v]=some x):
 ∃l:List (List SV),(∀q∈l,K q)/\cS (rA w).G (.lst 4 l .no) v:=by
 rcases Go.Deep.open_slice ht h with⟨hcs,_⟩|⟨a,len,cap,m,n,D,Pl,hcs,_,hl,hm,hmm,_,hx⟩
 ·obtain rfl:v= .slice none 0 0:=by simpa using hcs
  exact⟨[],fun q hq=>(by cases hq),.lstN 4 .no⟩
 ·obtain rfl:v= .slice (some a) len cap:=by simpa using hcs
  simp only[if_true]at hmm;subst hmm
  by_cases h0:m=0
  ·obtain rfl:len=0:=by omega
   subst h0;exact⟨[],fun q hq=>(by cases hq),.lstE 4 .no a⟩
  ·have each:∀i,i<m->∃p:List SV×List Value,K p.1/\p.1.length=4/\(∀j,j<4->cS (rA w).G (p.1.getD j .undef) (p.2.getD j Go.undef))/\∀j,j<4->w.cell? (a.add (i*4+j))=some (p.2.getD j Go.undef):=by
    intro i hi;obtain⟨cs',h1,h2⟩:=hx i hi;rw[ce]at h1;obtain⟨_,hlen,hcell⟩:=World.cells?_some h1;obtain⟨q,k1,k2,k3⟩:=row n cs' _ hlen h2;refine⟨(q,cs'),k1,k2,k3,fun j hj=> ?_⟩;have:=hcell j (by omega);rw[Go.Deep.add_add]at this;rw[this,aa,ab (by omega)];rfl
   obtain⟨p,hp⟩:=Go.Deep.choose_lt each
   have hs:a.spot=none:=by have:=lJ ((hp 0 (by omega)).2.2.2 0 (by decide));rwa[ly,eK,sw]at this
   obtain⟨b,off,spot⟩:=a;simp only at hs;subst hs
   have hrow:∀i,i<len->((cj len).map fun i=>(p i).1).getD i []=(p i).1:=fun i hi=>by simp[aa,hi]
   refine⟨(cj len).map fun i=>(p i).1,fun q hq=> ?_,.lst 4 _ .no b off m len (fun i j=>(p i).2.getD j Go.undef) (by simp) hl (fun i hi=>by rw[hrow i hi];exact(hp i (by omega)).2.1) (fun i j hi hj=> ?_) (fun i j hi hj=> ?_)⟩
   ·obtain⟨i,hi,rfl⟩:=aV.1 hq
    exact(hp i (by have:=gX.1 hi;omega)).1
   ·have:=(hp i (by omega)).2.2.2 j hj
    rw[add_plain]at this;show w.cell? _=_;rw[eL];exact this
   ·rw[hrow i hi]
    exact(hp i (by omega)).2.2.1 j hj
def Qt(q:List SV):Prop:=∃(a:Int)(n:List UInt8)(v:Int)(b:List UInt8),q=[.int .i64 a,.str n,.int .i64 v,.byt b .no]
def Qs(q:List SV):Prop:=∃(a:Int)(n:List UInt8)(v:Int)(b:Int),q=[.int .i64 a,.str n,.int .i64 v,.int .i64 b]
section
variable {fa fb fc fd : Field} (he : P.underlying e = some (.struct #[fa, fb, fc, fd])) (o0 : fa.offset = 0) (o1 : fb.offset = 1) (o2 : fc.offset = 2) (o3 : fd.offset = 3)
 (c0:P.cellsOf fa.type=1) (c1:P.cellsOf fb.type=1) (c2:P.cellsOf fc.type=1) (c3:P.cellsOf fd.type=1)
 (t0:P.underlying fa.type=some (.int .i64)) (t1:P.underlying fb.type=some .string) (t2:P.underlying fc.type=some (.int .i64))
include he o0 o1 o2 o3 c0 c1 c2 c3 t0 t1 t2
theorem RT{u:TypeId}(t3:P.underlying fd.type=some (.slice u))(hu:P.underlying u=some (.int .u8))(cu:P.cellsOf u=1)(n:Nat)(cs:List Value)(y:DataW H×List MemPlace)(hlen:cs.length=4)(h:DataW.trod enc P w base (fun _=>true) hd n e cs=some y):
 ∃q:List SV,Qt q/\q.length=4/\∀j,j<4->cS (rA w).G (q.getD j .undef) (cs.getD j Go.undef):=by
 obtain⟨xs,k,_,_,_,hxl,hf⟩:=DataW.trod_struct he h
 match cs,hlen,xs,hxl with
 |[v0,v1,v2,v3],_,[y0,y1,y2,y3],_=>
  have g0:=hf 0 fa rfl;have g1:=hf 1 fb rfl;have g2:=hf 2 fc rfl;have g3:=hf 3 fd rfl;simp[o0,o1,o2,o3,c0,c1,c2,c3]at g0 g1 g2 g3;obtain⟨a,e0,_,_⟩:=DataW.trod_int t0 g0;obtain⟨⟨⟨s⟩⟩,e1,_,_⟩:=DataW.trod_string t1 g1;obtain⟨c,e2,_,_⟩:=DataW.trod_int t2 g2;obtain⟨l,hl⟩:=xq t3 hu cu g3;obtain rfl:v0= .int .i64 a:=by simpa using e0
  obtain rfl:v1= .string ⟨⟨s⟩⟩:=by simpa using e1
  obtain rfl:v2= .int .i64 c:=by simpa using e2
  refine⟨[.int .i64 a,.str s,.int .i64 c,.byt l .no],⟨a,s,c,l,rfl⟩,rfl,fun j hj=> ?_⟩
  match j,hj with
  |0,_=>exact .int _ _
  |1,_=>exact .str _
  |2,_=>exact .int _ _
  |3,_=>exact hl
omit [bg] in
theorem RR(t3:P.underlying fd.type=some (.int .i64))(n:Nat)(cs:List Value)(y:DataW H×List MemPlace)(hlen:cs.length=4)(h:DataW.trod enc P w base (fun _=>true) hd n e cs=some y):
 ∃q:List SV,Qs q/\q.length=4/\∀j,j<4->cS (rA w).G (q.getD j .undef) (cs.getD j Go.undef):=by
 obtain⟨xs,k,_,_,_,hxl,hf⟩:=DataW.trod_struct he h
 match cs,hlen,xs,hxl with
 |[v0,v1,v2,v3],_,[y0,y1,y2,y3],_=>
  have g0:=hf 0 fa rfl;have g1:=hf 1 fb rfl;have g2:=hf 2 fc rfl;have g3:=hf 3 fd rfl;simp[o0,o1,o2,o3,c0,c1,c2,c3]at g0 g1 g2 g3;obtain⟨a,e0,_,_⟩:=DataW.trod_int t0 g0;obtain⟨⟨⟨s⟩⟩,e1,_,_⟩:=DataW.trod_string t1 g1;obtain⟨c,e2,_,_⟩:=DataW.trod_int t2 g2;obtain⟨l,e3,_,_⟩:=DataW.trod_int t3 g3;obtain rfl:v0= .int .i64 a:=by simpa using e0
  obtain rfl:v1= .string ⟨⟨s⟩⟩:=by simpa using e1
  obtain rfl:v2= .int .i64 c:=by simpa using e2
  obtain rfl:v3= .int .i64 l:=by simpa using e3
  refine⟨[.int .i64 a,.str s,.int .i64 c,.int .i64 l],⟨a,s,c,l,rfl⟩,rfl,fun j hj=> ?_⟩
  match j,hj with
  |0,_=>exact .int _ _
  |1,_=>exact .str _
  |2,_=>exact .int _ _
  |3,_=>exact .int _ _
end
end
end Go.Sy
namespace Go.Proofs.YtkcjdeofknkndaaGreatDoor
open Go.Sy
open UInt8 renaming reduceLT -> Q0, reduceLE -> Q1
open Int renaming reduceToNat -> Q2, reduceLE -> Q3, reduceLT -> Q4, reduceEq -> Q5, reduceNe -> Q6, reduceNeg -> Q7, reduceAdd -> Q8, reduceSub -> Q9, reduceMul -> Qa
open Nat renaming reducePow -> Qb, reduceDiv -> Qc, reduceMod -> Qd, reduceAdd -> Qe, reduceSub -> Qf, reduceMul -> Qg, reduceLT -> Qh, reduceLeDiff -> Qi, reduceEqDiff -> Qj, reduceBEq -> Qk
section
theorem C6:∀(l:List (List SV)),(∀q∈l,Qt q)->∃es:List Ent,bD es=l
 |[],_=>⟨[],rfl⟩
 |q::r,h=>by
  obtain⟨es,he⟩:=C6 r fun x hx=>h x (aq _ hx)
  obtain⟨a,n,v,b,rfl⟩:=h q aD;exact⟨⟨a,n,v,b⟩::es,by rw[<-he];rfl⟩
theorem AE:∀(l:List (List SV)),(∀q∈l,Qs q)->∃es:List Rul,bT es=l
 |[],_=>⟨[],rfl⟩
 |q::r,h=>by
  obtain⟨es,he⟩:=AE r fun x hx=>h x (aq _ hx)
  obtain⟨a,n,v,b,rfl⟩:=h q aD;exact⟨⟨a,n,v,b⟩::es,by rw[<-he];rfl⟩
section
open Go.ChangeShapes Go.WideShapes
variable {H : Type} {enc : TypeId × Value -> H} {w : World} {base : Nat} {hd : Bool} {r : Reach} {b0 : Nat} {v : Value} {d : DataW H} {ps : List MemPlace}
theorem TT(hval:Value.okWide Tryz.prog w r b0 25 v)(h:DataW.Trod enc Tryz.prog w base (fun _=>true) hd 25 v d ps):∃m:Man,Rep (rA w) (.agg m.sv) v:=by
 obtain⟨cs,rfl,hcs⟩:=okWide_struct Tryz.underlying25 hval;rw[show Tryz.prog.cellsOf 25=7 by kernel_rfl]at hcs;obtain⟨fuel,hf⟩:=h;obtain⟨xs,n,_,_,hl,hlen,hf⟩:=DataW.trod_struct Tryz.underlying25 hf;have c9:Tryz.prog.cellsOf 9=1:=by kernel_rfl
 have c3:Tryz.prog.cellsOf 3=1:=by kernel_rfl
 have c5:Tryz.prog.cellsOf 5=1:=by kernel_rfl
 have c22:Tryz.prog.cellsOf 22=1:=by kernel_rfl
 have c23:Tryz.prog.cellsOf 23=1:=by kernel_rfl
 have c26:Tryz.prog.cellsOf 26=1:=by kernel_rfl
 have c34:Tryz.prog.cellsOf 34=4:=by kernel_rfl
 have c65:Tryz.prog.cellsOf 65=4:=by kernel_rfl
 simp only[Value.cells]at hl hf;have hx:xs.length=7:=hlen;obtain⟨l⟩:=cs;have hl7:l.length=7:=by simpa using hcs
 match xs,hx,l,hl7 with
 |[y0,y1,y2,y3,y4,y5,y6],_,[v0,v1,v2,v3,v4,v5,v6],_=>
  have g0:=hf 0 _ rfl;have g1:=hf 1 _ rfl;have g2:=hf 2 _ rfl;have g3:=hf 3 _ rfl;have g4:=hf 4 _ rfl;have g5:=hf 5 _ rfl;have g6:=hf 6 _ rfl;simp[c9,c3,c22,c23]at g0 g1 g2 g3 g4 g5 g6;obtain⟨⟨⟨s⟩⟩,e0,_,_⟩:=DataW.trod_string Tryz.underlying9 g0;obtain⟨a1,e1,_,_⟩:=DataW.trod_int Tryz.underlying3 g1;obtain⟨a2,e2,_,_⟩:=DataW.trod_int Tryz.underlying3 g2;obtain⟨a3,e3,_,_⟩:=DataW.trod_int Tryz.underlying3 g3;obtain⟨a4,e4,_,_⟩:=DataW.trod_int Tryz.underlying3 g4;obtain⟨le,he1,he2⟩:=rK (K:=Qt) Tryz.underlying22 c34 (RT Tryz.underlying34 rfl rfl rfl rfl c3 c9 c3 c26 Tryz.underlying3 Tryz.underlying9 Tryz.underlying3 Tryz.underlying26 Tryz.underlying5 c5) g5;obtain⟨lr,hr1,hr2⟩:=rK (K:=Qs) Tryz.underlying23 c65 (RR Tryz.underlying65 rfl rfl rfl rfl c3 c9 c3 c3 Tryz.underlying3 Tryz.underlying9 Tryz.underlying3 Tryz.underlying3) g6;obtain⟨es,rfl⟩:=C6 le he1;obtain⟨rs,rfl⟩:=AE lr hr1;obtain rfl:v0= .string ⟨⟨s⟩⟩:=by simpa using e0
  obtain rfl:v1= .int .i64 a1:=by simpa using e1
  obtain rfl:v2= .int .i64 a2:=by simpa using e2
  obtain rfl:v3= .int .i64 a3:=by simpa using e3
  obtain rfl:v4= .int .i64 a4:=by simpa using e4
  refine⟨⟨s,a1,a2,a3,a4,es,rs⟩,.agg _ _ rfl fun i hi=> ?_⟩
  match i,hi with
  |0,_=>exact .dat _ _ (.str _) trivial
  |1,_=>exact .dat _ _ (.int _ _) trivial
  |2,_=>exact .dat _ _ (.int _ _) trivial
  |3,_=>exact .dat _ _ (.int _ _) trivial
  |4,_=>exact .dat _ _ (.int _ _) trivial
  |5,_=>exact .dat _ _ he2 trivial
  |6,_=>exact .dat _ _ hr2 trivial
  |i+7,hi=>exact absurd hi (by simp[Man.sv])
end
end
end Go.Proofs.YtkcjdeofknkndaaGreatDoor
