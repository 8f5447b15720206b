/- Contracts. No condition. -/
import Derived.Test.YtkcjdeofknkndaaGreatDoorTiDF
import Derived.Test.YtkcjdeofknkndaaGreatDoorTjDF
open Int renaming natCast_zero -> aD
open List renaming Pairwise -> gg, drop_eq_getElem_cons -> aY, drop_length -> bv, drop_zero -> bh, foldl_cons -> cz, getD_eq_getElem?_getD -> aa, getElem?_eq_getElem -> ab, getElem_of_mem -> bM, length_append -> af, length_cons -> ay, length_nil -> bl, length_pos_iff -> mb, length_take -> aA, map_append -> df, map_cons -> aG, map_nil -> eU, mem_append -> ak, mem_cons -> am, mem_cons_of_mem -> an, mem_cons_self -> aw, mem_map -> aQ, mem_singleton -> aW, nil_append -> aK, take -> dn, take_length -> bB
open Nat renaming le_refl -> aN, zero_add -> cf, zero_le -> bD
set_option maxRecDepth 100000
set_option maxHeartbeats 16000000
set_option linter.unusedSimpArgs false
set_option linter.unusedVariables false
namespace Go.Proofs.YtkcjdeofknkndaaGreatDoor
open Go.Sy
open UInt8 renaming reduceLT -> Q0, reduceLE -> Q1
open Int renaming reduceToNat -> Q2, reduceLE -> Q3, reduceLT -> Q4, reduceEq -> Q5, reduceNe -> Q6, reduceNeg -> Q7, reduceAdd -> Q8, reduceSub -> Q9, reduceMul -> Qa
open Nat renaming reducePow -> Qb, reduceDiv -> Qc, reduceMod -> Qd, reduceAdd -> Qe, reduceSub -> Qf, reduceMul -> Qg, reduceLT -> Qh, reduceLeDiff -> Qi, reduceEqDiff -> Qj, reduceBEq -> Qk
section
open SortT
structure xhc(y:Img):Prop where
 n:y.name.length<=1000000
 p:y.pay.length<=1000000
def mD(v:t6)(h:Int)(e:SV):aC:= .rc [.str v,.int .i64 h,.int .i64 0,.int .i64 0,.int .i64 1099511627776,e,.lst 4 [] .clip]
def D6(l:List Ent):SV:=if l=[]then .lst 4 [] .clip else .psl 140 4 0 l.length none
def D7(l:List Ent):List (Nat×aC):=if l=[]then []else [(140,.arr 4 (cd l))]
def nN(l:List Ent)(y:Img):List Ent:=if dT y=0 then(if y.role=4 then l else l++ [jt y])else l
theorem vh(l:List Ent)(y:Img):(nN l y).length<=l.length+1:=by
 unfold nN;split
 ·split
  ·omega
  ·simp
 ·omega
theorem rg(l:List Ent)(x:Ent):cd (l++ [x])=cd l++ [x.sv]:=by rw[cd,cd,df];rfl
theorem l37(z:List Img)(a2:z.length<=1000)(v:t6)(ve:Int):∀(n i:Nat)(L:List Ent),z.length-i=n->i<=z.length->L.length<=i->
 run T (.loop NS) ⟨[(6,.ptr 106 0),(7,.ptr 107 0),(13,.lst 4 (dS z) .no),(14,.int .i64 z.length),(15,.int .i64 i)],(106,mZ)::(107,mD v ve (D6 L))::D7 L,[]⟩=
  some (.x 0,⟨[(6,.ptr 106 0),(7,.ptr 107 0)],(106,mZ)::(107,mD v ve (D6 ((z.drop i).foldl nN L)))::D7 ((z.drop i).foldl nN L),[]⟩):=by
 intro n;induction n with
 |zero=>
  intro i L I h1 hL;have hi:i=z.length:=by omega
  subst hi;rw[bv,List.foldl_nil,al];unfold D7 D6 mD mZ
  by_cases hz:L=[]
  ·simp only[if_pos hz,go_sem,Q0,Q1,Q2,Q3,Q4,Q5,Q6,Q7,Q8,Q9,Qa,Qb,Qc,Qd,Qe,Qf,Qg,Qh,Qi,Qj,Qk,reduceCtorEq,reduceIte]
  ·simp only[if_neg hz,go_sem,Q0,Q1,Q2,Q3,Q4,Q5,Q6,Q7,Q8,Q9,Qa,Qb,Qc,Qd,Qe,Qf,Qg,Qh,Qi,Qj,Qk,reduceCtorEq,reduceIte]
 |succ n ih=>
  intro i L I h1 hL;have hi:i<z.length:=by omega
  have F:(i:Int)<(z.length:Int):=by omega
  have O:=cA i (by omega);have Q:=dY z;have H:=gA z i hi;have hd:z.drop i=z.getD i im0::z.drop (i+1):=by rw[aY hi,aa,ab hi];rfl
  rw[hd,cz];have h:=ih (i+1) (nN L (z.getD i im0)) (by omega) (by omega) (by have:=vh L (z.getD i im0);omega);generalize List.foldl nN (nN L (z.getD i im0)) (z.drop (i+1))=Z at*;generalize z.getD i im0=y at*;have C:=X9 y;have g2:=xih y;have a1:=sw y;have g3:=f90 (dN y) (by omega);unfold nN jt at h;generalize hE:dN y=E at*
  by_cases I:dT y=0
  ·by_cases J:y.role=4
   ·rw[if_pos I,if_pos J]at h
    rw[I]at C;obtain⟨y1,y2,y3,y4⟩:=y;simp only at J;subst J;unfold D7 D6 mD mZ at h ⊢
    by_cases hz:L=[]
    ·simp only[if_pos hz,Img.sv]at h H C ⊢
     rw[al];simp only[go_sem,Q0,Q1,Q2,Q3,Q4,Q5,Q6,Q7,Q8,Q9,Qa,Qb,Qc,Qd,Qe,Qf,Qg,Qh,Qi,Qj,Qk,reduceCtorEq,reduceIte,hi,F,Q,H,C,o9,O,h]
    ·simp only[if_neg hz,Img.sv]at h H C ⊢
     rw[al];simp only[go_sem,Q0,Q1,Q2,Q3,Q4,Q5,Q6,Q7,Q8,Q9,Qa,Qb,Qc,Qd,Qe,Qf,Qg,Qh,Qi,Qj,Qk,reduceCtorEq,reduceIte,hi,F,Q,H,C,o9,O,h]
   ·rw[if_pos I,if_neg J]at h
    rw[I]at C;obtain⟨y1,y2,y3,y4⟩:=y;simp only at J h hE
    try rw[hE]at h
    have U:¬L++ [(⟨y1,y2,y3,sha E⟩:Ent)]=[]:=by simp
    have a0:(L++ [(⟨y1,y2,y3,sha E⟩:Ent)]).length=L.length+1:=by simp
    unfold D7 D6 mD mZ at h ⊢
    by_cases hz:L=[]
    ·subst hz
     simp only[if_neg U,a0,if_true,Img.sv,rg,Ent.sv,cd,eU]at h H C g2 g3 ⊢;simp only[aK,aG,eU,Ent.sv,bl,cf]at h;rw[al];simp only[go_sem,Q0,Q1,Q2,Q3,Q4,Q5,Q6,Q7,Q8,Q9,Qa,Qb,Qc,Qd,Qe,Qf,Qg,Qh,Qi,Qj,Qk,reduceCtorEq,reduceIte,hi,F,Q,H,C,o9,J,g2,xc9,g3,sT,O,h]
    ·have W:=cw L
     have tf:dn L.length (cd L)=cd L:=by rw[<-W,bB]
     have b1:(L.length+1)*56<=140737488355328:=by omega
     simp only[if_neg U,if_neg hz,a0,Img.sv,rg,Ent.sv]at h H C g2 g3 ⊢;rw[al];simp only[go_sem,Q0,Q1,Q2,Q3,Q4,Q5,Q6,Q7,Q8,Q9,Qa,Qb,Qc,Qd,Qe,Qf,Qg,Qh,Qi,Qj,Qk,reduceCtorEq,reduceIte,hi,F,Q,H,C,o9,J,g2,xc9,g3,sT,O,W,tf,b1,h]
  ·rw[if_neg I]at h
   obtain⟨y1,y2,y3,y4⟩:=y;unfold D7 D6 mD mZ at h ⊢
   by_cases hz:L=[]
   ·simp only[if_pos hz,Img.sv]at h H C ⊢
    rw[al];simp only[go_sem,Q0,Q1,Q2,Q3,Q4,Q5,Q6,Q7,Q8,Q9,Qa,Qb,Qc,Qd,Qe,Qf,Qg,Qh,Qi,Qj,Qk,reduceCtorEq,reduceIte,hi,F,Q,H,C,o9,I,O,h]
   ·simp only[if_neg hz,Img.sv]at h H C ⊢
    rw[al];simp only[go_sem,Q0,Q1,Q2,Q3,Q4,Q5,Q6,Q7,Q8,Q9,Qa,Qb,Qc,Qd,Qe,Qf,Qg,Qh,Qi,Qj,Qk,reduceCtorEq,reduceIte,hi,F,Q,H,C,o9,I,O,h]
theorem uL:∀(h:List Img)(L:List Ent),(h.foldl nN L).length<=L.length+h.length
 |[],L=>aN _
 |y::r,L=>by have C:=uL r (nN L y);have z:=vh L y;rw[cz,ay];omega
def rj(h:List Img):List Ent:=cpt eqE (isr eE en0 ((h.foldl nN []).length-1) 1 (h.foldl nN []))
theorem xc2(y:List Img)(J:y.length<=12)(v:t6)(H:Int):call T 37 [.str v,.int .i64 H,.lst 4 (dS y) .no] [] 0=
 some ⟨.agg [.str v,.int .i64 H,.int .i64 0,.int .i64 0,.int .i64 1099511627776,.lst 4 (cd (rj y)) .no,.lst 4 [] .clip],[],[]⟩:=by
 have h:=l37 y (by omega) v H _ 0 [] rfl (bD _) (aN _);have Q:=uL y [];rw[aD,bh]at h;have I:=dY y;unfold rj;generalize y.foldl nN []=L at*;simp only[bl,cf]at Q;unfold D6 D7 mD mZ at h;rw[au xls]
 by_cases hz:L=[]
 ·subst hz
  have F:=xj8;have z:=xj7;simp only[if_true]at h;simp only[go_sem,Q0,Q1,Q2,Q3,Q4,Q5,Q6,Q7,Q8,Q9,Qa,Qb,Qc,Qd,Qe,Qf,Qg,Qh,Qi,Qj,Qk,reduceCtorEq,reduceIte,I,h,F,xiM,z,xiL];rfl
 ·have U:0<L.length:=mb.2 hz
  have F:=f92 L U (by omega);have E:=BN eE en0 (L.length-1) 1 L;obtain⟨R,O,r1,r2,r3,z⟩:=f93 (isr eE en0 (L.length-1) 1 L) (by omega) (by omega);rw[E]at z r1 r2;have C:=cw L;have W:=cw (isr eE en0 (L.length-1) 1 L);rw[<-r3];simp only[if_neg hz,if_true]at h;have Z:O<=R.length:=by omega
  simp only[go_sem,Q0,Q1,Q2,Q3,Q4,Q5,Q6,Q7,Q8,Q9,Qa,Qb,Qc,Qd,Qe,Qf,Qg,Qh,Qi,Qj,Qk,reduceCtorEq,reduceIte,I,h,F,xiM,z,xiL,C,Z]
theorem f37(h:List Img)(E:∀y∈h,xhc y)(C:h.length<=12)(v:t6)(z:Int):call T 37 [.str v,.int .i64 z,.lst 4 (dS h) .no] [] 0=
 some ⟨.agg [.str v,.int .i64 z,.int .i64 0,.int .i64 0,.int .i64 1099511627776,.lst 4 (cd (rj h)) .no,.lst 4 [] .clip],[],[]⟩:=xc2 h C v z
def ki(l:List Ent)(y:Img):List Ent:=if dT y=0 then ju y l else l
theorem qY:∀(E:List Img)(A B:List Ent),A.foldl (fun a x=>oJ eE x a) []=B->(E.foldl nN A).foldl (fun a x=>oJ eE x a) []=E.foldl ki B
 |[],_,_,h=>h
 |y::r,A,B,h=>by
  rw[cz,cz];refine qY r _ _ ?_;unfold nN ki ju
  by_cases z:dT y=0
  ·rw[if_pos z,if_pos z]
   by_cases C:y.role=4
   ·rw[if_pos C,if_pos C];exact h
   ·rw[if_neg C,if_neg C,List.foldl_append,h,si];rfl
  ·rw[if_neg z,if_neg z];exact h
theorem oR(h:List Img):rj h=h.foldl ki []:=by unfold rj;rw[Er nI Qw,qY h [] [] rfl]
theorem lu:∀(C:List Img)(B:List Ent),(∀y∈C,dT y=0)->C.foldl ki B=lk C B
 |[],_,_=>rfl
 |y::r,B,h=>by
  rw[cz];unfold lk;rw[cz];have:ki B y=ju y B:=by unfold ki;rw[if_pos (h y aw)]
  rw[this];exact lu r _ fun z hz=>h z (an _ hz)
theorem wC{h:List Img}(y:ej h):rj h=lk h []:=by rw[oR,lu h [] (ru y)]
end
section
open SortT
theorem EvS.bd{e:Ev}(h:EvS e):xiZ e:=⟨h.d2,by have:=h.b;omega,by have:=h.d0;omega,by have:=h.d1;omega⟩
def imA:Img:=⟨3,[107],3,[112]⟩
theorem p8:dT imA=0:=by decide
def mnA:Man:=⟨[118],1,0,0,1099511627776,[jt imA],[]⟩
def mnB:Man:=⟨[118],1,0,0,5,[],[]⟩
theorem Ye:lk [imA] []=[jt imA]:=by unfold lk;rw[cz,List.foldl_nil];unfold ju mU;rw[if_neg (by decide),if_neg (by simp)];rfl
theorem xkJ:rj [imA]=[jt imA]:=by rw[oR,lu [imA] [] (fun y h=>by rw[aW.1 h];exact p8),Ye]
theorem ya:gJ mnA=0:=by have h:=sx [imA] [] (fun y C=>by rw[aW.1 C];exact p8) (fun x z=>by cases z) gg.nil;rw[Ye]at h;exact po (by decide) (by decide) (by decide) (by decide) (by decide) (by decide) (by decide) (by decide) (by decide) h.1 h.2 (fun x z=>by cases z)
theorem xcb:gJ mnB=0:=po (by decide) (by decide) (by decide) (by decide) (by decide) (by decide) (by decide) (by decide) (by decide) (fun x h=>by cases h) gg.nil (fun x h=>by cases h)
theorem pZ:gu mnA:=by refine⟨by decide,by show 1<=1000000;decide,by decide, ?_,fun x h=>by cases h⟩;intro x h;have:x=jt imA:=aW.1 h;subst this;exact⟨by decide,by show(sha _).length<=_;rw[jr];decide⟩
theorem xcc:gu mnB:=⟨by decide,by decide,by decide,(fun x h=>by cases h),(fun x h=>by cases h)⟩
theorem xcJ{x:Img}(h:dT x=0):dN x≠ []:=fun e=>ml h (by rw[e];rfl)
theorem itA:iH mnA (ofI imA 2)=0:=by
 have h:itE (ofI imA 2) (jt imA)=true:=by
  have hd:(ofI imA 2).dg.getD 1 []=sha (dN imA):=by unfold ofI nL;simp only;rw[if_neg (xcJ p8)];rfl
  unfold itE;rw[hd];simp only[ofI,jt,decide_true,Bool.and_self]
 unfold iH;rw[if_pos ya,if_pos (show(ofI imA 2).kind=1 from rfl)];unfold mnA iA;rw[if_pos h];rfl
theorem QA{m:Man}(h:gJ m=0):kX m≠ []:=by
 intro e;have y:=BX h;rw[e]at y
 have z:wE []=none:=by unfold wE;rw[if_neg];rintro⟨h, -⟩;exact absurd h (by decide)
 rw[z]at y;cases y
theorem FY{m:Man}(h:gJ m=0):(QM m).length=32:=by unfold QM DZ;rw[if_neg (QA h),jr]
theorem FR:(kX mnB).length=26:=by unfold kX hdM;rw[if_pos xcb];show(jo ([]++bu 1 21) [118]++bu 4 1++bu 4 0++bu 6 0++bu 6 5++bu 1 0++bu 1 0).length=26;unfold jo;simp only[af,cT,eG,bl,aA,ay];rfl
theorem PO{m:Man}(h:gu m):(kX m).length<=1000000000:=by have:=uX m h;omega
theorem f10:call T 10 [] [] 0=some ⟨.bool true,[],[]⟩:=by
 have I:=f37 [imA] (fun y hy=>by rw[aW.1 hy];exact⟨by decide,by decide⟩) (by decide) [118] 1;rw[xkJ]at I;have U:=f16 mnA pZ;have h:=f17 (kX mnA) (PO pZ);have hd:wE (kX mnA)=some mnA:=BX ya;unfold xc6 xc7 at h;rw[hd]at h;simp only at h;have L:=f18 mnA mnA pZ;rw[N3 rfl]at L;have Z:=f21 mnA pZ;have l5:=FY ya;have O:=f40 imA 2 (.inr (.inl rfl)) p8 (by decide);have z:=f31 mnA pZ (ofI imA 2) (XU 2 p8).bd;rw[itA]at z;have W:=f16 mnB xcc;have l8:=FR;have J:mnA.sv=[.str [118],.int .i64 1,.int .i64 0,.int .i64 0,.int .i64 1099511627776,.lst 4 (cd [jt imA]) .no,.lst 4 [] .no]:=rfl;have F:mnB.sv=[.str [118],.int .i64 1,.int .i64 0,.int .i64 0,.int .i64 5,.lst 4 [] .no,.lst 4 [] .no]:=rfl;have hi:dS [imA]=[[.int .i64 3,.str [107],.int .i64 3,.byt [112] .no]]:=rfl;have H:imA.sv=[.int .i64 3,.str [107],.int .i64 3,.byt [112] .no]:=rfl;have hv:=cw [jt imA];have C:[jt imA].length=1:=rfl;rw[C]at hv;rw[hi]at I;rw[H]at O;rw[J]at U h L Z z;rw[F]at W;generalize cd [jt imA]=E at*;generalize kX mnA=A at*;generalize kX mnB=B at*;generalize QM mnA=D at*;have Q:(ofI imA 2).sv=[.int .i64 8,.int .i64 1,.lst 1 (bls (nL (dN imA) 2)) .no,.byt (qR [107] 3) .no]:=rfl;rw[Q]at O z;generalize bls (nL (dN imA) 2)=DG at*;generalize qR [107] 3=LB at*;rw[au xlG];simp only[go_sem,Q0,Q1,Q2,Q3,Q4,Q5,Q6,Q7,Q8,Q9,Qa,Qb,Qc,Qd,Qe,Qf,Qg,Qh,Qi,Qj,Qk,reduceCtorEq,reduceIte,I,xdg,U,xdk,h,xlV,L,xdj,Z,xlU,O,xlQ,z,xdh,W,hv,l5,l8,c1,c26,c32]
end
section
open SortT
theorem xka(s:t6):call T 45 [.str s] [] 0=some ⟨.bool (Pr.nameB s),[],[]⟩:=by
 by_cases E:s.length<=1000000000000
 ·exact f45 s E
 ·have C:¬s.length<1:=by omega
  have y:¬(s.length:Int)<1:=by omega
  have z:12<s.length:=by omega
  have h:(12:Int)<s.length:=by omega
  rw[au xiI];unfold Pr.nameB;simp only[go_sem,Q0,Q1,Q2,Q3,Q4,Q5,Q6,Q7,Q8,Q9,Qa,Qb,Qc,Qd,Qe,Qf,Qg,Qh,Qi,Qj,Qk,reduceCtorEq,reduceIte,C,y,z,h]
theorem xfV(x:Img):call T 100 [.agg x.sv] [] 0=some ⟨.int .i64 (dT x),[],[]⟩:=by
 have C:=xka x.name;have Q:=fun h=>f70 x h
 obtain⟨J,Z,U,p⟩:=x;have W:=iE (dk p);simp only[Img.sv]at C Q ⊢;rw[au Ys];unfold dT
 by_cases y:J<1
 ·simp only[go_sem,Q0,Q1,Q2,Q3,Q4,Q5,Q6,Q7,Q8,Q9,Qa,Qb,Qc,Qd,Qe,Qf,Qg,Qh,Qi,Qj,Qk,reduceCtorEq,reduceIte,y]
 by_cases z:4<J
 ·simp only[go_sem,Q0,Q1,Q2,Q3,Q4,Q5,Q6,Q7,Q8,Q9,Qa,Qb,Qc,Qd,Qe,Qf,Qg,Qh,Qi,Qj,Qk,reduceCtorEq,reduceIte,y,z]
 by_cases E:U<0
 ·simp only[go_sem,Q0,Q1,Q2,Q3,Q4,Q5,Q6,Q7,Q8,Q9,Qa,Qb,Qc,Qd,Qe,Qf,Qg,Qh,Qi,Qj,Qk,reduceCtorEq,reduceIte,y,z,E]
 by_cases F:1000000<U
 ·simp only[go_sem,Q0,Q1,Q2,Q3,Q4,Q5,Q6,Q7,Q8,Q9,Qa,Qb,Qc,Qd,Qe,Qf,Qg,Qh,Qi,Qj,Qk,reduceCtorEq,reduceIte,y,z,E,F]
 cases a5:Pr.nameB Z with
 |false=>rw[a5]at C;simp only[go_sem,Q0,Q1,Q2,Q3,Q4,Q5,Q6,Q7,Q8,Q9,Qa,Qb,Qc,Qd,Qe,Qf,Qg,Qh,Qi,Qj,Qk,reduceCtorEq,reduceIte,y,z,E,F,a5,C,vk]
 |true=>
  rw[a5]at C
  by_cases I:(64:Int)<p.length
  ·simp only[go_sem,Q0,Q1,Q2,Q3,Q4,Q5,Q6,Q7,Q8,Q9,Qa,Qb,Qc,Qd,Qe,Qf,Qg,Qh,Qi,Qj,Qk,reduceCtorEq,reduceIte,y,z,E,F,a5,C,vk,I]
  have H:=Q (by omega)
  by_cases L:J=4
  ·subst L
   by_cases O:((dk p).length:Int)=0
   ·simp only[go_sem,Q0,Q1,Q2,Q3,Q4,Q5,Q6,Q7,Q8,Q9,Qa,Qb,Qc,Qd,Qe,Qf,Qg,Qh,Qi,Qj,Qk,reduceCtorEq,reduceIte,y,z,E,F,a5,C,vk,I,H,Yt,W,O]
   ·simp only[go_sem,Q0,Q1,Q2,Q3,Q4,Q5,Q6,Q7,Q8,Q9,Qa,Qb,Qc,Qd,Qe,Qf,Qg,Qh,Qi,Qj,Qk,reduceCtorEq,reduceIte,y,z,E,F,a5,C,vk,I,H,Yt,W,O]
  ·simp only[go_sem,Q0,Q1,Q2,Q3,Q4,Q5,Q6,Q7,Q8,Q9,Qa,Qb,Qc,Qd,Qe,Qf,Qg,Qh,Qi,Qj,Qk,reduceCtorEq,reduceIte,y,z,E,F,a5,C,vk,I,L]
theorem xj6(x:Img):call T 95 [.agg x.sv] [] 0=some ⟨.byt (dN x) .no,[],[]⟩:=by
 by_cases h:dT x=0
 ·obtain⟨y,z⟩:=kU h
  exact f95 x y z
 ·have g0:=xfV x
  have C:dN x=[]:=if_neg h;rw[C];obtain⟨H,E,F,p⟩:=x;simp only[Img.sv]at g0 ⊢;rw[au xiD];simp only[go_sem,Q0,Q1,Q2,Q3,Q4,Q5,Q6,Q7,Q8,Q9,Qa,Qb,Qc,Qd,Qe,Qf,Qg,Qh,Qi,Qj,Qk,reduceCtorEq,reduceIte,g0,D2,h]
def tkE(l:List Ent):Tok:=if l=[]then .clip else .no
theorem xc{l:List Ent}(h:¬l=[]):tkE l= .no:=if_neg h
theorem Ri{l:List Ent}(y:Img)(h:¬l=[]):¬ki l y=[]:=by
 unfold ki ju mU;split
 ·split
  ·exact h
  ·split
   ·exact h
   ·simp
 ·exact h
theorem xjb(h:List Img)(a1:h.length<=1000)(v:t6)(ve:Int)(l:List Ent)(hl:l.length<=900)(hd:∀y∈l,y.dig.length<=1000)(i:Nat)(hi:i<h.length):
 run T (.loop lG) ⟨[(2,.lst 4 (dS h) .no),(6,.ptr 106 0),(7,.ptr 107 0),(8,.int .i64 i)],[(106,mZ),(107,mO v ve l (tkE l))],[]⟩=
 run T (.loop lG) ⟨[(2,.lst 4 (dS h) .no),(6,.ptr 106 0),(7,.ptr 107 0),(8,.int .i64 ((i+1:Nat):Int))],[(106,mZ),(107,mO v ve (ki l (h.getD i im0)) (tkE (ki l (h.getD i im0))))],[]⟩:=by
 have C:(i:Int)<(h.length:Int):=by omega
 have Q:=dY h;have H:=gA h i hi;have W:=cA i (by omega);have L:=fun(a3:¬l=[])(a0:dT (h.getD i im0)=0)=>s34 h a0 a1 v ve l hl hd hi
 generalize h.getD i im0=y at*;have F:=xj6 y
 by_cases U:dT y=0
 ·have Z:ki l y=ju y l:=if_pos U
  by_cases hz:l=[]
  ·subst hz
   have a2:=sw y;have g2:=f65 (dN y) (by omega);have I:¬(dN y).length=0:=ml U;have z:¬((dN y).length:Int)=0:=by omega
   have O:jt y=⟨y.role,y.name,y.ver,sha (dN y)⟩:=rfl;rw[Z]
   by_cases J:y.role=4
   ·have:ju y []=[]:=if_pos J
    rw[this];generalize dN y=E at*;obtain⟨y1,y2,y3,y4⟩:=y;simp only at J;subst J;rw[al];simp only[mO,mZ,tkE,if_true,Img.sv]at F H ⊢;simp only[go_sem,Q0,Q1,Q2,Q3,Q4,Q5,Q6,Q7,Q8,Q9,Qa,Qb,Qc,Qd,Qe,Qf,Qg,Qh,Qi,Qj,Qk,reduceCtorEq,reduceIte,C,hi,Q,H,F,sS,I,z,W]
   ·have:ju y []=[jt y]:=by
     unfold ju mU;rw[if_neg J,if_neg (by simp)];rfl
    rw[this,O,xc (l:=[(⟨y.role,y.name,y.ver,sha (dN y)⟩:Ent)]) (by simp)];generalize dN y=E at*;obtain⟨y1,y2,y3,y4⟩:=y;simp only at J;rw[al];simp only[mO,mZ,tkE,if_true,Img.sv,cd,eU,aG,Ent.sv]at F H ⊢;simp only[go_sem,Q0,Q1,Q2,Q3,Q4,Q5,Q6,Q7,Q8,Q9,Qa,Qb,Qc,Qd,Qe,Qf,Qg,Qh,Qi,Qj,Qk,reduceCtorEq,reduceIte,C,hi,Q,H,F,sS,I,z,J,g2,Nh];rw[al];simp only[go_sem,Q0,Q1,Q2,Q3,Q4,Q5,Q6,Q7,Q8,Q9,Qa,Qb,Qc,Qd,Qe,Qf,Qg,Qh,Qi,Qj,Qk,reduceCtorEq,reduceIte,C,hi,Q,H,F,sS,I,z,J,g2,Nh,W]
  ·rw[xc hz,xc (Ri y hz),Z]
   exact L hz U
 ·have Z:ki l y=l:=if_neg U
  have he:dN y=[]:=if_neg U;rw[Z];rw[he]at F;obtain⟨y1,y2,y3,y4⟩:=y;rw[al];unfold tkE
  by_cases hz:l=[]
  ·simp only[mO,mZ,if_pos hz,Img.sv]at F H ⊢
   simp only[go_sem,Q0,Q1,Q2,Q3,Q4,Q5,Q6,Q7,Q8,Q9,Qa,Qb,Qc,Qd,Qe,Qf,Qg,Qh,Qi,Qj,Qk,reduceCtorEq,reduceIte,C,hi,Q,H,F,sS,W]
  ·simp only[mO,mZ,if_neg hz,Img.sv]at F H ⊢
   simp only[go_sem,Q0,Q1,Q2,Q3,Q4,Q5,Q6,Q7,Q8,Q9,Qa,Qb,Qc,Qd,Qe,Qf,Qg,Qh,Qi,Qj,Qk,reduceCtorEq,reduceIte,C,hi,Q,H,F,sS,W]
theorem mX{l:List Ent}{n:Nat}(y:Img)(h:iX l n):iX (ki l y) (n+1):=by
 unfold ki;split
 ·rename_i z
  exact Cd z h
 ·exact⟨Nat.le_succ_of_le h.len,h.e⟩
theorem xjI(h:List Img)(J:h.length<=800)(v:t6)(C:Int):∀(n i:Nat)(es:List Ent),h.length-i=n->i<=h.length->iX es i->
 run T (.loop lG) ⟨[(2,.lst 4 (dS h) .no),(6,.ptr 106 0),(7,.ptr 107 0),(8,.int .i64 i)],[(106,mZ),(107,mO v C es (tkE es))],[]⟩=
 some (.x 0,⟨[(6,.ptr 106 0),(7,.ptr 107 0)],[(106,mZ),(107,mO v C ((h.drop i).foldl ki es) (tkE ((h.drop i).foldl ki es)))],[]⟩):=by
 intro n;induction n with
 |zero=>
  intro i es I F z;have:i=h.length:=by omega
  subst this;have E:=dY h;rw[bv,al];simp only[List.foldl_nil];unfold tkE
  by_cases hz:es=[]
  ·simp only[mO,mZ,if_pos hz]
   simp only[go_sem,Q0,Q1,Q2,Q3,Q4,Q5,Q6,Q7,Q8,Q9,Qa,Qb,Qc,Qd,Qe,Qf,Qg,Qh,Qi,Qj,Qk,reduceCtorEq,reduceIte,E]
  ·simp only[mO,mZ,if_neg hz]
   simp only[go_sem,Q0,Q1,Q2,Q3,Q4,Q5,Q6,Q7,Q8,Q9,Qa,Qb,Qc,Qd,Qe,Qf,Qg,Qh,Qi,Qj,Qk,reduceCtorEq,reduceIte,E]
 |succ n L=>
  intro i es I F z;have hi:i<h.length:=by omega
  have hd:h.drop i=h.getD i im0::h.drop (i+1):=by rw[aY hi,aa,ab hi];rfl
  have O:=z.len;rw[xjb h (by omega) v C es (by omega) (fun y H=>by have:=(z.e y H).2;omega) i hi,L (i+1) _ (by omega) (by omega) (mX _ z),hd];rfl
theorem xkc(y:List Img)(E:y.length<=12)(v:t6)(z:Int):call T 38 [.str v,.int .i64 z,.lst 4 (dS y) .no] [] 0=
 some ⟨.agg [.str v,.int .i64 z,.int .i64 0,.int .i64 0,.int .i64 1099511627776,.lst 4 (cd (y.foldl ki [])) (tkE (y.foldl ki [])),.lst 4 [] .clip],[],[]⟩:=by
 have h:=xjI y (by omega) v z _ 0 [] rfl (bD _) ⟨aN _,fun x C=>by cases C⟩;rw[aD,bh]at h;rw[au xlr];generalize y.foldl ki []=Z at*;unfold tkE at h ⊢
 by_cases hz:Z=[]
 ·subst hz
  simp only[mO,mZ,if_true,cd,eU]at h ⊢;simp only[go_sem,Q0,Q1,Q2,Q3,Q4,Q5,Q6,Q7,Q8,Q9,Qa,Qb,Qc,Qd,Qe,Qf,Qg,Qh,Qi,Qj,Qk,reduceCtorEq,reduceIte,h]
 ·simp only[mO,mZ,if_neg hz,if_true,cd,eU]at h ⊢
  simp only[go_sem,Q0,Q1,Q2,Q3,Q4,Q5,Q6,Q7,Q8,Q9,Qa,Qb,Qc,Qd,Qe,Qf,Qg,Qh,Qi,Qj,Qk,reduceCtorEq,reduceIte,h]
end
section
open SortT
theorem Fh{l:List Img}{a r:Int}(z:¬r=4){e:Ev}(h:e∈l.flatMap (gV a r)):∃x∈l,x.role=r/\e=ofI x a:=by
 obtain⟨x,C,h⟩:=List.mem_flatMap.1 h;unfold gV at h;split at h
 ·rename_i y
  try rw[if_neg z]at h
  exact⟨x,C,y,aW.1 h⟩
 ·cases h
theorem PN{l:List Img}{a:Int}{e:Ev}(h:e∈l.flatMap (gV a 4)):∃x∈l,x.role=4/\∃d∈dk x.pay,e=mkV 9 3 a d:=by
 obtain⟨x,z,h⟩:=List.mem_flatMap.1 h;unfold gV at h;split at h
 ·rename_i y
  try rw[if_pos rfl]at h
  obtain⟨d,hd,rfl⟩:=aQ.1 h;exact⟨x,z,y,d,hd,rfl⟩
 ·cases h
theorem uI{α:Type}(p:α->Bool):∀(l:List α)(i:Nat){x:α},x∈l->p x=true->0<=iA p l i
 |y::r,i,x,h,hp=>by
  unfold iA
  by_cases z:p y=true
  ·rw[if_pos z];omega
  ·rw[if_neg z]
   rcases am.1 h with rfl|h
   ·exact absurd hp z
   ·exact uI p r (i+1) h hp
theorem xfK{a:Int}(h:a=2\/a=3):sm a 1=true:=by rcases h with rfl|rfl<;>rfl
theorem xkK{x:Img}{a:Int}(y:a=2\/a=3)(h:dT x=0):(ofI x a).dg.getD 1 []=sha (dN x):=by show(nL (dN x) a).getD 1 []=_;unfold nL;rw[if_neg (fun e=>ml h (by rw[e];rfl)),xfK y];rfl
theorem P3{x:Img}{a:Int}(y:a=2\/a=3)(h:dT x=0):itE (ofI x a) (jt x)=true:=by unfold itE;rw[xkK y h];show(decide (ur x.role=ur x.role)&&(decide (sha (dN x)=sha (dN x))&&decide (qR x.name x.ver=qR x.name x.ver)))=true;simp
theorem E6(x:Img)(a:Int):(ofI x a).kind=1:=rfl
theorem BJ{a:Int}:∀(n i:Nat){e:Ev},e∈uf a i n->∃k:Int,e=mkV k 2 a [0,0,0,0]
 |n+1,i,e,h=>by
  rw[uf]at h;rcases am.1 h with rfl|h
  ·exact⟨i,rfl⟩
  ·exact BJ n (i+1) h
theorem F4{l:List Img}(h:ej l){x:Img}(y:x∈l):dT x=0:=by obtain⟨i,hi,rfl⟩:=bM y;have:=h.ok i hi;rw[aa,ab hi]at this;exact this
def Nc(v:Int)(l:List Img):Man:=⟨[97,99,109,101],v,0,0,1099511627776,lk l [],[]⟩
theorem QK{l:List Img}(y:ej l){v:Int}(E:0<=v)(z:v<=1000000):gJ (Nc v l)=0:=by have h:=xcP y;have hn:=(BV y).len;exact po (m:=Nc v l) (show Pr.nameB [97,99,109,101]=true by decide) (show(0:Int)<=0 by decide) (show(0:Int)<=v from E) (show v<=1000000 from z) (show(0:Int)<=0 by decide) (show(0:Int)<1099511627776 by decide) (show(1099511627776:Int)<=1099511627776 by decide) (by show(lk l []).length<=16;omega) (show([]:List Rul).length<=8 by decide) h.1 h.2 (fun r C=>by cases C)
theorem Fv{m:Man}{l:List Img}{a:Int}(L:a=2\/a=3)(I:ej l)(C:gJ m=0)(O:m.ents=lk l [])(J:m.ruls=[]):∀e∈evF l a,(0<=iH m e↔e.kind=1):=by
 have E:∀{c:Int},¬c=4->∀e∈l.flatMap (gV a c),(0<=iH m e↔e.kind=1):=fun z e h=>by
  obtain⟨x,H,F,rfl⟩:=Fh z h
  have hi:0<=iH m (ofI x a):=by unfold iH;rw[if_pos C,if_pos (E6 _ a),O];exact uI _ _ 0 (uZ l [] H (by rw[F];exact z)) (P3 L (F4 I H))
  exact⟨fun _=>rfl,fun _=>hi⟩
 intro e h;unfold evF at h;rcases ak.1 h with h|h
 ·exact E (by decide) e h
 rcases ak.1 h with h|h
 ·exact E (by decide) e h
 rcases ak.1 h with h|h
 ·obtain⟨k,rfl⟩:=BJ 8 0 h
  have y:(mkV k 2 a [0,0,0,0]).kind=2:=rfl
  have:iH m (mkV k 2 a [0,0,0,0])= -1:=by unfold iH;rw[if_pos C,y,if_neg (by decide),if_neg (by decide)]
  rw[this,y];constructor<;>intro h<;>omega
 rcases ak.1 h with h|h
 ·exact E (by decide) e h
 ·obtain⟨x,_,_,d,hd,rfl⟩:=PN h
  have y:(mkV 9 3 a d).kind=3:=rfl
  have:iH m (mkV 9 3 a d)= -1:=by unfold iH;rw[if_pos C,y,if_neg (by decide),if_pos rfl,J];have:iA (alR (mkV 9 3 a d).data) [] 0= -1:=rfl;simp only[this];split<;>(try split)<;>(try split)<;>first|rfl|omega
  rw[this,y];constructor<;>intro h<;>omega
end
end Go.Proofs.YtkcjdeofknkndaaGreatDoor
