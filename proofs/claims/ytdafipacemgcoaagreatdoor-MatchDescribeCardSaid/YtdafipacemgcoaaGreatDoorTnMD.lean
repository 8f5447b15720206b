/- Contracts. No condition. -/
import Derived.Test.YtdafipacemgcoaaGreatDoorTjMD
import Derived.Test.YtdafipacemgcoaaGreatDoorTkMD
open List renaming foldl_cons -> cx, getD_cons_succ -> bF, getD_cons_zero -> bp, length_append -> ah, length_cons -> av, length_nil -> bg, mem_cons -> an, not_mem_nil -> cj
open Nat renaming zero_le -> cu
set_option maxRecDepth 100000
set_option maxHeartbeats 16000000
set_option linter.unusedSimpArgs false
set_option linter.unusedVariables false
namespace Go.Proofs.YtdafipacemgcoaaGreatDoor
open Go.Sy
open UInt8 renaming reduceLT -> Q0, reduceLE -> Q1
open Int renaming reduceToNat -> Q2, reduceLE -> Q3, reduceLT -> Q4, reduceEq -> Q5, reduceNe -> Q6, reduceNeg -> Q7, reduceAdd -> Q8, reduceSub -> Q9, reduceMul -> Qa
open Nat renaming reducePow -> Qb, reduceDiv -> Qc, reduceMod -> Qd, reduceAdd -> Qe, reduceSub -> Qf, reduceMul -> Qg, reduceLT -> Qh, reduceLeDiff -> Qi, reduceEqDiff -> Qj, reduceBEq -> Qk
def im1:Img:=⟨1,[102],0,[]⟩
def im2:Img:=⟨3,[107],0,[]⟩
theorem x6:dD im1=0:=by decide
theorem x5:dD im2=0:=by decide
theorem BZ:cd [im1,im2]:=by
 refine⟨by decide,by decide, ?_, ?_, ?_,⟨0,by decide,rfl⟩,⟨1,by decide,rfl⟩⟩
 ·intro i hi
  have:i=0\/i=1:=by simp only[av,bg]at hi;omega
  rcases this with rfl|rfl
  ·exact x6
  ·exact x5
 ·intro i hi
  have:i=0:=by simp only[av,bg]at hi;omega
  subst this;decide
 ·intro i hi k z h
  have:i=1/\k=0:=by simp only[av,bg]at hi;omega
  obtain⟨rfl,rfl⟩:=this;exact absurd h (by decide)
def mnA:Man:=⟨[118],1,0,0,1099511627776,[dU im1,dU im2],[]⟩
theorem xcx:xis [118] 1 [im1,im2]=mnA:=by
 have h:fg (dU im2) [dU im1]=1:=by
  have:eo (dU im1) (dU im2)=true:=by unfold eo;rw[if_neg (by decide)];decide
  unfold fg;rw[if_pos this];rfl
 unfold xis gO mnA;rw[cx,cx,List.foldl_nil]
 have z:iX im1 []=[dU im1]:=by unfold iX lx;rw[if_neg (by decide),if_neg (by simp)];rfl
 have B:iX im2 [dU im1]=[dU im1,dU im2]:=by unfold iX lx;rw[if_neg (by decide),h,if_neg (by simp)];rfl
 rw[z,B]
theorem MM:jL mnA:=by
 refine⟨by decide,by show 2<=1000000;decide,by decide, ?_,fun x h=>by cases h⟩;intro x h;have:x=dU im1\/x=dU im2:=by simpa[mnA]using h
 rcases this with rfl|rfl
 ·exact⟨by decide,by show(sha _).length<=_;rw[eZ];decide⟩
 ·exact⟨by decide,by show(sha _).length<=_;rw[eZ];decide⟩
theorem ML:js mnA=0:=by
 have d1:((dU im1).dig.length:Int)=32:=by show((sha _).length:Int)=32;rw[eZ];rfl
 have d2:((dU im2).dig.length:Int)=32:=by show((sha _).length:Int)=32;rw[eZ];rfl
 have b:eo (dU im1) (dU im2)=true:=by unfold eo;rw[if_neg (by decide)];decide
 have B:mj [dU im1,dU im2] 0=0:=by unfold mj;simp only[bp];rw[if_neg (by decide),if_neg (by decide),if_neg (by decide),if_neg (by decide),if_pos d1,if_pos (by decide),if_pos trivial]
 have h:mj [dU im1,dU im2] 1=0:=by unfold mj;simp only[bF,bp];rw[if_neg (by decide),if_neg (by decide),if_neg (by decide),if_neg (by decide),if_pos d2,if_pos (by decide),if_neg (by decide),show([dU im1,dU im2].getD (1-1) en0)=dU im1 from rfl,if_pos b]
 have z:iv [dU im1,dU im2] 2 0=0:=by unfold iv;rw[if_pos B];unfold iv;rw[if_pos h];rfl
 unfold js mnA;simp only[av,bg];rw[if_pos (by decide),if_neg (by decide),if_neg (by decide),if_neg (by decide),if_neg (by decide),if_neg (by decide),if_neg (by decide),if_neg (by decide),if_neg (by decide),if_pos z];rfl
theorem MU{x:Img}(h:dD x=0):dl x≠ []:=fun e=>oH h (by rw[e];rfl)
theorem MJ{x:Img}(h:dD x=0):(ofI x 2).dg.getD 1 []=sha (dl x):=by unfold ofI q8;simp only;rw[if_neg (MU h)];rfl
theorem BW{x:Img}(h:dD x=0):itE (ofI x 2) (dU x)=true:=by unfold itE;rw[MJ h];simp only[ofI,dU,decide_true,Bool.and_self]
theorem xib:fq mnA (ofI im1 2)=0:=by unfold fq;rw[if_pos ML,if_pos (show(ofI im1 2).kind=1 from rfl)];unfold mnA hZ;rw[if_pos (BW x6)];rfl
theorem xia:fq mnA (ofI im2 2)=1:=by
 have h:itE (ofI im2 2) (dU im1)=false:=by unfold itE;rw[decide_eq_false (by decide:¬(ofI im2 2).reg=oa (dU im1).role)];rfl
 unfold fq;rw[if_pos ML,if_pos (show(ofI im2 2).kind=1 from rfl)];unfold mnA hZ;rw[if_neg (by rw[h];simp)];unfold hZ;rw[if_pos (BW x5)];rfl
theorem xkr(i:Int):q9 (mkV i 2 2 [0,0,0,0])=true:=by
 unfold q9;rw[if_neg (by show ¬(2:Int)=1;decide),if_pos (show(mkV i 2 2 [0,0,0,0]).kind=2 from rfl),if_pos (show(mkV i 2 2 [0,0,0,0]).data=[0,0,0,0]from rfl)]
 have h:(mkV i 2 2 [0,0,0,0]).dg=[[],sha [0,0,0,0]]:=by unfold mkV;rfl
 rw[h];show(kS true [] (jx [0,0,0,0])&&kS true (sha [0,0,0,0]) (sha [0,0,0,0]))=true;unfold kS;rw[if_neg (by decide),decide_eq_true rfl];split<;>rfl
def evA:List Ev:=[ofI im1 2,mkV 0 2 2 [0,0,0,0],mkV 1 2 2 [0,0,0,0],mkV 2 2 2 [0,0,0,0],mkV 3 2 2 [0,0,0,0],mkV 4 2 2 [0,0,0,0],mkV 5 2 2 [0,0,0,0],mkV 6 2 2 [0,0,0,0],mkV 7 2 2 [0,0,0,0],ofI im2 2]
theorem xc3:evF [im1,im2] 2=evA:=rfl
theorem xd6:hC [mnA] (ofI im1 2)=some (0,0):=by unfold hC;rw[if_neg (by show ¬(1:Int)=5;decide),if_neg (by show ¬(1:Int)=2;decide)];unfold frM;rw[xib];rfl
theorem xd5:hC [mnA] (ofI im2 2)=some (0,1):=by unfold hC;rw[if_neg (by show ¬(1:Int)=5;decide),if_neg (by show ¬(1:Int)=2;decide)];unfold frM;rw[xia];rfl
theorem xd4(i:Int):hC [mnA] (mkV i 2 2 [0,0,0,0])=some (-1, -1):=by unfold hC;rw[if_neg (by show ¬(2:Int)=5;decide),if_pos (show(mkV i 2 2 [0,0,0,0]).kind=2 from rfl),if_pos (xkr i)]
def rsA:List (Int×Int):=[(0,0),(-1, -1),(-1, -1),(-1, -1),(-1, -1),(-1, -1),(-1, -1),(-1, -1),(-1, -1),(0,1)]
theorem exA:(exV evA [mnA]).rs=rsA/\(exV evA [mnA]).at'=10/\exE evA [mnA]=0:=by
 have h:exV evA [mnA]=⟨⟨4,8,false,true,false,true,true,false⟩,10,rsA,0⟩:=by
  unfold exV evA;unfold exW;rw[if_pos (by decide),xd6];simp only
  iterate 8
   unfold exW;rw[if_pos (by decide),xd4];simp only
  unfold exW;rw[if_pos (by decide),xd5];simp only;unfold exW;rfl
 unfold exE;rw[h];exact⟨rfl,rfl,rfl⟩
theorem xkm:(exV evA []).rs=[]/\(exV evA []).at'=0/\exE evA []=47:=by
 have z:exV evA []=⟨w0,0,[],47⟩\/∃w,exV evA []=⟨w,0,[],47⟩:=by
  right;unfold exV evA;unfold exW;rw[if_pos (by decide)]
  have:hC [] (ofI im1 2)=none:=by unfold hC;rw[if_neg (by show ¬(1:Int)=5;decide),if_neg (by show ¬(1:Int)=2;decide)];rfl
  rw[this];exact⟨_,rfl⟩
 unfold exE;rcases z with h|⟨w,h⟩
 ·rw[h];exact⟨rfl,rfl,rfl⟩
 ·rw[h];exact⟨rfl,rfl,rfl⟩
theorem ckA:ckV evA [mnA] rsA=true:=by
 unfold ckV;rw[if_pos exA.2.2,if_pos (show(rsA.length:Int)=evA.length from rfl)]
 have z:ckO [mnA] (ofI im1 2) (0,0)=true:=by unfold ckO;rw[if_neg (by show ¬(1:Int)=5;decide),if_neg (by show ¬(1:Int)=2;decide),if_neg (by decide),if_neg (by decide),if_neg (by decide)];show decide (fq mnA (ofI im1 2)=0)=true;rw[xib];rfl
 have h:ckO [mnA] (ofI im2 2) (0,1)=true:=by unfold ckO;rw[if_neg (by show ¬(1:Int)=5;decide),if_neg (by show ¬(1:Int)=2;decide),if_neg (by decide),if_neg (by decide),if_neg (by decide)];show decide (fq mnA (ofI im2 2)=1)=true;rw[xia];rfl
 have B:∀i:Int,ckO [mnA] (mkV i 2 2 [0,0,0,0]) (-1, -1)=true:=by intro i;unfold ckO;rw[if_neg (by show ¬(2:Int)=5;decide),if_pos (show(mkV i 2 2 [0,0,0,0]).kind=2 from rfl)];rfl
 unfold evA rsA;unfold ckL;rw[if_pos z]
 iterate 8
  unfold ckL;rw[if_pos (B _)]
 unfold ckL;rw[if_pos h];rfl
theorem x8:nA evA:=by
 refine⟨by decide, ?_⟩
 have hi:∀x,dD x=0->Ey (ofI x 2):=by
  intro x z;have E:=(gV z).1;obtain⟨_,_,c0,c1,_,_⟩:=eA z;refine⟨?_, ?_, ?_, ?_⟩
  ·unfold ofI;exact uS _ _
  ·unfold ofI uD
   have:=kh 6 x.ver.toNat (by omega);have hn:=ks (eA z).2.2.2.2.1;simp only[ah,av];omega
  ·unfold ofI q8
   simp only;rw[if_neg (MU z)];show(if ly 2 0=true then jx (dl x)else []).length<=1000000;rw[if_neg (by decide)];exact cu _
  ·rw[MJ z,eZ];decide
 have h:∀i:Int,Ey (mkV i 2 2 [0,0,0,0]):=by
  intro i
  have B:(mkV i 2 2 [0,0,0,0]).dg=[[],sha [0,0,0,0]]:=by unfold mkV;rfl
  refine⟨?_, ?_, ?_, ?_⟩
  ·rw[B];rfl
  ·show([0,0,0,0]:t6).length<=_;decide
  ·rw[B];decide
  ·rw[B];show(sha _).length<=_;rw[eZ];decide
 intro e C;unfold evA at C;simp only[an,cj,or_false]at C;rcases C with rfl|rfl|rfl|rfl|rfl|rfl|rfl|rfl|rfl|rfl
 ·exact hi _ x6
 ·exact h _
 ·exact h _
 ·exact h _
 ·exact h _
 ·exact h _
 ·exact h _
 ·exact h _
 ·exact h _
 ·exact hi _ x5
theorem f10:call T 10 [] [] 0=some ⟨.bool true,[],[]⟩:=by
 have J:=f31 [im1,im2] BZ 2 (.inr (.inl rfl));rw[xc3]at J;have L:=f34 [im1,im2] BZ [118] 1;have Q:gO [im1,im2] []=[dU im1,dU im2]:=congrArg Man.ents xcx;rw[Q]at L
 have z:p6 [mnA]:=⟨by decide,fun m I=>by
  have:m=mnA:=by simpa using I
  rw[this];exact MM⟩
 have B:p6 []:=⟨by decide,fun m I=>by cases I⟩;have h:=f12 2 0 evA x8 [mnA] z;have C:=f12 2 0 evA x8 [] B;have F:=f16 2 0 evA x8 [mnA] z rsA;have W:=xjW mnA MM rsA (by decide) ⟨(0,0),by simp[rsA],rfl⟩;unfold exS at h C;obtain⟨Z,a2,a3⟩:=exA;obtain⟨b1,b2,b3⟩:=xkm;rw[Z,a2,a3]at h;rw[b1,b2,b3]at C;rw[ckA]at F;have S:=kJ rsA;have hl:rsA.length=10:=rfl;have U:=rK rsA 9 (by decide);have O:rsA.getD 9 (0,0)=(0,1):=rfl;rw[O]at U;rw[hl]at S;have i1:eP [im1,im2]=[[.int .i64 1,.str [102],.int .i64 0,.byt [] .no],[.int .i64 3,.str [107],.int .i64 0,.byt [] .no]]:=rfl;rw[i1]at J L;have m1:ld [mnA]=[mnA.sv]:=rfl;have m0:ld []=[]:=rfl;rw[m1]at h F;rw[m0]at C;have H:mnA.sv=[.str [118],.int .i64 1,.int .i64 0,.int .i64 0,.int .i64 1099511627776,.lst 4 (cO [dU im1,dU im2]) .no,.lst 4 [] .no]:=rfl;rw[H]at h F W;generalize cO [dU im1,dU im2]=E at*;generalize eG evA=V at*;generalize rsv rsA=R at*;generalize uT mnA=D at*;have r0:rsv []=[]:=rfl;rw[r0]at C;rw[az xlp];simp only[go_sem,Q0,Q1,Q2,Q3,Q4,Q5,Q6,Q7,Q8,Q9,Qa,Qb,Qc,Qd,Qe,Qf,Qg,Qh,Qi,Qj,Qk,reduceCtorEq,reduceIte,J,Rb,L,xlE,h,C,wS,c10,c0,S,U,F,xlG,W,xlF,np]
end Go.Proofs.YtdafipacemgcoaaGreatDoor
