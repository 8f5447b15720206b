/- Contracts. No condition. -/
import Derived.Test.YtkcjdeofknkndaaGreatDoorTjDE
import Derived.Test.YtkcjdeofknkndaaGreatDoorTmDE
open Int renaming natCast_zero -> aB
open Go.IntKind renaming i64 -> af, u64 -> aQ, wrap_u64 -> bK
open List renaming append_assoc -> av, append_nil -> bw, drop_eq_getElem_cons -> aM, drop_length -> ba, drop_zero -> aV, foldl_cons -> bS, foldl_nil -> fp, getD_eq_getElem?_getD -> aa, getElem?_eq_getElem -> ab, length_append -> ac, length_singleton -> aH, nil_append -> aG, singleton_append -> eo, take_length -> bi, take_of_length_le -> bB
open Nat renaming le_refl -> aN
open UInt8 renaming ofInt -> ct
set_option maxRecDepth 100000
set_option maxHeartbeats 16000000
set_option linter.unusedSimpArgs false
set_option linter.unusedVariables false
namespace Go.Proofs.YtkcjdeofknkndaaGreatDoor
open Go.Sy
open UInt8 renaming reduceLT -> Q0, reduceLE -> Q1
open Int renaming reduceToNat -> Q2, reduceLE -> Q3, reduceLT -> Q4, reduceEq -> Q5, reduceNe -> Q6, reduceNeg -> Q7, reduceAdd -> Q8, reduceSub -> Q9, reduceMul -> Qa
open Nat renaming reducePow -> Qb, reduceDiv -> Qc, reduceMod -> Qd, reduceAdd -> Qe, reduceSub -> Qf, reduceMul -> Qg, reduceLT -> Qh, reduceLeDiff -> Qi, reduceEqDiff -> Qj, reduceBEq -> Qk
theorem Ey:Tv.sg 57= {}:=CJ
theorem P5:Tv.sg 56= {}:=O0
theorem xjJ:Tv.sg 14= {}:=Ti
theorem xmt(v:Int):∀(k:Nat)(y:t7),k<=8->y.length+k<=100000000000000->
 run Tv (.loop H7) ⟨[(2,.int .i64 v),(7,.psl 107 1 0 y.length none),(8,.int .i64 ((k:Int)-1))],[(107,.bar y)],[]⟩=
 some (.x 0,⟨[(7,.psl 107 1 0 (y.length+k) none)],[(107,.bar (y++be k (aQ.wrap v)))],[]⟩):=by
 intro k;induction k with
 |zero=>
  intro y O h;rw[ai];have E:¬(0:Int)<=((0:Nat):Int)-1:=by omega
  simp only[go_sem,Q0,Q1,Q2,Q3,Q4,Q5,Q6,Q7,Q8,Q9,Qa,Qb,Qc,Qd,Qe,Qf,Qg,Qh,Qi,Qj,Qk,reduceCtorEq,reduceIte,E,be,bw]
 |succ k I=>
  intro y O h;have z:=I (y++ [gq (aQ.wrap v) (8*k)]) (by omega) (by rw[ac,aH];omega);have c1:(y.length+1)*1<=140737488355328:=by omega
  have E:(0:Int)<=((k+1:Nat):Int)-1:=by omega
  have L:aQ.wrap (((k+1:Nat):Int)-1)=(k:Int):=by rw[bK];omega
  have C:aQ.wrap (8*(k:Int))=((8*k:Nat):Int):=by rw[bK];omega
  have F:af.wrap (((k+1:Nat):Int)-1-1)=(k:Int)-1:=wZ (by omega)
  have H:min (8*k) 64=8*k:=by omega
  have J:y.length+(k+1)=y.length+1+k:=by omega
  rw[av,eo,ac,aH]at z;rw[ai,J];unfold gq at z;simp only[go_sem,Q0,Q1,Q2,Q3,Q4,Q5,Q6,Q7,Q8,Q9,Qa,Qb,Qc,Qd,Qe,Qf,Qg,Qh,Qi,Qj,Qk,reduceCtorEq,reduceIte,bi,c1,E,L,C,F,H,be,gq,z]
theorem xk8(B:t7)(k:Nat)(v:Int)(E:1<=k)(y:k<=8)(F:B.length<=10000000000000)(z:¬B=[]):
 call Tv 57 [.byt B .no,.int .i64 k,.int .i64 v] [] 0=some ⟨.psl 100 1 0 (B.length+k) none,[(100,.bar (B++bu k v))],[]⟩:=by
 have g:=xmt v k B y (by omega);have c1:¬(k:Int)<1:=by omega
 have c2:¬(8:Int)<k:=by omega
 have C:af.wrap ((k:Int)-1)=(k:Int)-1:=w64 (by omega) (by omega);have h:B.length<=140737488355328:=by omega
 unfold bu;rw[an xiS];simp only[go_sem,Q0,Q1,Q2,Q3,Q4,Q5,Q6,Q7,Q8,Q9,Qa,Qb,Qc,Qd,Qe,Qf,Qg,Qh,Qi,Qj,Qk,reduceCtorEq,reduceIte,bi,c1,c2,C,h,z,g]
theorem xm1(B X:t7)(H:B.length<=1000000000000)(z:¬B=[])(hX:X.length<=65535):call Tv 56 [.byt B .no,.byt X .no] [] 0=some ⟨.psl 100 1 0 (B.length+2+X.length) none,[(100,.bar (eA B X))],[]⟩:=by
 have g:=xk8 B 2 (X.length:Int) (by decide) (by decide) (by omega) z;rw[show((2:Nat):Int)=2 from rfl]at g;have c1:¬(65535:Int)<(X.length:Int):=by omega
 have F:X.take 65535=X:=bB hX;have C:(B++bu 2 (X.length:Int)).length=B.length+2:=by rw[ac,bM]
 have h:(B++bu 2 (X.length:Int)).take (B.length+2)=B++bu 2 (X.length:Int):=bB (by omega);have E:eA B X=B++bu 2 (X.length:Int)++X:=by unfold eA bu;rw[F]
 have y:(B.length+2+X.length)*1<=140737488355328:=by omega
 have c5:B.length+2<=B.length+2:=aN _;rw[E];generalize B++bu 2 (X.length:Int)=A at*;rw[an xiT];simp only[go_sem,Q0,Q1,Q2,Q3,Q4,Q5,Q6,Q7,Q8,Q9,Qa,Qb,Qc,Qd,Qe,Qf,Qg,Qh,Qi,Qj,Qk,reduceCtorEq,reduceIte,c1,g,Ey,C,h,y,c5]
theorem ED(B:t7)(k:Nat)(v:Int)(z:1<=k)(C:k<=8)(y:B.length<=10000000000000)(h:¬B=[]):
 call Tv 57 [.byt B .no,.int .i64 k,.int .i64 v] [] 0=some ⟨.psl 100 1 0 (B++bu k v).length none,[(100,.bar (B++bu k v))],[]⟩:=by
 rw[ac,bM];exact xk8 B k v z C y h
theorem xfO(B X:t7)(y:B.length<=1000000000000)(h:¬B=[])(hX:X.length<=65535):call Tv 56 [.byt B .no,.byt X .no] [] 0=some ⟨.psl 100 1 0 (eA B X).length none,[(100,.bar (eA B X))],[]⟩:=by
 have e:(eA B X).length=B.length+2+X.length:=by rw[mE _ _ (by omega),ac,ac,bM];omega
 rw[e];exact xm1 B X y h hX
theorem eu{B X:t7}(h:¬B=[]):¬B++X=[]:=fun e=>h (List.append_eq_nil_iff.1 e).1
theorem mC{B X:t7}(h:¬B=[]):¬eA B X=[]:=by unfold eA;exact eu (eu h)
theorem To(B:t7)(x:UInt8):(B++ [x]).take (B.length+1)=B++ [x]:=bB (by rw[ac,aH];omega)
theorem xgt(m:Man)(h:dV m)(i:Nat)(hi:i<m.ents.length)(F:(m.ents.getD i en0).name.length<=12)(B:t7)(hB:B.length<=1000000000)(H:¬B=[]):
 run Tv (.loop oA) ⟨[(1,.ptr 101 0),(3,.psl 103 1 0 B.length none),(4,.int .i64 i)],[(101,.rc m.sv),(103,.bar B)],[]⟩=
 run Tv (.loop oA) ⟨[(1,.ptr 101 0),(3,.psl 103 1 0 (iU B (m.ents.getD i en0)).length none),(4,.int .i64 ((i+1:Nat):Int))],[(101,.rc m.sv),(103,.bar (iU B (m.ents.getD i en0)))],[]⟩:=by
 have O:((4:Nat):Int)=4:=rfl;have a1:=h.en;have I:=bW i (by omega);have W:=df m.ents i hi;have y:=bL m.ents;obtain⟨Z,a0⟩:=h.e _ (cf m.ents en0 i hi);clear h;generalize m.ents.getD i en0=x at*;unfold iU;have n1:(B++bu 1 x.role).length<=1000000001:=by rw[ac,bM];omega
 have J:(B.length+1)*1<=140737488355328:=by omega
 have C:=xfO (B++bu 1 x.role) x.name (by omega) (eu H) (by omega);have n2:(eA (B++bu 1 x.role) x.name).length<=1010000000:=by rw[dj];omega
 have T:¬eA (B++bu 1 x.role) x.name=[]:=mC (eu H);generalize eA (B++bu 1 x.role) x.name=z at*;rw[jc]at C;have L:=To B (ct x.role);have E:=ED z 4 x.ver (by omega) (by omega) (by omega) T;rw[O]at E;have n3:(z++bu 4 x.ver).length<=1010000004:=by rw[ac,bM];omega
 generalize z++bu 4 x.ver=Q at*;have U:(Q.length+x.dig.length)*1<=140737488355328:=by omega
 obtain⟨mv,m1,m2,m3,m4,es,rs⟩:=m;obtain⟨x1,x2,x3,x4⟩:=x;simp only[Man.sv,Ent.sv]at*
 conv=>lhs;rw[ai]
 simp only[go_sem,Q0,Q1,Q2,Q3,Q4,Q5,Q6,Q7,Q8,Q9,Qa,Qb,Qc,Qd,Qe,Qf,Qg,Qh,Qi,Qj,Qk,reduceCtorEq,reduceIte,bi,hi,I,W,y,J,C,E,U,L,Ey,P5]
theorem xii(m:Man)(E:dV m)(h:∀x∈m.ents,x.name.length<=12)(O:m.ents.length<=16):∀(n i:Nat)(B:t7),m.ents.length-i=n->i<=m.ents.length->B.length<=20000000+i*2000007->¬B=[]->
 ¬(m.ents.drop i).foldl iU B=[]/\run Tv (.loop oA) ⟨[(1,.ptr 101 0),(3,.psl 103 1 0 B.length none),(4,.int .i64 i)],[(101,.rc m.sv),(103,.bar B)],[]⟩=
 some (.x 0,⟨[(1,.ptr 101 0),(3,.psl 103 1 0 ((m.ents.drop i).foldl iU B).length none)],[(101,.rc m.sv),(103,.bar ((m.ents.drop i).foldl iU B))],[]⟩):=by
 intro n;induction n with
 |zero=>
  intro i B L J I y;have H:=bL m.ents;have:i=m.ents.length:=by omega
  subst this;rw[ba,fp];refine⟨y, ?_⟩;rw[ai];clear E h;obtain⟨T,U,W,m3,m4,es,rs⟩:=m;simp only[Man.sv]at*;simp only[go_sem,Q0,Q1,Q2,Q3,Q4,Q5,Q6,Q7,Q8,Q9,Qa,Qb,Qc,Qd,Qe,Qf,Qg,Qh,Qi,Qj,Qk,reduceCtorEq,reduceIte,H]
 |succ n Q=>
  intro i B L J I y;have hi:i<m.ents.length:=by omega
  have C:m.ents.drop i=m.ents.getD i en0::m.ents.drop (i+1):=by rw[aM hi,aa,ab hi];rfl
  obtain⟨z,F⟩:=E.e _ (cf m.ents en0 i hi);have Z:=mf B (m.ents.getD i en0) z F;rw[xgt m E i hi (h _ (cf m.ents en0 i hi)) B (by omega) y,C,bS];exact Q (i+1) _ (by omega) (by omega) (by omega) (by unfold iU;exact eu (eu (mC (eu y))))
theorem xgs(m:Man)(L:∀x∈m.ruls,x.text.length<=32)(hn:m.ruls.length<=1000000)(i:Nat)(hi:i<m.ruls.length)(B:t7)(hB:B.length<=1000000000)(I:¬B=[]):
 run Tv (.loop oz) ⟨[(1,.ptr 101 0),(3,.psl 103 1 0 B.length none),(6,.int .i64 i)],[(101,.rc m.sv),(103,.bar B)],[]⟩=
 run Tv (.loop oz) ⟨[(1,.ptr 101 0),(3,.psl 103 1 0 (iI B (m.ruls.getD i rl0)).length none),(6,.int .i64 ((i+1:Nat):Int))],[(101,.rc m.sv),(103,.bar (iI B (m.ruls.getD i rl0)))],[]⟩:=by
 have C:((4:Nat):Int)=4:=rfl;have O:=bW i (by omega);have U:=gC m.ruls i hi;have y:=cK m.ruls;have W:=L _ (cf m.ruls rl0 i hi);clear L;generalize m.ruls.getD i rl0=x at*;unfold iI;have n1:(B++bu 1 x.kind).length<=1000000001:=by rw[ac,bM];omega
 have Q:(B.length+1)*1<=140737488355328:=by omega
 have z:=xfO (B++bu 1 x.kind) x.text (by omega) (eu I) (by omega);have n2:(eA (B++bu 1 x.kind) x.text).length<=1010000000:=by rw[dj];omega
 have J:¬eA (B++bu 1 x.kind) x.text=[]:=mC (eu I);generalize eA (B++bu 1 x.kind) x.text=h at*;rw[jc]at z;have T:=To B (ct x.kind);have F:=ED h 4 x.lo (by omega) (by omega) (by omega) J;rw[C]at F;have n3:(h++bu 4 x.lo).length<=1010000004:=by rw[ac,bM];omega
 have Z:¬h++bu 4 x.lo=[]:=eu J;generalize h++bu 4 x.lo=H at*;have E:=ED H 4 x.hi (by omega) (by omega) (by omega) Z;rw[C]at E;generalize H++bu 4 x.hi=B4 at*;obtain⟨mv,m1,m2,m3,m4,es,rs⟩:=m;obtain⟨x1,x2,x3,x4⟩:=x;simp only[Rul.sv,Man.sv]at*
 conv=>lhs;rw[ai]
 simp only[go_sem,Q0,Q1,Q2,Q3,Q4,Q5,Q6,Q7,Q8,Q9,Qa,Qb,Qc,Qd,Qe,Qf,Qg,Qh,Qi,Qj,Qk,reduceCtorEq,reduceIte,bi,hi,O,U,y,Q,z,F,E,T,Ey,P5]
theorem xih(m:Man)(h:∀x∈m.ruls,x.text.length<=32)(hn:m.ruls.length<=8):∀(n i:Nat)(B:t7),m.ruls.length-i=n->i<=m.ruls.length->B.length<=100000000+i*2000007->¬B=[]->
 run Tv (.loop oz) ⟨[(1,.ptr 101 0),(3,.psl 103 1 0 B.length none),(6,.int .i64 i)],[(101,.rc m.sv),(103,.bar B)],[]⟩=
 some (.x 2,⟨[(3,.psl 103 1 0 ((m.ruls.drop i).foldl iI B).length none)],[(101,.rc m.sv),(103,.bar ((m.ruls.drop i).foldl iI B))],[]⟩):=by
 intro n;induction n with
 |zero=>
  intro i B H F E z;have C:=cK m.ruls;have:i=m.ruls.length:=by omega
  subst this;rw[ba,fp,ai];clear h;obtain⟨J,L,O,m3,T,es,rs⟩:=m;simp only[Man.sv]at*;simp only[go_sem,Q0,Q1,Q2,Q3,Q4,Q5,Q6,Q7,Q8,Q9,Qa,Qb,Qc,Qd,Qe,Qf,Qg,Qh,Qi,Qj,Qk,reduceCtorEq,reduceIte,C]
 |succ n I=>
  intro i B H F E z;have hi:i<m.ruls.length:=by omega
  have y:m.ruls.drop i=m.ruls.getD i rl0::m.ruls.drop (i+1):=by rw[aM hi,aa,ab hi];rfl
  have Q:=lW B (m.ruls.getD i rl0) (by have:=h _ (cf m.ruls rl0 i hi);omega);rw[xgs m h (by omega) i hi B (by omega) z,y,bS];exact I (i+1) _ (by omega) (by omega) (by omega) (by unfold iI;exact eu (eu (mC (eu z))))
theorem xm3(m:Man)(H:dV m)(h:fj m=0):call Tv 20 [.agg m.sv] [] 0=some ⟨.psl 100 1 0 (fX m).length none,[(100,.bar (fX m))],[]⟩:=by
 have g1:=upv (f14 m H);have k4:((4:Nat):Int)=4:=rfl;have k6:((6:Nat):Int)=6:=rfl;have W:=bL m.ents;have U:=cK m.ruls;obtain⟨-, -,b2,a7,a3, -, -, -, -, -, -⟩:=mq h;have a8:=(gh a3).2;have z:∀x∈m.ents,x.name.length<=12:=fun x Z=>(pG h x Z).n
 have C:∀x∈m.ruls,x.text.length<=32:=fun x Z=>(pF h x Z).n
 obtain⟨a4,h8⟩:=gW h;rw[h]at g1;unfold fX;rw[if_pos h];unfold hdM;have a2:bu 1 21=[21]:=by rw[jc];rfl
 have u2:=xfO [21] m.vendor (by simp) (by simp) (by omega);rw[a2,aG];have z2:¬eA [21] m.vendor=[]:=mC (by simp);generalize a1:eA [21] m.vendor=Q at*;have n2:Q.length<=10000000:=by rw[<-a1,dj];simp;omega
 have u3:=ED Q 4 m.ver (by omega) (by omega) (by omega) z2;rw[k4]at u3;have z3:¬Q++bu 4 m.ver=[]:=eu z2;generalize a6:Q++bu 4 m.ver=J at*;have n3:J.length<=10000004:=by rw[<-a6,ac,bM];omega
 have u4:=ED J 4 m.flr (by omega) (by omega) (by omega) z3;rw[k4]at u4;have z4:¬J++bu 4 m.flr=[]:=eu z3;generalize a5:J++bu 4 m.flr=F at*;have n4:F.length<=10000008:=by rw[<-a5,ac,bM];omega
 have u5:=ED F 6 m.frm (by omega) (by omega) (by omega) z4;rw[k6]at u5;have z5:¬F++bu 6 m.frm=[]:=eu z4;generalize a0:F++bu 6 m.frm=L at*;have n5:L.length<=10000014:=by rw[<-a0,ac,bM];omega
 have u6:=ED L 6 m.til (by omega) (by omega) (by omega) z5;rw[k6]at u6;have z6:¬L++bu 6 m.til=[]:=eu z5;generalize T:L++bu 6 m.til=y at*;have n6:y.length<=10000020:=by rw[<-T,ac,bM];omega
 have r6:(y.length+1)*1<=140737488355328:=by omega
 have n7:(y++bu 1 (m.ents.length:Int)).length<=10000021:=by rw[ac,bM];omega
 obtain⟨z8,E⟩:=xii m H z a4 _ 0 (y++bu 1 (m.ents.length:Int)) rfl (by omega) (by omega) (eu z6);have n8:=iS m.ents (y++bu 1 (m.ents.length:Int)) H.e;rw[aV,aB]at E;rw[aV]at z8;generalize m.ents.foldl iU (y++bu 1 (m.ents.length:Int))=I at*;rw[jc]at E;have r8:(I.length+1)*1<=140737488355328:=by omega
 have n9:(I++bu 1 (m.ruls.length:Int)).length<=10000022+16*2000007:=by rw[ac,bM];omega
 have O:=xih m C h8 _ 0 (I++bu 1 (m.ruls.length:Int)) rfl (by omega) (by omega) (eu z8);rw[aV,aB]at O;generalize m.ruls.foldl iI (I++bu 1 (m.ruls.length:Int))=a9 at*;rw[jc]at O;rw[ac,aH]at E O;clear z C H;obtain⟨mv,m1,m2,m3,m4,es,rs⟩:=m;simp only[Man.sv]at*;rw[an xiU];simp only[go_sem,Q0,Q1,Q2,Q3,Q4,Q5,Q6,Q7,Q8,Q9,Qa,Qb,Qc,Qd,Qe,Qf,Qg,Qh,Qi,Qj,Qk,reduceCtorEq,reduceIte,bi,g1,xjJ,u2,u3,u4,u5,u6,Ey,P5,W,r6,E,r8,U,O]
end Go.Proofs.YtkcjdeofknkndaaGreatDoor
