/- What the functions come to. No condition. -/
import Derived.Test.YtkggincjigbelaaGreatDoorTpB
import Derived.Test.YtkggincjigbelaaGreatDoorTqB
open Int renaming natCast_zero -> aw
open Go.IntKind renaming u64 -> aN, wrap_u64 -> bH
open List renaming drop_eq_getElem_cons -> bF, drop_length -> bG, drop_zero -> bj, foldl_cons -> fM, getD_eq_getElem?_getD -> aa, getElem?_eq_getElem -> ab, length_append -> ac, nil_append -> az
open UInt8 renaming ofInt -> bK
set_option maxRecDepth 100000
set_option maxHeartbeats 16000000
set_option linter.unusedSimpArgs false
set_option linter.unusedVariables false
namespace Go.Proofs.YtkggincjigbelaaGreatDoor
open Go.Sy
open UInt8 renaming reduceLT -> Q0, reduceLE -> Q1
open Int renaming reduceToNat -> Q2, reduceLE -> Q3, reduceLT -> Q4, reduceEq -> Q5, reduceNe -> Q6, reduceNeg -> Q7, reduceAdd -> Q8, reduceSub -> Q9, reduceMul -> Qa
open Nat renaming reducePow -> Qb, reduceDiv -> Qc, reduceMod -> Qd, reduceAdd -> Qe, reduceSub -> Qf, reduceMul -> Qg, reduceLT -> Qh, reduceLeDiff -> Qi, reduceEqDiff -> Qj, reduceBEq -> Qk
theorem xo2(v:Int):bK (Int.fdiv (aN.wrap v) (2^0))=bK v:=by
 rw[show(2:Int)^0=1 from rfl,Int.fdiv_one,bH];unfold bK
 congr 2
 omega
theorem qH(v:Int):bu 1 v=[bK v]:=by rw[<-xo2 v];rfl
theorem Eo(B:List UInt8)(k:Nat)(v:Int)(h1:1<=k)(h8:k<=8)(hB:B.length<=10000000000000):
 call T 45 [.byt B .no,.int .i64 k,.int .i64 v] [] 0=some ⟨.byt (B++bu k v) (.id 60),[],[60]⟩:=f45 B k v h1 h8 hB
def tkR:Bool->Bool->List Nat
 |false,false=> [103,16060,20060,24060,28060]
 |true,false=> [103,16060,20060,24060,28060,61060]
 |false,true=> [103,16060,20060,24060,28060,97060]
 |true,true=> [103,16060,20060,24060,28060,61060,97060]
theorem xm0(m:Man)(hm:iq m)(b:Bool)(i:Nat)(hi:i<m.ents.length)(B:List UInt8)(hB:B.length<=1000000000):
 run T (.loop qk) ⟨[(1,.ptr 101 0),(3,.byt B (.id 103)),(4,.int .i64 i)],[(101,.rc m.sv)],tkR b false⟩=
 run T (.loop qk) ⟨[(1,.ptr 101 0),(3,.byt (qC B (m.ents.getD i en0)) (.id 103)),(4,.int .i64 ((i+1:Nat):Int))],[(101,.rc m.sv)],tkR true false⟩:=by
 have k4:((4:Nat):Int)=4:=rfl;have hen:=hm.en;have e1:=cA i (by omega);have hg:=kv m.ents i hi;have hel:=eV m.ents;obtain⟨hxn,hxd⟩:=hm.e _ (eM m.ents en0 i hi);clear hm;generalize m.ents.getD i en0=x at*;unfold qC;have n1:(B++bu 1 x.role).length<=1000000001:=by rw[ac,cZ];omega
 have n0:B.length+1<=140737488355328:=by omega
 have u2:=f82 (B++bu 1 x.role) x.name (by omega) (by omega);have n2:(lF (B++bu 1 x.role) x.name).length<=1010000000:=by rw[gG];omega
 generalize lF (B++bu 1 x.role) x.name=B2 at*;rw[qH]at u2;have u3:=Eo B2 4 x.ver (by omega) (by omega) (by omega);rw[k4]at u3;have n3:(B2++bu 4 x.ver).length<=1010000004:=by rw[ac,cZ];omega
 generalize B2++bu 4 x.ver=B3 at*;have n4:B3.length+x.dig.length<=140737488355328:=by omega
 obtain⟨mv,m1,m2,m3,m4,es,rs⟩:=m;obtain⟨x1,x2,x3,x4⟩:=x;simp only[Man.sv,Ent.sv]at*;cases b with
 |false=>rw[ai];simp only[tkR];simp only[go_sem,Q0,Q1,Q2,Q3,Q4,Q5,Q6,Q7,Q8,Q9,Qa,Qb,Qc,Qd,Qe,Qf,Qg,Qh,Qi,Qj,Qk,reduceCtorEq,reduceIte,hi,e1,hg,hel,n0,u2,u3,n4,Cl,SU]
 |true=>rw[ai];simp only[tkR];simp only[go_sem,Q0,Q1,Q2,Q3,Q4,Q5,Q6,Q7,Q8,Q9,Qa,Qb,Qc,Qd,Qe,Qf,Qg,Qh,Qi,Qj,Qk,reduceCtorEq,reduceIte,hi,e1,hg,hel,n0,u2,u3,n4,Cl,SU]
theorem xnC(m:Man)(hm:iq m)(h16:m.ents.length<=16):∀(n i:Nat)(b:Bool)(B:List UInt8),m.ents.length-i=n->i<=m.ents.length->B.length<=20000000+i*2000007->
 ∃b',run T (.loop qk) ⟨[(1,.ptr 101 0),(3,.byt B (.id 103)),(4,.int .i64 i)],[(101,.rc m.sv)],tkR b false⟩=
 some (.x 0,⟨[(1,.ptr 101 0),(3,.byt ((m.ents.drop i).foldl qC B) (.id 103))],[(101,.rc m.sv)],tkR b' false⟩):=by
 intro n;induction n with
 |zero=>
  intro i b B h0 h1 h2;have hel:=eV m.ents;have:i=m.ents.length:=by omega
  subst this;refine⟨b, ?_⟩;rw[bG,List.foldl_nil,ai];obtain⟨mv,m1,m2,m3,m4,es,rs⟩:=m;simp only[Man.sv]at*;cases b with
  |false=>simp only[tkR];simp only[go_sem,Q0,Q1,Q2,Q3,Q4,Q5,Q6,Q7,Q8,Q9,Qa,Qb,Qc,Qd,Qe,Qf,Qg,Qh,Qi,Qj,Qk,reduceCtorEq,reduceIte,hel]
  |true=>simp only[tkR];simp only[go_sem,Q0,Q1,Q2,Q3,Q4,Q5,Q6,Q7,Q8,Q9,Qa,Qb,Qc,Qd,Qe,Qf,Qg,Qh,Qi,Qj,Qk,reduceCtorEq,reduceIte,hel]
 |succ n ih=>
  intro i b B h0 h1 h2;have hi:i<m.ents.length:=by omega
  have hdr:m.ents.drop i=m.ents.getD i en0::m.ents.drop (i+1):=by rw[bF hi,aa,ab hi];rfl
  obtain⟨hxn,hxd⟩:=hm.e _ (eM m.ents en0 i hi);have hl:=wi B (m.ents.getD i en0) hxn hxd;rw[xm0 m hm b i hi B (by omega),hdr,fM];exact ih (i+1) true _ (by omega) (by omega) (by omega)
theorem xmZ(m:Man)(hr:∀x∈m.ruls,x.text.length<=1000000)(hn:m.ruls.length<=1000000)(b c:Bool)(i:Nat)(hi:i<m.ruls.length)(B:List UInt8)(hB:B.length<=1000000000):
 run T (.loop qj) ⟨[(1,.ptr 101 0),(3,.byt B (.id 103)),(6,.int .i64 i)],[(101,.rc m.sv)],tkR b c⟩=
 run T (.loop qj) ⟨[(1,.ptr 101 0),(3,.byt (nS B (m.ruls.getD i rl0)) (.id 103)),(6,.int .i64 ((i+1:Nat):Int))],[(101,.rc m.sv)],tkR b true⟩:=by
 have k4:((4:Nat):Int)=4:=rfl;have e1:=cA i (by omega);have hg:=pu m.ruls i hi;have hel:=eD m.ruls;have hxn:=hr _ (eM m.ruls rl0 i hi);clear hr;generalize m.ruls.getD i rl0=x at*;unfold nS;have n1:(B++bu 1 x.kind).length<=1000000001:=by rw[ac,cZ];omega
 have n0:B.length+1<=140737488355328:=by omega
 have u2:=f82 (B++bu 1 x.kind) x.text (by omega) (by omega);have n2:(lF (B++bu 1 x.kind) x.text).length<=1010000000:=by rw[gG];omega
 generalize lF (B++bu 1 x.kind) x.text=B2 at*;rw[qH]at u2;have u3:=Eo B2 4 x.lo (by omega) (by omega) (by omega);rw[k4]at u3;have n3:(B2++bu 4 x.lo).length<=1010000004:=by rw[ac,cZ];omega
 generalize B2++bu 4 x.lo=B3 at*;have u4:=Eo B3 4 x.hi (by omega) (by omega) (by omega);rw[k4]at u4;obtain⟨mv,m1,m2,m3,m4,es,rs⟩:=m;obtain⟨x1,x2,x3,x4⟩:=x;simp only[Rul.sv,Man.sv]at*
 cases b<;>cases c<;>
  (rw[ai]
   simp only[tkR];simp only[go_sem,Q0,Q1,Q2,Q3,Q4,Q5,Q6,Q7,Q8,Q9,Qa,Qb,Qc,Qd,Qe,Qf,Qg,Qh,Qi,Qj,Qk,reduceCtorEq,reduceIte,hi,e1,hg,hel,n0,u2,u3,u4,Cl,SU])
theorem xnB(m:Man)(hr:∀x∈m.ruls,x.text.length<=1000000)(hn:m.ruls.length<=8)(b:Bool):∀(n i:Nat)(c:Bool)(B:List UInt8),m.ruls.length-i=n->i<=m.ruls.length->B.length<=100000000+i*2000007->
 ∃c',run T (.loop qj) ⟨[(1,.ptr 101 0),(3,.byt B (.id 103)),(6,.int .i64 i)],[(101,.rc m.sv)],tkR b c⟩=
 some (.x 2,⟨[(3,.byt ((m.ruls.drop i).foldl nS B) (.id 103))],[(101,.rc m.sv)],tkR b c'⟩):=by
 intro n;induction n with
 |zero=>
  intro i c B h0 h1 h2;have hel:=eD m.ruls;have:i=m.ruls.length:=by omega
  subst this;refine⟨c, ?_⟩;rw[bG,List.foldl_nil,ai];obtain⟨mv,m1,m2,m3,m4,es,rs⟩:=m;simp only[Man.sv]at*;cases b<;>cases c<;>(simp only[tkR];simp only[go_sem,Q0,Q1,Q2,Q3,Q4,Q5,Q6,Q7,Q8,Q9,Qa,Qb,Qc,Qd,Qe,Qf,Qg,Qh,Qi,Qj,Qk,reduceCtorEq,reduceIte,hel])
 |succ n ih=>
  intro i c B h0 h1 h2;have hi:i<m.ruls.length:=by omega
  have hdr:m.ruls.drop i=m.ruls.getD i rl0::m.ruls.drop (i+1):=by rw[bF hi,aa,ab hi];rfl
  have hl:=vp B (m.ruls.getD i rl0) (hr _ (eM m.ruls rl0 i hi));rw[xmZ m hr (by omega) b c i hi B (by omega),hdr,fM];exact ih (i+1) true _ (by omega) (by omega) (by omega)
theorem f53(m:Man)(hm:iq m):call T 53 [.agg m.sv] [] 0=some ⟨.byt (wh m) .no,[],[]⟩:=by
 have g1:=f81 m hm;have k4:((4:Nat):Int)=4:=rfl;have k6:((6:Nat):Int)=6:=rfl;have hvl:=hm.v;have hrn:=hm.rn;have hel:=eV m.ents;have hrl:=eD m.ruls;unfold wh
 by_cases hv:gS m=0
 ·obtain⟨h16,h8⟩:=kL hv
  rw[hv]at g1;rw[if_pos hv];unfold hdM;have b21:bu 1 21=[21]:=by rw[qH];rfl
  have u2:=f82 [21] m.vendor (by simp) (by omega);rw[b21,az];generalize hB2:lF [21] m.vendor=B2 at*;have n2:B2.length<=10000000:=by rw[<-hB2,gG];simp;omega
  have u3:=Eo B2 4 m.ver (by omega) (by omega) (by omega);rw[k4]at u3;generalize hB3:B2++bu 4 m.ver=B3 at*;have n3:B3.length<=10000004:=by rw[<-hB3,ac,cZ];omega
  have u4:=Eo B3 4 m.flr (by omega) (by omega) (by omega);rw[k4]at u4;generalize hB4:B3++bu 4 m.flr=B4 at*;have n4:B4.length<=10000008:=by rw[<-hB4,ac,cZ];omega
  have u5:=Eo B4 6 m.frm (by omega) (by omega) (by omega);rw[k6]at u5;generalize hB5:B4++bu 6 m.frm=B5 at*;have n5:B5.length<=10000014:=by rw[<-hB5,ac,cZ];omega
  have u6:=Eo B5 6 m.til (by omega) (by omega) (by omega);rw[k6]at u6;generalize hB6:B5++bu 6 m.til=B6 at*;have n6:B6.length<=10000020:=by rw[<-hB6,ac,cZ];omega
  have r6:B6.length+1<=140737488355328:=by omega
  have n7:(B6++bu 1 (m.ents.length:Int)).length<=10000021:=by rw[ac,cZ];omega
  obtain⟨b,la⟩:=xnC m hm h16 _ 0 false (B6++bu 1 (m.ents.length:Int)) rfl (by omega) (by omega);have n8:=mM m.ents (B6++bu 1 (m.ents.length:Int)) hm.e;rw[bj,aw]at la;generalize m.ents.foldl qC (B6++bu 1 (m.ents.length:Int))=B8 at*;rw[qH]at la;have r8:B8.length+1<=140737488355328:=by omega
  have n9:(B8++bu 1 (m.ruls.length:Int)).length<=10000022+16*2000007:=by rw[ac,cZ];omega
  obtain⟨c,lb⟩:=xnB m hm.r h8 b _ 0 false (B8++bu 1 (m.ruls.length:Int)) rfl (by omega) (by omega);rw[bj,aw]at lb;generalize m.ruls.foldl nS (B8++bu 1 (m.ruls.length:Int))=B10 at*;rw[qH]at lb;obtain⟨mv,m1,m2,m3,m4,es,rs⟩:=m;simp only[Man.sv]at*;rw[ah xmw]
  cases b<;>cases c<;>
   (simp only[tkR]at la lb
    simp only[go_sem,Q0,Q1,Q2,Q3,Q4,Q5,Q6,Q7,Q8,Q9,Qa,Qb,Qc,Qd,Qe,Qf,Qg,Qh,Qi,Qj,Qk,reduceCtorEq,reduceIte,g1,Z1,u2,u3,u4,u5,u6,Cl,SU,hel,r6,la,r8,hrl,lb])
 ·rw[if_neg hv]
  obtain⟨mv,m1,m2,m3,m4,es,rs⟩:=m;simp only[Man.sv]at*;rw[ah xmw];simp only[go_sem,Q0,Q1,Q2,Q3,Q4,Q5,Q6,Q7,Q8,Q9,Qa,Qb,Qc,Qd,Qe,Qf,Qg,Qh,Qi,Qj,Qk,reduceCtorEq,reduceIte,g1,Z1,hv]
end Go.Proofs.YtkggincjigbelaaGreatDoor
