/- Contracts. No condition. -/
import Derived.Test.YtmhhnklkcmpdkaaGreatDoorTfPA
import Derived.Test.YtmhhnklkcmpdkaaGreatDoorTlPA
open Int renaming cast_ofNat_Int -> dw, natCast_zero -> aA
open Go.IntKind renaming i64 -> ai
open List renaming length_append -> ac, length_cons -> ah, length_singleton -> aD, length_take -> av, mem_append -> an, mem_singleton -> bX, take_length -> ba
open Nat renaming zero_le -> bC
set_option maxRecDepth 100000
set_option maxHeartbeats 16000000
set_option linter.unusedSimpArgs false
set_option linter.unusedVariables false
namespace Go.Proofs.YtmhhnklkcmpdkaaGreatDoor
open Go.Sy
open UInt8 renaming reduceLT -> Q0, reduceLE -> Q1
open Int renaming reduceToNat -> Q2, reduceLE -> Q3, reduceLT -> Q4, reduceEq -> Q5, reduceNe -> Q6, reduceNeg -> Q7, reduceAdd -> Q8, reduceSub -> Q9, reduceMul -> Qa
open Nat renaming reducePow -> Qb, reduceDiv -> Qc, reduceMod -> Qd, reduceAdd -> Qe, reduceSub -> Qf, reduceMul -> Qg, reduceLT -> Qh, reduceLeDiff -> Qi, reduceEqDiff -> Qj, reduceBEq -> Qk
structure km(wild:Bool)(x:Stp):Prop where
 bd:xix x
 wr:wild=false->Wrt okC x
theorem mA:jc 0:=⟨by decide,by decide⟩
theorem bT(B:d9)(j:Nat):j<=aV B j:=by unfold aV;split<;>omega
theorem dI(B:d9)(j:Nat)(h:j<B.length):aV B j=j+1:=if_pos h
theorem dB(B:d9)(j:Nat)(h:j<=B.length):aV B j<=B.length:=by unfold aV;split<;>omega
def hd9(c:Nat)(h:Bool)(B:d9)(j:Nat)(acc:List Stp):CSt:=⟨[(1,.int .i64 c),(2,.bool h),(7,.ptr 12100 0),(8,.lst 7 (dO acc) (.id 108))],[(12100,bg B j)],[108]⟩
theorem xlE(c:Nat)(y:Bool)(B:d9)(j:Nat)(acc:List Stp)(hB:B.length<=150)(J:j<B.length)(ha:acc.length<c)(hc:c<=8)(hK:1+bz B j 12=4):
 ∃(z:Nat)(x:Stp),j<z/\km y x/\run T (.loop ge) (hd9 c y B j acc)=run T (.loop ge) (hd9 c y B z (acc++ [x])):=by
 have d0:=f20 B j;have d1:=f15 B j 12 (by omega) (by omega);have q1:=bD B j 12 (by omega);rw[decide_eq_true J]at d0;rw[show((12:Nat):Int)=12 from rfl]at d1;have hv:=co acc;have F:(acc.length:Int)<(c:Int):=by omega
 have Q:(acc.length+1)*104<=140737488355328:=by omega
 have E:ai.wrap (1+((bz B j 12:Nat):Int))=4:=wZ (by omega)
 generalize H:aV B j=C at*;have a1:j<C:=by rw[<-H,dI B j J];omega
 have p0:C<=B.length:=by rw[<-H,dI B j J];omega
 have I:=f15 B C 30 (by omega) (by omega);have qn:=bD B C 30 (by omega);have ln:=bT B C;have pn:=dB B C (by omega);rw[show((30:Nat):Int)=30 from rfl]at I;generalize bz B C 30=n at*;generalize aV B C=z at*;cases y with
 |false=>refine⟨z,⟨4,0,n,0,[],[],[]⟩,by omega,⟨⟨by simp,by simp,by simp⟩,fun _=>⟨(by simp only;omega),(by simp only;omega),mA,⟨by simp only;omega,by simp only;omega⟩,mA,fun _ _=>rfl,fun h=>absurd (by simp only;omega) h,fun _=>rfl,fun _=>⟨rfl,rfl⟩,fun _=>rfl,by simp,by simp,(fun m hm=>by cases hm),(fun h=>absurd h (by simp only;omega))⟩⟩, ?_⟩;unfold hd9 bg at*;rw[<-bS,aj];simp only[Stp.sv]at*;simp only[go_sem,Q0,Q1,Q2,Q3,Q4,Q5,Q6,Q7,Q8,Q9,Qa,Qb,Qc,Qd,Qe,Qf,Qg,Qh,Qi,Qj,Qk,reduceCtorEq,reduceIte,d0,iC,d1,fW,F,hv,Q,E,I]<;>rfl
 |true=>
  have w1:=f15 B z 9 (by omega) (by omega);have W:=f15 B (aV B z) 3 (by omega) (by omega);have u1:=bT B z;have u2:=bT B (aV B z);have q9:=bD B (aV B z) 3 (by omega);rw[show((9:Nat):Int)=9 from rfl]at w1;rw[show((3:Nat):Int)=3 from rfl]at W;generalize bz B z 9=e9 at*;generalize bz B (aV B z) 3=O at*;generalize aV B (aV B z)=jb at*;generalize aV B z=ja at*;have L:ai.wrap ((O:Int)-1)=(O:Int)-1:=w64 (by omega) (by omega)
  by_cases Z:(e9:Int)=8
  ·skip
   refine⟨jb,⟨4,0,n,((O:Int)-1),[],[],[]⟩,by omega,⟨⟨by simp,by simp,by simp⟩,fun h=>by cases h⟩, ?_⟩;unfold hd9 bg at*;rw[<-bS,aj];simp only[Stp.sv]at*;simp only[go_sem,Q0,Q1,Q2,Q3,Q4,Q5,Q6,Q7,Q8,Q9,Qa,Qb,Qc,Qd,Qe,Qf,Qg,Qh,Qi,Qj,Qk,reduceCtorEq,reduceIte,d0,iC,d1,fW,F,hv,Q,E,I,w1,W,Z,L]<;>rfl
  ·skip
   refine⟨ja,⟨4,0,n,0,[],[],[]⟩,by omega,⟨⟨by simp,by simp,by simp⟩,fun h=>by cases h⟩, ?_⟩;unfold hd9 bg at*;rw[<-bS,aj];simp only[Stp.sv]at*;simp only[go_sem,Q0,Q1,Q2,Q3,Q4,Q5,Q6,Q7,Q8,Q9,Qa,Qb,Qc,Qd,Qe,Qf,Qg,Qh,Qi,Qj,Qk,reduceCtorEq,reduceIte,d0,iC,d1,fW,F,hv,Q,E,I,w1,Z]<;>rfl
theorem xlD(c:Nat)(y:Bool)(B:d9)(j:Nat)(acc:List Stp)(hB:B.length<=150)(J:j<B.length)(ha:acc.length<c)(hc:c<=8)(hK:1+bz B j 12=5):
 ∃(z:Nat)(x:Stp),j<z/\km y x/\run T (.loop ge) (hd9 c y B j acc)=run T (.loop ge) (hd9 c y B z (acc++ [x])):=by
 have d0:=f20 B j;have d1:=f15 B j 12 (by omega) (by omega);have q1:=bD B j 12 (by omega);rw[decide_eq_true J]at d0;rw[show((12:Nat):Int)=12 from rfl]at d1;have hv:=co acc;have F:(acc.length:Int)<(c:Int):=by omega
 have Q:(acc.length+1)*104<=140737488355328:=by omega
 have E:ai.wrap (1+((bz B j 12:Nat):Int))=5:=wZ (by omega)
 generalize H:aV B j=C at*;have a1:j<C:=by rw[<-H,dI B j J];omega
 have p0:C<=B.length:=by rw[<-H,dI B j J];omega
 have I:=f15 B C 30 (by omega) (by omega);have qn:=bD B C 30 (by omega);have ln:=bT B C;have pn:=dB B C (by omega);rw[show((30:Nat):Int)=30 from rfl]at I;generalize bz B C 30=n at*;generalize aV B C=z at*;cases y with
 |false=>refine⟨z,⟨5,0,n,0,[],[],[]⟩,by omega,⟨⟨by simp,by simp,by simp⟩,fun _=>⟨(by simp only;omega),(by simp only;omega),mA,⟨by simp only;omega,by simp only;omega⟩,mA,fun _ _=>rfl,fun h=>absurd (by simp only;omega) h,fun _=>rfl,fun _=>⟨rfl,rfl⟩,fun _=>rfl,by simp,by simp,(fun m hm=>by cases hm),(fun h=>absurd h (by simp only;omega))⟩⟩, ?_⟩;unfold hd9 bg at*;rw[<-bS,aj];simp only[Stp.sv]at*;simp only[go_sem,Q0,Q1,Q2,Q3,Q4,Q5,Q6,Q7,Q8,Q9,Qa,Qb,Qc,Qd,Qe,Qf,Qg,Qh,Qi,Qj,Qk,reduceCtorEq,reduceIte,d0,iC,d1,fW,F,hv,Q,E,I]<;>rfl
 |true=>
  have w1:=f15 B z 9 (by omega) (by omega);have W:=f15 B (aV B z) 3 (by omega) (by omega);have u1:=bT B z;have u2:=bT B (aV B z);have q9:=bD B (aV B z) 3 (by omega);rw[show((9:Nat):Int)=9 from rfl]at w1;rw[show((3:Nat):Int)=3 from rfl]at W;generalize bz B z 9=e9 at*;generalize bz B (aV B z) 3=O at*;generalize aV B (aV B z)=jb at*;generalize aV B z=ja at*;have L:ai.wrap ((O:Int)-1)=(O:Int)-1:=w64 (by omega) (by omega)
  by_cases Z:(e9:Int)=8
  ·skip
   refine⟨jb,⟨5,0,n,((O:Int)-1),[],[],[]⟩,by omega,⟨⟨by simp,by simp,by simp⟩,fun h=>by cases h⟩, ?_⟩;unfold hd9 bg at*;rw[<-bS,aj];simp only[Stp.sv]at*;simp only[go_sem,Q0,Q1,Q2,Q3,Q4,Q5,Q6,Q7,Q8,Q9,Qa,Qb,Qc,Qd,Qe,Qf,Qg,Qh,Qi,Qj,Qk,reduceCtorEq,reduceIte,d0,iC,d1,fW,F,hv,Q,E,I,w1,W,Z,L]<;>rfl
  ·skip
   refine⟨ja,⟨5,0,n,0,[],[],[]⟩,by omega,⟨⟨by simp,by simp,by simp⟩,fun h=>by cases h⟩, ?_⟩;unfold hd9 bg at*;rw[<-bS,aj];simp only[Stp.sv]at*;simp only[go_sem,Q0,Q1,Q2,Q3,Q4,Q5,Q6,Q7,Q8,Q9,Qa,Qb,Qc,Qd,Qe,Qf,Qg,Qh,Qi,Qj,Qk,reduceCtorEq,reduceIte,d0,iC,d1,fW,F,hv,Q,E,I,w1,Z]<;>rfl
theorem xlC(c:Nat)(y:Bool)(B:d9)(j:Nat)(acc:List Stp)(hB:B.length<=150)(J:j<B.length)(ha:acc.length<c)(hc:c<=8)(hK:1+bz B j 12=6):
 ∃(z:Nat)(x:Stp),j<z/\km y x/\run T (.loop ge) (hd9 c y B j acc)=run T (.loop ge) (hd9 c y B z (acc++ [x])):=by
 have d0:=f20 B j;have d1:=f15 B j 12 (by omega) (by omega);have q1:=bD B j 12 (by omega);rw[decide_eq_true J]at d0;rw[show((12:Nat):Int)=12 from rfl]at d1;have hv:=co acc;have F:(acc.length:Int)<(c:Int):=by omega
 have Q:(acc.length+1)*104<=140737488355328:=by omega
 have E:ai.wrap (1+((bz B j 12:Nat):Int))=6:=wZ (by omega)
 generalize H:aV B j=C at*;have a1:j<C:=by rw[<-H,dI B j J];omega
 have p0:C<=B.length:=by rw[<-H,dI B j J];omega
 have I:=f15 B C 30 (by omega) (by omega);have qn:=bD B C 30 (by omega);have ln:=bT B C;have pn:=dB B C (by omega);rw[show((30:Nat):Int)=30 from rfl]at I;generalize bz B C 30=n at*;generalize aV B C=z at*;cases y with
 |false=>refine⟨z,⟨6,0,n,0,[],[],[]⟩,by omega,⟨⟨by simp,by simp,by simp⟩,fun _=>⟨(by simp only;omega),(by simp only;omega),mA,⟨by simp only;omega,by simp only;omega⟩,mA,fun _ _=>rfl,fun h=>absurd (by simp only;omega) h,fun _=>rfl,fun _=>⟨rfl,rfl⟩,fun _=>rfl,by simp,by simp,(fun m hm=>by cases hm),(fun h=>absurd h (by simp only;omega))⟩⟩, ?_⟩;unfold hd9 bg at*;rw[<-bS,aj];simp only[Stp.sv]at*;simp only[go_sem,Q0,Q1,Q2,Q3,Q4,Q5,Q6,Q7,Q8,Q9,Qa,Qb,Qc,Qd,Qe,Qf,Qg,Qh,Qi,Qj,Qk,reduceCtorEq,reduceIte,d0,iC,d1,fW,F,hv,Q,E,I]<;>rfl
 |true=>
  have w1:=f15 B z 9 (by omega) (by omega);have W:=f15 B (aV B z) 3 (by omega) (by omega);have u1:=bT B z;have u2:=bT B (aV B z);have q9:=bD B (aV B z) 3 (by omega);rw[show((9:Nat):Int)=9 from rfl]at w1;rw[show((3:Nat):Int)=3 from rfl]at W;generalize bz B z 9=e9 at*;generalize bz B (aV B z) 3=O at*;generalize aV B (aV B z)=jb at*;generalize aV B z=ja at*;have L:ai.wrap ((O:Int)-1)=(O:Int)-1:=w64 (by omega) (by omega)
  by_cases Z:(e9:Int)=8
  ·skip
   refine⟨jb,⟨6,0,n,((O:Int)-1),[],[],[]⟩,by omega,⟨⟨by simp,by simp,by simp⟩,fun h=>by cases h⟩, ?_⟩;unfold hd9 bg at*;rw[<-bS,aj];simp only[Stp.sv]at*;simp only[go_sem,Q0,Q1,Q2,Q3,Q4,Q5,Q6,Q7,Q8,Q9,Qa,Qb,Qc,Qd,Qe,Qf,Qg,Qh,Qi,Qj,Qk,reduceCtorEq,reduceIte,d0,iC,d1,fW,F,hv,Q,E,I,w1,W,Z,L]<;>rfl
  ·skip
   refine⟨ja,⟨6,0,n,0,[],[],[]⟩,by omega,⟨⟨by simp,by simp,by simp⟩,fun h=>by cases h⟩, ?_⟩;unfold hd9 bg at*;rw[<-bS,aj];simp only[Stp.sv]at*;simp only[go_sem,Q0,Q1,Q2,Q3,Q4,Q5,Q6,Q7,Q8,Q9,Qa,Qb,Qc,Qd,Qe,Qf,Qg,Qh,Qi,Qj,Qk,reduceCtorEq,reduceIte,d0,iC,d1,fW,F,hv,Q,E,I,w1,Z]<;>rfl
theorem xlB(c:Nat)(y:Bool)(B:d9)(j:Nat)(acc:List Stp)(hB:B.length<=150)(J:j<B.length)(ha:acc.length<c)(hc:c<=8)(hK:1+bz B j 12=7):
 ∃(z:Nat)(x:Stp),j<z/\km y x/\run T (.loop ge) (hd9 c y B j acc)=run T (.loop ge) (hd9 c y B z (acc++ [x])):=by
 have d0:=f20 B j;have d1:=f15 B j 12 (by omega) (by omega);have q1:=bD B j 12 (by omega);rw[decide_eq_true J]at d0;rw[show((12:Nat):Int)=12 from rfl]at d1;have hv:=co acc;have F:(acc.length:Int)<(c:Int):=by omega
 have Q:(acc.length+1)*104<=140737488355328:=by omega
 have E:ai.wrap (1+((bz B j 12:Nat):Int))=7:=wZ (by omega)
 generalize H:aV B j=C at*;have a1:j<C:=by rw[<-H,dI B j J];omega
 have p0:C<=B.length:=by rw[<-H,dI B j J];omega
 have I:=f15 B C 30 (by omega) (by omega);have qn:=bD B C 30 (by omega);have ln:=bT B C;have pn:=dB B C (by omega);rw[show((30:Nat):Int)=30 from rfl]at I;generalize bz B C 30=n at*;generalize aV B C=z at*;cases y with
 |false=>refine⟨z,⟨7,0,n,0,[],[],[]⟩,by omega,⟨⟨by simp,by simp,by simp⟩,fun _=>⟨(by simp only;omega),(by simp only;omega),mA,⟨by simp only;omega,by simp only;omega⟩,mA,fun _ _=>rfl,fun h=>absurd (by simp only;omega) h,fun _=>rfl,fun _=>⟨rfl,rfl⟩,fun _=>rfl,by simp,by simp,(fun m hm=>by cases hm),(fun h=>absurd h (by simp only;omega))⟩⟩, ?_⟩;unfold hd9 bg at*;rw[<-bS,aj];simp only[Stp.sv]at*;simp only[go_sem,Q0,Q1,Q2,Q3,Q4,Q5,Q6,Q7,Q8,Q9,Qa,Qb,Qc,Qd,Qe,Qf,Qg,Qh,Qi,Qj,Qk,reduceCtorEq,reduceIte,d0,iC,d1,fW,F,hv,Q,E,I]<;>rfl
 |true=>
  have w1:=f15 B z 9 (by omega) (by omega);have W:=f15 B (aV B z) 3 (by omega) (by omega);have u1:=bT B z;have u2:=bT B (aV B z);have q9:=bD B (aV B z) 3 (by omega);rw[show((9:Nat):Int)=9 from rfl]at w1;rw[show((3:Nat):Int)=3 from rfl]at W;generalize bz B z 9=e9 at*;generalize bz B (aV B z) 3=O at*;generalize aV B (aV B z)=jb at*;generalize aV B z=ja at*;have L:ai.wrap ((O:Int)-1)=(O:Int)-1:=w64 (by omega) (by omega)
  by_cases Z:(e9:Int)=8
  ·skip
   refine⟨jb,⟨7,0,n,((O:Int)-1),[],[],[]⟩,by omega,⟨⟨by simp,by simp,by simp⟩,fun h=>by cases h⟩, ?_⟩;unfold hd9 bg at*;rw[<-bS,aj];simp only[Stp.sv]at*;simp only[go_sem,Q0,Q1,Q2,Q3,Q4,Q5,Q6,Q7,Q8,Q9,Qa,Qb,Qc,Qd,Qe,Qf,Qg,Qh,Qi,Qj,Qk,reduceCtorEq,reduceIte,d0,iC,d1,fW,F,hv,Q,E,I,w1,W,Z,L]<;>rfl
  ·skip
   refine⟨ja,⟨7,0,n,0,[],[],[]⟩,by omega,⟨⟨by simp,by simp,by simp⟩,fun h=>by cases h⟩, ?_⟩;unfold hd9 bg at*;rw[<-bS,aj];simp only[Stp.sv]at*;simp only[go_sem,Q0,Q1,Q2,Q3,Q4,Q5,Q6,Q7,Q8,Q9,Qa,Qb,Qc,Qd,Qe,Qf,Qg,Qh,Qi,Qj,Qk,reduceCtorEq,reduceIte,d0,iC,d1,fW,F,hv,Q,E,I,w1,Z]<;>rfl
theorem s9A(c:Nat)(y:Bool)(B:d9)(j:Nat)(acc:List Stp)(hB:B.length<=150)(O:j<B.length)(ha:acc.length<c)(hc:c<=8)(hK:1+bz B j 12=1\/1+bz B j 12=3\/10<=1+bz B j 12):
 ∃(z:Nat)(x:Stp),j<z/\km y x/\run T (.loop ge) (hd9 c y B j acc)=run T (.loop ge) (hd9 c y B z (acc++ [x])):=by
 have d0:=f20 B j;have d1:=f15 B j 12 (by omega) (by omega);have q1:=bD B j 12 (by omega);rw[decide_eq_true O]at d0;rw[show((12:Nat):Int)=12 from rfl]at d1;have hv:=co acc;have H:(acc.length:Int)<(c:Int):=by omega
 have hb:(acc.length+1)*104<=140737488355328:=by omega
 have F:ai.wrap (1+((bz B j 12:Nat):Int))=((1+bz B j 12:Nat):Int):=wZ (by omega)
 generalize bz B j 12=C at*;have Z:¬((1+C:Nat):Int)=2:=by omega
 have L:¬((1+C:Nat):Int)=4:=by omega
 have n5:¬((1+C:Nat):Int)=5:=by omega
 have n6:¬((1+C:Nat):Int)=6:=by omega
 have n7:¬((1+C:Nat):Int)=7:=by omega
 have n8:¬((1+C:Nat):Int)=8:=by omega
 have n9:¬((1+C:Nat):Int)=9:=by omega
 generalize I:aV B j=E at*;have a1:j<E:=by rw[<-I,dI B j O];omega
 have p0:E<=B.length:=by rw[<-I,dI B j O];omega
 have J:=f15 B E 6 (by omega) (by omega);have qm:=bD B E 6 (by omega);have lm:=bT B E;have pm:=dB B E (by omega);rw[show((6:Nat):Int)=6 from rfl]at J;generalize bz B E 6=m at*;generalize aV B E=z at*;cases y with
 |false=>refine⟨z,⟨((1+C:Nat):Int),m,0,0,[],[],[]⟩,by omega,⟨⟨by simp,by simp,by simp⟩,fun _=>⟨by simp only;omega,by simp only;omega,⟨by simp only;omega,by simp only;omega⟩,mA,mA,(fun a b=>absurd a (by simp only at*;omega)),(fun _=>rfl),(fun _=>rfl),(fun _=>⟨rfl,rfl⟩),(fun _=>rfl),by simp,by simp,(fun m hm=>by cases hm),(fun h=>absurd h (by simp only;omega))⟩⟩, ?_⟩;unfold hd9 bg at*;rw[<-bS,aj];simp only[Stp.sv]at*;simp only[go_sem,Q0,Q1,Q2,Q3,Q4,Q5,Q6,Q7,Q8,Q9,Qa,Qb,Qc,Qd,Qe,Qf,Qg,Qh,Qi,Qj,Qk,reduceCtorEq,reduceIte,d0,iC,d1,fW,H,hv,hb,F,J,Z,L,n5,n6,n7,n8,n9]<;>rfl
 |true=>
  have w1:=f15 B z 9 (by omega) (by omega);have w2:=f15 B (aV B z) 3 (by omega) (by omega);have u1:=bT B z;have u2:=bT B (aV B z);have q9:=bD B (aV B z) 3 (by omega);rw[show((9:Nat):Int)=9 from rfl]at w1;rw[show((3:Nat):Int)=3 from rfl]at w2;generalize bz B z 9=e9 at*;generalize bz B (aV B z) 3=W at*;generalize aV B (aV B z)=jb at*;generalize aV B z=ja at*;have Q:ai.wrap ((W:Int)-1)=(W:Int)-1:=w64 (by omega) (by omega)
  by_cases h8:(e9:Int)=8
  ·skip
   refine⟨jb,⟨((1+C:Nat):Int),m,0,((W:Int)-1),[],[],[]⟩,by omega,⟨⟨by simp,by simp,by simp⟩,fun h=>by cases h⟩, ?_⟩;unfold hd9 bg at*;rw[<-bS,aj];simp only[Stp.sv]at*;simp only[go_sem,Q0,Q1,Q2,Q3,Q4,Q5,Q6,Q7,Q8,Q9,Qa,Qb,Qc,Qd,Qe,Qf,Qg,Qh,Qi,Qj,Qk,reduceCtorEq,reduceIte,d0,iC,d1,fW,H,hv,hb,F,J,Z,L,n5,n6,n7,n8,n9,w1,w2,h8,Q]<;>rfl
  ·skip
   refine⟨ja,⟨((1+C:Nat):Int),m,0,0,[],[],[]⟩,by omega,⟨⟨by simp,by simp,by simp⟩,fun h=>by cases h⟩, ?_⟩;unfold hd9 bg at*;rw[<-bS,aj];simp only[Stp.sv]at*;simp only[go_sem,Q0,Q1,Q2,Q3,Q4,Q5,Q6,Q7,Q8,Q9,Qa,Qb,Qc,Qd,Qe,Qf,Qg,Qh,Qi,Qj,Qk,reduceCtorEq,reduceIte,d0,iC,d1,fW,H,hv,hb,F,J,Z,L,n5,n6,n7,n8,n9,w1,h8]<;>rfl
theorem s9B(c:Nat)(y:Bool)(B:d9)(j:Nat)(acc:List Stp)(hB:B.length<=150)(W:j<B.length)(ha:acc.length<c)(hc:c<=8)(hK:1+bz B j 12=2):
 ∃(C:Nat)(x:Stp),j<C/\km y x/\run T (.loop ge) (hd9 c y B j acc)=run T (.loop ge) (hd9 c y B C (acc++ [x])):=by
 have d0:=f20 B j;have d1:=f15 B j 12 (by omega) (by omega);have q1:=bD B j 12 (by omega);rw[decide_eq_true W]at d0;rw[show((12:Nat):Int)=12 from rfl]at d1;have hv:=co acc;have H:(acc.length:Int)<(c:Int):=by omega
 have hb:(acc.length+1)*104<=140737488355328:=by omega
 have F:ai.wrap (1+((bz B j 12:Nat):Int))=2:=wZ (by omega)
 generalize J:aV B j=E at*;have a1:j<E:=by rw[<-J,dI B j W];omega
 have p0:E<=B.length:=by rw[<-J,dI B j W];omega
 have Q:=f15 B E 6 (by omega) (by omega);have qm:=bD B E 6 (by omega);have lm:=bT B E;have pm:=dB B E (by omega);rw[show((6:Nat):Int)=6 from rfl]at Q;generalize bz B E 6=m at*;generalize aV B E=C at*;have L:=f15 B C 20 (by omega) (by omega);have qn:=bD B C 20 (by omega);have ln:=bT B C;have pn:=dB B C (by omega);rw[show((20:Nat):Int)=20 from rfl]at L;generalize bz B C 20=n at*;generalize aV B C=I at*;have O:=f15 B I 40 (by omega) (by omega);have qt:=bD B I 40 (by omega);have lt:=bT B I;have pt:=dB B I (by omega);rw[show((40:Nat):Int)=40 from rfl]at O;generalize bz B I 40=t at*;generalize aV B I=z at*;cases y with
 |false=>refine⟨z,⟨2,m,n,t,[],[],[]⟩,by omega,⟨⟨by simp,by simp,by simp⟩,fun _=>⟨(by simp only;omega),(by simp only;omega),⟨by simp only;omega,by simp only;omega⟩,⟨by simp only;omega,by simp only;omega⟩,⟨by simp only;omega,by simp only;omega⟩,(fun a b=>absurd a (by simp only;omega)),(fun h=>absurd (Or.inl rfl) h),(fun h=>absurd rfl h),(fun _=>⟨rfl,rfl⟩),(fun _=>rfl),by simp,by simp,(fun m hm=>by cases hm),(fun h=>absurd h (by simp only;omega))⟩⟩, ?_⟩;unfold hd9 bg at*;rw[<-bS,aj];simp only[Stp.sv]at*;simp only[go_sem,Q0,Q1,Q2,Q3,Q4,Q5,Q6,Q7,Q8,Q9,Qa,Qb,Qc,Qd,Qe,Qf,Qg,Qh,Qi,Qj,Qk,reduceCtorEq,reduceIte,d0,iC,d1,fW,H,hv,hb,F,Q,L,O]<;>rfl
 |true=>
  have w1:=f15 B z 9 (by omega) (by omega);have w2:=f15 B (aV B z) 3 (by omega) (by omega);have u1:=bT B z;have u2:=bT B (aV B z);have q9:=bD B (aV B z) 3 (by omega);rw[show((9:Nat):Int)=9 from rfl]at w1;rw[show((3:Nat):Int)=3 from rfl]at w2;generalize bz B z 9=e9 at*;generalize bz B (aV B z) 3=e3 at*;generalize aV B (aV B z)=jb at*;generalize aV B z=ja at*;have Z:ai.wrap ((e3:Int)-1)=(e3:Int)-1:=w64 (by omega) (by omega)
  by_cases h8:(e9:Int)=8
  ·skip
   refine⟨jb,⟨2,m,n,((e3:Int)-1),[],[],[]⟩,by omega,⟨⟨by simp,by simp,by simp⟩,fun h=>by cases h⟩, ?_⟩;unfold hd9 bg at*;rw[<-bS,aj];simp only[Stp.sv]at*;simp only[go_sem,Q0,Q1,Q2,Q3,Q4,Q5,Q6,Q7,Q8,Q9,Qa,Qb,Qc,Qd,Qe,Qf,Qg,Qh,Qi,Qj,Qk,reduceCtorEq,reduceIte,d0,iC,d1,fW,H,hv,hb,F,Q,L,O,w1,w2,h8,Z]<;>rfl
  ·skip
   refine⟨ja,⟨2,m,n,t,[],[],[]⟩,by omega,⟨⟨by simp,by simp,by simp⟩,fun h=>by cases h⟩, ?_⟩;unfold hd9 bg at*;rw[<-bS,aj];simp only[Stp.sv]at*;simp only[go_sem,Q0,Q1,Q2,Q3,Q4,Q5,Q6,Q7,Q8,Q9,Qa,Qb,Qc,Qd,Qe,Qf,Qg,Qh,Qi,Qj,Qk,reduceCtorEq,reduceIte,d0,iC,d1,fW,H,hv,hb,F,Q,L,O,w1,h8]<;>rfl
theorem s9E(c:Nat)(z:Bool)(B:d9)(j:Nat)(acc:List Stp)(hB:B.length<=150)(Z:j<B.length)(ha:acc.length<c)(hc:c<=8)(hK:1+bz B j 12=9):
 ∃(y:Nat)(x:Stp),j<y/\km z x/\run T (.loop ge) (hd9 c z B j acc)=run T (.loop ge) (hd9 c z B y (acc++ [x])):=by
 have d0:=f20 B j;have d1:=f15 B j 12 (by omega) (by omega);have q1:=bD B j 12 (by omega);rw[decide_eq_true Z]at d0;rw[show((12:Nat):Int)=12 from rfl]at d1;have hv:=co acc;have O:(acc.length:Int)<(c:Int):=by omega
 have hb:(acc.length+1)*104<=140737488355328:=by omega
 have I:ai.wrap (1+((bz B j 12:Nat):Int))=9:=wZ (by omega)
 generalize Q:aV B j=H at*;have a6:j<H:=by rw[<-Q,dI B j Z];omega
 have p0:H<=B.length:=by rw[<-Q,dI B j Z];omega
 have W:=f15 B H 6 (by omega) (by omega);have qm:=bD B H 6 (by omega);have lm:=bT B H;have pm:=dB B H (by omega);rw[show((6:Nat):Int)=6 from rfl]at W;generalize bz B H 6=m at*;generalize aV B H=y at*;have C:¬B.length<y:=by omega
 have L:y<=B.length:=by omega
 have E:(y:Int)<=(B.length:Int):=by omega
 obtain⟨ch,F,J⟩:=f32 (B.drop y);cases z with
 |false=>refine⟨y,⟨9,m,0,0,[],[],ch⟩,by omega,⟨⟨by simp,by simp,by have:=F.n8;simp only;omega⟩,fun _=>⟨(by simp only;omega),(by simp only;omega),⟨by simp only;omega,by simp only;omega⟩,mA,mA,(fun a b=>absurd b (by simp only;omega)),(fun _=>rfl),(fun _=>rfl),(fun _=>⟨rfl,rfl⟩),(fun h=>absurd rfl h),by simp,by simp,(fun m hm=>by cases hm),(fun _=>DO F)⟩⟩, ?_⟩;unfold hd9 bg at*;rw[<-bS,aj];simp only[Stp.sv]at*;simp only[go_sem,Q0,Q1,Q2,Q3,Q4,Q5,Q6,Q7,Q8,Q9,Qa,Qb,Qc,Qd,Qe,Qf,Qg,Qh,Qi,Qj,Qk,reduceCtorEq,reduceIte,d0,iC,d1,fW,O,hv,hb,I,W,C,L,E,J,xeO,ba]<;>rfl
 |true=>
  have w1:=f15 B y 9 (by omega) (by omega);have w2:=f15 B (aV B y) 3 (by omega) (by omega);have u1:=bT B y;have u2:=bT B (aV B y);have q9:=bD B (aV B y) 3 (by omega);rw[show((9:Nat):Int)=9 from rfl]at w1;rw[show((3:Nat):Int)=3 from rfl]at w2;generalize bz B y 9=e9 at*;generalize bz B (aV B y) 3=e3 at*;generalize aV B (aV B y)=jb at*;generalize aV B y=ja at*;have a1:ai.wrap ((e3:Int)-1)=(e3:Int)-1:=w64 (by omega) (by omega)
  by_cases h8:(e9:Int)=8
  ·skip
   refine⟨jb,⟨9,m,0,((e3:Int)-1),[],[],ch⟩,by omega,⟨⟨by simp,by simp,by have:=F.n8;simp only;omega⟩,fun h=>by cases h⟩, ?_⟩;unfold hd9 bg at*;rw[<-bS,aj];simp only[Stp.sv]at*;simp only[go_sem,Q0,Q1,Q2,Q3,Q4,Q5,Q6,Q7,Q8,Q9,Qa,Qb,Qc,Qd,Qe,Qf,Qg,Qh,Qi,Qj,Qk,reduceCtorEq,reduceIte,d0,iC,d1,fW,O,hv,hb,I,W,C,L,E,J,xeO,ba,w1,w2,h8,a1]<;>rfl
  ·skip
   refine⟨ja,⟨9,m,0,0,[],[],ch⟩,by omega,⟨⟨by simp,by simp,by have:=F.n8;simp only;omega⟩,fun h=>by cases h⟩, ?_⟩;unfold hd9 bg at*;rw[<-bS,aj];simp only[Stp.sv]at*;simp only[go_sem,Q0,Q1,Q2,Q3,Q4,Q5,Q6,Q7,Q8,Q9,Qa,Qb,Qc,Qd,Qe,Qf,Qg,Qh,Qi,Qj,Qk,reduceCtorEq,reduceIte,d0,iC,d1,fW,O,hv,hb,I,W,C,L,E,J,xeO,ba,w1,h8]<;>rfl
theorem xlA(c:Nat)(C:Bool)(B:d9)(j:Nat)(acc:List Stp)(hB:B.length<=150)(hj:j<B.length)(ha:acc.length<c)(hc:c<=8)(hK:1+bz B j 12=8)(hz:bz B (aV B (aV B (aV B j))) 3≠2):
 ∃(I:Nat)(x:Stp),j<I/\km C x/\run T (.loop ge) (hd9 c C B j acc)=run T (.loop ge) (hd9 c C B I (acc++ [x])):=by
 have d0:=f20 B j;have d1:=f15 B j 12 (by omega) (by omega);have q1:=bD B j 12 (by omega);rw[decide_eq_true hj]at d0;rw[show((12:Nat):Int)=12 from rfl]at d1;have hv:=co acc;have Z:(acc.length:Int)<(c:Int):=by omega
 have hb:(acc.length+1)*104<=140737488355328:=by omega
 have O:ai.wrap (1+((bz B j 12:Nat):Int))=8:=wZ (by omega)
 generalize a1:aV B j=L at*;have b4:j<L:=by rw[<-a1,dI B j hj];omega
 have p0:L<=B.length:=by rw[<-a1,dI B j hj];omega
 have E:=f15 B L 9 (by omega) (by omega);have a7:=bD B L 9 (by omega);have a8:=bT B L;have b1:=dB B L (by omega);rw[show((9:Nat):Int)=9 from rfl]at E;generalize bz B L 9=y at*;generalize aV B L=I at*;have ew:=f15 B I 3 (by omega) (by omega);have qw:=bD B I 3 (by omega);have lw:=bT B I;have pw:=dB B I (by omega);rw[show((3:Nat):Int)=3 from rfl]at ew;generalize bz B I 3=w at*;generalize aV B I=j3 at*;have ez:=f15 B j3 3 (by omega) (by omega);have qz:=bD B j3 3 (by omega);have lz:=bT B j3;have pz:=dB B j3 (by omega);rw[show((3:Nat):Int)=3 from rfl]at ez;generalize bz B j3 3=z at*;generalize aV B j3=F at*;have W:=f31 [1];have H:=f30 ⟨gK [1],(y:Int)⟩;simp only[Wd.sv]at H
 have b3:(ow ⟨gK [1],(y:Int)⟩).length<=100:=by
  unfold ow;split
  ·have:=nT [1]
   simp only[ah,ac,eO];omega
  ·simp
 have J:=f29 (ow ⟨gK [1],(y:Int)⟩) (by omega) (w:Int);have b2:=vL (w:Int) (ow ⟨gK [1],(y:Int)⟩);unfold nf at J;have Q:¬(z:Int)=2:=by omega
 cases C with
 |false=>refine⟨F,⟨8,0,0,0,ow ⟨gK [1],(y:Int)⟩,tj (w:Int) (ow ⟨gK [1],(y:Int)⟩),[]⟩,by omega,⟨⟨by simp only;omega,by simp only;omega,by simp⟩,fun _=>⟨(by simp only;omega),(by simp only;omega),mA,mA,mA,(fun _ _=>rfl),(fun _=>rfl),(fun _=>rfl),(fun h=>absurd rfl h),(fun _=>rfl),(by simp only;omega),(by simp only;omega),(fun m hm=>⟨Fb _ _ m hm,by have:=E9 _ _ m hm;omega⟩),(fun h=>absurd h (by simp only;omega))⟩⟩, ?_⟩;unfold hd9 bg at*;rw[<-bS,aj];simp only[Stp.sv]at*;simp only[go_sem,Q0,Q1,Q2,Q3,Q4,Q5,Q6,Q7,Q8,Q9,Qa,Qb,Qc,Qd,Qe,Qf,Qg,Qh,Qi,Qj,Qk,reduceCtorEq,reduceIte,d0,iC,d1,fW,Z,hv,hb,O,E,ew,ez,W,N9,H,Oa,J,Ob,Q]<;>rfl
 |true=>
  have w1:=f15 B F 9 (by omega) (by omega);have w2:=f15 B (aV B F) 3 (by omega) (by omega);have u1:=bT B F;have u2:=bT B (aV B F);have q9:=bD B (aV B F) 3 (by omega);rw[show((9:Nat):Int)=9 from rfl]at w1;rw[show((3:Nat):Int)=3 from rfl]at w2;generalize bz B F 9=e9 at*;generalize bz B (aV B F) 3=e3 at*;generalize aV B (aV B F)=jb at*;generalize aV B F=ja at*;have a6:ai.wrap ((e3:Int)-1)=(e3:Int)-1:=w64 (by omega) (by omega)
  by_cases h8:(e9:Int)=8
  ·skip
   refine⟨jb,⟨8,0,0,((e3:Int)-1),ow ⟨gK [1],(y:Int)⟩,tj (w:Int) (ow ⟨gK [1],(y:Int)⟩),[]⟩,by omega,⟨⟨by simp only;omega,by simp only;omega,by simp⟩,fun h=>by cases h⟩, ?_⟩;unfold hd9 bg at*;rw[<-bS,aj];simp only[Stp.sv]at*;simp only[go_sem,Q0,Q1,Q2,Q3,Q4,Q5,Q6,Q7,Q8,Q9,Qa,Qb,Qc,Qd,Qe,Qf,Qg,Qh,Qi,Qj,Qk,reduceCtorEq,reduceIte,d0,iC,d1,fW,Z,hv,hb,O,E,ew,ez,W,N9,H,Oa,J,Ob,Q,w1,w2,h8,a6]<;>rfl
  ·skip
   refine⟨ja,⟨8,0,0,0,ow ⟨gK [1],(y:Int)⟩,tj (w:Int) (ow ⟨gK [1],(y:Int)⟩),[]⟩,by omega,⟨⟨by simp only;omega,by simp only;omega,by simp⟩,fun h=>by cases h⟩, ?_⟩;unfold hd9 bg at*;rw[<-bS,aj];simp only[Stp.sv]at*;simp only[go_sem,Q0,Q1,Q2,Q3,Q4,Q5,Q6,Q7,Q8,Q9,Qa,Qb,Qc,Qd,Qe,Qf,Qg,Qh,Qi,Qj,Qk,reduceCtorEq,reduceIte,d0,iC,d1,fW,Z,hv,hb,O,E,ew,ez,W,N9,H,Oa,J,Ob,Q,w1,h8]<;>rfl
theorem xlz(c:Nat)(y:Bool)(B:d9)(j:Nat)(acc:List Stp)(hB:B.length<=150)(hj:j<B.length)(ha:acc.length<c)(hc:c<=8)(hK:1+bz B j 12=8)(hz:bz B (aV B (aV B (aV B j))) 3=2):
 ∃(H:Nat)(x:Stp),j<H/\km y x/\run T (.loop ge) (hd9 c y B j acc)=run T (.loop ge) (hd9 c y B H (acc++ [x])):=by
 have d0:=f20 B j;have d1:=f15 B j 12 (by omega) (by omega);have q1:=bD B j 12 (by omega);rw[decide_eq_true hj]at d0;rw[show((12:Nat):Int)=12 from rfl]at d1;have hv:=co acc;have Z:(acc.length:Int)<(c:Int):=by omega
 have hb:(acc.length+1)*104<=140737488355328:=by omega
 have O:ai.wrap (1+((bz B j 12:Nat):Int))=8:=wZ (by omega)
 generalize a1:aV B j=L at*;have b4:j<L:=by rw[<-a1,dI B j hj];omega
 have p0:L<=B.length:=by rw[<-a1,dI B j hj];omega
 have C:=f15 B L 9 (by omega) (by omega);have a7:=bD B L 9 (by omega);have a8:=bT B L;have b1:=dB B L (by omega);rw[show((9:Nat):Int)=9 from rfl]at C;generalize bz B L 9=J at*;generalize aV B L=H at*;have ew:=f15 B H 3 (by omega) (by omega);have qw:=bD B H 3 (by omega);have lw:=bT B H;have pw:=dB B H (by omega);rw[show((3:Nat):Int)=3 from rfl]at ew;generalize bz B H 3=w at*;generalize aV B H=j3 at*;have ez:=f15 B j3 3 (by omega) (by omega);have qz:=bD B j3 3 (by omega);have lz:=bT B j3;have pz:=dB B j3 (by omega);rw[show((3:Nat):Int)=3 from rfl]at ez;generalize bz B j3 3=z at*;generalize aV B j3=j4 at*;have ea:=f15 B j4 9 (by omega) (by omega);have qa:=bD B j4 9 (by omega);have la:=bT B j4;have pa:=dB B j4 (by omega);rw[show((9:Nat):Int)=9 from rfl]at ea;generalize bz B j4 9=a at*;generalize aV B j4=E at*;have W:=f31 [1];have F:=f30 ⟨gK [1],(J:Int)⟩;simp only[Wd.sv]at F
 have b3:(ow ⟨gK [1],(J:Int)⟩).length<=100:=by
  unfold ow;split
  ·have:=nT [1]
   simp only[ah,ac,eO];omega
  ·simp
 have I:=f29 (ow ⟨gK [1],(J:Int)⟩) (by omega) (w:Int);have b2:=vL (w:Int) (ow ⟨gK [1],(J:Int)⟩);unfold nf at I;have Q:(z:Int)=2:=by omega
 cases y with
 |false=>refine⟨E,⟨8,0,0,0,[],[⟨(a:Int),[]⟩],[]⟩,by omega,⟨⟨by simp,by simp,by simp⟩,fun _=>⟨(by simp only;omega),(by simp only;omega),mA,mA,mA,(fun _ _=>rfl),(fun _=>rfl),(fun _=>rfl),(fun h=>absurd rfl h),(fun _=>rfl),(by simp),(by simp),(fun m hm=>by rw[bX.1 hm];exact⟨⟨by simp only;omega,by simp only;omega⟩,by simp⟩),(fun h=>absurd h (by simp only;omega))⟩⟩, ?_⟩;unfold hd9 bg at*;rw[<-bS,aj];simp only[Stp.sv]at*;simp only[go_sem,Q0,Q1,Q2,Q3,Q4,Q5,Q6,Q7,Q8,Q9,Qa,Qb,Qc,Qd,Qe,Qf,Qg,Qh,Qi,Qj,Qk,reduceCtorEq,reduceIte,d0,iC,d1,fW,Z,hv,hb,O,C,ew,ez,ea,W,N9,F,Oa,I,Ob,Q]<;>rfl
 |true=>
  have w1:=f15 B E 9 (by omega) (by omega);have w2:=f15 B (aV B E) 3 (by omega) (by omega);have u1:=bT B E;have u2:=bT B (aV B E);have q9:=bD B (aV B E) 3 (by omega);rw[show((9:Nat):Int)=9 from rfl]at w1;rw[show((3:Nat):Int)=3 from rfl]at w2;generalize bz B E 9=e9 at*;generalize bz B (aV B E) 3=e3 at*;generalize aV B (aV B E)=jb at*;generalize aV B E=ja at*;have a6:ai.wrap ((e3:Int)-1)=(e3:Int)-1:=w64 (by omega) (by omega)
  by_cases h8:(e9:Int)=8
  ·skip
   refine⟨jb,⟨8,0,0,((e3:Int)-1),[],[⟨(a:Int),[]⟩],[]⟩,by omega,⟨⟨by simp,by simp,by simp⟩,fun h=>by cases h⟩, ?_⟩;unfold hd9 bg at*;rw[<-bS,aj];simp only[Stp.sv]at*;simp only[go_sem,Q0,Q1,Q2,Q3,Q4,Q5,Q6,Q7,Q8,Q9,Qa,Qb,Qc,Qd,Qe,Qf,Qg,Qh,Qi,Qj,Qk,reduceCtorEq,reduceIte,d0,iC,d1,fW,Z,hv,hb,O,C,ew,ez,ea,W,N9,F,Oa,I,Ob,Q,w1,w2,h8,a6]<;>rfl
  ·skip
   refine⟨ja,⟨8,0,0,0,[],[⟨(a:Int),[]⟩],[]⟩,by omega,⟨⟨by simp,by simp,by simp⟩,fun h=>by cases h⟩, ?_⟩;unfold hd9 bg at*;rw[<-bS,aj];simp only[Stp.sv]at*;simp only[go_sem,Q0,Q1,Q2,Q3,Q4,Q5,Q6,Q7,Q8,Q9,Qa,Qb,Qc,Qd,Qe,Qf,Qg,Qh,Qi,Qj,Qk,reduceCtorEq,reduceIte,d0,iC,d1,fW,Z,hv,hb,O,C,ew,ez,ea,W,N9,F,Oa,I,Ob,Q,w1,h8]<;>rfl
def S9:Prop:=∀(c:Nat)(h:Bool)(B:d9)(j:Nat)(acc:List Stp),B.length<=150->j<B.length->acc.length<c->c<=8->
 ∃(y:Nat)(x:Stp),j<y/\km h x/\run T (.loop ge) (hd9 c h B j acc)=run T (.loop ge) (hd9 c h B y (acc++ [x]))
theorem l9(h9:S9)(c:Nat)(hc:c<=8)(h:Bool)(B:d9)(L:B.length<=150):∀(f j:Nat)(acc:List Stp),c-acc.length<=f->acc.length<=c->(∀x∈acc,km h x)->
 ∃(l:List Stp)(J:Nat),l.length<=c/\(∀x∈l,km h x)/\run T (.loop ge) (hd9 c h B j acc)=some (.x 0,⟨[(8,.lst 7 (dO l) (.id 108))],[(12100,bg B J)],[108]⟩):=by
 intro f;induction f with
 |zero=>
  intro j acc O F C;refine⟨acc,j,F,C, ?_⟩;have d0:=f20 B j;have hv:=co acc;have z:¬(acc.length:Int)<(c:Int):=by omega
  unfold hd9 bg at*;rw[aj];cases hd:decide (j<B.length)with
  |false=>rw[hd]at d0;simp only[go_sem,Q0,Q1,Q2,Q3,Q4,Q5,Q6,Q7,Q8,Q9,Qa,Qb,Qc,Qd,Qe,Qf,Qg,Qh,Qi,Qj,Qk,reduceCtorEq,reduceIte,d0,iC,hv,z]
  |true=>rw[hd]at d0;simp only[go_sem,Q0,Q1,Q2,Q3,Q4,Q5,Q6,Q7,Q8,Q9,Qa,Qb,Qc,Qd,Qe,Qf,Qg,Qh,Qi,Qj,Qk,reduceCtorEq,reduceIte,d0,iC,hv,z]
 |succ f Q=>
  intro j acc O F C
  by_cases I:j<B.length
  ·by_cases W:acc.length<c
   ·obtain⟨J,x,a1,H,Z⟩:=h9 c h B j acc L I W hc
    rw[Z]
    exact Q J (acc++ [x]) (by simp only[ac,aD];omega) (by simp only[ac,aD];omega) (fun y E=>by
     rcases an.1 E with E|E
     ·exact C y E
     ·rw[bX.1 E];exact H)
   ·refine⟨acc,j,F,C, ?_⟩
    have d0:=f20 B j;have hv:=co acc;have z:¬(acc.length:Int)<(c:Int):=by omega
    rw[decide_eq_true I]at d0;unfold hd9 bg at*;rw[aj];simp only[go_sem,Q0,Q1,Q2,Q3,Q4,Q5,Q6,Q7,Q8,Q9,Qa,Qb,Qc,Qd,Qe,Qf,Qg,Qh,Qi,Qj,Qk,reduceCtorEq,reduceIte,d0,iC,hv,z]
  ·refine⟨acc,j,F,C, ?_⟩
   have d0:=f20 B j;rw[decide_eq_false I]at d0;unfold hd9 bg at*;rw[aj];simp only[go_sem,Q0,Q1,Q2,Q3,Q4,Q5,Q6,Q7,Q8,Q9,Qa,Qb,Qc,Qd,Qe,Qf,Qg,Qh,Qi,Qj,Qk,reduceCtorEq,reduceIte,d0,iC]
theorem f9(H:S9)(h:d9)(c:Nat)(I:c<=8)(y:Bool):∃l:List Stp,l.length<=c/\(∀x∈l,km y x)/\call T 9 [.byt h .no,.int .i64 c,.bool y] [] 0=some ⟨.lst 7 (dO l) .no,[],[]⟩:=by have z:=f14 h 150;rw[show((150:Nat):Int)=150 from rfl]at z;obtain⟨l,J,F,E,g⟩:=l9 H c I y (h.take 150) (by rw[av];omega) c 0 [] (by simp) (bC _) (fun x C=>by cases C);refine⟨l,F,E, ?_⟩;unfold hd9 bg at g;unfold bg at z;rw[show dO []=[]from rfl]at g;simp only[aA,dw]at z g;rw[am T_9];simp only[go_sem,Q0,Q1,Q2,Q3,Q4,Q5,Q6,Q7,Q8,Q9,Qa,Qb,Qc,Qd,Qe,Qf,Qg,Qh,Qi,Qj,Qk,reduceCtorEq,reduceIte,z,Oc,g]
theorem s9:S9:=by
 intro c h B j acc y z C E;have q:=bD B j 12 (by omega)
 by_cases k2:1+bz B j 12=2
 ·exact s9B c h B j acc y z C E k2
 by_cases J:1+bz B j 12=4
 ·exact xlE c h B j acc y z C E J
 by_cases I:1+bz B j 12=5
 ·exact xlD c h B j acc y z C E I
 by_cases L:1+bz B j 12=6
 ·exact xlC c h B j acc y z C E L
 by_cases O:1+bz B j 12=7
 ·exact xlB c h B j acc y z C E O
 by_cases F:1+bz B j 12=8
 ·by_cases hz:bz B (aV B (aV B (aV B j))) 3=2
  ·exact xlz c h B j acc y z C E F hz
  ·exact xlA c h B j acc y z C E F hz
 by_cases H:1+bz B j 12=9
 ·exact s9E c h B j acc y z C E H
 exact s9A c h B j acc y z C E (by omega)
theorem yv(y:d9)(c:Nat)(z:c<=8)(h:Bool):∃l:List Stp,l.length<=c/\(∀x∈l,km h x)/\call T 9 [.byt y .no,.int .i64 c,.bool h] [] 0=some ⟨.lst 7 (dO l) .no,[],[]⟩:=f9 s9 y c z h
end Go.Proofs.YtmhhnklkcmpdkaaGreatDoor
