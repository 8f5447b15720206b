/- Contracts. No condition. -/
import Derived.Test.YtkcjdeofknkndaaGreatDoorTjDE
open Int renaming natCast_zero -> aB
open List renaming append_nil -> bw, cons_append -> bf, length_append -> ac, length_singleton -> aH, nil_append -> aG
open Nat renaming zero_le -> bH
set_option maxRecDepth 100000
set_option maxHeartbeats 16000000
set_option linter.unusedSimpArgs false
set_option linter.unusedVariables false
namespace Go.Proofs.YtkcjdeofknkndaaGreatDoor
open Go.Sy
open UInt8 renaming reduceLT -> Q0, reduceLE -> Q1
open Int renaming reduceToNat -> Q2, reduceLE -> Q3, reduceLT -> Q4, reduceEq -> Q5, reduceNe -> Q6, reduceNeg -> Q7, reduceAdd -> Q8, reduceSub -> Q9, reduceMul -> Qa
open Nat renaming reducePow -> Qb, reduceDiv -> Qc, reduceMod -> Qd, reduceAdd -> Qe, reduceSub -> Qf, reduceMul -> Qg, reduceLT -> Qh, reduceLeDiff -> Qi, reduceEqDiff -> Qj, reduceBEq -> Qk
theorem Cr(B:t7):dV (qz B):=by
 have z:(qL B).1.length=0+qN B:=kL;have y:(qR B).1.length=0+qM B:=kF;have C:qN B=min (hN B).1.toNat 17:=rfl;have E:qM B=min (qK B).1.toNat 9:=rfl
 exact⟨by have:=nQ B 12 (uR B 1 ⟨0,0⟩).2;show(hV B).1.length<=_;unfold hV;omega,by show(qL B).1.length<=_;omega,by show(qR B).1.length<=_;omega,
  fun x h=>by have:=vq (B:=B) (n:=qN B) (es:=[]) (s:=(hN B).2) (fun x h=>by cases h) x h;omega,
  fun x h=>by have:=uG (B:=B) (n:=qM B) (es:=[]) (s:=(qK B).2) (fun x h=>by cases h) x h;omega⟩
theorem xmx(B:t7)(U:B.length<=1000000000)(v:t7)(ve fl fr ti F:Int)(N:Nat):∀(n i:Nat)(es:List Ent)(s:Rs)(t:Tok)(tk:LAb),min N 17-i=n->i<=min N 17->es.length=i->dD B s->
 (t= .clip/\tk=[]/\es=[]\/t= .id 161/\tk=[161])->
 ∃(L:Tok)(tk':LAb),(L= .clip/\tk'=[]/\(fI B n es s).1=[]\/L= .id 161/\tk'=[161])/\
  run T (.loop x5) ⟨[(2,.ptr 102 0),(4,.ptr 15100 0),(5,.ptr 105 0),(6,.int .i64 F),(7,.int .i64 N),(8,.int .i64 i)],[(102,zR),(105,mR v ve fl fr ti es t [] .clip),(15100,rqO B s)],tk⟩=
   some (.x 0,⟨[(2,.ptr 102 0),(4,.ptr 15100 0),(5,.ptr 105 0),(6,.int .i64 F)],[(102,zR),(105,mR v ve fl fr ti (fI B n es s).1 L [] .clip),(15100,rqO B (fI B n es s).2)],tk'⟩):=by
 intro n;induction n with
 |zero=>
  intro i es s t tk h0 h1 hl O J;refine⟨t,tk,J, ?_⟩;unfold fI;rw[ai]
  by_cases I:i<N
  ·have Q:¬(i:Int)<=16:=by omega
   rcases J with⟨rfl,rfl,rfl⟩|⟨rfl,rfl⟩<;>simp only[zR,mR,rqO]<;>simp only[go_sem,Q0,Q1,Q2,Q3,Q4,Q5,Q6,Q7,Q8,Q9,Qa,Qb,Qc,Qd,Qe,Qf,Qg,Qh,Qi,Qj,Qk,reduceCtorEq,reduceIte,I,Q]
  ·rcases J with⟨rfl,rfl,rfl⟩|⟨rfl,rfl⟩<;>simp only[zR,mR,rqO]<;>simp only[go_sem,Q0,Q1,Q2,Q3,Q4,Q5,Q6,Q7,Q8,Q9,Qa,Qb,Qc,Qd,Qe,Qf,Qg,Qh,Qi,Qj,Qk,reduceCtorEq,reduceIte,I]
 |succ n ih=>
  intro i es s t tk h0 h1 hl O J;have I:i<N:=by omega
  have Q:(i:Int)<=16:=by omega
  have W:=bW i (by omega);obtain⟨L,tk',q1,h⟩:=ih (i+1) (es++ [(fN B s).1]) (fN B s).2 (.id 161) [161] (by omega) (by omega) (by rw[ac,aH,hl]) (o5 O) (.inr ⟨rfl,rfl⟩);have hu:fI B (n+1) es s=fI B n (es++ [(fN B s).1]) (fN B s).2:=rfl;rw[hu];refine⟨L,tk',q1, ?_⟩;have hv:=bL es;have b1:(es.length+1)*56<=140737488355328:=by omega
  generalize fI B n (es++ [(fN B s).1]) (fN B s).2=Z at*;have k1:=ep (n:=1) O;have z:=f61 B U 1 (by omega) (by omega) s O;unfold fN mR at h;rw[vx]at h;generalize uR B 1 s=p1 at*;obtain⟨x1,s1⟩:=p1;simp only at k1 z h;have k2:=pd (n:=12) k1;have E:=f62 B U 12 (by omega) s1 k1;generalize bR B 12 s1=p2 at*;obtain⟨x2,s2⟩:=p2;simp only at k2 E h;have k3:=ep (n:=4) k2;have y:=f61 B U 4 (by omega) (by omega) s2 k2;generalize uR B 4 s2=p3 at*;obtain⟨x3,s3⟩:=p3;simp only at k3 y h;have C:=f63 B U 32 (by omega) s3 k3;generalize wR B 32 s3=p4 at*;obtain⟨x4,s4⟩:=p4;simp only at C h;rw[show((1:Nat):Int)=1 from rfl]at z;rw[show((12:Nat):Int)=12 from rfl]at E;rw[show((4:Nat):Int)=4 from rfl]at y;rw[show((32:Nat):Int)=32 from rfl]at C;simp only[zR,mR,rqO,Ent.sv,bf,aG]at z E y C h ⊢;rw[ai];rcases J with⟨rfl,rfl,rfl⟩|⟨rfl,rfl⟩
  ·have H:bP []=[]:=rfl
   simp only[H,aG]at h ⊢;simp only[go_sem,Q0,Q1,Q2,Q3,Q4,Q5,Q6,Q7,Q8,Q9,Qa,Qb,Qc,Qd,Qe,Qf,Qg,Qh,Qi,Qj,Qk,reduceCtorEq,reduceIte,I,Q,W,z,xh,E,CI,y,C,xlI,h]
  ·simp only[go_sem,Q0,Q1,Q2,Q3,Q4,Q5,Q6,Q7,Q8,Q9,Qa,Qb,Qc,Qd,Qe,Qf,Qg,Qh,Qi,Qj,Qk,reduceCtorEq,reduceIte,I,Q,W,z,xh,E,CI,y,C,xlI,hv,b1,h]
theorem xmw(B:t7)(hB:B.length<=1000000000)(v:t7)(ve fl fr ti O:Int)(N:Nat)(es:List Ent)(t2:Tok)(z:LAb)(J:t2= .clip/\z=[]/\es=[]\/t2= .id 161/\z=[161]):∀(n i:Nat)(rs:List Rul)(s:Rs)(t:Tok)(tk:LAb),min N 9-i=n->i<=min N 9->rs.length=i->dD B s->
 (t= .clip/\tk=[]/\rs=[]\/t= .id 191/\tk=[191])->
 ∃(Q:Tok)(tk':LAb),(Q= .clip/\tk'=[]/\(fD B n rs s).1=[]\/Q= .id 191/\tk'=[191])/\
  run T (.loop xZ) ⟨[(2,.ptr 102 0),(4,.ptr 15100 0),(5,.ptr 105 0),(6,.int .i64 O),(10,.int .i64 N),(11,.int .i64 i)],[(102,zR),(105,mR v ve fl fr ti es t2 rs t),(15100,rqO B s)],z++tk⟩=
   some (.x 2,⟨[(2,.ptr 102 0),(4,.ptr 15100 0),(5,.ptr 105 0),(6,.int .i64 O)],[(102,zR),(105,mR v ve fl fr ti es t2 (fD B n rs s).1 Q),(15100,rqO B (fD B n rs s).2)],z++tk'⟩):=by
 intro n;induction n with
 |zero=>
  intro i rs s t tk h0 h1 hl h2 U;refine⟨t,tk,U, ?_⟩;unfold fD;rw[ai]
  by_cases I:i<N
  ·have L:¬(i:Int)<=8:=by omega
   rcases J with⟨rfl,rfl,rfl⟩|⟨rfl,rfl⟩<;>rcases U with⟨rfl,rfl,rfl⟩|⟨rfl,rfl⟩<;>simp only[zR,mR,rqO]<;>simp only[go_sem,Q0,Q1,Q2,Q3,Q4,Q5,Q6,Q7,Q8,Q9,Qa,Qb,Qc,Qd,Qe,Qf,Qg,Qh,Qi,Qj,Qk,reduceCtorEq,reduceIte,I,L]
  ·rcases J with⟨rfl,rfl,rfl⟩|⟨rfl,rfl⟩<;>rcases U with⟨rfl,rfl,rfl⟩|⟨rfl,rfl⟩<;>simp only[zR,mR,rqO]<;>simp only[go_sem,Q0,Q1,Q2,Q3,Q4,Q5,Q6,Q7,Q8,Q9,Qa,Qb,Qc,Qd,Qe,Qf,Qg,Qh,Qi,Qj,Qk,reduceCtorEq,reduceIte,I]
 |succ n ih=>
  intro i rs s t tk h0 h1 hl h2 U;have I:i<N:=by omega
  have L:(i:Int)<=8:=by omega
  have W:=bW i (by omega);obtain⟨Q,tk',q1,h⟩:=ih (i+1) (rs++ [(fK B s).1]) (fK B s).2 (.id 191) [191] (by omega) (by omega) (by rw[ac,aH,hl]) (ov h2) (.inr ⟨rfl,rfl⟩);have hu:fD B (n+1) rs s=fD B n (rs++ [(fK B s).1]) (fK B s).2:=rfl;rw[hu];refine⟨Q,tk',q1, ?_⟩;have hv:=cK rs;have b1:(rs.length+1)*40<=140737488355328:=by omega
  generalize fD B n (rs++ [(fK B s).1]) (fK B s).2=Z at*;have k1:=ep (n:=1) h2;have E:=f61 B hB 1 (by omega) (by omega) s h2;unfold fK mR at h;rw[uM]at h;generalize uR B 1 s=p1 at*;obtain⟨x1,s1⟩:=p1;simp only at k1 E h;have k2:=pd (n:=32) k1;have H:=f62 B hB 32 (by omega) s1 k1;generalize bR B 32 s1=p2 at*;obtain⟨x2,s2⟩:=p2;simp only at k2 H h;have k3:=ep (n:=4) k2;have C:=f61 B hB 4 (by omega) (by omega) s2 k2;generalize uR B 4 s2=p3 at*;obtain⟨x3,s3⟩:=p3;simp only at k3 C h;have F:=f61 B hB 4 (by omega) (by omega) s3 k3;generalize uR B 4 s3=p4 at*;obtain⟨x4,s4⟩:=p4;simp only at F h;rw[show((1:Nat):Int)=1 from rfl]at E;rw[show((32:Nat):Int)=32 from rfl]at H;rw[show((4:Nat):Int)=4 from rfl]at C F;simp only[zR,mR,rqO,Rul.sv,bf,aG]at E H C F h ⊢;rw[ai];rcases J with⟨rfl,rfl,rfl⟩|⟨rfl,rfl⟩<;>rcases U with⟨rfl,rfl,rfl⟩|⟨rfl,rfl⟩
  ·have y:dl []=[]:=rfl
   simp only[y,aG]at h ⊢;simp only[go_sem,Q0,Q1,Q2,Q3,Q4,Q5,Q6,Q7,Q8,Q9,Qa,Qb,Qc,Qd,Qe,Qf,Qg,Qh,Qi,Qj,Qk,reduceCtorEq,reduceIte,I,L,W,E,xh,H,CI,C,F,h]
  ·simp only[aG]at h ⊢
   simp only[go_sem,Q0,Q1,Q2,Q3,Q4,Q5,Q6,Q7,Q8,Q9,Qa,Qb,Qc,Qd,Qe,Qf,Qg,Qh,Qi,Qj,Qk,reduceCtorEq,reduceIte,I,L,W,E,xh,H,CI,C,F,hv,b1,h]
  ·have y:dl []=[]:=rfl
   simp only[y,aG,bf]at h ⊢;simp only[go_sem,Q0,Q1,Q2,Q3,Q4,Q5,Q6,Q7,Q8,Q9,Qa,Qb,Qc,Qd,Qe,Qf,Qg,Qh,Qi,Qj,Qk,reduceCtorEq,reduceIte,I,L,W,E,xh,H,CI,C,F,h]
  ·simp only[bf,aG]at h ⊢
   simp only[go_sem,Q0,Q1,Q2,Q3,Q4,Q5,Q6,Q7,Q8,Q9,Qa,Qb,Qc,Qd,Qe,Qf,Qg,Qh,Qi,Qj,Qk,reduceCtorEq,reduceIte,I,L,W,E,xh,H,CI,C,F,hv,b1,h]
theorem xmh(B:t7)(E:B.length<=1000000000)(v:t7)(y fl fr z h:Int)(es:List Ent)(s:Rs)(C:dD B s)(t:Tok)(tk:LAb)(F:t= .clip/\tk=[]/\es=[]\/t= .id 161/\tk=[161]):
 run T (.ops qj) ⟨[(2,.ptr 102 0),(4,.ptr 15100 0),(5,.ptr 105 0),(6,.int .i64 h)],[(102,zR),(105,mR v y fl fr z es t [] .clip),(15100,rqO B s)],tk⟩=
  some (.n,⟨[(2,.ptr 102 0),(4,.ptr 15100 0),(5,.ptr 105 0),(6,.int .i64 h),(10,.int .i64 (uR B 1 s).1)],[(102,zR),(105,mR v y fl fr z es t [] .clip),(15100,rqO B (uR B 1 s).2)],tk⟩):=by
 have g:=f61 B E 1 (by omega) (by omega) s C;rw[show((1:Nat):Int)=1 from rfl]at g;simp only[zR,mR,rqO]at g ⊢;rcases F with⟨rfl,rfl,rfl⟩|⟨rfl,rfl⟩<;>simp only[go_sem,Q0,Q1,Q2,Q3,Q4,Q5,Q6,Q7,Q8,Q9,Qa,Qb,Qc,Qd,Qe,Qf,Qg,Qh,Qi,Qj,Qk,reduceCtorEq,reduceIte,g,xh]
theorem xmg(B:t7)(J:B.length<=1000000000)(v:t7)(z fl fr y h:Int)(es:List Ent)(s:Rs)(L:dD B s)(t:Tok)(tk:LAb)(rs:List Rul)(u:Tok)(C:LAb)
 (I:dV ⟨v,z,fl,fr,y,es,rs⟩)
 (E:t= .clip/\tk=[]/\es=[]\/t= .id 161/\tk=[161]) (hu:u= .clip/\C=[]/\rs=[]\/u= .id 191/\C=[191]):
 run T (.ops qh) ⟨[(2,.ptr 102 0),(4,.ptr 15100 0),(5,.ptr 105 0),(6,.int .i64 h)],[(102,zR),(105,mR v z fl fr y es t rs u),(15100,rqO B s)],tk++C⟩=
  some (.n,⟨[(2,.ptr 102 0),(5,.ptr 105 0),(104,.bool (!decide (h=21/\eR B s=0/\fj ⟨v,z,fl,fr,y,es,rs⟩=0)))],[(102,zR),(105,mR v z fl fr y es t rs u),(15100,rqO B s)],tk++C⟩):=by
 have g:=f64 B J s L;have gm:=f14 ⟨v,z,fl,fr,y,es,rs⟩ I;generalize fj ⟨v,z,fl,fr,y,es,rs⟩=q at*;generalize eR B s=p at*;simp only[zR,mR,rqO,Man.sv]at g gm ⊢
 by_cases hT:h=21
 ·subst hT
  by_cases H:p=0
  ·subst H
   by_cases F:q=0
   ·subst F
    rcases E with⟨rfl,rfl,rfl⟩|⟨rfl,rfl⟩<;>rcases hu with⟨rfl,rfl,rfl⟩|⟨rfl,rfl⟩<;>simp only[go_sem,Q0,Q1,Q2,Q3,Q4,Q5,Q6,Q7,Q8,Q9,Qa,Qb,Qc,Qd,Qe,Qf,Qg,Qh,Qi,Qj,Qk,reduceCtorEq,reduceIte,g,xfW,gm,Ti]
   ·rcases E with⟨rfl,rfl,rfl⟩|⟨rfl,rfl⟩<;>rcases hu with⟨rfl,rfl,rfl⟩|⟨rfl,rfl⟩<;>simp only[go_sem,Q0,Q1,Q2,Q3,Q4,Q5,Q6,Q7,Q8,Q9,Qa,Qb,Qc,Qd,Qe,Qf,Qg,Qh,Qi,Qj,Qk,reduceCtorEq,reduceIte,g,xfW,gm,Ti,F]
  ·rcases E with⟨rfl,rfl,rfl⟩|⟨rfl,rfl⟩<;>rcases hu with⟨rfl,rfl,rfl⟩|⟨rfl,rfl⟩<;>simp only[go_sem,Q0,Q1,Q2,Q3,Q4,Q5,Q6,Q7,Q8,Q9,Qa,Qb,Qc,Qd,Qe,Qf,Qg,Qh,Qi,Qj,Qk,reduceCtorEq,reduceIte,g,xfW,H]
 ·rcases E with⟨rfl,rfl,rfl⟩|⟨rfl,rfl⟩<;>rcases hu with⟨rfl,rfl,rfl⟩|⟨rfl,rfl⟩<;>simp only[go_sem,Q0,Q1,Q2,Q3,Q4,Q5,Q6,Q7,Q8,Q9,Qa,Qb,Qc,Qd,Qe,Qf,Qg,Qh,Qi,Qj,Qk,reduceCtorEq,reduceIte,hT]
attribute [-go_sem] qj qh
theorem f24(B:t7)(h:B.length<=1000000000):call T 24 [.byt B .no] [] 0=some ⟨.tup [.agg (kv B).sv,.int .i64 (sZ B)],[],[]⟩:=by
 have g0:=f60 B;have k0:dD B ⟨0,0⟩:=⟨bH _⟩;have W:=f61 B h 1 (by omega) (by omega) ⟨0,0⟩ k0;have k1:=ep (n:=1) k0;have I:=f62 B h 12 (by omega) _ k1;have k2:dD B (hV B).2:=pd (n:=12) k1;have F:=f61 B h 4 (by omega) (by omega) _ k2;have k3:dD B (hE B).2:=ep (n:=4) k2;have H:=f61 B h 4 (by omega) (by omega) _ k3;have k4:dD B (hF B).2:=ep (n:=4) k3;have J:=f61 B h 6 (by omega) (by omega) _ k4;have k5:dD B (hM B).2:=ep (n:=6) k4;have U:=f61 B h 6 (by omega) (by omega) _ k5;have k6:dD B (hT B).2:=ep (n:=6) k5;have L:=f61 B h 1 (by omega) (by omega) _ k6;have k7:dD B (hN B).2:=ep (n:=1) k6;have n1:=kV B (hT B).2;have n2:=kV B (qL B).2;change 0<=(hN B).1/\(hN B).1<256 at n1;change 0<=(qK B).1/\(qK B).1<256 at n2;have nn:(hN B).1=(((hN B).1.toNat:Nat):Int):=by omega
 have nk:(qK B).1=(((qK B).1.toNat:Nat):Int):=by omega
 obtain⟨E,tk',Q,O⟩:=xmx B h (hV B).1 (hE B).1 (hF B).1 (hM B).1 (hT B).1 (uR B 1 ⟨0,0⟩).1 (hN B).1.toNat (qN B) 0 [] (hN B).2 .clip [] rfl (bH _) rfl k7 (.inl ⟨rfl,rfl,rfl⟩);have k8:dD B (qL B).2:=vo k7;have k9:dD B (qK B).2:=ep (n:=1) k8;change (E= .clip/\tk'=[]/\(qL B).1=[]\/E= .id 161/\tk'=[161])at Q;obtain⟨u',a3,r1,r3⟩:=xmw B h (hV B).1 (hE B).1 (hF B).1 (hM B).1 (hT B).1 (uR B 1 ⟨0,0⟩).1 (qK B).1.toNat (qL B).1 E tk' Q (qM B) 0 [] (qK B).2 .clip [] rfl (bH _) rfl k9 (.inl ⟨rfl,rfl,rfl⟩);have a2:dD B (qR B).2:=uF k9;change _/\_/\(qR B).1=[]\/_ at r1;rw[<-nn]at O;rw[<-nk]at r3;have Z:=xmh B h (hV B).1 (hE B).1 (hF B).1 (hM B).1 (hT B).1 (uR B 1 ⟨0,0⟩).1 (qL B).1 (qL B).2 k8 E tk' Q;have C:=xmg B h (hV B).1 (hE B).1 (hF B).1 (hM B).1 (hT B).1 (uR B 1 ⟨0,0⟩).1 (qL B).1 (qR B).2 a2 E tk' (qR B).1 u' a3 (Cr B) Q r1;change run T _ _=some (Ex.x 0,⟨_,[_,(105,mR _ _ _ _ _ (qL B).1 E [] .clip),(15100,rqO B (qL B).2)],_⟩)at O;change run T _ _=some (Ex.x 2,⟨_,[_,(105,mR _ _ _ _ _ (qL B).1 E (qR B).1 u'),(15100,rqO B (qR B).2)],_⟩)at r3;change run T _ _=some (Ex.n,⟨[_,_,_,_,(10,SV.int .i64 (qK B).1)],[_,_,(15100,rqO B (qK B).2)],_⟩)at Z;change run T _ _=some (Ex.n,⟨[_,_,(104,SV.bool (!decide ((uR B 1 ⟨0,0⟩).1=21/\eR B (qR B).2=0/\fj (qz B)=0)))],_,_⟩)at C;change call T 61 _ _ _=some ⟨.int .i64 (hE B).1,[(0,rqO B (hE B).2)],[]⟩at F;change call T 61 _ _ _=some ⟨.int .i64 (hF B).1,[(0,rqO B (hF B).2)],[]⟩at H;change call T 61 _ _ _=some ⟨.int .i64 (hM B).1,[(0,rqO B (hM B).2)],[]⟩at J
 change call T 61 _ _ _=some ⟨.int .i64 (hT B).1,[(0,rqO B (hT B).2)],[]⟩at U;change call T 61 _ _ _=some ⟨.int .i64 (hN B).1,[(0,rqO B (hN B).2)],[]⟩at L;change call T 62 _ _ _=some ⟨.byt (hV B).1 .no,[(0,rqO B (hV B).2)],[]⟩at I
 have a0:nT B=if(uR B 1 ⟨0,0⟩).1=21/\eR B (qR B).2=0/\fj (qz B)=0 then some (qz B)else none:=by rw[<-CB];unfold okQ;rfl
 have a4:(qz B).sv=[.str (hV B).1,.int .i64 (hE B).1,.int .i64 (hF B).1,.int .i64 (hM B).1,.int .i64 (hT B).1,.lst 4 (bP (qL B).1) .no,.lst 4 (dl (qR B).1) .no]:=rfl;have y:bP []=[]:=rfl;have z:dl []=[]:=rfl;rw[show((1:Nat):Int)=1 from rfl]at W L;rw[show((12:Nat):Int)=12 from rfl]at I;rw[show((4:Nat):Int)=4 from rfl]at F H;rw[show((6:Nat):Int)=6 from rfl]at J U;unfold kv sZ;rw[a0];rw[an xow];simp only[bw]at r3
 by_cases hb:(uR B 1 ⟨0,0⟩).1=21/\eR B (qR B).2=0/\fj (qz B)=0
 ·rw[if_pos hb]
  rw[decide_eq_true hb]at C;simp only[a4];simp only[zR,mR,rqO,y,z,aB]at g0 W I F H J U L O r3 Z C;simp only[go_sem,Q0,Q1,Q2,Q3,Q4,Q5,Q6,Q7,Q8,Q9,Qa,Qb,Qc,Qd,Qe,Qf,Qg,Qh,Qi,Qj,Qk,reduceCtorEq,reduceIte,g0,xlJ,W,xh,I,CI,F,H,J,U,L,O,Z,r3,C]
  try (rcases Q with⟨rfl,rfl,hz⟩|⟨rfl,rfl⟩<;>rcases r1 with⟨rfl,rfl,a1⟩|⟨rfl,rfl⟩<;>simp only[go_sem,Q0,Q1,Q2,Q3,Q4,Q5,Q6,Q7,Q8,Q9,Qa,Qb,Qc,Qd,Qe,Qf,Qg,Qh,Qi,Qj,Qk,reduceCtorEq,reduceIte,y,z,mnz,Man.sv,hz,a1])
 ·rw[if_neg hb]
  rw[decide_eq_false hb]at C;simp only[zR,mR,rqO,y,z,aB]at g0 W I F H J U L O r3 Z C;simp only[go_sem,Q0,Q1,Q2,Q3,Q4,Q5,Q6,Q7,Q8,Q9,Qa,Qb,Qc,Qd,Qe,Qf,Qg,Qh,Qi,Qj,Qk,reduceCtorEq,reduceIte,g0,xlJ,W,xh,I,CI,F,H,J,U,L,O,Z,r3,C];rcases Q with⟨rfl,rfl,hz⟩|⟨rfl,rfl⟩<;>rcases r1 with⟨rfl,rfl,a1⟩|⟨rfl,rfl⟩<;>simp only[go_sem,Q0,Q1,Q2,Q3,Q4,Q5,Q6,Q7,Q8,Q9,Qa,Qb,Qc,Qd,Qe,Qf,Qg,Qh,Qi,Qj,Qk,reduceCtorEq,reduceIte,y,z,mnz,Man.sv]
attribute [go_sem] qj qh
end Go.Proofs.YtkcjdeofknkndaaGreatDoor
