/- Contracts. No condition. -/
import Derived.Test.YtkcjdeofknkndaaGreatDoorTmDF
open Int renaming natCast_zero -> aD
open List renaming foldl_cons -> cz, length_cons -> ay, length_take -> aA, take_of_length_le -> bT
open Nat renaming le_refl -> aN, zero_le -> bD
set_option maxRecDepth 100000
set_option maxHeartbeats 16000000
set_option linter.unusedSimpArgs false
set_option linter.unusedVariables false
namespace Go.Proofs.YtkcjdeofknkndaaGreatDoor
open Go.Sy
open UInt8 renaming reduceLT -> Q0, reduceLE -> Q1
open Int renaming reduceToNat -> Q2, reduceLE -> Q3, reduceLT -> Q4, reduceEq -> Q5, reduceNe -> Q6, reduceNeg -> Q7, reduceAdd -> Q8, reduceSub -> Q9, reduceMul -> Qa
open Nat renaming reducePow -> Qb, reduceDiv -> Qc, reduceMod -> Qd, reduceAdd -> Qe, reduceSub -> Qf, reduceMul -> Qg, reduceLT -> Qh, reduceLeDiff -> Qi, reduceEqDiff -> Qj, reduceBEq -> Qk
theorem uB(n m:Int)(h:1<=m):0<=mQ n m/\mQ n m<m:=by
 unfold mQ;rw[if_neg (by omega)];have y:=Int.tmod_lt_of_pos n (show(0:Int)<m by omega)
 have z: -m<n.tmod m:=by have:=Int.lt_tmod_of_pos n (show(0:Int)<m by omega);exact this
 split<;>constructor<;>omega
theorem mW:∀(l:List Img)(es:List Ent)(n:Nat),iX es n->iX (l.foldl ki es) (n+l.length)
 |[],_,_,h=>h
 |y::r,es,n,h=>by have:=mW r (ki es y) (n+1) (mX y h);rw[cz,ay,show n+(r.length+1)=n+1+r.length from by omega];exact this
theorem l9(m:Man)(O:m.ruls=[])(es:List Ev)(hn:es.length<=100000)(U:∀e∈es,call T 31 [.agg m.sv,.agg e.sv] [] 0=some ⟨.int .i64 (iH m e),[],[]⟩)(L:∀e∈es,(0<=iH m e↔e.kind=1)):∀(n i:Nat),es.length-i=n->i<=es.length->
 run T (.loop Np) ⟨[(12,.ptr 112 0),(13,.lst 4 (fT es) .no),(14,.int .i64 i)],[(112,.rc [.str m.vendor,.int .i64 m.ver,.int .i64 m.flr,.int .i64 m.frm,.int .i64 m.til,.lst 4 (cd m.ents) .no,.lst 4 [] .clip])],[]⟩=
 some (.x 0,⟨[(13,.lst 4 (fT es) .no)],[(112,.rc [.str m.vendor,.int .i64 m.ver,.int .i64 m.flr,.int .i64 m.frm,.int .i64 m.til,.lst 4 (cd m.ents) .no,.lst 4 [] .clip])],[]⟩):=by
 have H:=ep es;intro n;induction n with
 |zero=>
  intro i Q J;have:i=es.length:=by omega
  subst this;rw[al];simp only[go_sem,Q0,Q1,Q2,Q3,Q4,Q5,Q6,Q7,Q8,Q9,Qa,Qb,Qc,Qd,Qe,Qf,Qg,Qh,Qi,Qj,Qk,reduceCtorEq,reduceIte,H]
 |succ n W=>
  intro i Q J;have hi:i<es.length:=by omega
  have C:(i:Int)<(es.length:Int):=by omega
  have w1:=cA i (by omega);have z:=W (i+1) (by omega) (by omega);have E:=Di es i hi;have I:=dd es ev0 i hi;have g:=U _ I;have k:=L _ I;unfold Man.sv at g;rw[O]at g;have z0:fk []=[]:=rfl;rw[z0]at g;generalize es.getD i ev0=e at*;generalize iH m e=q at*;unfold Ev.sv at g E;rw[al]
  by_cases F:0<=q
  ·have y:=k.1 F
   rw[y]at g E;simp only[go_sem,Q0,Q1,Q2,Q3,Q4,Q5,Q6,Q7,Q8,Q9,Qa,Qb,Qc,Qd,Qe,Qf,Qg,Qh,Qi,Qj,Qk,reduceCtorEq,reduceIte,hi,C,w1,H,E,g,xdh,F,z]
  ·have y:¬e.kind=1:=fun h=>F (k.2 h)
   simp only[go_sem,Q0,Q1,Q2,Q3,Q4,Q5,Q6,Q7,Q8,Q9,Qa,Qb,Qc,Qd,Qe,Qf,Qg,Qh,Qi,Qj,Qk,reduceCtorEq,reduceIte,hi,C,w1,H,E,g,xdh,F,y,z]
theorem xdM(raw:List Img):(dS raw).take 10=dS (raw.take 10):=by unfold dS;rw[List.map_take]
theorem f9(raw:List Img)(E y:t6)(ver L:Int)(v0: -9223372036854775808<=ver)(v1:ver<=9223372036854775807)(h0: -9223372036854775808<=L)(h1:L<=9223372036854775807):
 call T 9 [.lst 4 (dS raw) .no,.byt E .no,.str y,.int .i64 ver,.int .i64 L] [] 0=some ⟨.bool true,[],[]⟩:=by
 have ga:=f10;obtain⟨l,J,g⟩:=f28 E;have gs:=f36 L h0 h1;have a9:=uB L 2 (by decide);have ha:2+mQ L 2=2\/2+mQ L 2=3:=by omega
 generalize 2+mQ L 2=a at*;have a7:vi a:=by rcases ha with rfl|rfl;exact .inr (.inl rfl);exact .inr (.inr rfl)
 have n8:=J.n8;have gm:=f15 ver 9 v0 v1 (by decide);have a6:=uB ver 9 (by decide);generalize mQ ver 9=u at*;have a1:=QK J (v:=u) a6.1 (by omega);have gd:=xc2 l (by omega) [97,99,109,101] u;rw[wC J]at gd;have a4:=BV J;have a2:gu (Nc u l):=⟨by show(4:Nat)<=1000000;decide,by have:=a4.len;show(lk l []).length<=_;omega,by show(0:Nat)<=1000000;decide,fun x H=>by have:=a4.e x H;omega,fun x H=>by cases H⟩;have gc:=f13 (Nc u l) a2;rw[a1]at gc;have ge:=f39 l J a a7;have a8:=Qr J a;have I:=l9 (Nc u l) rfl (evF l a) (by omega) (fun e he=>f31 _ a2 e (by have:=xfX J a e he;exact this.bd)) (Fv ha J a1 rfl rfl) _ 0 rfl (bD _);rw[aD]at I;have a0:=ep (evF l a);have O:(0:Int)<(evF l a).length:=by omega
 have g1:=xc2 (raw.take 10) (by rw[aA];omega) (y.take 20) ver;have F:=xkc (raw.take 10) (by rw[aA];omega) (y.take 20) ver;rw[<-oR]at F;have Q:=mW (raw.take 10) [] 0 ⟨aN _,fun x H=>by cases H⟩;rw[<-oR]at Q;have a5:gu ⟨y.take 20,ver,0,0,1099511627776,rj (raw.take 10),[]⟩:=⟨by show(y.take 20).length<=_;rw[aA];omega,by have:=Q.len;rw[aA]at this;show(rj (raw.take 10)).length<=_;omega,by show(0:Nat)<=1000000;decide,fun x H=>by have:=Q.e x H;omega,fun x H=>by cases H⟩;have Z:=f18 (⟨y.take 20,ver,0,0,1099511627776,rj (raw.take 10),[]⟩:Man) (⟨y.take 20,ver,0,0,1099511627776,rj (raw.take 10),[]⟩:Man) a5;rw[N3 rfl]at Z;have a3:=dY raw;have ht:=xdM raw;have z0:fk []=[]:=rfl;simp only[Man.sv,Nc,z0]at Z gc I;generalize lk l []=D at*;generalize fT (evF l a)=V at*;generalize (evF l a).length=K at*;unfold tkE at F;generalize rj (raw.take 10)=P at*
 have C:((10:Int)<raw.length/\(10:Int)<=raw.length)\/(¬(10:Int)<raw.length/\raw.take 10=raw):=by
  by_cases h:(10:Int)<raw.length
  ·exact .inl ⟨h,by omega⟩
  ·exact .inr ⟨h,bT (by omega)⟩
 have z:((20:Int)<y.length/\(20:Int)<=y.length/\20<=y.length)\/(¬(20:Int)<y.length/\y.take 20=y):=by
  by_cases h:(20:Int)<y.length
  ·exact .inl ⟨h,by omega,by omega⟩
  ·exact .inr ⟨h,bT (by omega)⟩
 rw[au T_9]
 by_cases hP:P=[]
 ·rw[if_pos hP]at F
  subst hP;rcases C with⟨p1,W⟩|⟨p1,W⟩<;>rcases z with⟨q1,U,q3⟩|⟨q1,U⟩<;>
  ·try rw[W]at g1 F
   try rw[U]at g1 F Z
   simp only[go_sem,Q0,Q1,Q2,Q3,Q4,Q5,Q6,Q7,Q8,Q9,Qa,Qb,Qc,Qd,Qe,Qf,Qg,Qh,Qi,Qj,Qk,reduceCtorEq,reduceIte,ga,xiX,a3,p1,W,ht,q1,U,g,xiW,gs,xiV,g1,xdg,F,xiU,Z,xdj,gm,xdl,gd,gc,nb,ge,xiT,I,a0,O]
 ·rw[if_neg hP]at F
  rcases C with⟨p1,W⟩|⟨p1,W⟩<;>rcases z with⟨q1,U,q3⟩|⟨q1,U⟩<;>
  ·try rw[W]at g1 F
   try rw[U]at g1 F Z
   simp only[go_sem,Q0,Q1,Q2,Q3,Q4,Q5,Q6,Q7,Q8,Q9,Qa,Qb,Qc,Qd,Qe,Qf,Qg,Qh,Qi,Qj,Qk,reduceCtorEq,reduceIte,ga,xiX,a3,p1,W,ht,q1,U,g,xiW,gs,xiV,g1,xdg,F,xiU,Z,xdj,gm,xdl,gd,gc,nb,ge,xiT,I,a0,O]
end Go.Proofs.YtkcjdeofknkndaaGreatDoor
