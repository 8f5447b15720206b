/- What the functions come to. No condition. -/
import Derived.Test.YtkggincjigbelaaGreatDoorToB
open Go.IntKind renaming i64 -> af
open List renaming Pairwise -> ge, drop -> gJ, length_append -> ac, length_nil -> aq, length_singleton -> aW, map_append -> ct, map_nil -> bp, mem_append -> al, mem_singleton -> bf, nil_append -> az
open Nat renaming mul_one -> cX
set_option maxRecDepth 100000
set_option maxHeartbeats 16000000
set_option linter.unusedSimpArgs false
set_option linter.unusedVariables false
namespace Go.Proofs.YtkggincjigbelaaGreatDoor
open Go.Sy
open UInt8 renaming reduceLT -> Q0, reduceLE -> Q1
open Int renaming reduceToNat -> Q2, reduceLE -> Q3, reduceLT -> Q4, reduceEq -> Q5, reduceNe -> Q6, reduceNeg -> Q7, reduceAdd -> Q8, reduceSub -> Q9, reduceMul -> Qa
open Nat renaming reducePow -> Qb, reduceDiv -> Qc, reduceMod -> Qd, reduceAdd -> Qe, reduceSub -> Qf, reduceMul -> Qg, reduceLT -> Qh, reduceLeDiff -> Qi, reduceEqDiff -> Qj, reduceBEq -> Qk
theorem jQ(B:List UInt8)(hB:B.length<=1000)(j n:Nat)(hn:0<n):∃v j':Nat,v<n/\call T 52 [.ptr 0 0,.int .i64 (n:Int)] [bO B j] 0=some ⟨.int .i64 (v:Int),[(0,bO B j')],[]⟩:=
 ⟨js B j n,fS B j,gx B j n hn,f52 B j n hn (by omega)⟩
def mZ:aF:= .rc [.str [],.int .i64 0,.int .i64 0,.int .i64 0,.int .i64 0,.lst 4 [] .clip,.lst 4 [] .clip]

section
open SortT
theorem f84:call T 84 [] [] 0=some ⟨.agg [.str [97,99,109,101],.str [118,50],.str [120,45,121]],[],[]⟩:=by rw[ah xpf];simp only[go_sem,Q0,Q1,Q2,Q3,Q4,Q5,Q6,Q7,Q8,Q9,Qa,Qb,Qc,Qd,Qe,Qf,Qg,Qh,Qi,Qj,Qk,reduceCtorEq,reduceIte]
theorem xmR(v:Nat)(h:v<3):∃n:List UInt8,(n.length<=10/\Pr.nameB n=true)/\(gJ v [SV.str [97,99,109,101],.str [118,50],.str [120,45,121]]).getD 0 .undef= .str n:=by
 have:v=0\/v=1\/v=2:=by omega
 rcases this with rfl|rfl|rfl
 ·exact⟨[97,99,109,101],⟨by decide,by decide⟩,rfl⟩
 ·exact⟨[118,50],⟨by decide,by decide⟩,rfl⟩
 ·exact⟨[120,45,121],⟨by decide,by decide⟩,rfl⟩
theorem CX(l:List Rul)(x:Rul):dT l++ [x.sv]=dT (l++ [x]):=by rw[dT,dT,ct];rfl
theorem l54(B:List UInt8)(hB:B.length<=1000)(v:List UInt8)(m1 m2 m3 m4:Int)(es:List (List SV))(te:Tok)(hte:te= .no\/te= .clip/\es=[]):∀(n:Nat)(rs:List Rul)(j:Nat),rs.length+n<=8->(∀x∈rs,x.text.length<=20/\oy x=0)->∀(t:Tok)(tk:List Nat),(t= .clip/\tk=[]/\rs=[])\/(t= .id 160/\tk=[160])->
 ∃(rs':List Rul)(t':Tok)(tk':List Nat)(j':Nat),rs'.length<=8/\(∀x∈rs',x.text.length<=20/\oy x=0)/\((t'= .clip/\tk'=[]/\rs'=[])\/(t'= .id 160/\tk'=[160]))/\
 run T (.loop yG) ⟨[(0,.ptr 0 0),(4,.ptr 104 0),(6,.ptr 106 0),(7,.int .i64 (n:Int))],[(0,bO B j),(104,mZ),(106,.rc [.str v,.int .i64 m1,.int .i64 m2,.int .i64 m3,.int .i64 m4,.lst 4 es te,.lst 4 (dT rs) t])],tk⟩=
 some (.x 0,⟨[(4,.ptr 104 0),(6,.ptr 106 0)],[(0,bO B j'),(104,mZ),(106,.rc [.str v,.int .i64 m1,.int .i64 m2,.int .i64 m3,.int .i64 m4,.lst 4 es te,.lst 4 (dT rs') t'])],tk'⟩):=by
 intro n;induction n with
 |zero=>
  intro rs j h1 h2 t tk ht;refine⟨rs,t,tk,j,by omega,h2,ht, ?_⟩;rw[ai];rcases hte with rfl|⟨rfl,rfl⟩<;>rcases ht with⟨rfl,rfl,rfl⟩|⟨rfl,rfl⟩
  all_goals
   simp only[bO,mZ];simp only[go_sem,Q0,Q1,Q2,Q3,Q4,Q5,Q6,Q7,Q8,Q9,Qa,Qb,Qc,Qd,Qe,Qf,Qg,Qh,Qi,Qj,Qk,reduceCtorEq,reduceIte]
 |succ n ih=>
  intro rs j h1 h2 t tk ht;obtain⟨k,t1,lo,hi,j1,hk,ht1,g⟩:=f85 B j hB;have hp:(0:Int)<((n+1:Nat):Int):=by omega
  have e1:af.wrap (((n+1:Nat):Int)-1)=(n:Int):=wZ (by omega)
  obtain⟨rs',t',tk',j',q1,q2,q3,q4⟩:=ih (rs++ [⟨k,t1,lo,hi⟩]) j1 (by rw[ac,aW];omega) (fun x hx=>by
   rw[al,bf]at hx;rcases hx with hx|rfl
   ·exact h2 x hx
   ·exact⟨ht1,hk⟩) (.id 160) [160] (.inr ⟨rfl,rfl⟩)
  refine⟨rs',t',tk',j',q1,q2,q3, ?_⟩;have hv:=eD rs;have b1:(rs.length+1)*40<=140737488355328:=by omega
  rw[<-CX]at q4;rw[ai];rcases hte with rfl|⟨rfl,rfl⟩<;>rcases ht with⟨rfl,rfl,rfl⟩|⟨rfl,rfl⟩
  ·have hnil:dT []=[]:=rfl
   simp only[bO,mZ,Rul.sv,hnil,az]at g q4 ⊢;simp only[go_sem,Q0,Q1,Q2,Q3,Q4,Q5,Q6,Q7,Q8,Q9,Qa,Qb,Qc,Qd,Qe,Qf,Qg,Qh,Qi,Qj,Qk,reduceCtorEq,reduceIte,hp,g,Z0,e1,q4]
  ·simp only[bO,mZ,Rul.sv]at g q4 ⊢
   simp only[go_sem,Q0,Q1,Q2,Q3,Q4,Q5,Q6,Q7,Q8,Q9,Qa,Qb,Qc,Qd,Qe,Qf,Qg,Qh,Qi,Qj,Qk,reduceCtorEq,reduceIte,hp,g,Z0,hv,b1,e1,q4]
  ·have hnil:dT []=[]:=rfl
   simp only[bO,mZ,Rul.sv,hnil,az]at g q4 ⊢;simp only[go_sem,Q0,Q1,Q2,Q3,Q4,Q5,Q6,Q7,Q8,Q9,Qa,Qb,Qc,Qd,Qe,Qf,Qg,Qh,Qi,Qj,Qk,reduceCtorEq,reduceIte,hp,g,Z0,e1,q4]
  ·simp only[bO,mZ,Rul.sv]at g q4 ⊢
   simp only[go_sem,Q0,Q1,Q2,Q3,Q4,Q5,Q6,Q7,Q8,Q9,Qa,Qb,Qc,Qd,Qe,Qf,Qg,Qh,Qi,Qj,Qk,reduceCtorEq,reduceIte,hp,g,Z0,hv,b1,e1,q4]
structure xfB(m:Man):Prop where
 v:m.vendor.length<=100
 en:m.ents.length<=8
 rn:m.ruls.length<=8
 e:∀x∈m.ents,x.name.length<=1000000/\x.dig.length=32
 r:∀x∈m.ruls,x.text.length<=20
 ok:gS m=0
theorem xfB.bd{m:Man}(h:xfB m):iq m:=⟨by have:=h.v;omega,by have:=h.en;omega,by have:=h.rn;omega,fun x hx=>by have:=h.e x hx;omega,fun x hx=>by have:=h.r x hx;omega⟩
theorem xob(v:List UInt8)(ve:Int):call T 83 [.str v,.int .i64 ve,.lst 4 [] .no] [] 0=some ⟨.agg [.str v,.int .i64 ve,.int .i64 0,.int .i64 0,.int .i64 1099511627776,.lst 4 [] .clip,.lst 4 [] .clip],[],[]⟩:=by rw[ah xpg];simp only[go_sem,Q0,Q1,Q2,Q3,Q4,Q5,Q6,Q7,Q8,Q9,Qa,Qb,Qc,Qd,Qe,Qf,Qg,Qh,Qi,Qj,Qk,reduceCtorEq,reduceIte];rw[ai];simp only[go_sem,Q0,Q1,Q2,Q3,Q4,Q5,Q6,Q7,Q8,Q9,Qa,Qb,Qc,Qd,Qe,Qf,Qg,Qh,Qi,Qj,Qk,reduceCtorEq,reduceIte]
theorem xoo(B:List UInt8)(hB:B.length<=1000)(j:Nat):∃(m:Man)(j':Nat),xfB m/\call T 54 [.ptr 0 0,.lst 4 [] .no] [bO B j] 0=some ⟨.agg m.sv,[(0,bO B j')],[]⟩:=by
 have k1:af.wrap 1=1:=rfl;have hz:fo []=[]:=rfl;have gv:=f84;obtain⟨v1,j1,h1,g1⟩:=jQ B hB j 4 (by omega);rw[cz4]at g1;obtain⟨v2,j2,h2,g2⟩:=jQ B hB j1 3 (by omega);rw[cz3]at g2;obtain⟨nv,⟨hnv,hnB⟩,hve⟩:=xmR v2 h2;have h2i:(v2:Int)<3:=by omega
 have gd:=xob nv (v1:Int);obtain⟨v3,j3,h3,g3⟩:=jQ B hB j2 3 (by omega);rw[cz3]at g3;have e5:=cA v1 (by omega)
 by_cases p3:v3=1
 ·have n3:(v3:Int)=1:=by omega
  obtain⟨v4,j4,h4,g4⟩:=jQ B hB j3 1 (by omega);rw[c1]at g4;obtain rfl:v4=0:=by omega
  rw[cz0]at g4;obtain⟨v5,j5,h5,g5⟩:=jQ B hB j4 (v1+1) (by omega);obtain⟨v6,j6,h6,g6⟩:=jQ B hB j5 12 (by omega);rw[c12]at g6;obtain⟨v7,j7,h7,g7⟩:=jQ B hB j6 30 (by omega);rw[c30]at g7;obtain⟨v8,j8,h8,g8⟩:=jQ B hB j7 2 (by omega);rw[c2]at g8;obtain⟨v9,j9,h9,g9⟩:=jQ B hB j8 4 (by omega);rw[cz4]at g9;have hUv:af.wrap (af.wrap ((v6:Int)+1)+(v7:Int))=(v6:Int)+1+v7:=by rw[w64 (n:=(v6:Int)+1) (by omega) (by omega),w64 (by omega) (by omega)]
  obtain⟨U,hU⟩:∃U,U=af.wrap (af.wrap ((v6:Int)+1)+(v7:Int)):=⟨_,rfl⟩;have hU2:U=(v6:Int)+1+v7:=hU.trans hUv
  by_cases p8:v8=0
  ·have p8':(v8:Int)=0:=by omega
   obtain⟨rs',t',tk',j',q1,q2,q3,q4⟩:=l54 B hB nv (v1:Int) (v5:Int) (v6:Int) 1099511627776 [] .no (.inl rfl) v9 [] j9 (by simp only[aq];omega) (fun x hx=>by cases hx) .clip [] (.inl ⟨rfl,rfl,rfl⟩);refine⟨⟨nv,v1,v5,v6,1099511627776,[],rs'⟩,j',⟨by show nv.length<=100;omega,by show 0<=8;decide,q1,fun x hx=>(by cases hx),fun x hx=>(q2 x hx).1,lY hnB (by show(0:Int)<=v5;omega) (by show(v5:Int)<=v1;omega) (by show(v1:Int)<=1000000;omega) (by show(0:Int)<=v6;omega) (by show(v6:Int)<1099511627776;omega) (by show(1099511627776:Int)<=1099511627776;omega) (by show 0<=16;decide) q1 (fun x hx=>by cases hx) ge.nil (fun x hx=>(q2 x hx).2)⟩, ?_⟩;rw[ah ZS];rcases q3 with⟨rfl,rfl,rfl⟩|⟨rfl,rfl⟩
   ·simp only[bO,mZ,Man.sv,dT,bp]at g1 g2 g3 g5 g6 g7 g8 g9 q4 gd g4 ⊢
    simp only[go_sem,Q0,Q1,Q2,Q3,Q4,Q5,Q6,Q7,Q8,Q9,Qa,Qb,Qc,Qd,Qe,Qf,Qg,Qh,Qi,Qj,Qk,reduceCtorEq,reduceIte,g1,g2,g3,g5,g6,g7,g8,g9,li,gv,Cg,h2,h2i,cX,hve,gd,Ch,n3,e5,k1,hz,p8',<-hU,q4,g4]
   ·simp only[bO,mZ,Man.sv,dT,bp]at g1 g2 g3 g5 g6 g7 g8 g9 q4 gd g4 ⊢
    simp only[go_sem,Q0,Q1,Q2,Q3,Q4,Q5,Q6,Q7,Q8,Q9,Qa,Qb,Qc,Qd,Qe,Qf,Qg,Qh,Qi,Qj,Qk,reduceCtorEq,reduceIte,g1,g2,g3,g5,g6,g7,g8,g9,li,gv,Cg,h2,h2i,cX,hve,gd,Ch,n3,e5,k1,hz,p8',<-hU,q4,g4]
  ·have p8':¬(v8:Int)=0:=by omega
   obtain⟨rs',t',tk',j',q1,q2,q3,q4⟩:=l54 B hB nv (v1:Int) (v5:Int) (v6:Int) U [] .no (.inl rfl) v9 [] j9 (by simp only[aq];omega) (fun x hx=>by cases hx) .clip [] (.inl ⟨rfl,rfl,rfl⟩);refine⟨⟨nv,v1,v5,v6,U,[],rs'⟩,j',⟨by show nv.length<=100;omega,by show 0<=8;decide,q1,fun x hx=>(by cases hx),fun x hx=>(q2 x hx).1,lY hnB (by show(0:Int)<=v5;omega) (by show(v5:Int)<=v1;omega) (by show(v1:Int)<=1000000;omega) (by show(0:Int)<=v6;omega) (by show(v6:Int)<U;omega) (by show(U:Int)<=1099511627776;omega) (by show 0<=16;decide) q1 (fun x hx=>by cases hx) ge.nil (fun x hx=>(q2 x hx).2)⟩, ?_⟩;rw[ah ZS];rcases q3 with⟨rfl,rfl,rfl⟩|⟨rfl,rfl⟩
   ·simp only[bO,mZ,Man.sv,dT,bp]at g1 g2 g3 g5 g6 g7 g8 g9 q4 gd g4 ⊢
    simp only[go_sem,Q0,Q1,Q2,Q3,Q4,Q5,Q6,Q7,Q8,Q9,Qa,Qb,Qc,Qd,Qe,Qf,Qg,Qh,Qi,Qj,Qk,reduceCtorEq,reduceIte,g1,g2,g3,g5,g6,g7,g8,g9,li,gv,Cg,h2,h2i,cX,hve,gd,Ch,n3,e5,k1,hz,p8',<-hU,q4,g4]
   ·simp only[bO,mZ,Man.sv,dT,bp]at g1 g2 g3 g5 g6 g7 g8 g9 q4 gd g4 ⊢
    simp only[go_sem,Q0,Q1,Q2,Q3,Q4,Q5,Q6,Q7,Q8,Q9,Qa,Qb,Qc,Qd,Qe,Qf,Qg,Qh,Qi,Qj,Qk,reduceCtorEq,reduceIte,g1,g2,g3,g5,g6,g7,g8,g9,li,gv,Cg,h2,h2i,cX,hve,gd,Ch,n3,e5,k1,hz,p8',<-hU,q4,g4]
 ·have n3:¬(v3:Int)=1:=by omega
  obtain⟨v5,j5,h5,g5⟩:=jQ B hB j3 (v1+1) (by omega);obtain⟨v6,j6,h6,g6⟩:=jQ B hB j5 12 (by omega);rw[c12]at g6;obtain⟨v7,j7,h7,g7⟩:=jQ B hB j6 30 (by omega);rw[c30]at g7;obtain⟨v8,j8,h8,g8⟩:=jQ B hB j7 2 (by omega);rw[c2]at g8;obtain⟨v9,j9,h9,g9⟩:=jQ B hB j8 4 (by omega);rw[cz4]at g9;have hUv:af.wrap (af.wrap ((v6:Int)+1)+(v7:Int))=(v6:Int)+1+v7:=by rw[w64 (n:=(v6:Int)+1) (by omega) (by omega),w64 (by omega) (by omega)]
  obtain⟨U,hU⟩:∃U,U=af.wrap (af.wrap ((v6:Int)+1)+(v7:Int)):=⟨_,rfl⟩;have hU2:U=(v6:Int)+1+v7:=hU.trans hUv
  by_cases p8:v8=0
  ·have p8':(v8:Int)=0:=by omega
   obtain⟨rs',t',tk',j',q1,q2,q3,q4⟩:=l54 B hB nv (v1:Int) (v5:Int) (v6:Int) 1099511627776 [] .clip (.inr ⟨rfl,rfl⟩) v9 [] j9 (by simp only[aq];omega) (fun x hx=>by cases hx) .clip [] (.inl ⟨rfl,rfl,rfl⟩);refine⟨⟨nv,v1,v5,v6,1099511627776,[],rs'⟩,j',⟨by show nv.length<=100;omega,by show 0<=8;decide,q1,fun x hx=>(by cases hx),fun x hx=>(q2 x hx).1,lY hnB (by show(0:Int)<=v5;omega) (by show(v5:Int)<=v1;omega) (by show(v1:Int)<=1000000;omega) (by show(0:Int)<=v6;omega) (by show(v6:Int)<1099511627776;omega) (by show(1099511627776:Int)<=1099511627776;omega) (by show 0<=16;decide) q1 (fun x hx=>by cases hx) ge.nil (fun x hx=>(q2 x hx).2)⟩, ?_⟩;rw[ah ZS];rcases q3 with⟨rfl,rfl,rfl⟩|⟨rfl,rfl⟩
   ·simp only[bO,mZ,Man.sv,dT,bp]at g1 g2 g3 g5 g6 g7 g8 g9 q4 gd ⊢
    simp only[go_sem,Q0,Q1,Q2,Q3,Q4,Q5,Q6,Q7,Q8,Q9,Qa,Qb,Qc,Qd,Qe,Qf,Qg,Qh,Qi,Qj,Qk,reduceCtorEq,reduceIte,g1,g2,g3,g5,g6,g7,g8,g9,li,gv,Cg,h2,h2i,cX,hve,gd,Ch,n3,e5,k1,hz,p8',<-hU,q4]
   ·simp only[bO,mZ,Man.sv,dT,bp]at g1 g2 g3 g5 g6 g7 g8 g9 q4 gd ⊢
    simp only[go_sem,Q0,Q1,Q2,Q3,Q4,Q5,Q6,Q7,Q8,Q9,Qa,Qb,Qc,Qd,Qe,Qf,Qg,Qh,Qi,Qj,Qk,reduceCtorEq,reduceIte,g1,g2,g3,g5,g6,g7,g8,g9,li,gv,Cg,h2,h2i,cX,hve,gd,Ch,n3,e5,k1,hz,p8',<-hU,q4]
  ·have p8':¬(v8:Int)=0:=by omega
   obtain⟨rs',t',tk',j',q1,q2,q3,q4⟩:=l54 B hB nv (v1:Int) (v5:Int) (v6:Int) U [] .clip (.inr ⟨rfl,rfl⟩) v9 [] j9 (by simp only[aq];omega) (fun x hx=>by cases hx) .clip [] (.inl ⟨rfl,rfl,rfl⟩);refine⟨⟨nv,v1,v5,v6,U,[],rs'⟩,j',⟨by show nv.length<=100;omega,by show 0<=8;decide,q1,fun x hx=>(by cases hx),fun x hx=>(q2 x hx).1,lY hnB (by show(0:Int)<=v5;omega) (by show(v5:Int)<=v1;omega) (by show(v1:Int)<=1000000;omega) (by show(0:Int)<=v6;omega) (by show(v6:Int)<U;omega) (by show(U:Int)<=1099511627776;omega) (by show 0<=16;decide) q1 (fun x hx=>by cases hx) ge.nil (fun x hx=>(q2 x hx).2)⟩, ?_⟩;rw[ah ZS];rcases q3 with⟨rfl,rfl,rfl⟩|⟨rfl,rfl⟩
   ·simp only[bO,mZ,Man.sv,dT,bp]at g1 g2 g3 g5 g6 g7 g8 g9 q4 gd ⊢
    simp only[go_sem,Q0,Q1,Q2,Q3,Q4,Q5,Q6,Q7,Q8,Q9,Qa,Qb,Qc,Qd,Qe,Qf,Qg,Qh,Qi,Qj,Qk,reduceCtorEq,reduceIte,g1,g2,g3,g5,g6,g7,g8,g9,li,gv,Cg,h2,h2i,cX,hve,gd,Ch,n3,e5,k1,hz,p8',<-hU,q4]
   ·simp only[bO,mZ,Man.sv,dT,bp]at g1 g2 g3 g5 g6 g7 g8 g9 q4 gd ⊢
    simp only[go_sem,Q0,Q1,Q2,Q3,Q4,Q5,Q6,Q7,Q8,Q9,Qa,Qb,Qc,Qd,Qe,Qf,Qg,Qh,Qi,Qj,Qk,reduceCtorEq,reduceIte,g1,g2,g3,g5,g6,g7,g8,g9,li,gv,Cg,h2,h2i,cX,hve,gd,Ch,n3,e5,k1,hz,p8',<-hU,q4]
end
end Go.Proofs.YtkggincjigbelaaGreatDoor
