/- What the functions come to. No condition. -/
import Derived.Test.YtkggincjigbelaaGreatDoorTqB
open Int renaming natCast_zero -> aw
open Go.IntKind renaming i64 -> af
open List renaming append_assoc -> ay, append_nil -> bg, cons_append -> aU, flatten_cons -> c9, foldl_cons -> fM, getD_eq_getElem?_getD -> aa, getElem?_eq_getElem -> ab, getElem_of_mem -> cr, length_append -> ac, length_cons -> aj, length_nil -> aq, length_singleton -> aW, length_take -> ax, map_append -> ct, map_cons -> aC, mem_append -> al, mem_cons -> av, mem_cons_of_mem -> ao, mem_cons_self -> aD, mem_singleton -> bf, nil_append -> az, take -> fv, take_of_length_le -> aO
open Nat renaming le_refl -> aH, lt_or_ge -> bY, zero_le -> bt
set_option maxRecDepth 100000
set_option maxHeartbeats 16000000
set_option linter.unusedSimpArgs false
set_option linter.unusedVariables false
namespace Go.Proofs.YtkggincjigbelaaGreatDoor
open Go.Sy
open UInt8 renaming reduceLT -> Q0, reduceLE -> Q1
open Int renaming reduceToNat -> Q2, reduceLE -> Q3, reduceLT -> Q4, reduceEq -> Q5, reduceNe -> Q6, reduceNeg -> Q7, reduceAdd -> Q8, reduceSub -> Q9, reduceMul -> Qa
open Nat renaming reducePow -> Qb, reduceDiv -> Qc, reduceMod -> Qd, reduceAdd -> Qe, reduceSub -> Qf, reduceMul -> Qg, reduceLT -> Qh, reduceLeDiff -> Qi, reduceEqDiff -> Qj, reduceBEq -> Qk
def xhJ(x:Ent):Prop:=0<=x.ver/\x.ver<=1000000/\x.name.length<=1000000
theorem Sc{l:List Ent}{i:Nat}(h:lD l i=0):1<=(l.getD i en0).role/\(l.getD i en0).role<=3/\0<=(l.getD i en0).ver/\(l.getD i en0).ver<=1000000/\(l.getD i en0).dig.length=32/\Pr.nameB (l.getD i en0).name=true:=by
 unfold lD at h;generalize l.getD i en0=x at*
 repeat' split at h
 all_goals first|omega|skip
 all_goals (refine⟨by omega,by omega,by omega,by omega,by omega,by assumption⟩)
theorem we(l:List Ent):∀(n i:Nat),gR l n i=0->∀k,i<=k->k<i+n->lD l k=0
 |0,i,_,k,h1,h2=>by omega
 |n+1,i,h,k,h1,h2=>by
  unfold gR at h
  by_cases h0:lD l i=0
  ·rw[if_pos h0]at h
   rcases bY i k with h3|h3
   ·exact we l n (i+1) h k (by omega) (by omega)
   ·have:k=i:=by omega
    rw[this];exact h0
  ·rw[if_neg h0]at h;exact absurd h h0
theorem td{m:Man}(h:gS m=0):gR m.ents m.ents.length 0=0/\ie m.ruls=0/\m.ents.length<=16/\m.ruls.length<=8/\Pr.nameB m.vendor=true/\0<=m.flr/\m.flr<=m.ver/\m.ver<=1000000/\0<=m.frm/\m.frm<m.til/\m.til<=1099511627776:=by
 unfold gS at h
 by_cases h0:Pr.nameB m.vendor=true
 ·rw[if_pos h0]at h
  repeat' split at h
  all_goals first|(exfalso;omega)|skip
  refine⟨by assumption,h,by omega,by omega,h0,by omega,by omega,by omega,by omega,by omega,by omega⟩
 ·rw[if_neg h0]at h;omega
theorem Ru{m:Man}(h:gS m=0):∀x∈m.ents,1<=x.role/\x.role<=3/\xhJ x/\x.dig.length=32/\Pr.nameB x.name=true:=by
 intro x hx;obtain⟨i,hi,rfl⟩:=cr hx;have h1:=Sc (we m.ents _ 0 (td h).1 i (bt _) (by omega));have e:m.ents.getD i en0=m.ents[i]:=by rw[aa,ab hi];rfl
 rw[e]at h1;obtain⟨a,b,c,d,f,g⟩:=h1;have:=mI g;exact⟨a,b,⟨c,d,by omega⟩,f,g⟩
def iz(B:List UInt8)(s:Rs):Ent×Rs:=(⟨(uR B 1 s).1,(bR B 12 (uR B 1 s).2).1,(uR B 4 (bR B 12 (uR B 1 s).2).2).1,(wR B 32 (uR B 4 (bR B 12 (uR B 1 s).2).2).2).1⟩,(wR B 32 (uR B 4 (bR B 12 (uR B 1 s).2).2).2).2)
def ix(B:List UInt8)(s:Rs):Rul×Rs:=(⟨(uR B 1 s).1,(bR B 32 (uR B 1 s).2).1,(uR B 4 (bR B 32 (uR B 1 s).2).2).1,(uR B 4 (uR B 4 (bR B 32 (uR B 1 s).2).2).2).1⟩,(uR B 4 (uR B 4 (bR B 32 (uR B 1 s).2).2).2).2)
def dY(B:List UInt8):Nat->List Ent->Rs->List Ent×Rs
 |0,es,s=>(es,s)
 |n+1,es,s=>if s.e=0 then dY B n (es++ [(iz B s).1]) (iz B s).2 else(es,s)
def dX(B:List UInt8):Nat->List Rul->Rs->List Rul×Rs
 |0,es,s=>(es,s)
 |n+1,es,s=>if s.e=0 then dX B n (es++ [(ix B s).1]) (ix B s).2 else(es,s)
theorem oX{B:List UInt8}{s:Rs}(h:dk B s):dk B (iz B s).2:=Og (dS (pf (dS h)))
theorem ox{B:List UInt8}{s:Rs}(h:dk B s):dk B (ix B s).2:=dS (dS (pf (dS h)))
theorem vY{B:List UInt8}:∀{n:Nat}{es:List Ent}{s:Rs},dk B s->dk B (dY B n es s).2
 |0,_,_,h=>h
 |n+1,es,s,h=>by
  unfold dY;split
  ·exact vY (oX h)
  ·exact h
theorem vf{B:List UInt8}:∀{n:Nat}{es:List Rul}{s:Rs},dk B s->dk B (dX B n es s).2
 |0,_,_,h=>h
 |n+1,es,s,h=>by
  unfold dX;split
  ·exact vf (ox h)
  ·exact h
theorem rQ{B:List UInt8}:∀{n:Nat}{es:List Ent}{s:Rs},(dY B n es s).1.length<=es.length+n
 |0,_,_=>aH _
 |n+1,es,s=>by
  unfold dY;split
  ·have:=rQ (B:=B) (n:=n) (es:=es++ [(iz B s).1]) (s:=(iz B s).2)
   rw[ac,aW]at this;omega
  ·show es.length<=_;omega
theorem rt{B:List UInt8}:∀{n:Nat}{es:List Rul}{s:Rs},(dX B n es s).1.length<=es.length+n
 |0,_,_=>aH _
 |n+1,es,s=>by
  unfold dX;split
  ·have:=rt (B:=B) (n:=n) (es:=es++ [(ix B s).1]) (s:=(ix B s).2)
   rw[ac,aW]at this;omega
  ·show es.length<=_;omega
def mR(v:List UInt8)(ve fl fr ti:Int)(es:List Ent)(t:Tok)(rs:List Rul)(t2:Tok):aF:= .rc [.str v,.int .i64 ve,.int .i64 fl,.int .i64 fr,.int .i64 ti,.lst 4 (fo es) t,.lst 4 (dT rs) t2]
def zR:aF:= .rc [.str [],.int .i64 0,.int .i64 0,.int .i64 0,.int .i64 0,.lst 4 [] .clip,.lst 4 [] .clip]
theorem wg(l:List Ent)(x:Ent):fo (l++ [x])=fo l++ [x.sv]:=by rw[fo,fo,ct];rfl
theorem vk(l:List Rul)(x:Rul):dT (l++ [x])=dT l++ [x.sv]:=by rw[dT,dT,ct];rfl
theorem xnA(B:List UInt8)(hB:B.length<=1000000000)(v:List UInt8)(ve fl fr ti:Int):∀(n:Nat)(es:List Ent)(s:Rs)(t:Tok)(tk:List Nat)(t0:Nat),es.length+n<=1000->dk B s->
 (t= .clip/\tk=[]/\es=[]\/t= .id 160/\tk=[160])->(t0=34060\/t0=55060)->
 ∃(t':Tok)(tk':List Nat)(t1:Nat),(t'= .clip/\tk'=[]/\(dY B n es s).1=[]\/t'= .id 160/\tk'=[160])/\(t1=34060\/t1=55060\/t1=39060)/\
  run T (.loop yE) ⟨[(2,.ptr 102 0),(4,.ptr 12100 0),(5,.ptr 105 0),(6,.int .i64 n)],[(102,zR),(105,mR v ve fl fr ti es t [] .clip),(12100,rdO B t0 s)],tk++ [t0]⟩=
   some (.x 0,⟨[(2,.ptr 102 0),(4,.ptr 12100 0),(5,.ptr 105 0)],[(102,zR),(105,mR v ve fl fr ti (dY B n es s).1 t' [] .clip),(12100,rdO B t1 (dY B n es s).2)],tk'++ [t1]⟩):=by
 intro n;induction n with
 |zero=>intro es s t tk t0 h1 h2 ht ht0;refine⟨t,tk,t0,ht,by omega, ?_⟩;unfold dY;rw[ai];rcases ht with⟨rfl,rfl,rfl⟩|⟨rfl,rfl⟩<;>rcases ht0 with rfl|rfl<;>simp only[zR,mR,rdO]<;>simp only[go_sem,Q0,Q1,Q2,Q3,Q4,Q5,Q6,Q7,Q8,Q9,Qa,Qb,Qc,Qd,Qe,Qf,Qg,Qh,Qi,Qj,Qk,reduceCtorEq,reduceIte,aw]
 |succ n ih=>
  intro es s t tk t0 h1 h2 ht ht0;have hp:(0:Int)<((n+1:Nat):Int):=by omega
  have e1:af.wrap (((n+1:Nat):Int)-1)=(n:Int):=wZ (by omega)
  have g0:=xmk B s
  by_cases he:s.e=0
  ·obtain⟨t',tk',t1,q1,q2,q3⟩:=ih (es++ [(iz B s).1]) (iz B s).2 (.id 160) [160] 55060 (by rw[ac,aW];omega) (oX h2) (.inr ⟨rfl,rfl⟩) (.inr rfl)
   have hu:dY B (n+1) es s=dY B n (es++ [(iz B s).1]) (iz B s).2:=by
    conv=>lhs;unfold dY
    rw[if_pos he]
   rw[hu];refine⟨t',tk',t1,q1,q2, ?_⟩;have hv:=eV es;have b1:(es.length+1)*56<=140737488355328:=by omega
   generalize dY B n (es++ [(iz B s).1]) (iz B s).2=Z at*;have k1:=dS (n:=1) h2;have g1:=f42 B hB 1 (by omega) (by omega) s h2;unfold iz mR at q3;rw[wg]at q3;generalize uR B 1 s=p1 at*;obtain⟨x1,s1⟩:=p1;simp only at k1 g1 q3;have k2:=pf (n:=12) k1;have g2:=f99 B hB 12 (by omega) s1 k1;generalize bR B 12 s1=p2 at*;obtain⟨x2,s2⟩:=p2;simp only at k2 g2 q3;have k3:=dS (n:=4) k2;have g3:=f42 B hB 4 (by omega) (by omega) s2 k2;generalize uR B 4 s2=p3 at*;obtain⟨x3,s3⟩:=p3;simp only at k3 g3 q3;have g4:=f43 B hB 32 (by omega) s3 k3;generalize wR B 32 s3=p4 at*;obtain⟨x4,s4⟩:=p4;simp only at g4 q3;rw[show((1:Nat):Int)=1 from rfl]at g1;rw[show((12:Nat):Int)=12 from rfl]at g2;rw[show((4:Nat):Int)=4 from rfl]at g3;rw[show((32:Nat):Int)=32 from rfl]at g4;rw[he]at g0;simp only[zR,mR,rdO,Ent.sv,aU,az]at g0 g1 g2 g3 g4 q3 ⊢;rw[he]at g0 g1;rw[he];rw[ai];rcases ht with⟨rfl,rfl,rfl⟩|⟨rfl,rfl⟩<;>rcases ht0 with rfl|rfl
   ·have hnil:fo []=[]:=rfl
    simp only[hnil,az]at q3 ⊢;simp only[go_sem,Q0,Q1,Q2,Q3,Q4,Q5,Q6,Q7,Q8,Q9,Qa,Qb,Qc,Qd,Qe,Qf,Qg,Qh,Qi,Qj,Qk,reduceCtorEq,reduceIte,hp,e1,g0,re,g1,nV,g2,Eu,g3,g4,x7,q3]
   ·have hnil:fo []=[]:=rfl
    simp only[hnil,az]at q3 ⊢;simp only[go_sem,Q0,Q1,Q2,Q3,Q4,Q5,Q6,Q7,Q8,Q9,Qa,Qb,Qc,Qd,Qe,Qf,Qg,Qh,Qi,Qj,Qk,reduceCtorEq,reduceIte,hp,e1,g0,re,g1,nV,g2,Eu,g3,g4,x7,q3]
   ·simp only[aU,az]
    simp only[go_sem,Q0,Q1,Q2,Q3,Q4,Q5,Q6,Q7,Q8,Q9,Qa,Qb,Qc,Qd,Qe,Qf,Qg,Qh,Qi,Qj,Qk,reduceCtorEq,reduceIte,hp,e1,g0,re,g1,nV,g2,Eu,g3,g4,x7,hv,b1,q3]
   ·simp only[aU,az]
    simp only[go_sem,Q0,Q1,Q2,Q3,Q4,Q5,Q6,Q7,Q8,Q9,Qa,Qb,Qc,Qd,Qe,Qf,Qg,Qh,Qi,Qj,Qk,reduceCtorEq,reduceIte,hp,e1,g0,re,g1,nV,g2,Eu,g3,g4,x7,hv,b1,q3]
  ·have hu:dY B (n+1) es s=(es,s):=by
    unfold dY;rw[if_neg he]
   rw[hu];refine⟨t,tk,39060,ht,by omega, ?_⟩;rw[ai];simp only[zR,mR,rdO]at g0 ⊢;rcases ht with⟨rfl,rfl,rfl⟩|⟨rfl,rfl⟩<;>rcases ht0 with rfl|rfl<;>simp only[go_sem,Q0,Q1,Q2,Q3,Q4,Q5,Q6,Q7,Q8,Q9,Qa,Qb,Qc,Qd,Qe,Qf,Qg,Qh,Qi,Qj,Qk,reduceCtorEq,reduceIte,hp,g0,re,he,aU,az]
theorem xnz(B:List UInt8)(hB:B.length<=1000000000)(v:List UInt8)(ve fl fr ti:Int)(es:List Ent)(t2:Tok)(tk2:List Nat)(ht2:t2= .clip/\tk2=[]/\es=[]\/t2= .id 160/\tk2=[160]):∀(n:Nat)(rs:List Rul)(s:Rs)(t:Tok)(tk:List Nat)(t0:Nat),rs.length+n<=1000->dk B s->
 (t= .clip/\tk=[]/\rs=[]\/t= .id 190/\tk=[190])->(t0=64060\/t0=85060)->
 ∃(t':Tok)(tk':List Nat)(t1:Nat),(t'= .clip/\tk'=[]/\(dX B n rs s).1=[]\/t'= .id 190/\tk'=[190])/\(t1=64060\/t1=85060\/t1=69060)/\
  run T (.loop yD) ⟨[(2,.ptr 102 0),(4,.ptr 12100 0),(5,.ptr 105 0),(8,.int .i64 n)],[(102,zR),(105,mR v ve fl fr ti es t2 rs t),(12100,rdO B t0 s)],tk2++(tk++ [t0])⟩=
   some (.x 2,⟨[(2,.ptr 102 0),(4,.ptr 12100 0),(5,.ptr 105 0)],[(102,zR),(105,mR v ve fl fr ti es t2 (dX B n rs s).1 t'),(12100,rdO B t1 (dX B n rs s).2)],tk2++(tk'++ [t1])⟩):=by
 intro n;induction n with
 |zero=>intro rs s t tk t0 h1 h2 ht ht0;refine⟨t,tk,t0,ht,by omega, ?_⟩;unfold dX;rw[ai];rcases ht2 with⟨rfl,rfl,rfl⟩|⟨rfl,rfl⟩<;>rcases ht with⟨rfl,rfl,rfl⟩|⟨rfl,rfl⟩<;>rcases ht0 with rfl|rfl<;>simp only[zR,mR,rdO]<;>simp only[go_sem,Q0,Q1,Q2,Q3,Q4,Q5,Q6,Q7,Q8,Q9,Qa,Qb,Qc,Qd,Qe,Qf,Qg,Qh,Qi,Qj,Qk,reduceCtorEq,reduceIte,aw]
 |succ n ih=>
  intro rs s t tk t0 h1 h2 ht ht0;have hp:(0:Int)<((n+1:Nat):Int):=by omega
  have e1:af.wrap (((n+1:Nat):Int)-1)=(n:Int):=wZ (by omega)
  have g0:=xmk B s
  by_cases he:s.e=0
  ·obtain⟨t',tk',t1,q1,q2,q3⟩:=ih (rs++ [(ix B s).1]) (ix B s).2 (.id 190) [190] 85060 (by rw[ac,aW];omega) (ox h2) (.inr ⟨rfl,rfl⟩) (.inr rfl)
   have hu:dX B (n+1) rs s=dX B n (rs++ [(ix B s).1]) (ix B s).2:=by
    conv=>lhs;unfold dX
    rw[if_pos he]
   rw[hu];refine⟨t',tk',t1,q1,q2, ?_⟩;have hv:=eD rs;have b1:(rs.length+1)*40<=140737488355328:=by omega
   generalize dX B n (rs++ [(ix B s).1]) (ix B s).2=Z at*;have k1:=dS (n:=1) h2;have g1:=f42 B hB 1 (by omega) (by omega) s h2;unfold ix mR at q3;rw[vk]at q3;generalize uR B 1 s=p1 at*;obtain⟨x1,s1⟩:=p1;simp only at k1 g1 q3;have k2:=pf (n:=32) k1;have g2:=f99 B hB 32 (by omega) s1 k1;generalize bR B 32 s1=p2 at*;obtain⟨x2,s2⟩:=p2;simp only at k2 g2 q3;have k3:=dS (n:=4) k2;have g3:=f42 B hB 4 (by omega) (by omega) s2 k2;generalize uR B 4 s2=p3 at*;obtain⟨x3,s3⟩:=p3;simp only at k3 g3 q3;have g4:=f42 B hB 4 (by omega) (by omega) s3 k3;generalize uR B 4 s3=p4 at*;obtain⟨x4,s4⟩:=p4;simp only at g4 q3;rw[show((1:Nat):Int)=1 from rfl]at g1;rw[show((32:Nat):Int)=32 from rfl]at g2;rw[show((4:Nat):Int)=4 from rfl]at g3 g4;rw[he]at g0;simp only[zR,mR,rdO,Rul.sv,aU,az]at g0 g1 g2 g3 g4 q3 ⊢;rw[he]at g0 g1;rw[he];rw[ai];rcases ht2 with⟨rfl,rfl,rfl⟩|⟨rfl,rfl⟩<;>rcases ht with⟨rfl,rfl,rfl⟩|⟨rfl,rfl⟩<;>rcases ht0 with rfl|rfl
   all_goals
    have hnil:dT []=[]:=rfl;have hnil2:fo []=[]:=rfl;simp only[hnil,hnil2,az,aU]at q3 ⊢;simp only[go_sem,Q0,Q1,Q2,Q3,Q4,Q5,Q6,Q7,Q8,Q9,Qa,Qb,Qc,Qd,Qe,Qf,Qg,Qh,Qi,Qj,Qk,reduceCtorEq,reduceIte,hp,e1,g0,re,g1,nV,g2,Eu,g3,g4,hv,b1,q3]
  ·have hu:dX B (n+1) rs s=(rs,s):=by
    unfold dX;rw[if_neg he]
   rw[hu];refine⟨t,tk,69060,ht,by omega, ?_⟩;rw[ai];simp only[zR,mR,rdO]at g0 ⊢;rcases ht2 with⟨rfl,rfl,rfl⟩|⟨rfl,rfl⟩<;>rcases ht with⟨rfl,rfl,rfl⟩|⟨rfl,rfl⟩<;>rcases ht0 with rfl|rfl<;>simp only[go_sem,Q0,Q1,Q2,Q3,Q4,Q5,Q6,Q7,Q8,Q9,Qa,Qb,Qc,Qd,Qe,Qf,Qg,Qh,Qi,Qj,Qk,reduceCtorEq,reduceIte,hp,g0,re,he,aU,az]
theorem O3{B P X S:List UInt8}(m:Nat)(h:B=P++((bu 2 (X.length:Int)++X)++S))(hm:X.length<=m)(h6:X.length<65536):bR B m ⟨P.length,0⟩=(X,⟨(P++(bu 2 (X.length:Int)++X)).length,0⟩):=by
 have hn:nB (bu 2 (X.length:Int))=X.length:=by
  have hp:((256^2:Nat):Int)=65536:=by decide
  have:=jt 2 (X.length:Int) (by omega) (by rw[hp];omega) (by omega);omega
 have l2:(bu 2 (X.length:Int)).length=2:=cZ ..;have h':B=P++(bu 2 (X.length:Int)++(X++S)):=by rw[h,ay (bu 2 _)]
 have h'':B=(P++bu 2 (X.length:Int))++(X++S):=by rw[h',ay]
 obtain⟨a1,a2⟩:=ph h';obtain⟨b1,b2⟩:=ph h'';rw[l2]at a1 a2;rw[ac,l2]at b1 b2;unfold bR;rw[if_pos rfl];simp only;rw[if_pos a2,a1,hn,if_pos hm,if_pos b2,b1];rw[ac,ac,l2]
def oY(x:Ent):List UInt8:=bu 1 x.role++(bu 2 (x.name.length:Int)++x.name)++bu 4 x.ver++x.dig
def rR(r:Rul):List UInt8:=bu 1 r.kind++(bu 2 (r.text.length:Int)++r.text)++bu 4 r.lo++bu 4 r.hi
theorem tu(B X:List UInt8)(h:X.length<65536):lF B X=B++(bu 2 (X.length:Int)++X):=by unfold lF bu;rw[aO (by omega),ay]
theorem Sm(B:List UInt8)(x:Ent)(h:x.name.length<65536):qC B x=B++oY x:=by unfold qC oY;rw[tu _ _ h];simp only[ay]
theorem QI(B:List UInt8)(x:Rul)(h:x.text.length<65536):nS B x=B++rR x:=by unfold nS rR;rw[tu _ _ h];simp only[ay]
theorem vQ:∀(l:List Ent)(B:List UInt8),(∀x∈l,x.name.length<65536)->l.foldl qC B=B++(l.map oY).flatten
 |[],B,_=>by simp
 |x::r,B,h=>by rw[fM,Sm _ _ (h x aD),vQ r _ (fun y hy=>h y (ao _ hy)),aC,c9,ay]
theorem vP:∀(l:List Rul)(B:List UInt8),(∀x∈l,x.text.length<65536)->l.foldl nS B=B++(l.map rR).flatten
 |[],B,_=>by simp
 |x::r,B,h=>by rw[fM,QI _ _ (h x aD),vP r _ (fun y hy=>h y (ao _ hy)),aC,c9,ay]
structure xfD(x:Ent):Prop where
 r0:0<=x.role
 r1:x.role<256
 n:x.name.length<=12
 v0:0<=x.ver
 v1:x.ver<4294967296
 d:x.dig.length=32
structure xfA(x:Rul):Prop where
 r0:0<=x.kind
 r1:x.kind<256
 n:x.text.length<=32
 v0:0<=x.lo
 v1:x.lo<4294967296
 w0:0<=x.hi
 w1:x.hi<4294967296
theorem Sb{B P S:List UInt8}{x:Ent}(hx:xfD x)(h:B=P++(oY x++S)):iz B ⟨P.length,0⟩=(x,⟨(P++oY x).length,0⟩):=by unfold oY at h;have a1:=jl (B:=B) (P:=P) (X:=bu 1 x.role) (S:=(bu 2 (x.name.length:Int)++x.name)++(bu 4 x.ver++(x.dig++S))) 1 (by rw[h];simp only[ay]) (cZ ..);have a2:=O3 (B:=B) (P:=P++bu 1 x.role) (X:=x.name) (S:=bu 4 x.ver++(x.dig++S)) 12 (by rw[h];simp only[ay]) hx.n (by have:=hx.n;omega);have a3:=jl (B:=B) (P:=P++bu 1 x.role++(bu 2 (x.name.length:Int)++x.name)) (X:=bu 4 x.ver) (S:=x.dig++S) 4 (by rw[h];simp only[ay]) (cZ ..);have a4:=S5 (B:=B) (P:=P++bu 1 x.role++(bu 2 (x.name.length:Int)++x.name)++bu 4 x.ver) (X:=x.dig) (S:=S) 32 (by rw[h];simp only[ay]) hx.d;rw[jt 1 x.role hx.r0 (by rw[pp1];exact hx.r1) (by have:=hx.r1;omega)]at a1;rw[jt 4 x.ver hx.v0 (by rw[pp4];exact hx.v1) (by have:=hx.v1;omega)]at a3;unfold iz;rw[a1];simp only;rw[a2];simp only;rw[a3];simp only;rw[a4];unfold oY;simp only[ay]
theorem QG{B P S:List UInt8}{x:Rul}(hx:xfA x)(h:B=P++(rR x++S)):ix B ⟨P.length,0⟩=(x,⟨(P++rR x).length,0⟩):=by unfold rR at h;have a1:=jl (B:=B) (P:=P) (X:=bu 1 x.kind) (S:=(bu 2 (x.text.length:Int)++x.text)++(bu 4 x.lo++(bu 4 x.hi++S))) 1 (by rw[h];simp only[ay]) (cZ ..);have a2:=O3 (B:=B) (P:=P++bu 1 x.kind) (X:=x.text) (S:=bu 4 x.lo++(bu 4 x.hi++S)) 32 (by rw[h];simp only[ay]) hx.n (by have:=hx.n;omega);have a3:=jl (B:=B) (P:=P++bu 1 x.kind++(bu 2 (x.text.length:Int)++x.text)) (X:=bu 4 x.lo) (S:=bu 4 x.hi++S) 4 (by rw[h];simp only[ay]) (cZ ..);have a4:=jl (B:=B) (P:=P++bu 1 x.kind++(bu 2 (x.text.length:Int)++x.text)++bu 4 x.lo) (X:=bu 4 x.hi) (S:=S) 4 (by rw[h];simp only[ay]) (cZ ..);rw[jt 1 x.kind hx.r0 (by rw[pp1];exact hx.r1) (by have:=hx.r1;omega)]at a1;rw[jt 4 x.lo hx.v0 (by rw[pp4];exact hx.v1) (by have:=hx.v1;omega)]at a3;rw[jt 4 x.hi hx.w0 (by rw[pp4];exact hx.w1) (by have:=hx.w1;omega)]at a4;unfold ix;rw[a1];simp only;rw[a2];simp only;rw[a3];simp only;rw[a4];unfold rR;simp only[ay]
theorem wb{B:List UInt8}:∀(l:List Ent)(es:List Ent)(P S:List UInt8),(∀x∈l,xfD x)->B=P++((l.map oY).flatten++S)->dY B l.length es ⟨P.length,0⟩=(es++l,⟨(P++(l.map oY).flatten).length,0⟩)
 |[],es,P,S,_,_=>by simp[dY]
 |x::r,es,P,S,hx,h=>by have a:=Sb (B:=B) (P:=P) (S:=(r.map oY).flatten++S) (hx x aD) (by rw[h,aC,c9];simp only[ay]);rw[aj];unfold dY;rw[if_pos rfl,a];simp only;rw[wb r (es++ [x]) (P++oY x) S (fun y hy=>hx y (ao _ hy)) (by rw[h,aC,c9];simp only[ay]),aC,c9];simp only[ay,aU,az]
theorem vi{B:List UInt8}:∀(l:List Rul)(es:List Rul)(P S:List UInt8),(∀x∈l,xfA x)->B=P++((l.map rR).flatten++S)->dX B l.length es ⟨P.length,0⟩=(es++l,⟨(P++(l.map rR).flatten).length,0⟩)
 |[],es,P,S,_,_=>by simp[dX]
 |x::r,es,P,S,hx,h=>by have a:=QG (B:=B) (P:=P) (S:=(r.map rR).flatten++S) (hx x aD) (by rw[h,aC,c9];simp only[ay]);rw[aj];unfold dX;rw[if_pos rfl,a];simp only;rw[vi r (es++ [x]) (P++rR x) S (fun y hy=>hx y (ao _ hy)) (by rw[h,aC,c9];simp only[ay]),aC,c9];simp only[ay,aU,az]
def hV(B:List UInt8):List UInt8×Rs:=bR B 12 (uR B 1 ⟨0,0⟩).2
def hE(B:List UInt8):Int×Rs:=uR B 4 (hV B).2
def hF(B:List UInt8):Int×Rs:=uR B 4 (hE B).2
def hM(B:List UInt8):Int×Rs:=uR B 6 (hF B).2
def hT(B:List UInt8):Int×Rs:=uR B 6 (hM B).2
def hN(B:List UInt8):Int×Rs:=uR B 1 (hT B).2
def hL(B:List UInt8):List Ent×Rs:=dY B (hN B).1.toNat [] (hN B).2
def hK(B:List UInt8):Int×Rs:=uR B 1 (hL B).2
def hR(B:List UInt8):List Rul×Rs:=dX B (hK B).1.toNat [] (hK B).2
def m6(B:List UInt8):Man:=⟨(hV B).1,(hE B).1,(hF B).1,(hM B).1,(hT B).1,(hL B).1,(hR B).1⟩
def okP(B:List UInt8):Prop:=(uR B 1 ⟨0,0⟩).1=21/\eR B (hR B).2=0/\gS (m6 B)=0
instance (B:List UInt8):Decidable (okP B):=by unfold okP;infer_instance
def qE(B:List UInt8):Option Man:=if okP B then some (m6 B)else none
theorem xeX{k:Int}{t:List UInt8}{lo hi:Int}(h:chk k t lo hi=0):1<=k/\k<=4/\t.length<=32/\0<=lo/\lo<=1000000000/\0<=hi/\hi<=1000000000:=by
 unfold chk at h
 repeat' split at h
 all_goals first|(exfalso;omega)|skip
 ·refine⟨by omega,by omega,by omega,by omega,by omega,by omega,by omega⟩
 ·rename_i ht
  refine⟨by omega,by omega,by rw[ht];simp,by omega,by omega,by omega,by omega⟩
 ·refine⟨by omega,by omega,by omega,by omega,by omega,by omega,by omega⟩
theorem vb:∀{l:List Rul},ie l=0->∀r∈l,oy r=0
 |[],_,r,hr=>by cases hr
 |x::t,h,r,hr=>by
  unfold ie at h
  by_cases hx:oy x=0
  ·rw[if_pos hx]at h
   rcases av.1 hr with rfl|hr
   ·exact hx
   ·exact vb h r hr
  ·rw[if_neg hx]at h;exact absurd h hx
theorem FR{m:Man}(h:gS m=0):∀x∈m.ents,xfD x:=by intro x hx;obtain⟨a1,a2,⟨a3,a4,a5⟩,a6,a7⟩:=Ru h x hx;exact⟨by omega,by omega,(mI a7).2,a3,by omega,a6⟩
theorem FQ{m:Man}(h:gS m=0):∀x∈m.ruls,xfA x:=by intro x hx;obtain⟨a1,a2,a3,a4,a5,a6,a7⟩:=xeX (vb (td h).2.1 x hx);exact⟨by omega,by omega,a3,a4,by omega,a6,by omega⟩
theorem Sp{m:Man}(h:gS m=0):qE (wh m)=some m:=by
 obtain⟨-, -,hn,hr,hv,u0,u1,u2,u3,u4,u5⟩:=td h;have hE':=FR h;have hR':=FQ h;have hvl:=(mI hv).2
 have key:wh m=bu 1 21++((bu 2 (m.vendor.length:Int)++m.vendor)++(bu 4 m.ver++(bu 4 m.flr++(bu 6 m.frm++(bu 6 m.til++(bu 1 (m.ents.length:Int)++((m.ents.map oY).flatten++(bu 1 (m.ruls.length:Int)++((m.ruls.map rR).flatten++ []))))))))):=by unfold wh hdM;rw[if_pos h,vQ _ _ (fun x hx=>by have:=(hE' x hx).n;omega),vP _ _ (fun x hx=>by have:=(hR' x hx).n;omega),tu _ _ (by omega)];simp only[ay,az,bg]
 generalize wh m=B at*;have a0:=jl (B:=B) (P:=[]) 1 key (cZ 1 21);have a1:=O3 (B:=B) (P:=bu 1 21) 12 key hvl (by omega);have a2:=jl (B:=B) (P:=bu 1 21++(bu 2 (m.vendor.length:Int)++m.vendor)) 4 (by rw[key];simp only[ay];rfl) (cZ 4 m.ver);have a3:=jl (B:=B) (P:=bu 1 21++(bu 2 (m.vendor.length:Int)++m.vendor)++bu 4 m.ver) 4 (by rw[key];simp only[ay];rfl) (cZ 4 m.flr);have a4:=jl (B:=B) (P:=bu 1 21++(bu 2 (m.vendor.length:Int)++m.vendor)++bu 4 m.ver++bu 4 m.flr) 6 (by rw[key];simp only[ay];rfl) (cZ 6 m.frm);have a5:=jl (B:=B) (P:=bu 1 21++(bu 2 (m.vendor.length:Int)++m.vendor)++bu 4 m.ver++bu 4 m.flr++bu 6 m.frm) 6 (by rw[key];simp only[ay];rfl) (cZ 6 m.til);have a6:=jl (B:=B) (P:=bu 1 21++(bu 2 (m.vendor.length:Int)++m.vendor)++bu 4 m.ver++bu 4 m.flr++bu 6 m.frm++bu 6 m.til) 1 (by rw[key];simp only[ay];rfl) (cZ 1 (m.ents.length:Int));have a7:=wb (B:=B) m.ents [] (bu 1 21++(bu 2 (m.vendor.length:Int)++m.vendor)++bu 4 m.ver++bu 4 m.flr++bu 6 m.frm++bu 6 m.til++bu 1 (m.ents.length:Int)) _ hE' (by rw[key];simp only[ay];rfl);have a8:=jl (B:=B) (P:=bu 1 21++(bu 2 (m.vendor.length:Int)++m.vendor)++bu 4 m.ver++bu 4 m.flr++bu 6 m.frm++bu 6 m.til++bu 1 (m.ents.length:Int)++(m.ents.map oY).flatten) 1 (by rw[key];simp only[ay];rfl) (cZ 1 (m.ruls.length:Int));have a9:=vi (B:=B) m.ruls [] (bu 1 21++(bu 2 (m.vendor.length:Int)++m.vendor)++bu 4 m.ver++bu 4 m.flr++bu 6 m.frm++bu 6 m.til++bu 1 (m.ents.length:Int)++(m.ents.map oY).flatten++bu 1 (m.ruls.length:Int)) [] hR' (by rw[key];simp only[ay])
 rw[jt 1 21 (by omega) (by rw[pp1];omega) (by omega)]at a0;rw[jt 4 m.ver (by omega) (by rw[pp4];omega) (by omega)]at a2;rw[jt 4 m.flr (by omega) (by rw[pp4];omega) (by omega)]at a3;rw[jt 6 m.frm (by omega) (by rw[pp6];omega) (by omega)]at a4;rw[jt 6 m.til (by omega) (by rw[pp6];omega) (by omega)]at a5;rw[jt 1 (m.ents.length:Int) (by omega) (by rw[pp1];omega) (by omega)]at a6;rw[jt 1 (m.ruls.length:Int) (by omega) (by rw[pp1];omega) (by omega)]at a8;rw[aq,az]at a0;have q1:=(congrArg (fun z:Int×Rs=>bR B 12 z.2) a0).trans a1;change hV B=_ at q1;have q2:=(congrArg (fun z:List UInt8×Rs=>uR B 4 z.2) q1).trans a2;change hE B=_ at q2;have q3:=(congrArg (fun z:Int×Rs=>uR B 4 z.2) q2).trans a3;change hF B=_ at q3;have q4:=(congrArg (fun z:Int×Rs=>uR B 6 z.2) q3).trans a4;change hM B=_ at q4;have q5:=(congrArg (fun z:Int×Rs=>uR B 6 z.2) q4).trans a5;change hT B=_ at q5;have q6:=(congrArg (fun z:Int×Rs=>uR B 1 z.2) q5).trans a6;change hN B=_ at q6;have q7:=(congrArg (fun z:Int×Rs=>dY B z.1.toNat [] z.2) q6).trans a7;change hL B=_ at q7;have q8:=(congrArg (fun z:List Ent×Rs=>uR B 1 z.2) q7).trans a8;change hK B=_ at q8;have q9:=(congrArg (fun z:Int×Rs=>dX B z.1.toNat [] z.2) q8).trans a9;change hR B=_ at q9
 have hm:m6 B=m:=by unfold m6;rw[q1,q2,q3,q4,q5,q7,q9];rfl
 have hend:eR B (hR B).2=0:=by
  rw[q9];unfold eR;rw[if_pos rfl,if_neg];simp only
  conv=>rhs;rw[key]
  simp only[ay,bg];omega
 unfold qE;rw[if_pos ⟨by rw[a0],hend,by rw[hm];exact h⟩,hm]
theorem nQ(B:List UInt8)(m:Nat)(s:Rs):(bR B m s).1.length<=m:=by
 unfold bR;split
 ·split
  ·split
   ·split
    ·rename_i h _;show(fv _ _).length<=_;rw[ax];omega
    ·exact bt _
   ·exact bt _
  ·exact bt _
 ·exact bt _
theorem GB(B:List UInt8)(m:Nat)(s:Rs):(wR B m s).1.length<=m:=by
 unfold wR;split
 ·split
  ·show(fv _ _).length<=_;rw[ax];omega
  ·exact bt _
 ·exact bt _
theorem nL(B:List UInt8)(s:Rs):0<=(uR B 1 s).1/\(uR B 1 s).1<256:=by
 unfold uR;split
 ·split
  ·have h:=DZ ((B.drop s.a).take 1)
   have h2:((B.drop s.a).take 1).length<=1:=by rw[ax];omega
   have h3:256^((B.drop s.a).take 1).length<=256^1:=Nat.pow_le_pow_right (by decide) h2;have h4:(256:Nat)^1=256:=by decide
   constructor
   ·exact Int.natCast_nonneg _
   ·show((nB _:Nat):Int)<256;omega
  ·exact⟨Int.le_refl _,by show(0:Int)<256;decide⟩
 ·exact⟨Int.le_refl _,by show(0:Int)<256;decide⟩
theorem wa{B:List UInt8}:∀{n:Nat}{es:List Ent}{s:Rs},(∀x∈es,x.name.length<=12/\x.dig.length<=32)->∀x∈(dY B n es s).1,x.name.length<=12/\x.dig.length<=32
 |0,_,_,h=>h
 |n+1,es,s,h=>by
  unfold dY;split
  ·refine wa fun x hx=> ?_
   rw[al,bf]at hx;rcases hx with hx|rfl
   ·exact h x hx
   ·exact⟨nQ _ _ _,GB _ _ _⟩
  ·exact h
theorem vh{B:List UInt8}:∀{n:Nat}{es:List Rul}{s:Rs},(∀x∈es,x.text.length<=32)->∀x∈(dX B n es s).1,x.text.length<=32
 |0,_,_,h=>h
 |n+1,es,s,h=>by
  unfold dX;split
  ·refine vh fun x hx=> ?_
   rw[al,bf]at hx;rcases hx with hx|rfl
   ·exact h x hx
   ·exact nQ _ _ _
  ·exact h
theorem BM(B:List UInt8):iq (m6 B):=by
 have h1:=rQ (B:=B) (n:=(hN B).1.toNat) (es:=[]) (s:=(hN B).2);have h2:=rt (B:=B) (n:=(hK B).1.toNat) (es:=[]) (s:=(hK B).2);have h3:=nL B (hT B).2;have h4:=nL B (hL B).2;change 0<=(hN B).1/\(hN B).1<256 at h3;change 0<=(hK B).1/\(hK B).1<256 at h4;rw[aq]at h1 h2
 exact⟨by have:=nQ B 12 (uR B 1 ⟨0,0⟩).2;show(hV B).1.length<=_;unfold hV;omega,by show(hL B).1.length<=_;unfold hL;omega,by show(hR B).1.length<=_;unfold hR;omega,
  fun x hx=>by have:=wa (B:=B) (n:=(hN B).1.toNat) (es:=[]) (s:=(hN B).2) (fun x hx=>by cases hx) x hx;omega,
  fun x hx=>by have:=vh (B:=B) (n:=(hK B).1.toNat) (es:=[]) (s:=(hK B).2) (fun x hx=>by cases hx) x hx;omega⟩
def mnz:Man:=⟨[],0,0,0,0,[],[]⟩
def N5(B:List UInt8):Man:=match qE B with|some m=>m|none=>mnz
def N6(B:List UInt8):Int:=match qE B with|some _=>0|none=>30
theorem xno(B:List UInt8)(hB:B.length<=1000000000)(v:List UInt8)(ve fl fr ti:Int)(es:List Ent)(s:Rs)(hs:dk B s)(t:Tok)(tk:List Nat)(t1:Nat)
 (ht:t= .clip/\tk=[]/\es=[]\/t= .id 160/\tk=[160]) (h1:t1=34060\/t1=55060\/t1=39060):
 run T (.ops qh) ⟨[(2,.ptr 102 0),(4,.ptr 12100 0),(5,.ptr 105 0)],[(102,zR),(105,mR v ve fl fr ti es t [] .clip),(12100,rdO B t1 s)],tk++ [t1]⟩=
  some (.n,⟨[(2,.ptr 102 0),(4,.ptr 12100 0),(5,.ptr 105 0),(8,.int .i64 (uR B 1 s).1)],[(102,zR),(105,mR v ve fl fr ti es t [] .clip),(12100,rdO B 64060 (uR B 1 s).2)],tk++ [64060]⟩):=by
 have g:=f42 B hB 1 (by omega) (by omega) s hs;rw[show((1:Nat):Int)=1 from rfl]at g;simp only[zR,mR,rdO]at g ⊢;rcases ht with⟨rfl,rfl,rfl⟩|⟨rfl,rfl⟩<;>rcases h1 with rfl|rfl|rfl<;>simp only[go_sem,Q0,Q1,Q2,Q3,Q4,Q5,Q6,Q7,Q8,Q9,Qa,Qb,Qc,Qd,Qe,Qf,Qg,Qh,Qi,Qj,Qk,reduceCtorEq,reduceIte,g,nV]
theorem xnn(B:List UInt8)(hB:B.length<=1000000000)(v:List UInt8)(ve fl fr ti:Int)(es:List Ent)(s:Rs)(hs:dk B s)(t:Tok)(tk:List Nat)(rs:List Rul)(u:Tok)(uk:List Nat)(u1:Nat)
 (hm:iq ⟨v,ve,fl,fr,ti,es,rs⟩)
 (ht:t= .clip/\tk=[]/\es=[]\/t= .id 160/\tk=[160]) (hu:u= .clip/\uk=[]/\rs=[]\/u= .id 190/\uk=[190]) (h1:u1=64060\/u1=85060\/u1=69060):
 run T (.ops qf) ⟨[(2,.ptr 102 0),(4,.ptr 12100 0),(5,.ptr 105 0)],[(102,zR),(105,mR v ve fl fr ti es t rs u),(12100,rdO B u1 s)],tk++(uk++ [u1])⟩=
  some (.n,⟨[(2,.ptr 102 0),(5,.ptr 105 0),(99,.bool (!decide (eR B s=0/\gS ⟨v,ve,fl,fr,ti,es,rs⟩=0)))],[(102,zR),(105,mR v ve fl fr ti es t rs u),(12100,rdO B 94060 s)],tk++(uk++ [94060])⟩):=by
 have g:=f44 B hB s hs;have gm:=f71 ⟨v,ve,fl,fr,ti,es,rs⟩ hm;generalize gS ⟨v,ve,fl,fr,ti,es,rs⟩=q at*;generalize eR B s=p at*
 by_cases hp:p=0
 ·subst hp
  by_cases hq:q=0
  ·subst hq
   simp only[zR,mR,rdO,Man.sv]at g gm ⊢;rcases ht with⟨rfl,rfl,rfl⟩|⟨rfl,rfl⟩<;>rcases hu with⟨rfl,rfl,rfl⟩|⟨rfl,rfl⟩<;>rcases h1 with rfl|rfl|rfl<;>simp only[go_sem,Q0,Q1,Q2,Q3,Q4,Q5,Q6,Q7,Q8,Q9,Qa,Qb,Qc,Qd,Qe,Qf,Qg,Qh,Qi,Qj,Qk,reduceCtorEq,reduceIte,g,Cm,gm,xmG]
  ·simp only[zR,mR,rdO,Man.sv]at g gm ⊢
   rcases ht with⟨rfl,rfl,rfl⟩|⟨rfl,rfl⟩<;>rcases hu with⟨rfl,rfl,rfl⟩|⟨rfl,rfl⟩<;>rcases h1 with rfl|rfl|rfl<;>simp only[go_sem,Q0,Q1,Q2,Q3,Q4,Q5,Q6,Q7,Q8,Q9,Qa,Qb,Qc,Qd,Qe,Qf,Qg,Qh,Qi,Qj,Qk,reduceCtorEq,reduceIte,g,Cm,gm,xmG,hq]
 ·simp only[zR,mR,rdO,Man.sv]at g gm ⊢
  rcases ht with⟨rfl,rfl,rfl⟩|⟨rfl,rfl⟩<;>rcases hu with⟨rfl,rfl,rfl⟩|⟨rfl,rfl⟩<;>rcases h1 with rfl|rfl|rfl<;>simp only[go_sem,Q0,Q1,Q2,Q3,Q4,Q5,Q6,Q7,Q8,Q9,Qa,Qb,Qc,Qd,Qe,Qf,Qg,Qh,Qi,Qj,Qk,reduceCtorEq,reduceIte,g,Cm,hp]
attribute [-go_sem] qh qf
theorem f61(B:List UInt8)(hB:B.length<=1000000000):call T 61 [.byt B .no] [] 0=some ⟨.tup [.agg (N5 B).sv,.int .i64 (N6 B)],[],[]⟩:=by
 have g0:=f41 B hB;have k0:dk B ⟨0,0⟩:=⟨bt _⟩;have g1:=f42 B hB 1 (by omega) (by omega) ⟨0,0⟩ k0;have k1:=dS (n:=1) k0;have g2:=f99 B hB 12 (by omega) _ k1;have k2:dk B (hV B).2:=pf (n:=12) k1;have g3:=f42 B hB 4 (by omega) (by omega) _ k2;have k3:dk B (hE B).2:=dS (n:=4) k2;have g4:=f42 B hB 4 (by omega) (by omega) _ k3;have k4:dk B (hF B).2:=dS (n:=4) k3;have g5:=f42 B hB 6 (by omega) (by omega) _ k4;have k5:dk B (hM B).2:=dS (n:=6) k4;have g6:=f42 B hB 6 (by omega) (by omega) _ k5;have k6:dk B (hT B).2:=dS (n:=6) k5;have g7:=f42 B hB 1 (by omega) (by omega) _ k6;have k7:dk B (hN B).2:=dS (n:=1) k6;have n1:=nL B (hT B).2;have n2:=nL B (hL B).2;change 0<=(hN B).1/\(hN B).1<256 at n1;change 0<=(hK B).1/\(hK B).1<256 at n2;have nn:(hN B).1=(((hN B).1.toNat:Nat):Int):=by omega
 have nk:(hK B).1=(((hK B).1.toNat:Nat):Int):=by omega
 obtain⟨t',tk',t1,q1,q2,q3⟩:=xnA B hB (hV B).1 (hE B).1 (hF B).1 (hM B).1 (hT B).1 (hN B).1.toNat [] (hN B).2 .clip [] 34060 (by rw[aq];omega) k7 (.inl ⟨rfl,rfl,rfl⟩) (.inl rfl);have k8:dk B (hL B).2:=vY k7;have g8:=f42 B hB 1 (by omega) (by omega) _ k8;have k9:dk B (hK B).2:=dS (n:=1) k8;have gm:=f71 (m6 B) (BM B);change (t'= .clip/\tk'=[]/\(hL B).1=[]\/t'= .id 160/\tk'=[160])at q1;obtain⟨u',uk',u1,r1,r2,r3⟩:=xnz B hB (hV B).1 (hE B).1 (hF B).1 (hM B).1 (hT B).1 (hL B).1 t' tk' q1 (hK B).1.toNat [] (hK B).2 .clip [] 64060 (by rw[aq];omega) k9 (.inl ⟨rfl,rfl,rfl⟩) (.inl rfl);have k10:dk B (hR B).2:=vf k9;have g9:=f44 B hB _ k10;change _/\_/\(hR B).1=[]\/_ at r1;rw[<-nn]at q3;rw[<-nk]at r3;change run T _ _=some (Ex.x 0,⟨_,[_,(105,mR _ _ _ _ _ (hL B).1 t' [] .clip),(12100,rdO B t1 (hL B).2)],_⟩)at q3;change run T _ _=some (Ex.x 2,⟨_,[_,(105,mR _ _ _ _ _ (hL B).1 t' (hR B).1 u'),(12100,rdO B u1 (hR B).2)],_⟩)at r3;change call T 42 _ _ _=some ⟨.int .i64 (hE B).1,[(0,rdO B 60 (hE B).2)],[60]⟩at g3;change call T 42 _ _ _=some ⟨.int .i64 (hF B).1,[(0,rdO B 60 (hF B).2)],[60]⟩at g4;change call T 42 _ _ _=some ⟨.int .i64 (hM B).1,[(0,rdO B 60 (hM B).2)],[60]⟩at g5;change call T 42 _ _ _=some ⟨.int .i64 (hT B).1,[(0,rdO B 60 (hT B).2)],[60]⟩at g6;change call T 42 _ _ _=some ⟨.int .i64 (hN B).1,[(0,rdO B 60 (hN B).2)],[60]⟩at g7;change call T 42 _ _ _=some ⟨.int .i64 (hK B).1,[(0,rdO B 60 (hK B).2)],[60]⟩at g8;change call T 99 _ _ _=some ⟨.byt (hV B).1 .no,[(0,rdO B 60 (hV B).2)],[60]⟩at g2
 have o1:=xno B hB (hV B).1 (hE B).1 (hF B).1 (hM B).1 (hT B).1 (hL B).1 (hL B).2 k8 t' tk' t1 q1 q2;have o2:=xnn B hB (hV B).1 (hE B).1 (hF B).1 (hM B).1 (hT B).1 (hL B).1 (hR B).2 k10 t' tk' (hR B).1 u' uk' u1 (BM B) q1 r1 r2;change run T _ _=some (Ex.n,⟨[_,_,_,(8,SV.int .i64 (hK B).1)],[_,_,(12100,rdO B 64060 (hK B).2)],_⟩)at o1;change run T _ _=some (Ex.n,⟨[_,_,(99,SV.bool (!decide (eR B (hR B).2=0/\gS (m6 B)=0)))],_,_⟩)at o2
 have hokd:qE B=if(uR B 1 ⟨0,0⟩).1=21/\eR B (hR B).2=0/\gS (m6 B)=0 then some (m6 B)else none:=by unfold qE okP;rfl
 have hsv:(m6 B).sv=[.str (hV B).1,.int .i64 (hE B).1,.int .i64 (hF B).1,.int .i64 (hM B).1,.int .i64 (hT B).1,.lst 4 (fo (hL B).1) .no,.lst 4 (dT (hR B).1) .no]:=rfl;have hze:fo []=[]:=rfl;have hzr:dT []=[]:=rfl;rw[show((1:Nat):Int)=1 from rfl]at g1 g7;rw[show((12:Nat):Int)=12 from rfl]at g2;rw[show((4:Nat):Int)=4 from rfl]at g3 g4;rw[show((6:Nat):Int)=6 from rfl]at g5 g6;unfold N5 N6;rw[hokd];rw[ah xmu];simp only[az]at q3 r3
 by_cases ht:(uR B 1 ⟨0,0⟩).1=21
 ·by_cases hb:eR B (hR B).2=0/\gS (m6 B)=0
  ·rw[if_pos ⟨ht,hb⟩]
   rw[decide_eq_true hb]at o2;simp only[hsv];simp only[zR,mR,rdO,hze,hzr,aw]at g0 g1 g2 g3 g4 g5 g6 g7 q3 r3 o1 o2;rw[ht]at g1;simp only[go_sem,Q0,Q1,Q2,Q3,Q4,Q5,Q6,Q7,Q8,Q9,Qa,Qb,Qc,Qd,Qe,Qf,Qg,Qh,Qi,Qj,Qk,reduceCtorEq,reduceIte,g0,x8,g1,nV,g2,Eu,g3,g4,g5,g6,g7,q3,o1,r3,o2]
  ·rw[if_neg (fun h=>hb h.2)]
   rw[decide_eq_false hb]at o2;simp only[zR,mR,rdO,hze,hzr,aw]at g0 g1 g2 g3 g4 g5 g6 g7 q3 r3 o1 o2;rw[ht]at g1;simp only[go_sem,Q0,Q1,Q2,Q3,Q4,Q5,Q6,Q7,Q8,Q9,Qa,Qb,Qc,Qd,Qe,Qf,Qg,Qh,Qi,Qj,Qk,reduceCtorEq,reduceIte,g0,x8,g1,nV,g2,Eu,g3,g4,g5,g6,g7,q3,o1,r3,o2];rcases q1 with⟨rfl,rfl,hz⟩|⟨rfl,rfl⟩<;>rcases r1 with⟨rfl,rfl,hz2⟩|⟨rfl,rfl⟩<;>simp only[go_sem,Q0,Q1,Q2,Q3,Q4,Q5,Q6,Q7,Q8,Q9,Qa,Qb,Qc,Qd,Qe,Qf,Qg,Qh,Qi,Qj,Qk,reduceCtorEq,reduceIte,hze,hzr,mnz,Man.sv]
 ·rw[if_neg (fun h=>ht h.1)]
  simp only[zR,mR,rdO,hze,hzr,aw]at g0 g1;simp only[go_sem,Q0,Q1,Q2,Q3,Q4,Q5,Q6,Q7,Q8,Q9,Qa,Qb,Qc,Qd,Qe,Qf,Qg,Qh,Qi,Qj,Qk,reduceCtorEq,reduceIte,g0,x8,g1,nV,ht,mnz,Man.sv,hze,hzr]
attribute [go_sem] qh qf
theorem nM{B:List UInt8}{n:Nat}{s:Rs}(h:¬s.e=0):(uR B n s).2=s:=by unfold uR;rw[if_neg h]
theorem xbS{B:List UInt8}{n:Nat}{s:Rs}(h:¬s.e=0):(wR B n s).2=s:=by unfold wR;rw[if_neg h]
theorem N8{B:List UInt8}{n:Nat}{s:Rs}(h:¬s.e=0):(bR B n s).2=s:=by unfold bR;rw[if_neg h]
theorem Gc{B:List UInt8}{s:Rs}(h:¬s.e=0):(iz B s).2=s:=by show(wR B 32 (uR B 4 (bR B 12 (uR B 1 s).2).2).2).2=s;rw[nM h,N8 h,nM h,xbS h]
theorem Fp{B:List UInt8}{s:Rs}(h:¬s.e=0):(ix B s).2=s:=by show(uR B 4 (uR B 4 (bR B 32 (uR B 1 s).2).2).2).2=s;rw[nM h,N8 h,nM h,nM h]
def fF(B:List UInt8):Nat->List Ent->Rs->List Ent×Rs
 |0,es,s=>(es,s)
 |n+1,es,s=>fF B n (es++ [(iz B s).1]) (iz B s).2
def fA(B:List UInt8):Nat->List Rul->Rs->List Rul×Rs
 |0,es,s=>(es,s)
 |n+1,es,s=>fA B n (es++ [(ix B s).1]) (ix B s).2
theorem rP{B:List UInt8}:∀{n:Nat}{es:List Ent}{s:Rs},¬s.e=0->(fF B n es s).2=s
 |0,_,_,_=>rfl
 |n+1,es,s,h=>by show(fF B n _ (iz B s).2).2=s;rw[Gc h];exact rP h
theorem rq{B:List UInt8}:∀{n:Nat}{es:List Rul}{s:Rs},¬s.e=0->(fA B n es s).2=s
 |0,_,_,_=>rfl
 |n+1,es,s,h=>by show(fA B n _ (ix B s).2).2=s;rw[Fp h];exact rq h
theorem kO{B:List UInt8}:∀{n:Nat}{es:List Ent}{s:Rs},(fF B n es s).1.length=es.length+n
 |0,_,_=>rfl
 |n+1,es,s=>by show(fF B n _ _).1.length=_;rw[kO,ac,aW];omega
theorem kF{B:List UInt8}:∀{n:Nat}{es:List Rul}{s:Rs},(fA B n es s).1.length=es.length+n
 |0,_,_=>rfl
 |n+1,es,s=>by show(fA B n _ _).1.length=_;rw[kF,ac,aW];omega
theorem vV{B:List UInt8}:∀{n:Nat}{es:List Ent}{s:Rs},dk B s->dk B (fF B n es s).2
 |0,_,_,h=>h
 |n+1,es,s,h=>by show dk B (fF B n _ (iz B s).2).2;exact vV (oX h)
theorem vc{B:List UInt8}:∀{n:Nat}{es:List Rul}{s:Rs},dk B s->dk B (fA B n es s).2
 |0,_,_,h=>h
 |n+1,es,s,h=>by show dk B (fA B n _ (ix B s).2).2;exact vc (ox h)
theorem vW{B:List UInt8}:∀{n:Nat}{es:List Ent}{s:Rs},(fF B n es s).2.e=0->dY B n es s=fF B n es s/\s.e=0
 |0,_,_,h=>⟨rfl,h⟩
 |n+1,es,s,h=>by
  by_cases he:s.e=0
  ·refine⟨?_,he⟩
   show(if s.e=0 then _ else _)=_;rw[if_pos he];exact(vW (n:=n) h).1
  ·rw[rP he]at h;exact absurd h he
theorem pt{B:List UInt8}:∀{n:Nat}{es:List Rul}{s:Rs},(fA B n es s).2.e=0->dX B n es s=fA B n es s/\s.e=0
 |0,_,_,h=>⟨rfl,h⟩
 |n+1,es,s,h=>by
  by_cases he:s.e=0
  ·refine⟨?_,he⟩
   show(if s.e=0 then _ else _)=_;rw[if_pos he];exact(pt (n:=n) h).1
  ·rw[rq he]at h;exact absurd h he
theorem vZ{B:List UInt8}:∀{n:Nat}{es:List Ent}{s:Rs},(dY B n es s).2.e=0->dY B n es s=fF B n es s
 |0,_,_,_=>rfl
 |n+1,es,s,h=>by
  have u:dY B (n+1) es s=if s.e=0 then dY B n (es++ [(iz B s).1]) (iz B s).2 else(es,s):=rfl
  by_cases he:s.e=0
  ·rw[u,if_pos he]at h ⊢
   exact vZ h
  ·rw[u,if_neg he]at h;exact absurd h he
theorem vg{B:List UInt8}:∀{n:Nat}{es:List Rul}{s:Rs},(dX B n es s).2.e=0->dX B n es s=fA B n es s
 |0,_,_,_=>rfl
 |n+1,es,s,h=>by
  have u:dX B (n+1) es s=if s.e=0 then dX B n (es++ [(ix B s).1]) (ix B s).2 else(es,s):=rfl
  by_cases he:s.e=0
  ·rw[u,if_pos he]at h ⊢
   exact vg h
  ·rw[u,if_neg he]at h;exact absurd h he
theorem S9{B:List UInt8}{n:Nat}{s:Rs}(h:(uR B n s).2.e=0):s.e=0:=by
 by_cases he:s.e=0
 ·exact he
 ·rw[nM he]at h;exact h
theorem ZL{B:List UInt8}{s:Rs}(h:eR B s=0):s.e=0:=by
 unfold eR at h;split at h
 ·assumption
 ·exact h
def qN(B:List UInt8):Nat:=min (hN B).1.toNat 17
def qL(B:List UInt8):List Ent×Rs:=fF B (qN B) [] (hN B).2
def qK(B:List UInt8):Int×Rs:=uR B 1 (qL B).2
def qM(B:List UInt8):Nat:=min (qK B).1.toNat 9
def qR(B:List UInt8):List Rul×Rs:=fA B (qM B) [] (qK B).2
def qm(B:List UInt8):Man:=⟨(hV B).1,(hE B).1,(hF B).1,(hM B).1,(hT B).1,(qL B).1,(qR B).1⟩
def okQ(B:List UInt8):Prop:=(uR B 1 ⟨0,0⟩).1=21/\eR B (qR B).2=0/\gS (qm B)=0
instance (B:List UInt8):Decidable (okQ B):=by unfold okQ;infer_instance
theorem xeb{B:List UInt8}(h:okQ B):okP B/\qm B=m6 B:=by
 obtain⟨h1,h2,h3⟩:=h;obtain⟨s1,s2⟩:=kL h3;have e1:=ZL h2;obtain⟨r1,r2⟩:=pt (B:=B) (n:=qM B) (es:=[]) (s:=(qK B).2) e1;have e3:=S9 (B:=B) (n:=1) (s:=(qL B).2) r2;obtain⟨r3,r4⟩:=vW (B:=B) (n:=qN B) (es:=[]) (s:=(hN B).2) e3;have l1:(qL B).1.length=0+qN B:=kO;have l2:(qR B).1.length=0+qM B:=kF
 have n1:qN B=(hN B).1.toNat:=by have:(qL B).1.length<=16:=s1;have:qN B=min (hN B).1.toNat 17:=rfl;omega
 have eL:hL B=qL B:=by show dY B (hN B).1.toNat [] (hN B).2=fF B (qN B) [] (hN B).2;rw[<-n1];exact r3
 have eK:hK B=qK B:=by unfold hK qK;rw[eL]
 have n2:qM B=(qK B).1.toNat:=by have:(qR B).1.length<=8:=s2;have:qM B=min (qK B).1.toNat 9:=rfl;omega
 have eRr:hR B=qR B:=by show dX B (hK B).1.toNat [] (hK B).2=fA B (qM B) [] (qK B).2;rw[eK,<-n2];exact r1
 have em:qm B=m6 B:=by unfold qm m6;rw[eL,eRr]
 exact⟨⟨h1,by rw[eRr];exact h2,by rw[<-em];exact h3⟩,em⟩
theorem xhI{B:List UInt8}(h:okP B):okQ B:=by
 obtain⟨h1,h2,h3⟩:=h;obtain⟨s1,s2⟩:=kL h3;have e1:=ZL h2;have r1:=vg (B:=B) (n:=(hK B).1.toNat) (es:=[]) (s:=(hK B).2) e1;have r2:=(pt (B:=B) (n:=(hK B).1.toNat) (es:=[]) (s:=(hK B).2) (by rw[<-r1];exact e1)).2;have e3:=S9 (B:=B) (n:=1) (s:=(hL B).2) r2;have r3:=vZ (B:=B) (n:=(hN B).1.toNat) (es:=[]) (s:=(hN B).2) e3
 have l1:(hL B).1.length=0+(hN B).1.toNat:=by show(dY B (hN B).1.toNat [] (hN B).2).1.length=_;rw[r3];exact kO
 have l2:(hR B).1.length=0+(hK B).1.toNat:=by show(dX B (hK B).1.toNat [] (hK B).2).1.length=_;rw[r1];exact kF
 have s1':(hL B).1.length<=16:=s1;have s2':(hR B).1.length<=8:=s2;have n1:qN B=(hN B).1.toNat:=by unfold qN;omega
 have eL:qL B=hL B:=by show fF B (qN B) [] (hN B).2=dY B (hN B).1.toNat [] (hN B).2;rw[n1,r3]
 have eK:qK B=hK B:=by unfold hK qK;rw[eL]
 have n2:qM B=(hK B).1.toNat:=by unfold qM;rw[eK];omega
 have eRr:qR B=hR B:=by show fA B (qM B) [] (qK B).2=dX B (hK B).1.toNat [] (hK B).2;rw[eK,n2,r1]
 have em:qm B=m6 B:=by unfold qm m6;rw[eL,eRr]
 exact⟨h1,by rw[eRr];exact h2,by rw[em];exact h3⟩
theorem Ss(B:List UInt8):(if okQ B then some (qm B)else none)=qE B:=by
 unfold qE
 by_cases h:okQ B
 ·obtain⟨h1,h2⟩:=xeb h
  rw[if_pos h,if_pos h1,h2]
 ·rw[if_neg h,if_neg (fun k=>h (xhI k))]
theorem vX{B:List UInt8}:∀{n:Nat}{es:List Ent}{s:Rs},(∀x∈es,x.name.length<=12/\x.dig.length<=32)->∀x∈(fF B n es s).1,x.name.length<=12/\x.dig.length<=32
 |0,_,_,h=>h
 |n+1,es,s,h=>vX (n:=n) fun x hx=>by
  rcases al.1 hx with hx|hx
  ·exact h x hx
  ·rw[bf.1 hx];exact⟨nQ _ _ _,GB _ _ _⟩
theorem vd{B:List UInt8}:∀{n:Nat}{es:List Rul}{s:Rs},(∀x∈es,x.text.length<=32)->∀x∈(fA B n es s).1,x.text.length<=32
 |0,_,_,h=>h
 |n+1,es,s,h=>vd (n:=n) fun x hx=>by
  rcases al.1 hx with hx|hx
  ·exact h x hx
  ·rw[bf.1 hx];exact nQ _ _ _
end Go.Proofs.YtkggincjigbelaaGreatDoor
