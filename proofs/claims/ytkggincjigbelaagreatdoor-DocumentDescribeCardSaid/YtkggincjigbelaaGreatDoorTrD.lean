/- What the functions come to. No condition. -/
import Derived.Test.YtkggincjigbelaaGreatDoorTpD
open Int renaming natCast_zero -> aB
open Go.IntKind renaming i64 -> af
open List renaming append_assoc -> av, append_nil -> aZ, cons_append -> aS, flatten_cons -> cT, foldl_cons -> cr, getD_eq_getElem?_getD -> aa, getElem?_eq_getElem -> ab, getElem_of_mem -> bM, length_append -> ac, length_cons -> ai, length_nil -> aw, length_singleton -> aV, length_take -> ax, map_append -> cE, map_cons -> aC, mem_append -> al, mem_cons -> an, mem_cons_of_mem -> ao, mem_cons_self -> ay, mem_singleton -> aY, nil_append -> aF, take -> kG, take_of_length_le -> bf
open Nat renaming le_refl -> aH, lt_or_ge -> bL, zero_le -> bJ
set_option maxRecDepth 100000
set_option maxHeartbeats 16000000
set_option linter.unusedSimpArgs false
set_option linter.unusedVariables false
namespace Go.Proofs.YtkggincjigbelaaGreatDoor
open Go.Sy
open UInt8 renaming reduceLT -> Q0, reduceLE -> Q1
open Int renaming reduceToNat -> Q2, reduceLE -> Q3, reduceLT -> Q4, reduceEq -> Q5, reduceNe -> Q6, reduceNeg -> Q7, reduceAdd -> Q8, reduceSub -> Q9, reduceMul -> Qa
open Nat renaming reducePow -> Qb, reduceDiv -> Qc, reduceMod -> Qd, reduceAdd -> Qe, reduceSub -> Qf, reduceMul -> Qg, reduceLT -> Qh, reduceLeDiff -> Qi, reduceEqDiff -> Qj, reduceBEq -> Qk
def xfe(x:Ent):Prop:=0<=x.ver/\x.ver<=1000000/\x.name.length<=1000000
theorem Qr{l:List Ent}{i:Nat}(h:o8 l i=0):1<=(l.getD i en0).role/\(l.getD i en0).role<=3/\0<=(l.getD i en0).ver/\(l.getD i en0).ver<=1000000/\(l.getD i en0).dig.length=32/\Pr.nameB (l.getD i en0).name=true:=by
 unfold o8 at h;generalize l.getD i en0=x at*
 repeat' split at h
 all_goals first|omega|skip
 all_goals (refine⟨by omega,by omega,by omega,by omega,by omega,by assumption⟩)
theorem uA(l:List Ent):∀(n i:Nat),jn l n i=0->∀k,i<=k->k<i+n->o8 l k=0
 |0,i,_,k,h1,h2=>by omega
 |n+1,i,h,k,h1,h2=>by
  unfold jn at h
  by_cases h0:o8 l i=0
  ·rw[if_pos h0]at h
   rcases bL i k with h3|h3
   ·exact uA l n (i+1) h k (by omega) (by omega)
   ·have:k=i:=by omega
    rw[this];exact h0
  ·rw[if_neg h0]at h;exact absurd h h0
theorem rt{m:Man}(h:jb m=0):jn m.ents m.ents.length 0=0/\jZ m.ruls=0/\m.ents.length<=16/\m.ruls.length<=8/\Pr.nameB m.vendor=true/\0<=m.flr/\m.flr<=m.ver/\m.ver<=1000000/\0<=m.frm/\m.frm<m.til/\m.til<=1099511627776:=by
 unfold jb at h
 by_cases h0:Pr.nameB m.vendor=true
 ·rw[if_pos h0]at h
  repeat' split at h
  all_goals first|(exfalso;omega)|skip
  refine⟨by assumption,h,by omega,by omega,h0,by omega,by omega,by omega,by omega,by omega,by omega⟩
 ·rw[if_neg h0]at h;omega
theorem Py{m:Man}(h:jb m=0):∀x∈m.ents,1<=x.role/\x.role<=3/\xfe x/\x.dig.length=32/\Pr.nameB x.name=true:=by
 intro x hx;obtain⟨i,hi,rfl⟩:=bM hx;have h1:=Qr (uA m.ents _ 0 (rt h).1 i (bJ _) (by omega));have e:m.ents.getD i en0=m.ents[i]:=by rw[aa,ab hi];rfl
 rw[e]at h1;obtain⟨a,b,c,d,f,g⟩:=h1;have:=ir g;exact⟨a,b,⟨c,d,by omega⟩,f,g⟩
def l9(B:List UInt8)(s:Rs):Ent×Rs:=(⟨(uR B 1 s).1,(bR B 12 (uR B 1 s).2).1,(uR B 4 (bR B 12 (uR B 1 s).2).2).1,(wR B 32 (uR B 4 (bR B 12 (uR B 1 s).2).2).2).1⟩,(wR B 32 (uR B 4 (bR B 12 (uR B 1 s).2).2).2).2)
def lZ(B:List UInt8)(s:Rs):Rul×Rs:=(⟨(uR B 1 s).1,(bR B 32 (uR B 1 s).2).1,(uR B 4 (bR B 32 (uR B 1 s).2).2).1,(uR B 4 (uR B 4 (bR B 32 (uR B 1 s).2).2).2).1⟩,(uR B 4 (uR B 4 (bR B 32 (uR B 1 s).2).2).2).2)
def eS(B:List UInt8):Nat->List Ent->Rs->List Ent×Rs
 |0,es,s=>(es,s)
 |n+1,es,s=>if s.e=0 then eS B n (es++ [(l9 B s).1]) (l9 B s).2 else(es,s)
def eO(B:List UInt8):Nat->List Rul->Rs->List Rul×Rs
 |0,es,s=>(es,s)
 |n+1,es,s=>if s.e=0 then eO B n (es++ [(lZ B s).1]) (lZ B s).2 else(es,s)
theorem A6{B:List UInt8}{s:Rs}(h:dT B s):dT B (l9 B s).2:=MY (fo (wk (fo h)))
theorem zb{B:List UInt8}{s:Rs}(h:dT B s):dT B (lZ B s).2:=fo (fo (wk (fo h)))
theorem ux{B:List UInt8}:∀{n:Nat}{es:List Ent}{s:Rs},dT B s->dT B (eS B n es s).2
 |0,_,_,h=>h
 |n+1,es,s,h=>by
  unfold eS;split
  ·exact ux (A6 h)
  ·exact h
theorem tG{B:List UInt8}:∀{n:Nat}{es:List Rul}{s:Rs},dT B s->dT B (eO B n es s).2
 |0,_,_,h=>h
 |n+1,es,s,h=>by
  unfold eO;split
  ·exact tG (zb h)
  ·exact h
theorem qd{B:List UInt8}:∀{n:Nat}{es:List Ent}{s:Rs},(eS B n es s).1.length<=es.length+n
 |0,_,_=>aH _
 |n+1,es,s=>by
  unfold eS;split
  ·have:=qd (B:=B) (n:=n) (es:=es++ [(l9 B s).1]) (s:=(l9 B s).2)
   rw[ac,aV]at this;omega
  ·show es.length<=_;omega
theorem pI{B:List UInt8}:∀{n:Nat}{es:List Rul}{s:Rs},(eO B n es s).1.length<=es.length+n
 |0,_,_=>aH _
 |n+1,es,s=>by
  unfold eO;split
  ·have:=pI (B:=B) (n:=n) (es:=es++ [(lZ B s).1]) (s:=(lZ B s).2)
   rw[ac,aV]at this;omega
  ·show es.length<=_;omega
def mR(v:List UInt8)(ve fl fr ti:Int)(es:List Ent)(t:Tok)(rs:List Rul)(t2:Tok):aE:= .rc [.str v,.int .i64 ve,.int .i64 fl,.int .i64 fr,.int .i64 ti,.lst 4 (dh es) t,.lst 4 (gP rs) t2]
def zR:aE:= .rc [.str [],.int .i64 0,.int .i64 0,.int .i64 0,.int .i64 0,.lst 4 [] .clip,.lst 4 [] .clip]
theorem Fe(l:List Ent)(x:Ent):dh (l++ [x])=dh l++ [x.sv]:=by rw[dh,dh,cE];rfl
theorem En(l:List Rul)(x:Rul):gP (l++ [x])=gP l++ [x.sv]:=by rw[gP,gP,cE];rfl
theorem xkw(B:List UInt8)(hB:B.length<=1000000000)(v:List UInt8)(ve fl fr ti:Int):∀(n:Nat)(es:List Ent)(s:Rs)(t:Tok)(tk:List Nat)(t0:Nat),es.length+n<=1000->dT B s->
 (t= .clip/\tk=[]/\es=[]\/t= .id 160/\tk=[160])->(t0=34060\/t0=55060)->
 ∃(t':Tok)(tk':List Nat)(t1:Nat),(t'= .clip/\tk'=[]/\(eS B n es s).1=[]\/t'= .id 160/\tk'=[160])/\(t1=34060\/t1=55060\/t1=39060)/\
  run T (.loop w7) ⟨[(2,.ptr 102 0),(4,.ptr 12100 0),(5,.ptr 105 0),(6,.int .i64 n)],[(102,zR),(105,mR v ve fl fr ti es t [] .clip),(12100,rdO B t0 s)],tk++ [t0]⟩=
   some (.x 0,⟨[(2,.ptr 102 0),(4,.ptr 12100 0),(5,.ptr 105 0)],[(102,zR),(105,mR v ve fl fr ti (eS B n es s).1 t' [] .clip),(12100,rdO B t1 (eS B n es s).2)],tk'++ [t1]⟩):=by
 intro n;induction n with
 |zero=>intro es s t tk t0 h1 h2 ht ht0;refine⟨t,tk,t0,ht,by omega, ?_⟩;unfold eS;rw[ah];rcases ht with⟨rfl,rfl,rfl⟩|⟨rfl,rfl⟩<;>rcases ht0 with rfl|rfl<;>simp only[zR,mR,rdO]<;>simp only[go_sem,Q0,Q1,Q2,Q3,Q4,Q5,Q6,Q7,Q8,Q9,Qa,Qb,Qc,Qd,Qe,Qf,Qg,Qh,Qi,Qj,Qk,reduceCtorEq,reduceIte,aB]
 |succ n ih=>
  intro es s t tk t0 h1 h2 ht ht0;have hp:(0:Int)<((n+1:Nat):Int):=by omega
  have e1:af.wrap (((n+1:Nat):Int)-1)=(n:Int):=wZ (by omega)
  have g0:=xjl B s
  by_cases he:s.e=0
  ·obtain⟨t',tk',t1,q1,q2,q3⟩:=ih (es++ [(l9 B s).1]) (l9 B s).2 (.id 160) [160] 55060 (by rw[ac,aV];omega) (A6 h2) (.inr ⟨rfl,rfl⟩) (.inr rfl)
   have hu:eS B (n+1) es s=eS B n (es++ [(l9 B s).1]) (l9 B s).2:=by
    conv=>lhs;unfold eS
    rw[if_pos he]
   rw[hu];refine⟨t',tk',t1,q1,q2, ?_⟩;have hv:=dP es;have b1:(es.length+1)*56<=140737488355328:=by omega
   generalize eS B n (es++ [(l9 B s).1]) (l9 B s).2=Z at*;have k1:=fo (n:=1) h2;have g1:=f42 B hB 1 (by omega) (by omega) s h2;unfold l9 mR at q3;rw[Fe]at q3;generalize uR B 1 s=p1 at*;obtain⟨x1,s1⟩:=p1;simp only at k1 g1 q3;have k2:=wk (n:=12) k1;have g2:=f99 B hB 12 (by omega) s1 k1;generalize bR B 12 s1=p2 at*;obtain⟨x2,s2⟩:=p2;simp only at k2 g2 q3;have k3:=fo (n:=4) k2;have g3:=f42 B hB 4 (by omega) (by omega) s2 k2;generalize uR B 4 s2=p3 at*;obtain⟨x3,s3⟩:=p3;simp only at k3 g3 q3;have g4:=f43 B hB 32 (by omega) s3 k3;generalize wR B 32 s3=p4 at*;obtain⟨x4,s4⟩:=p4;simp only at g4 q3;rw[show((1:Nat):Int)=1 from rfl]at g1;rw[show((12:Nat):Int)=12 from rfl]at g2;rw[show((4:Nat):Int)=4 from rfl]at g3;rw[show((32:Nat):Int)=32 from rfl]at g4;rw[he]at g0;simp only[zR,mR,rdO,Ent.sv,aS,aF]at g0 g1 g2 g3 g4 q3 ⊢;rw[he]at g0 g1;rw[he];rw[ah];rcases ht with⟨rfl,rfl,rfl⟩|⟨rfl,rfl⟩<;>rcases ht0 with rfl|rfl
   ·have hnil:dh []=[]:=rfl
    simp only[hnil,aF]at q3 ⊢;simp only[go_sem,Q0,Q1,Q2,Q3,Q4,Q5,Q6,Q7,Q8,Q9,Qa,Qb,Qc,Qd,Qe,Qf,Qg,Qh,Qi,Qj,Qk,reduceCtorEq,reduceIte,hp,e1,g0,pA,g1,mK,g2,DH,g3,g4,ww,q3]
   ·have hnil:dh []=[]:=rfl
    simp only[hnil,aF]at q3 ⊢;simp only[go_sem,Q0,Q1,Q2,Q3,Q4,Q5,Q6,Q7,Q8,Q9,Qa,Qb,Qc,Qd,Qe,Qf,Qg,Qh,Qi,Qj,Qk,reduceCtorEq,reduceIte,hp,e1,g0,pA,g1,mK,g2,DH,g3,g4,ww,q3]
   ·simp only[aS,aF]
    simp only[go_sem,Q0,Q1,Q2,Q3,Q4,Q5,Q6,Q7,Q8,Q9,Qa,Qb,Qc,Qd,Qe,Qf,Qg,Qh,Qi,Qj,Qk,reduceCtorEq,reduceIte,hp,e1,g0,pA,g1,mK,g2,DH,g3,g4,ww,hv,b1,q3]
   ·simp only[aS,aF]
    simp only[go_sem,Q0,Q1,Q2,Q3,Q4,Q5,Q6,Q7,Q8,Q9,Qa,Qb,Qc,Qd,Qe,Qf,Qg,Qh,Qi,Qj,Qk,reduceCtorEq,reduceIte,hp,e1,g0,pA,g1,mK,g2,DH,g3,g4,ww,hv,b1,q3]
  ·have hu:eS B (n+1) es s=(es,s):=by
    unfold eS;rw[if_neg he]
   rw[hu];refine⟨t,tk,39060,ht,by omega, ?_⟩;rw[ah];simp only[zR,mR,rdO]at g0 ⊢;rcases ht with⟨rfl,rfl,rfl⟩|⟨rfl,rfl⟩<;>rcases ht0 with rfl|rfl<;>simp only[go_sem,Q0,Q1,Q2,Q3,Q4,Q5,Q6,Q7,Q8,Q9,Qa,Qb,Qc,Qd,Qe,Qf,Qg,Qh,Qi,Qj,Qk,reduceCtorEq,reduceIte,hp,g0,pA,he,aS,aF]
theorem xkv(B:List UInt8)(hB:B.length<=1000000000)(v:List UInt8)(ve fl fr ti:Int)(es:List Ent)(t2:Tok)(tk2:List Nat)(ht2:t2= .clip/\tk2=[]/\es=[]\/t2= .id 160/\tk2=[160]):∀(n:Nat)(rs:List Rul)(s:Rs)(t:Tok)(tk:List Nat)(t0:Nat),rs.length+n<=1000->dT B s->
 (t= .clip/\tk=[]/\rs=[]\/t= .id 190/\tk=[190])->(t0=64060\/t0=85060)->
 ∃(t':Tok)(tk':List Nat)(t1:Nat),(t'= .clip/\tk'=[]/\(eO B n rs s).1=[]\/t'= .id 190/\tk'=[190])/\(t1=64060\/t1=85060\/t1=69060)/\
  run T (.loop w6) ⟨[(2,.ptr 102 0),(4,.ptr 12100 0),(5,.ptr 105 0),(8,.int .i64 n)],[(102,zR),(105,mR v ve fl fr ti es t2 rs t),(12100,rdO B t0 s)],tk2++(tk++ [t0])⟩=
   some (.x 2,⟨[(2,.ptr 102 0),(4,.ptr 12100 0),(5,.ptr 105 0)],[(102,zR),(105,mR v ve fl fr ti es t2 (eO B n rs s).1 t'),(12100,rdO B t1 (eO B n rs s).2)],tk2++(tk'++ [t1])⟩):=by
 intro n;induction n with
 |zero=>intro rs s t tk t0 h1 h2 ht ht0;refine⟨t,tk,t0,ht,by omega, ?_⟩;unfold eO;rw[ah];rcases ht2 with⟨rfl,rfl,rfl⟩|⟨rfl,rfl⟩<;>rcases ht with⟨rfl,rfl,rfl⟩|⟨rfl,rfl⟩<;>rcases ht0 with rfl|rfl<;>simp only[zR,mR,rdO]<;>simp only[go_sem,Q0,Q1,Q2,Q3,Q4,Q5,Q6,Q7,Q8,Q9,Qa,Qb,Qc,Qd,Qe,Qf,Qg,Qh,Qi,Qj,Qk,reduceCtorEq,reduceIte,aB]
 |succ n ih=>
  intro rs s t tk t0 h1 h2 ht ht0;have hp:(0:Int)<((n+1:Nat):Int):=by omega
  have e1:af.wrap (((n+1:Nat):Int)-1)=(n:Int):=wZ (by omega)
  have g0:=xjl B s
  by_cases he:s.e=0
  ·obtain⟨t',tk',t1,q1,q2,q3⟩:=ih (rs++ [(lZ B s).1]) (lZ B s).2 (.id 190) [190] 85060 (by rw[ac,aV];omega) (zb h2) (.inr ⟨rfl,rfl⟩) (.inr rfl)
   have hu:eO B (n+1) rs s=eO B n (rs++ [(lZ B s).1]) (lZ B s).2:=by
    conv=>lhs;unfold eO
    rw[if_pos he]
   rw[hu];refine⟨t',tk',t1,q1,q2, ?_⟩;have hv:=jJ rs;have b1:(rs.length+1)*40<=140737488355328:=by omega
   generalize eO B n (rs++ [(lZ B s).1]) (lZ B s).2=Z at*;have k1:=fo (n:=1) h2;have g1:=f42 B hB 1 (by omega) (by omega) s h2;unfold lZ mR at q3;rw[En]at q3;generalize uR B 1 s=p1 at*;obtain⟨x1,s1⟩:=p1;simp only at k1 g1 q3;have k2:=wk (n:=32) k1;have g2:=f99 B hB 32 (by omega) s1 k1;generalize bR B 32 s1=p2 at*;obtain⟨x2,s2⟩:=p2;simp only at k2 g2 q3;have k3:=fo (n:=4) k2;have g3:=f42 B hB 4 (by omega) (by omega) s2 k2;generalize uR B 4 s2=p3 at*;obtain⟨x3,s3⟩:=p3;simp only at k3 g3 q3;have g4:=f42 B hB 4 (by omega) (by omega) s3 k3;generalize uR B 4 s3=p4 at*;obtain⟨x4,s4⟩:=p4;simp only at g4 q3;rw[show((1:Nat):Int)=1 from rfl]at g1;rw[show((32:Nat):Int)=32 from rfl]at g2;rw[show((4:Nat):Int)=4 from rfl]at g3 g4;rw[he]at g0;simp only[zR,mR,rdO,Rul.sv,aS,aF]at g0 g1 g2 g3 g4 q3 ⊢;rw[he]at g0 g1;rw[he];rw[ah];rcases ht2 with⟨rfl,rfl,rfl⟩|⟨rfl,rfl⟩<;>rcases ht with⟨rfl,rfl,rfl⟩|⟨rfl,rfl⟩<;>rcases ht0 with rfl|rfl
   all_goals
    have hnil:gP []=[]:=rfl;have hnil2:dh []=[]:=rfl;simp only[hnil,hnil2,aF,aS]at q3 ⊢;simp only[go_sem,Q0,Q1,Q2,Q3,Q4,Q5,Q6,Q7,Q8,Q9,Qa,Qb,Qc,Qd,Qe,Qf,Qg,Qh,Qi,Qj,Qk,reduceCtorEq,reduceIte,hp,e1,g0,pA,g1,mK,g2,DH,g3,g4,hv,b1,q3]
  ·have hu:eO B (n+1) rs s=(rs,s):=by
    unfold eO;rw[if_neg he]
   rw[hu];refine⟨t,tk,69060,ht,by omega, ?_⟩;rw[ah];simp only[zR,mR,rdO]at g0 ⊢;rcases ht2 with⟨rfl,rfl,rfl⟩|⟨rfl,rfl⟩<;>rcases ht with⟨rfl,rfl,rfl⟩|⟨rfl,rfl⟩<;>rcases ht0 with rfl|rfl<;>simp only[go_sem,Q0,Q1,Q2,Q3,Q4,Q5,Q6,Q7,Q8,Q9,Qa,Qb,Qc,Qd,Qe,Qf,Qg,Qh,Qi,Qj,Qk,reduceCtorEq,reduceIte,hp,g0,pA,he,aS,aF]
theorem Ny{B P X S:List UInt8}(m:Nat)(h:B=P++((bu 2 (X.length:Int)++X)++S))(hm:X.length<=m)(h6:X.length<65536):bR B m ⟨P.length,0⟩=(X,⟨(P++(bu 2 (X.length:Int)++X)).length,0⟩):=by
 have hn:nB (bu 2 (X.length:Int))=X.length:=by
  have hp:((256^2:Nat):Int)=65536:=by decide
  have:=iR 2 (X.length:Int) (by omega) (by rw[hp];omega) (by omega);omega
 have l2:(bu 2 (X.length:Int)).length=2:=cQ ..;have h':B=P++(bu 2 (X.length:Int)++(X++S)):=by rw[h,av (bu 2 _)]
 have h'':B=(P++bu 2 (X.length:Int))++(X++S):=by rw[h',av]
 obtain⟨a1,a2⟩:=nQ h';obtain⟨b1,b2⟩:=nQ h'';rw[l2]at a1 a2;rw[ac,l2]at b1 b2;unfold bR;rw[if_pos rfl];simp only;rw[if_pos a2,a1,hn,if_pos hm,if_pos b2,b1];rw[ac,ac,l2]
def nJ(x:Ent):List UInt8:=bu 1 x.role++(bu 2 (x.name.length:Int)++x.name)++bu 4 x.ver++x.dig
def qf(r:Rul):List UInt8:=bu 1 r.kind++(bu 2 (r.text.length:Int)++r.text)++bu 4 r.lo++bu 4 r.hi
theorem rI(B X:List UInt8)(h:X.length<65536):jv B X=B++(bu 2 (X.length:Int)++X):=by unfold jv bu;rw[bf (by omega),av]
theorem QA(B:List UInt8)(x:Ent)(h:x.name.length<65536):pd B x=B++nJ x:=by unfold pd nJ;rw[rI _ _ h];simp only[av]
theorem OT(B:List UInt8)(x:Rul)(h:x.text.length<65536):mF B x=B++qf x:=by unfold mF qf;rw[rI _ _ h];simp only[av]
theorem ur:∀(l:List Ent)(B:List UInt8),(∀x∈l,x.name.length<65536)->l.foldl pd B=B++(l.map nJ).flatten
 |[],B,_=>by simp
 |x::r,B,h=>by rw[cr,QA _ _ (h x ay),ur r _ (fun y hy=>h y (ao _ hy)),aC,cT,av]
theorem uq:∀(l:List Rul)(B:List UInt8),(∀x∈l,x.text.length<65536)->l.foldl mF B=B++(l.map qf).flatten
 |[],B,_=>by simp
 |x::r,B,h=>by rw[cr,OT _ _ (h x ay),uq r _ (fun y hy=>h y (ao _ hy)),aC,cT,av]
structure xdj(x:Ent):Prop where
 r0:0<=x.role
 r1:x.role<256
 n:x.name.length<=12
 v0:0<=x.ver
 v1:x.ver<4294967296
 d:x.dig.length=32
structure xdh(x:Rul):Prop where
 r0:0<=x.kind
 r1:x.kind<256
 n:x.text.length<=32
 v0:0<=x.lo
 v1:x.lo<4294967296
 w0:0<=x.hi
 w1:x.hi<4294967296
theorem Qo{B P S:List UInt8}{x:Ent}(hx:xdj x)(h:B=P++(nJ x++S)):l9 B ⟨P.length,0⟩=(x,⟨(P++nJ x).length,0⟩):=by unfold nJ at h;have a1:=iK (B:=B) (P:=P) (X:=bu 1 x.role) (S:=(bu 2 (x.name.length:Int)++x.name)++(bu 4 x.ver++(x.dig++S))) 1 (by rw[h];simp only[av]) (cQ ..);have a2:=Ny (B:=B) (P:=P++bu 1 x.role) (X:=x.name) (S:=bu 4 x.ver++(x.dig++S)) 12 (by rw[h];simp only[av]) hx.n (by have:=hx.n;omega);have a3:=iK (B:=B) (P:=P++bu 1 x.role++(bu 2 (x.name.length:Int)++x.name)) (X:=bu 4 x.ver) (S:=x.dig++S) 4 (by rw[h];simp only[av]) (cQ ..);have a4:=Rn (B:=B) (P:=P++bu 1 x.role++(bu 2 (x.name.length:Int)++x.name)++bu 4 x.ver) (X:=x.dig) (S:=S) 32 (by rw[h];simp only[av]) hx.d;rw[iR 1 x.role hx.r0 (by rw[pp1];exact hx.r1) (by have:=hx.r1;omega)]at a1;rw[iR 4 x.ver hx.v0 (by rw[pp4];exact hx.v1) (by have:=hx.v1;omega)]at a3;unfold l9;rw[a1];simp only;rw[a2];simp only;rw[a3];simp only;rw[a4];unfold nJ;simp only[av]
theorem OR{B P S:List UInt8}{x:Rul}(hx:xdh x)(h:B=P++(qf x++S)):lZ B ⟨P.length,0⟩=(x,⟨(P++qf x).length,0⟩):=by unfold qf at h;have a1:=iK (B:=B) (P:=P) (X:=bu 1 x.kind) (S:=(bu 2 (x.text.length:Int)++x.text)++(bu 4 x.lo++(bu 4 x.hi++S))) 1 (by rw[h];simp only[av]) (cQ ..);have a2:=Ny (B:=B) (P:=P++bu 1 x.kind) (X:=x.text) (S:=bu 4 x.lo++(bu 4 x.hi++S)) 32 (by rw[h];simp only[av]) hx.n (by have:=hx.n;omega);have a3:=iK (B:=B) (P:=P++bu 1 x.kind++(bu 2 (x.text.length:Int)++x.text)) (X:=bu 4 x.lo) (S:=bu 4 x.hi++S) 4 (by rw[h];simp only[av]) (cQ ..);have a4:=iK (B:=B) (P:=P++bu 1 x.kind++(bu 2 (x.text.length:Int)++x.text)++bu 4 x.lo) (X:=bu 4 x.hi) (S:=S) 4 (by rw[h];simp only[av]) (cQ ..);rw[iR 1 x.kind hx.r0 (by rw[pp1];exact hx.r1) (by have:=hx.r1;omega)]at a1;rw[iR 4 x.lo hx.v0 (by rw[pp4];exact hx.v1) (by have:=hx.v1;omega)]at a3;rw[iR 4 x.hi hx.w0 (by rw[pp4];exact hx.w1) (by have:=hx.w1;omega)]at a4;unfold lZ;rw[a1];simp only;rw[a2];simp only;rw[a3];simp only;rw[a4];unfold qf;simp only[av]
theorem uz{B:List UInt8}:∀(l:List Ent)(es:List Ent)(P S:List UInt8),(∀x∈l,xdj x)->B=P++((l.map nJ).flatten++S)->eS B l.length es ⟨P.length,0⟩=(es++l,⟨(P++(l.map nJ).flatten).length,0⟩)
 |[],es,P,S,_,_=>by simp[eS]
 |x::r,es,P,S,hx,h=>by have a:=Qo (B:=B) (P:=P) (S:=(r.map nJ).flatten++S) (hx x ay) (by rw[h,aC,cT];simp only[av]);rw[ai];unfold eS;rw[if_pos rfl,a];simp only;rw[uz r (es++ [x]) (P++nJ x) S (fun y hy=>hx y (ao _ hy)) (by rw[h,aC,cT];simp only[av]),aC,cT];simp only[av,aS,aF]
theorem tI{B:List UInt8}:∀(l:List Rul)(es:List Rul)(P S:List UInt8),(∀x∈l,xdh x)->B=P++((l.map qf).flatten++S)->eO B l.length es ⟨P.length,0⟩=(es++l,⟨(P++(l.map qf).flatten).length,0⟩)
 |[],es,P,S,_,_=>by simp[eO]
 |x::r,es,P,S,hx,h=>by have a:=OR (B:=B) (P:=P) (S:=(r.map qf).flatten++S) (hx x ay) (by rw[h,aC,cT];simp only[av]);rw[ai];unfold eO;rw[if_pos rfl,a];simp only;rw[tI r (es++ [x]) (P++qf x) S (fun y hy=>hx y (ao _ hy)) (by rw[h,aC,cT];simp only[av]),aC,cT];simp only[av,aS,aF]
def hV(B:List UInt8):List UInt8×Rs:=bR B 12 (uR B 1 ⟨0,0⟩).2
def hE(B:List UInt8):Int×Rs:=uR B 4 (hV B).2
def hF(B:List UInt8):Int×Rs:=uR B 4 (hE B).2
def hM(B:List UInt8):Int×Rs:=uR B 6 (hF B).2
def hT(B:List UInt8):Int×Rs:=uR B 6 (hM B).2
def hN(B:List UInt8):Int×Rs:=uR B 1 (hT B).2
def hL(B:List UInt8):List Ent×Rs:=eS B (hN B).1.toNat [] (hN B).2
def hK(B:List UInt8):Int×Rs:=uR B 1 (hL B).2
def hR(B:List UInt8):List Rul×Rs:=eO B (hK B).1.toNat [] (hK B).2
def rq(B:List UInt8):Man:=⟨(hV B).1,(hE B).1,(hF B).1,(hM B).1,(hT B).1,(hL B).1,(hR B).1⟩
def okP(B:List UInt8):Prop:=(uR B 1 ⟨0,0⟩).1=21/\eR B (hR B).2=0/\jb (rq B)=0
instance (B:List UInt8):Decidable (okP B):=by unfold okP;infer_instance
def Be(B:List UInt8):Option Man:=if okP B then some (rq B)else none
theorem xcO{k:Int}{t:List UInt8}{lo hi:Int}(h:chk k t lo hi=0):1<=k/\k<=4/\t.length<=32/\0<=lo/\lo<=1000000000/\0<=hi/\hi<=1000000000:=by
 unfold chk at h
 repeat' split at h
 all_goals first|(exfalso;omega)|skip
 ·refine⟨by omega,by omega,by omega,by omega,by omega,by omega,by omega⟩
 ·rename_i ht
  refine⟨by omega,by omega,by rw[ht];simp,by omega,by omega,by omega,by omega⟩
 ·refine⟨by omega,by omega,by omega,by omega,by omega,by omega,by omega⟩
theorem tF:∀{l:List Rul},jZ l=0->∀r∈l,vv r=0
 |[],_,r,hr=>by cases hr
 |x::t,h,r,hr=>by
  unfold jZ at h
  by_cases hx:vv x=0
  ·rw[if_pos hx]at h
   rcases an.1 hr with rfl|hr
   ·exact hx
   ·exact tF h r hr
  ·rw[if_neg hx]at h;exact absurd h hx
theorem ER{m:Man}(h:jb m=0):∀x∈m.ents,xdj x:=by intro x hx;obtain⟨a1,a2,⟨a3,a4,a5⟩,a6,a7⟩:=Py h x hx;exact⟨by omega,by omega,(ir a7).2,a3,by omega,a6⟩
theorem EP{m:Man}(h:jb m=0):∀x∈m.ruls,xdh x:=by intro x hx;obtain⟨a1,a2,a3,a4,a5,a6,a7⟩:=xcO (tF (rt h).2.1 x hx);exact⟨by omega,by omega,a3,a4,by omega,a6,by omega⟩
theorem QF{m:Man}(h:jb m=0):Be (v6 m)=some m:=by
 obtain⟨-, -,hn,hr,hv,u0,u1,u2,u3,u4,u5⟩:=rt h;have hE':=ER h;have hR':=EP h;have hvl:=(ir hv).2
 have key:v6 m=bu 1 21++((bu 2 (m.vendor.length:Int)++m.vendor)++(bu 4 m.ver++(bu 4 m.flr++(bu 6 m.frm++(bu 6 m.til++(bu 1 (m.ents.length:Int)++((m.ents.map nJ).flatten++(bu 1 (m.ruls.length:Int)++((m.ruls.map qf).flatten++ []))))))))):=by unfold v6 hdM;rw[if_pos h,ur _ _ (fun x hx=>by have:=(hE' x hx).n;omega),uq _ _ (fun x hx=>by have:=(hR' x hx).n;omega),rI _ _ (by omega)];simp only[av,aF,aZ]
 generalize v6 m=B at*;have a0:=iK (B:=B) (P:=[]) 1 key (cQ 1 21);have a1:=Ny (B:=B) (P:=bu 1 21) 12 key hvl (by omega);have a2:=iK (B:=B) (P:=bu 1 21++(bu 2 (m.vendor.length:Int)++m.vendor)) 4 (by rw[key];simp only[av];rfl) (cQ 4 m.ver);have a3:=iK (B:=B) (P:=bu 1 21++(bu 2 (m.vendor.length:Int)++m.vendor)++bu 4 m.ver) 4 (by rw[key];simp only[av];rfl) (cQ 4 m.flr);have a4:=iK (B:=B) (P:=bu 1 21++(bu 2 (m.vendor.length:Int)++m.vendor)++bu 4 m.ver++bu 4 m.flr) 6 (by rw[key];simp only[av];rfl) (cQ 6 m.frm);have a5:=iK (B:=B) (P:=bu 1 21++(bu 2 (m.vendor.length:Int)++m.vendor)++bu 4 m.ver++bu 4 m.flr++bu 6 m.frm) 6 (by rw[key];simp only[av];rfl) (cQ 6 m.til);have a6:=iK (B:=B) (P:=bu 1 21++(bu 2 (m.vendor.length:Int)++m.vendor)++bu 4 m.ver++bu 4 m.flr++bu 6 m.frm++bu 6 m.til) 1 (by rw[key];simp only[av];rfl) (cQ 1 (m.ents.length:Int));have a7:=uz (B:=B) m.ents [] (bu 1 21++(bu 2 (m.vendor.length:Int)++m.vendor)++bu 4 m.ver++bu 4 m.flr++bu 6 m.frm++bu 6 m.til++bu 1 (m.ents.length:Int)) _ hE' (by rw[key];simp only[av];rfl);have a8:=iK (B:=B) (P:=bu 1 21++(bu 2 (m.vendor.length:Int)++m.vendor)++bu 4 m.ver++bu 4 m.flr++bu 6 m.frm++bu 6 m.til++bu 1 (m.ents.length:Int)++(m.ents.map nJ).flatten) 1 (by rw[key];simp only[av];rfl) (cQ 1 (m.ruls.length:Int));have a9:=tI (B:=B) m.ruls [] (bu 1 21++(bu 2 (m.vendor.length:Int)++m.vendor)++bu 4 m.ver++bu 4 m.flr++bu 6 m.frm++bu 6 m.til++bu 1 (m.ents.length:Int)++(m.ents.map nJ).flatten++bu 1 (m.ruls.length:Int)) [] hR' (by rw[key];simp only[av])
 rw[iR 1 21 (by omega) (by rw[pp1];omega) (by omega)]at a0;rw[iR 4 m.ver (by omega) (by rw[pp4];omega) (by omega)]at a2;rw[iR 4 m.flr (by omega) (by rw[pp4];omega) (by omega)]at a3;rw[iR 6 m.frm (by omega) (by rw[pp6];omega) (by omega)]at a4;rw[iR 6 m.til (by omega) (by rw[pp6];omega) (by omega)]at a5;rw[iR 1 (m.ents.length:Int) (by omega) (by rw[pp1];omega) (by omega)]at a6;rw[iR 1 (m.ruls.length:Int) (by omega) (by rw[pp1];omega) (by omega)]at a8;rw[aw,aF]at a0;have q1:=(congrArg (fun z:Int×Rs=>bR B 12 z.2) a0).trans a1;change hV B=_ at q1;have q2:=(congrArg (fun z:List UInt8×Rs=>uR B 4 z.2) q1).trans a2;change hE B=_ at q2;have q3:=(congrArg (fun z:Int×Rs=>uR B 4 z.2) q2).trans a3;change hF B=_ at q3;have q4:=(congrArg (fun z:Int×Rs=>uR B 6 z.2) q3).trans a4;change hM B=_ at q4;have q5:=(congrArg (fun z:Int×Rs=>uR B 6 z.2) q4).trans a5;change hT B=_ at q5;have q6:=(congrArg (fun z:Int×Rs=>uR B 1 z.2) q5).trans a6;change hN B=_ at q6;have q7:=(congrArg (fun z:Int×Rs=>eS B z.1.toNat [] z.2) q6).trans a7;change hL B=_ at q7;have q8:=(congrArg (fun z:List Ent×Rs=>uR B 1 z.2) q7).trans a8;change hK B=_ at q8;have q9:=(congrArg (fun z:Int×Rs=>eO B z.1.toNat [] z.2) q8).trans a9;change hR B=_ at q9
 have hm:rq B=m:=by unfold rq;rw[q1,q2,q3,q4,q5,q7,q9];rfl
 have hend:eR B (hR B).2=0:=by
  rw[q9];unfold eR;rw[if_pos rfl,if_neg];simp only
  conv=>rhs;rw[key]
  simp only[av,aZ];omega
 unfold Be;rw[if_pos ⟨by rw[a0],hend,by rw[hm];exact h⟩,hm]
theorem xX(B:List UInt8)(m:Nat)(s:Rs):(bR B m s).1.length<=m:=by
 unfold bR;split
 ·split
  ·split
   ·split
    ·rename_i h _;show(kG _ _).length<=_;rw[ax];omega
    ·exact bJ _
   ·exact bJ _
  ·exact bJ _
 ·exact bJ _
theorem ZF(B:List UInt8)(m:Nat)(s:Rs):(wR B m s).1.length<=m:=by
 unfold wR;split
 ·split
  ·show(kG _ _).length<=_;rw[ax];omega
  ·exact bJ _
 ·exact bJ _
theorem sf(B:List UInt8)(s:Rs):0<=(uR B 1 s).1/\(uR B 1 s).1<256:=by
 unfold uR;split
 ·split
  ·have h:=Ns ((B.drop s.a).take 1)
   have h2:((B.drop s.a).take 1).length<=1:=by rw[ax];omega
   have h3:256^((B.drop s.a).take 1).length<=256^1:=Nat.pow_le_pow_right (by decide) h2;have h4:(256:Nat)^1=256:=by decide
   constructor
   ·exact Int.natCast_nonneg _
   ·show((nB _:Nat):Int)<256;omega
  ·exact⟨Int.le_refl _,by show(0:Int)<256;decide⟩
 ·exact⟨Int.le_refl _,by show(0:Int)<256;decide⟩
theorem uy{B:List UInt8}:∀{n:Nat}{es:List Ent}{s:Rs},(∀x∈es,x.name.length<=12/\x.dig.length<=32)->∀x∈(eS B n es s).1,x.name.length<=12/\x.dig.length<=32
 |0,_,_,h=>h
 |n+1,es,s,h=>by
  unfold eS;split
  ·refine uy fun x hx=> ?_
   rw[al,aY]at hx;rcases hx with hx|rfl
   ·exact h x hx
   ·exact⟨xX _ _ _,ZF _ _ _⟩
  ·exact h
theorem tH{B:List UInt8}:∀{n:Nat}{es:List Rul}{s:Rs},(∀x∈es,x.text.length<=32)->∀x∈(eO B n es s).1,x.text.length<=32
 |0,_,_,h=>h
 |n+1,es,s,h=>by
  unfold eO;split
  ·refine tH fun x hx=> ?_
   rw[al,aY]at hx;rcases hx with hx|rfl
   ·exact h x hx
   ·exact xX _ _ _
  ·exact h
theorem AU(B:List UInt8):kF (rq B):=by
 have h1:=qd (B:=B) (n:=(hN B).1.toNat) (es:=[]) (s:=(hN B).2);have h2:=pI (B:=B) (n:=(hK B).1.toNat) (es:=[]) (s:=(hK B).2);have h3:=sf B (hT B).2;have h4:=sf B (hL B).2;change 0<=(hN B).1/\(hN B).1<256 at h3;change 0<=(hK B).1/\(hK B).1<256 at h4;rw[aw]at h1 h2
 exact⟨by have:=xX B 12 (uR B 1 ⟨0,0⟩).2;show(hV B).1.length<=_;unfold hV;omega,by show(hL B).1.length<=_;unfold hL;omega,by show(hR B).1.length<=_;unfold hR;omega,
  fun x hx=>by have:=uy (B:=B) (n:=(hN B).1.toNat) (es:=[]) (s:=(hN B).2) (fun x hx=>by cases hx) x hx;omega,
  fun x hx=>by have:=tH (B:=B) (n:=(hK B).1.toNat) (es:=[]) (s:=(hK B).2) (fun x hx=>by cases hx) x hx;omega⟩
def mnz:Man:=⟨[],0,0,0,0,[],[]⟩
def xc6(B:List UInt8):Man:=match Be B with|some m=>m|none=>mnz
def xc7(B:List UInt8):Int:=match Be B with|some _=>0|none=>30
theorem xkl(B:List UInt8)(hB:B.length<=1000000000)(v:List UInt8)(ve fl fr ti:Int)(es:List Ent)(s:Rs)(hs:dT B s)(t:Tok)(tk:List Nat)(t1:Nat)
 (ht:t= .clip/\tk=[]/\es=[]\/t= .id 160/\tk=[160]) (h1:t1=34060\/t1=55060\/t1=39060):
 run T (.ops oQ) ⟨[(2,.ptr 102 0),(4,.ptr 12100 0),(5,.ptr 105 0)],[(102,zR),(105,mR v ve fl fr ti es t [] .clip),(12100,rdO B t1 s)],tk++ [t1]⟩=
  some (.n,⟨[(2,.ptr 102 0),(4,.ptr 12100 0),(5,.ptr 105 0),(8,.int .i64 (uR B 1 s).1)],[(102,zR),(105,mR v ve fl fr ti es t [] .clip),(12100,rdO B 64060 (uR B 1 s).2)],tk++ [64060]⟩):=by
 have g:=f42 B hB 1 (by omega) (by omega) s hs;rw[show((1:Nat):Int)=1 from rfl]at g;simp only[zR,mR,rdO]at g ⊢;rcases ht with⟨rfl,rfl,rfl⟩|⟨rfl,rfl⟩<;>rcases h1 with rfl|rfl|rfl<;>simp only[go_sem,Q0,Q1,Q2,Q3,Q4,Q5,Q6,Q7,Q8,Q9,Qa,Qb,Qc,Qd,Qe,Qf,Qg,Qh,Qi,Qj,Qk,reduceCtorEq,reduceIte,g,mK]
theorem xkk(B:List UInt8)(hB:B.length<=1000000000)(v:List UInt8)(ve fl fr ti:Int)(es:List Ent)(s:Rs)(hs:dT B s)(t:Tok)(tk:List Nat)(rs:List Rul)(u:Tok)(uk:List Nat)(u1:Nat)
 (hm:kF ⟨v,ve,fl,fr,ti,es,rs⟩)
 (ht:t= .clip/\tk=[]/\es=[]\/t= .id 160/\tk=[160]) (hu:u= .clip/\uk=[]/\rs=[]\/u= .id 190/\uk=[190]) (h1:u1=64060\/u1=85060\/u1=69060):
 run T (.ops oP) ⟨[(2,.ptr 102 0),(4,.ptr 12100 0),(5,.ptr 105 0)],[(102,zR),(105,mR v ve fl fr ti es t rs u),(12100,rdO B u1 s)],tk++(uk++ [u1])⟩=
  some (.n,⟨[(2,.ptr 102 0),(5,.ptr 105 0),(99,.bool (!decide (eR B s=0/\jb ⟨v,ve,fl,fr,ti,es,rs⟩=0)))],[(102,zR),(105,mR v ve fl fr ti es t rs u),(12100,rdO B 94060 s)],tk++(uk++ [94060])⟩):=by
 have g:=f44 B hB s hs;have gm:=f71 ⟨v,ve,fl,fr,ti,es,rs⟩ hm;generalize jb ⟨v,ve,fl,fr,ti,es,rs⟩=q at*;generalize eR B s=p at*
 by_cases hp:p=0
 ·subst hp
  by_cases hq:q=0
  ·subst hq
   simp only[zR,mR,rdO,Man.sv]at g gm ⊢;rcases ht with⟨rfl,rfl,rfl⟩|⟨rfl,rfl⟩<;>rcases hu with⟨rfl,rfl,rfl⟩|⟨rfl,rfl⟩<;>rcases h1 with rfl|rfl|rfl<;>simp only[go_sem,Q0,Q1,Q2,Q3,Q4,Q5,Q6,Q7,Q8,Q9,Qa,Qb,Qc,Qd,Qe,Qf,Qg,Qh,Qi,Qj,Qk,reduceCtorEq,reduceIte,g,Bq,gm,DI]
  ·simp only[zR,mR,rdO,Man.sv]at g gm ⊢
   rcases ht with⟨rfl,rfl,rfl⟩|⟨rfl,rfl⟩<;>rcases hu with⟨rfl,rfl,rfl⟩|⟨rfl,rfl⟩<;>rcases h1 with rfl|rfl|rfl<;>simp only[go_sem,Q0,Q1,Q2,Q3,Q4,Q5,Q6,Q7,Q8,Q9,Qa,Qb,Qc,Qd,Qe,Qf,Qg,Qh,Qi,Qj,Qk,reduceCtorEq,reduceIte,g,Bq,gm,DI,hq]
 ·simp only[zR,mR,rdO,Man.sv]at g gm ⊢
  rcases ht with⟨rfl,rfl,rfl⟩|⟨rfl,rfl⟩<;>rcases hu with⟨rfl,rfl,rfl⟩|⟨rfl,rfl⟩<;>rcases h1 with rfl|rfl|rfl<;>simp only[go_sem,Q0,Q1,Q2,Q3,Q4,Q5,Q6,Q7,Q8,Q9,Qa,Qb,Qc,Qd,Qe,Qf,Qg,Qh,Qi,Qj,Qk,reduceCtorEq,reduceIte,g,Bq,hp]
attribute [-go_sem] oQ oP
theorem f61(B:List UInt8)(hB:B.length<=1000000000):call T 61 [.byt B .no] [] 0=some ⟨.tup [.agg (xc6 B).sv,.int .i64 (xc7 B)],[],[]⟩:=by
 have g0:=f41 B hB;have k0:dT B ⟨0,0⟩:=⟨bJ _⟩;have g1:=f42 B hB 1 (by omega) (by omega) ⟨0,0⟩ k0;have k1:=fo (n:=1) k0;have g2:=f99 B hB 12 (by omega) _ k1;have k2:dT B (hV B).2:=wk (n:=12) k1;have g3:=f42 B hB 4 (by omega) (by omega) _ k2;have k3:dT B (hE B).2:=fo (n:=4) k2;have g4:=f42 B hB 4 (by omega) (by omega) _ k3;have k4:dT B (hF B).2:=fo (n:=4) k3;have g5:=f42 B hB 6 (by omega) (by omega) _ k4;have k5:dT B (hM B).2:=fo (n:=6) k4;have g6:=f42 B hB 6 (by omega) (by omega) _ k5;have k6:dT B (hT B).2:=fo (n:=6) k5;have g7:=f42 B hB 1 (by omega) (by omega) _ k6;have k7:dT B (hN B).2:=fo (n:=1) k6;have n1:=sf B (hT B).2;have n2:=sf B (hL B).2;change 0<=(hN B).1/\(hN B).1<256 at n1;change 0<=(hK B).1/\(hK B).1<256 at n2;have nn:(hN B).1=(((hN B).1.toNat:Nat):Int):=by omega
 have nk:(hK B).1=(((hK B).1.toNat:Nat):Int):=by omega
 obtain⟨t',tk',t1,q1,q2,q3⟩:=xkw B hB (hV B).1 (hE B).1 (hF B).1 (hM B).1 (hT B).1 (hN B).1.toNat [] (hN B).2 .clip [] 34060 (by rw[aw];omega) k7 (.inl ⟨rfl,rfl,rfl⟩) (.inl rfl);have k8:dT B (hL B).2:=ux k7;have g8:=f42 B hB 1 (by omega) (by omega) _ k8;have k9:dT B (hK B).2:=fo (n:=1) k8;have gm:=f71 (rq B) (AU B);change (t'= .clip/\tk'=[]/\(hL B).1=[]\/t'= .id 160/\tk'=[160])at q1;obtain⟨u',uk',u1,r1,r2,r3⟩:=xkv B hB (hV B).1 (hE B).1 (hF B).1 (hM B).1 (hT B).1 (hL B).1 t' tk' q1 (hK B).1.toNat [] (hK B).2 .clip [] 64060 (by rw[aw];omega) k9 (.inl ⟨rfl,rfl,rfl⟩) (.inl rfl);have k10:dT B (hR B).2:=tG k9;have g9:=f44 B hB _ k10;change _/\_/\(hR B).1=[]\/_ at r1;rw[<-nn]at q3;rw[<-nk]at r3;change run T _ _=some (Ex.x 0,⟨_,[_,(105,mR _ _ _ _ _ (hL B).1 t' [] .clip),(12100,rdO B t1 (hL B).2)],_⟩)at q3;change run T _ _=some (Ex.x 2,⟨_,[_,(105,mR _ _ _ _ _ (hL B).1 t' (hR B).1 u'),(12100,rdO B u1 (hR B).2)],_⟩)at r3;change call T 42 _ _ _=some ⟨.int .i64 (hE B).1,[(0,rdO B 60 (hE B).2)],[60]⟩at g3;change call T 42 _ _ _=some ⟨.int .i64 (hF B).1,[(0,rdO B 60 (hF B).2)],[60]⟩at g4;change call T 42 _ _ _=some ⟨.int .i64 (hM B).1,[(0,rdO B 60 (hM B).2)],[60]⟩at g5;change call T 42 _ _ _=some ⟨.int .i64 (hT B).1,[(0,rdO B 60 (hT B).2)],[60]⟩at g6;change call T 42 _ _ _=some ⟨.int .i64 (hN B).1,[(0,rdO B 60 (hN B).2)],[60]⟩at g7;change call T 42 _ _ _=some ⟨.int .i64 (hK B).1,[(0,rdO B 60 (hK B).2)],[60]⟩at g8;change call T 99 _ _ _=some ⟨.byt (hV B).1 .no,[(0,rdO B 60 (hV B).2)],[60]⟩at g2
 have o1:=xkl B hB (hV B).1 (hE B).1 (hF B).1 (hM B).1 (hT B).1 (hL B).1 (hL B).2 k8 t' tk' t1 q1 q2;have o2:=xkk B hB (hV B).1 (hE B).1 (hF B).1 (hM B).1 (hT B).1 (hL B).1 (hR B).2 k10 t' tk' (hR B).1 u' uk' u1 (AU B) q1 r1 r2;change run T _ _=some (Ex.n,⟨[_,_,_,(8,SV.int .i64 (hK B).1)],[_,_,(12100,rdO B 64060 (hK B).2)],_⟩)at o1;change run T _ _=some (Ex.n,⟨[_,_,(99,SV.bool (!decide (eR B (hR B).2=0/\jb (rq B)=0)))],_,_⟩)at o2
 have hokd:Be B=if(uR B 1 ⟨0,0⟩).1=21/\eR B (hR B).2=0/\jb (rq B)=0 then some (rq B)else none:=by unfold Be okP;rfl
 have hsv:(rq B).sv=[.str (hV B).1,.int .i64 (hE B).1,.int .i64 (hF B).1,.int .i64 (hM B).1,.int .i64 (hT B).1,.lst 4 (dh (hL B).1) .no,.lst 4 (gP (hR B).1) .no]:=rfl;have hze:dh []=[]:=rfl;have hzr:gP []=[]:=rfl;rw[show((1:Nat):Int)=1 from rfl]at g1 g7;rw[show((12:Nat):Int)=12 from rfl]at g2;rw[show((4:Nat):Int)=4 from rfl]at g3 g4;rw[show((6:Nat):Int)=6 from rfl]at g5 g6;unfold xc6 xc7;rw[hokd];rw[aj xjx];simp only[aF]at q3 r3
 by_cases ht:(uR B 1 ⟨0,0⟩).1=21
 ·by_cases hb:eR B (hR B).2=0/\jb (rq B)=0
  ·rw[if_pos ⟨ht,hb⟩]
   rw[decide_eq_true hb]at o2;simp only[hsv];simp only[zR,mR,rdO,hze,hzr,aB]at g0 g1 g2 g3 g4 g5 g6 g7 q3 r3 o1 o2;rw[ht]at g1;simp only[go_sem,Q0,Q1,Q2,Q3,Q4,Q5,Q6,Q7,Q8,Q9,Qa,Qb,Qc,Qd,Qe,Qf,Qg,Qh,Qi,Qj,Qk,reduceCtorEq,reduceIte,g0,wy,g1,mK,g2,DH,g3,g4,g5,g6,g7,q3,o1,r3,o2]
  ·rw[if_neg (fun h=>hb h.2)]
   rw[decide_eq_false hb]at o2;simp only[zR,mR,rdO,hze,hzr,aB]at g0 g1 g2 g3 g4 g5 g6 g7 q3 r3 o1 o2;rw[ht]at g1;simp only[go_sem,Q0,Q1,Q2,Q3,Q4,Q5,Q6,Q7,Q8,Q9,Qa,Qb,Qc,Qd,Qe,Qf,Qg,Qh,Qi,Qj,Qk,reduceCtorEq,reduceIte,g0,wy,g1,mK,g2,DH,g3,g4,g5,g6,g7,q3,o1,r3,o2];rcases q1 with⟨rfl,rfl,hz⟩|⟨rfl,rfl⟩<;>rcases r1 with⟨rfl,rfl,hz2⟩|⟨rfl,rfl⟩<;>simp only[go_sem,Q0,Q1,Q2,Q3,Q4,Q5,Q6,Q7,Q8,Q9,Qa,Qb,Qc,Qd,Qe,Qf,Qg,Qh,Qi,Qj,Qk,reduceCtorEq,reduceIte,hze,hzr,mnz,Man.sv]
 ·rw[if_neg (fun h=>ht h.1)]
  simp only[zR,mR,rdO,hze,hzr,aB]at g0 g1;simp only[go_sem,Q0,Q1,Q2,Q3,Q4,Q5,Q6,Q7,Q8,Q9,Qa,Qb,Qc,Qd,Qe,Qf,Qg,Qh,Qi,Qj,Qk,reduceCtorEq,reduceIte,g0,wy,g1,mK,ht,mnz,Man.sv,hze,hzr]
attribute [go_sem] oQ oP
def Xx(B:List UInt8):Nat->List Ent->Rs->List Ent×Rs
 |0,es,s=>(es,s)
 |n+1,es,s=>Xx B n (es++ [(l9 B s).1]) (l9 B s).2
def RB(B:List UInt8):Nat->List Rul->Rs->List Rul×Rs
 |0,es,s=>(es,s)
 |n+1,es,s=>RB B n (es++ [(lZ B s).1]) (lZ B s).2
def qN(B:List UInt8):Nat:=min (hN B).1.toNat 17
def qL(B:List UInt8):List Ent×Rs:=Xx B (qN B) [] (hN B).2
def qK(B:List UInt8):Int×Rs:=uR B 1 (qL B).2
def qM(B:List UInt8):Nat:=min (qK B).1.toNat 9
def qR(B:List UInt8):List Rul×Rs:=RB B (qM B) [] (qK B).2
def xkm(B:List UInt8):Man:=⟨(hV B).1,(hE B).1,(hF B).1,(hM B).1,(hT B).1,(qL B).1,(qR B).1⟩
def okQ(B:List UInt8):Prop:=(uR B 1 ⟨0,0⟩).1=21/\eR B (qR B).2=0/\jb (xkm B)=0
instance (B:List UInt8):Decidable (okQ B):=by unfold okQ;infer_instance
end Go.Proofs.YtkggincjigbelaaGreatDoor
