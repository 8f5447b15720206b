/- What the functions come to. No condition. -/
import Derived.Test.YtkggincjigbelaaGreatDoorTuD
import Derived.Test.YtkggincjigbelaaGreatDoorTwD
open Int renaming natCast_zero -> aB
open Go.IntKind renaming i64 -> af, u64 -> aI, wrap_u64 -> bQ
open List renaming append_assoc -> av, drop_eq_getElem_cons -> bq, drop_length -> bP, drop_zero -> bj, foldl_cons -> cr, foldl_nil -> Du, getD_eq_getElem?_getD -> aa, getElem?_eq_getElem -> ab, length_append -> ac, length_cons -> ai, length_drop -> aQ, length_nil -> aw, length_replicate -> cj, length_set -> cZ, length_take -> ax, map_append -> cE, map_cons -> aC, map_nil -> bH, mem_cons_of_mem -> ao, mem_cons_self -> ay, nil_append -> aF, replicate -> aD, take -> kG, take_append_of_le_length -> kt, take_length -> bY
open Nat renaming add_sub_cancel -> je, le_refl -> aH, zero_add -> cg, zero_le -> bJ
open UInt8 renaming ofInt -> co
set_option maxRecDepth 100000
set_option maxHeartbeats 16000000
set_option linter.unusedSimpArgs false
set_option linter.unusedVariables false
namespace Go.Proofs.YtkggincjigbelaaGreatDoor
open Go.Sy
open UInt8 renaming reduceLT -> Q0, reduceLE -> Q1
open Int renaming reduceToNat -> Q2, reduceLE -> Q3, reduceLT -> Q4, reduceEq -> Q5, reduceNe -> Q6, reduceNeg -> Q7, reduceAdd -> Q8, reduceSub -> Q9, reduceMul -> Qa
open Nat renaming reducePow -> Qb, reduceDiv -> Qc, reduceMod -> Qd, reduceAdd -> Qe, reduceSub -> Qf, reduceMul -> Qg, reduceLT -> Qh, reduceLeDiff -> Qi, reduceEqDiff -> Qj, reduceBEq -> Qk
section
open SortT
theorem kv(n:Int):(co n).toNat<cs0.length:=by have:cs0.length=256:=rfl;have:=(co n).toNat_lt;omega
theorem xf2(n:Nat)(hn:n<=12):∃k:Int,call T 161 [.int .u64 n] [] 0=some ⟨.int .i64 k,[],[]⟩:=by
 have h1:¬(4294967296:Int)<=n:=by omega
 have h2:¬(65536:Int)<=n:=by omega
 have h3:¬(256:Int)<=n:=by omega
 have hl:=kv (n:Int);rw[aj xgD];simp only[go_sem,Q0,Q1,Q2,Q3,Q4,Q5,Q6,Q7,Q8,Q9,Qa,Qb,Qc,Qd,Qe,Qf,Qg,Qh,Qi,Qj,Qk,reduceCtorEq,reduceIte,h1,h2,h3,hl];exact⟨_,rfl⟩
theorem f97(n:Nat)(hn:n<=12):∃k:Int,call T 97 [.int .u64 n] [] 0=some ⟨.int .i64 k,[],[]⟩:=by obtain⟨k,g⟩:=xf2 n hn;refine⟨k, ?_⟩;rw[aj xma];simp only[go_sem,Q0,Q1,Q2,Q3,Q4,Q5,Q6,Q7,Q8,Q9,Qa,Qb,Qc,Qd,Qe,Qf,Qg,Qh,Qi,Qj,Qk,reduceCtorEq,reduceIte,g,xhv]
theorem oB(L:List Ent)(i:Nat)(x:Ent):dh (L.set i x)=(dh L).set i x.sv:=by unfold dh;rw[List.map_set]
def CZ(L:List Ent)(i j:Nat):CSt:=⟨[(0,.psl 0 4 0 L.length none),(1,.int .i64 0),(2,.int .i64 L.length),(3,.fn 67 [] []),(8,.int .i64 i),(9,.int .i64 j)],[(0,.arr 4 (dh L))],[]⟩
theorem xkF(i:Nat):∀(j:Nat)(L:List Ent),j<L.length->L.length<=1000000->
 run T (.loop xl) (CZ L i j)=some (.x 2,⟨[(0,.psl 0 4 0 L.length none),(1,.int .i64 0),(2,.int .i64 L.length),(3,.fn 67 [] []),(8,.int .i64 i)],[(0,.arr 4 (dh (bub eL en0 j L)))],[]⟩):=by
 intro j;induction j with
 |zero=>intro L hj hn;rw[CZ,ah];simp only[go_sem,Q0,Q1,Q2,Q3,Q4,Q5,Q6,Q7,Q8,Q9,Qa,Qb,Qc,Qd,Qe,Qf,Qg,Qh,Qi,Qj,Qk,reduceCtorEq,reduceIte,bub,aB,Int.lt_irrefl]
 |succ j ih=>
  intro L hj hn;have hv:=dP L;have h0:(0:Int)<((j+1:Nat):Int):=by omega
  have e1:af.wrap (((j+1:Nat):Int)-1)=(j:Int):=wZ (by omega)
  have hj0:j<L.length:=by omega
  have g1:=fg L (j+1) hj;have g2:=fg L j hj0;have g:=f67 (L.getD (j+1) en0) (L.getD j en0);have hlt:=rj (L.getD (j+1) en0) (L.getD j en0);have ih':=ih (swp en0 L (j+1)) (by rw[mT];exact hj0) (by rw[mT];exact hn);unfold bub;unfold CZ at ih' ⊢;rw[mT]at ih';unfold swp at ih' ⊢;rw[je]at ih' ⊢;rw[oB,oB]at ih';generalize L.getD (j+1) en0=x at*;generalize L.getD j en0=y at*;obtain⟨x1,x2,x3,x4⟩:=x;obtain⟨y1,y2,y3,y4⟩:=y
  by_cases hc:eL ⟨x1,x2,x3,x4⟩ ⟨y1,y2,y3,y4⟩=true
  ·rw[if_pos hc]
   have hcl:=hlt.2 hc;simp only[Ent.sv]at g g1 g2 ih';rw[ah];simp only[go_sem,Q0,Q1,Q2,Q3,Q4,Q5,Q6,Q7,Q8,Q9,Qa,Qb,Qc,Qd,Qe,Qf,Qg,Qh,Qi,Qj,Qk,reduceCtorEq,reduceIte,h0,e1,hv,hj,hj0,g1,g2,g,Rf,hcl,cZ,ih']
  ·rw[if_neg hc]
   have hcl:¬rk ⟨x1,x2,x3,x4⟩ ⟨y1,y2,y3,y4⟩<0:=fun h=>hc (hlt.1 h)
   simp only[Ent.sv]at g g1 g2;rw[ah];simp only[go_sem,Q0,Q1,Q2,Q3,Q4,Q5,Q6,Q7,Q8,Q9,Qa,Qb,Qc,Qd,Qe,Qf,Qg,Qh,Qi,Qj,Qk,reduceCtorEq,reduceIte,h0,e1,hv,hj,hj0,g1,g2,g,Rf,hcl]
theorem xfB:∀(m i:Nat)(L:List Ent),i+m=L.length->L.length<=1000000->
 run T (.loop xk) ⟨[(0,.psl 0 4 0 L.length none),(1,.int .i64 0),(2,.int .i64 L.length),(3,.fn 67 [] []),(8,.int .i64 i)],[(0,.arr 4 (dh L))],[]⟩=
  some (.x 0,⟨[],[(0,.arr 4 (dh (isr eL en0 m i L)))],[]⟩):=by
 intro m;induction m with
 |zero=>
  intro i L h1 hn;have:i=L.length:=by omega
  subst this;rw[ah];simp only[go_sem,Q0,Q1,Q2,Q3,Q4,Q5,Q6,Q7,Q8,Q9,Qa,Qb,Qc,Qd,Qe,Qf,Qg,Qh,Qi,Qj,Qk,reduceCtorEq,reduceIte,isr,Int.lt_irrefl]
 |succ m ih=>
  intro i L h1 hn;have hi:i<L.length:=by omega
  have hiI:(i:Int)<(L.length:Int):=by omega
  have e1:=cR i (by omega);have hl:=xkF i i L hi hn;unfold CZ at hl;have ih':=ih (i+1) (bub eL en0 i L) (by rw[lD];omega) (by rw[lD];exact hn);rw[lD]at ih';unfold isr;rw[ah];simp only[go_sem,Q0,Q1,Q2,Q3,Q4,Q5,Q6,Q7,Q8,Q9,Qa,Qb,Qc,Qd,Qe,Qf,Qg,Qh,Qi,Qj,Qk,reduceCtorEq,reduceIte,hi,hiI,e1,hl,ih']
theorem xlx(L:List Ent)(h0:0<L.length)(hn:L.length<=1000000):
 call T 168 [.psl 0 4 0 L.length none,.int .i64 0,.int .i64 L.length,.fn 67 [] []] [.arr 4 (dh L)] 0=some ⟨.tup [],[(0,.arr 4 (dh (isr eL en0 (L.length-1) 1 L)))],[]⟩:=by
 have h:=xfB (L.length-1) 1 L (by omega) hn;have k1:af.wrap 1=1:=rfl;rw[show((1:Nat):Int)=1 from rfl]at h;rw[aj XK];simp only[go_sem,Q0,Q1,Q2,Q3,Q4,Q5,Q6,Q7,Q8,Q9,Qa,Qb,Qc,Qd,Qe,Qf,Qg,Qh,Qi,Qj,Qk,reduceCtorEq,reduceIte,k1,h]
theorem xlU(L:List Ent)(h0:0<L.length)(hn:L.length<=12)(k:Int):
 call T 108 [.psl 0 4 0 L.length none,.int .i64 0,.int .i64 L.length,.int .i64 k,.fn 67 [] []] [.arr 4 (dh L)] 0=some ⟨.tup [],[(0,.arr 4 (dh (isr eL en0 (L.length-1) 1 L)))],[]⟩:=by
 have g:=xlx L h0 (by omega);have e1:af.wrap ((L.length:Int)-0)=(L.length:Int):=wZ (by omega)
 have h12:(L.length:Int)<=12:=by omega
 rw[aj XO];simp only[go_sem,Q0,Q1,Q2,Q3,Q4,Q5,Q6,Q7,Q8,Q9,Qa,Qb,Qc,Qd,Qe,Qf,Qg,Qh,Qi,Qj,Qk,reduceCtorEq,reduceIte];rw[ah];simp only[go_sem,Q0,Q1,Q2,Q3,Q4,Q5,Q6,Q7,Q8,Q9,Qa,Qb,Qc,Qd,Qe,Qf,Qg,Qh,Qi,Qj,Qk,reduceCtorEq,reduceIte,e1,h12,hn,g,XY]
theorem f66(L:List Ent)(h0:0<L.length)(hn:L.length<=12):
 call T 66 [.psl 0 4 0 L.length none,.fn 67 [] []] [.arr 4 (dh L)] 0=some ⟨.tup [],[(0,.arr 4 (dh (isr eL en0 (L.length-1) 1 L)))],[]⟩:=by
 obtain⟨k,g1⟩:=f97 L.length hn;have g2:=xlU L h0 hn k;have e1:aI.wrap (L.length:Int)=(L.length:Int):=by rw[bQ];omega
 rw[aj xjv];simp only[go_sem,Q0,Q1,Q2,Q3,Q4,Q5,Q6,Q7,Q8,Q9,Qa,Qb,Qc,Qd,Qe,Qf,Qg,Qh,Qi,Qj,Qk,reduceCtorEq,reduceIte,e1,g1,xjD,g2,Yb]
theorem xf1:call T 168 [.lst 4 [] .no,.int .i64 0,.int .i64 0,.fn 67 [] []] [] 0=some ⟨.tup [],[],[]⟩:=by have k1:af.wrap 1=1:=rfl;rw[aj XK];simp only[go_sem,Q0,Q1,Q2,Q3,Q4,Q5,Q6,Q7,Q8,Q9,Qa,Qb,Qc,Qd,Qe,Qf,Qg,Qh,Qi,Qj,Qk,reduceCtorEq,reduceIte,k1];rw[ah];simp only[go_sem,Q0,Q1,Q2,Q3,Q4,Q5,Q6,Q7,Q8,Q9,Qa,Qb,Qc,Qd,Qe,Qf,Qg,Qh,Qi,Qj,Qk,reduceCtorEq,reduceIte,k1]
theorem xk9:call T 66 [.lst 4 [] .no,.fn 67 [] []] [] 0=some ⟨.tup [],[],[]⟩:=by
 obtain⟨k,g1⟩:=f97 0 (by omega);have g3:=xf1;have k0:af.wrap 0=0:=rfl;have k0':aI.wrap 0=0:=rfl;rw[aB]at g1
 have g2:call T 108 [.lst 4 [] .no,.int .i64 0,.int .i64 0,.int .i64 k,.fn 67 [] []] [] 0=some ⟨.tup [],[],[]⟩:=by rw[aj XO];simp only[go_sem,Q0,Q1,Q2,Q3,Q4,Q5,Q6,Q7,Q8,Q9,Qa,Qb,Qc,Qd,Qe,Qf,Qg,Qh,Qi,Qj,Qk,reduceCtorEq,reduceIte];rw[ah];simp only[go_sem,Q0,Q1,Q2,Q3,Q4,Q5,Q6,Q7,Q8,Q9,Qa,Qb,Qc,Qd,Qe,Qf,Qg,Qh,Qi,Qj,Qk,reduceCtorEq,reduceIte,k0,g3,XY]
 rw[aj xjv];simp only[go_sem,Q0,Q1,Q2,Q3,Q4,Q5,Q6,Q7,Q8,Q9,Qa,Qb,Qc,Qd,Qe,Qf,Qg,Qh,Qi,Qj,Qk,reduceCtorEq,reduceIte,k0,k0',g1,xjD,g2,Yb,aB]
theorem f69(x y:Ent):call T 69 [.agg x.sv,.agg y.sv] [] 0=some ⟨.bool (eqE x y),[],[]⟩:=by have g:=f67 x y;obtain⟨r,n,v,d⟩:=x;obtain⟨r2,n2,v2,d2⟩:=y;simp only[Ent.sv]at*;rw[aj xmr];unfold eqE;simp only[go_sem,Q0,Q1,Q2,Q3,Q4,Q5,Q6,Q7,Q8,Q9,Qa,Qb,Qc,Qd,Qe,Qf,Qg,Qh,Qi,Qj,Qk,reduceCtorEq,reduceIte,g,Rf]
theorem xku(n:Nat)(hn:n<=1000)(k0:Nat):∀(m:Nat)(B:List Ent)(k k2:Nat),B.length=n->k0+k2+m=n->1<=k2->k<k0+k2->
 run T (.loop wX) ⟨[(0,.psl 0 4 0 n none),(1,.fn 69 [] []),(5,.int .i64 k),(6,.psl 0 4 k0 (n-k0) none),(7,.int .i64 k2)],[(0,.arr 4 (dh B))],[]⟩=
  some (.x 2,⟨[(0,.psl 0 4 0 n none),(5,.int .i64 ((inn eqE en0 m B k (k0+k2)).2:Nat))],[(0,.arr 4 (dh (inn eqE en0 m B k (k0+k2)).1))],[]⟩):=by
 intro m;induction m with
 |zero=>
  intro B k k2 h1 h2 h3 h4;have:¬k2<n-k0:=by omega
  rw[ah];simp only[go_sem,Q0,Q1,Q2,Q3,Q4,Q5,Q6,Q7,Q8,Q9,Qa,Qb,Qc,Qd,Qe,Qf,Qg,Qh,Qi,Qj,Qk,reduceCtorEq,reduceIte,inn,this]
 |succ m ih=>
  intro B k k2 h1 h2 h3 h4;have hc:k2<n-k0:=by omega
  have hc1:k2-1<n-k0:=by omega
  have hp:k0+k2<B.length:=by omega
  have hp1:k0+(k2-1)<B.length:=by omega
  have hv:=dP B;have g1:=fg B (k0+k2) hp;have g2:=fg B (k0+(k2-1)) hp1;have e1:af.wrap ((k2:Int)-1)=((k2-1:Nat):Int):=wZ (by omega)
  have e2:=cR k2 (by omega);have e3:=cR k (by omega);have g:=f69 (B.getD (k0+k2) en0) (B.getD (k0+(k2-1)) en0);have ihA:=ih B k (k2+1) h1 (by omega) (by omega) (by omega);have ihB:=ih (B.set k (B.getD (k0+k2) en0)) (k+1) (k2+1) (by rw[cZ];exact h1) (by omega) (by omega) (by omega);have hpe:k0+k2-1=k0+(k2-1):=by omega
  have hk:k<B.length:=by omega
  have hkn:k<n:=by omega
  unfold inn;rw[hpe];rw[oB]at ihB;rw[show k0+(k2+1)=k0+k2+1 from by omega]at ihA ihB;generalize B.getD (k0+k2) en0=x at*;generalize B.getD (k0+(k2-1)) en0=y at*;obtain⟨x1,x2,x3,x4⟩:=x;obtain⟨y1,y2,y3,y4⟩:=y;simp only[Ent.sv]at g g1 g2 ihB;cases hq:eqE ⟨x1,x2,x3,x4⟩ ⟨y1,y2,y3,y4⟩with
  |true=>rw[hq]at g;rw[if_pos rfl];rw[ah];simp only[go_sem,Q0,Q1,Q2,Q3,Q4,Q5,Q6,Q7,Q8,Q9,Qa,Qb,Qc,Qd,Qe,Qf,Qg,Qh,Qi,Qj,Qk,reduceCtorEq,reduceIte,hc,hc1,hp,hp1,hv,g1,g2,e1,e2,g,Re,ihA]
  |false=>rw[hq]at g;rw[if_neg (by simp)];rw[ah];simp only[go_sem,Q0,Q1,Q2,Q3,Q4,Q5,Q6,Q7,Q8,Q9,Qa,Qb,Qc,Qd,Qe,Qf,Qg,Qh,Qi,Qj,Qk,reduceCtorEq,reduceIte,hc,hc1,hp,hp1,hv,g1,g2,e1,e2,e3,g,Re,hk,hkn,cZ,ihB]
theorem l68(S:List Ent)(hn:S.length<=1000):∀(m k:Nat),k+m=S.length->1<=k->S.take k++cp eqE (S.getD (k-1) en0) (S.drop k)=cpt eqE S->
 (cpt eqE S=S/\run T (.loop sB) ⟨[(0,.psl 0 4 0 S.length none),(1,.fn 69 [] []),(5,.int .i64 k)],[(0,.arr 4 (dh S))],[]⟩=
  some (.x 0,⟨[(0,.psl 0 4 0 S.length none)],[(0,.arr 4 (dh S))],[]⟩))\/
 (∃(R:List (List SV))(k':Nat),R.length=S.length/\k'<=S.length/\R.take k'=dh (cpt eqE S)/\run T (.loop sB) ⟨[(0,.psl 0 4 0 S.length none),(1,.fn 69 [] []),(5,.int .i64 k)],[(0,.arr 4 (dh S))],[]⟩=
  some (.r,⟨[(4,.psl 0 4 0 k' none)],[(0,.arr 4 R)],[]⟩)):=by
 intro m;induction m with
 |zero=>
  intro k h1 h2 h3;have:k=S.length:=by omega
  subst this;refine .inl ⟨QI eqE en0 S h3, ?_⟩;rw[ah];simp only[go_sem,Q0,Q1,Q2,Q3,Q4,Q5,Q6,Q7,Q8,Q9,Qa,Qb,Qc,Qd,Qe,Qf,Qg,Qh,Qi,Qj,Qk,reduceCtorEq,reduceIte]
 |succ m ih=>
  intro k h1 h2 h3;have hk:k<S.length:=by omega
  have hk1:k-1<S.length:=by omega
  have hv:=dP S;have g1:=fg S k hk;have g2:=fg S (k-1) hk1;have e1:af.wrap ((k:Int)-1)=((k-1:Nat):Int):=wZ (by omega)
  have e3:=cR k (by omega);have g:=f69 (S.getD k en0) (S.getD (k-1) en0);have hin:=fun hy=>xcM eqE en0 S k h2 hk h3 hy
  have hat:=fun hy=>xcN eqE en0 S k h2 hk h3 hy
  have hli:=xku S.length hn k (S.length-(k+1)) S k 1 rfl (by omega) (aH _) (by omega);obtain⟨len1,len2⟩:=rz eqE en0 (S.length-(k+1)) S k (k+1);generalize S.getD k en0=x at*;generalize S.getD (k-1) en0=y at*;cases hq:eqE x y with
  |true=>
   have hin':=hin hq;right;generalize inn eqE en0 (S.length-(k+1)) S k (k+1)=z at*;obtain⟨B,k'⟩:=z;simp only at hin' len1 len2 hli;have hvB:=dP B;have c1:k'<=S.length:=by omega
   have c2:0<S.length-k':=by omega
   have c3:k'+(S.length-k')<=B.length:=by omega
   have c4:k<=S.length:=by omega
   have c5:k'+(S.length-k')<=S.length:=by omega
   rw[hq]at g;obtain⟨x1,x2,x3,x4⟩:=x;obtain⟨y1,y2,y3,y4⟩:=y;simp only[Ent.sv]at g g1 g2;rw[show((1:Nat):Int)=1 from rfl]at hli;refine⟨(dh B).take k'++aD (S.length-k') [.int .i64 0,.str [],.int .i64 0,.byt [] .no]++(dh B).drop (k'+(S.length-k')),k', ?_,c1, ?_, ?_⟩
   ·rw[ac,ac,ax,cj,aQ];omega
   ·rw[av,kt (by rw[ax];omega),List.take_take,Nat.min_self,<-hin',dh,dh,List.map_take]
   ·rw[ah]
    simp only[go_sem,Q0,Q1,Q2,Q3,Q4,Q5,Q6,Q7,Q8,Q9,Qa,Qb,Qc,Qd,Qe,Qf,Qg,Qh,Qi,Qj,Qk,reduceCtorEq,reduceIte,hk,hk1,hv,g1,g2,e1,g,Re,c4,hli,c1,c2,c3,hvB,len1,c5,Nat.sub_zero]
  |false=>
   rw[hq]at g;have ih':=ih (k+1) (by omega) (by omega) (hat (by rw[hq];simp));obtain⟨x1,x2,x3,x4⟩:=x;obtain⟨y1,y2,y3,y4⟩:=y;simp only[Ent.sv]at g g1 g2;rcases ih' with⟨q1,q2⟩|⟨R,k',q1,q2,q3,q4⟩
   ·refine .inl ⟨q1, ?_⟩
    rw[ah];simp only[go_sem,Q0,Q1,Q2,Q3,Q4,Q5,Q6,Q7,Q8,Q9,Qa,Qb,Qc,Qd,Qe,Qf,Qg,Qh,Qi,Qj,Qk,reduceCtorEq,reduceIte,hk,hk1,hv,g1,g2,e1,e3,g,Re,q2]
   ·refine .inr ⟨R,k',q1,q2,q3, ?_⟩
    rw[ah];simp only[go_sem,Q0,Q1,Q2,Q3,Q4,Q5,Q6,Q7,Q8,Q9,Qa,Qb,Qc,Qd,Qe,Qf,Qg,Qh,Qi,Qj,Qk,reduceCtorEq,reduceIte,hk,hk1,hv,g1,g2,e1,e3,g,Re,q4]
theorem f68(S:List Ent)(h0:0<S.length)(hn:S.length<=1000):∃(R:List (List SV))(k':Nat),R.length=S.length/\k'<=S.length/\R.take k'=dh (cpt eqE S)/\
 call T 68 [.psl 0 4 0 S.length none,.fn 69 [] []] [.arr 4 (dh S)] 0=some ⟨.psl 0 4 0 k' none,[(0,.arr 4 R)],[]⟩:=by
 have hv:=dP S
 by_cases h2:S.length<2
 ·have h2':(S.length:Int)<2:=by omega
  refine⟨dh S,S.length,hv,aH _, ?_, ?_⟩
  ·have:cpt eqE S=S:=by
    match S,h0,h2 with
    |[x],_,_=>rfl
    |_::_::_,_,h=>simp only[ai]at h;omega
   rw[this,<-hv,bY]
  ·rw[aj XD]
   simp only[go_sem,Q0,Q1,Q2,Q3,Q4,Q5,Q6,Q7,Q8,Q9,Qa,Qb,Qc,Qd,Qe,Qf,Qg,Qh,Qi,Qj,Qk,reduceCtorEq,reduceIte,hv,h2,h2']
 ·have h2':¬(S.length:Int)<2:=by omega
  have hs:S.take 1++cp eqE (S.getD (1-1) en0) (S.drop 1)=cpt eqE S:=by
   match S,h0 with
   |x::r,_=>rfl
  have h:=l68 S hn (S.length-1) 1 (by omega) (aH _) hs;rw[show((1:Nat):Int)=1 from rfl]at h;rcases h with⟨q1,q2⟩|⟨R,k',q1,q2,q3,q4⟩
  ·refine⟨dh S,S.length,hv,aH _,by rw[q1,<-hv,bY], ?_⟩
   rw[aj XD];simp only[go_sem,Q0,Q1,Q2,Q3,Q4,Q5,Q6,Q7,Q8,Q9,Qa,Qb,Qc,Qd,Qe,Qf,Qg,Qh,Qi,Qj,Qk,reduceCtorEq,reduceIte,hv,h2,h2',q2]
  ·refine⟨R,k',q1,q2,q3, ?_⟩
   rw[aj XD];simp only[go_sem,Q0,Q1,Q2,Q3,Q4,Q5,Q6,Q7,Q8,Q9,Qa,Qb,Qc,Qd,Qe,Qf,Qg,Qh,Qi,Qj,Qk,reduceCtorEq,reduceIte,hv,h2,h2',q4]
theorem xk8:call T 68 [.lst 4 [] .no,.fn 69 [] []] [] 0=some ⟨.lst 4 [] .no,[],[]⟩:=by rw[aj XD];simp only[go_sem,Q0,Q1,Q2,Q3,Q4,Q5,Q6,Q7,Q8,Q9,Qa,Qb,Qc,Qd,Qe,Qf,Qg,Qh,Qi,Qj,Qk,reduceCtorEq,reduceIte]
end
section
open SortT
structure N1(y:Img):Prop where
 n:y.name.length<=1000000
 p:y.pay.length<=1000000
def mD(v:List UInt8)(ve:Int)(e:SV):aE:= .rc [.str v,.int .i64 ve,.int .i64 0,.int .i64 0,.int .i64 1099511627776,e,.lst 4 [] .clip]
def DB(l:List Ent):SV:=if l=[]then .lst 4 [] .clip else .psl 140 4 0 l.length none
def DC(l:List Ent):List (Nat×aE):=if l=[]then []else [(140,.arr 4 (dh l))]
def addP(l:List Ent)(y:Img):List Ent:=if gz y=0 then(if y.role=4 then l else l++ [Qq y])else l
theorem uL(l:List Ent)(y:Img):(addP l y).length<=l.length+1:=by
 unfold addP;split
 ·split
  ·omega
  ·simp
 ·omega
theorem qe(l:List Ent)(x:Ent):dh (l++ [x])=dh l++ [x.sv]:=by rw[dh,dh,cE];rfl
theorem l36(ch:List Img)(hb:∀y∈ch,N1 y)(hcl:ch.length<=1000)(v:List UInt8)(ve:Int):∀(n i:Nat)(L:List Ent),ch.length-i=n->i<=ch.length->L.length<=i->
 run T (.loop Nh) ⟨[(6,.ptr 106 0),(7,.ptr 107 0),(13,.lst 4 (kC ch) .no),(14,.int .i64 ch.length),(15,.int .i64 i)],(106,mZ)::(107,mD v ve (DB L))::DC L,[]⟩=
  some (.x 0,⟨[(6,.ptr 106 0),(7,.ptr 107 0)],(106,mZ)::(107,mD v ve (DB ((ch.drop i).foldl addP L)))::DC ((ch.drop i).foldl addP L),[]⟩):=by
 intro n;induction n with
 |zero=>
  intro i L h0 h1 hL;have hi:i=ch.length:=by omega
  subst hi;rw[bP,Du,ah];unfold DC DB mD mZ
  by_cases hz:L=[]
  ·simp only[if_pos hz,go_sem,Q0,Q1,Q2,Q3,Q4,Q5,Q6,Q7,Q8,Q9,Qa,Qb,Qc,Qd,Qe,Qf,Qg,Qh,Qi,Qj,Qk,reduceCtorEq,reduceIte]
  ·simp only[if_neg hz,go_sem,Q0,Q1,Q2,Q3,Q4,Q5,Q6,Q7,Q8,Q9,Qa,Qb,Qc,Qd,Qe,Qf,Qg,Qh,Qi,Qj,Qk,reduceCtorEq,reduceIte]
 |succ n ih=>
  intro i L h0 h1 hL;have hi:i<ch.length:=by omega
  have hiI:(i:Int)<(ch.length:Int):=by omega
  have e1:=cR i (by omega);have hv:=jR ch;have hg:=uh ch i hi;have hd:ch.drop i=ch.getD i im0::ch.drop (i+1):=by rw[bq hi,aa,ab hi];rfl
  rw[hd,cr];have hbd:=hb (ch.getD i im0) (fB ch im0 i hi);have ih':=ih (i+1) (addP L (ch.getD i im0)) (by omega) (by omega) (by have:=uL L (ch.getD i im0);omega);generalize List.foldl addP (addP L (ch.getD i im0)) (ch.drop (i+1))=Z at*;generalize ch.getD i im0=y at*;have g1:=f63 y (by have:=hbd.p;omega);have g2:=f65 y hbd.n hbd.p;have hel:=Fg y hbd.n hbd.p;have g3:=f64 (v8 y) (by omega);unfold addP Qq at ih';generalize hE:v8 y=E at*
  by_cases h0:gz y=0
  ·by_cases h4:y.role=4
   ·rw[if_pos h0,if_pos h4]at ih'
    rw[h0]at g1;obtain⟨y1,y2,y3,y4⟩:=y;simp only at h4;subst h4;unfold DC DB mD mZ at ih' ⊢
    by_cases hz:L=[]
    ·simp only[if_pos hz,Img.sv]at ih' hg g1 ⊢
     rw[ah];simp only[go_sem,Q0,Q1,Q2,Q3,Q4,Q5,Q6,Q7,Q8,Q9,Qa,Qb,Qc,Qd,Qe,Qf,Qg,Qh,Qi,Qj,Qk,reduceCtorEq,reduceIte,hi,hiI,hv,hg,g1,uM,e1,ih']
    ·simp only[if_neg hz,Img.sv]at ih' hg g1 ⊢
     rw[ah];simp only[go_sem,Q0,Q1,Q2,Q3,Q4,Q5,Q6,Q7,Q8,Q9,Qa,Qb,Qc,Qd,Qe,Qf,Qg,Qh,Qi,Qj,Qk,reduceCtorEq,reduceIte,hi,hiI,hv,hg,g1,uM,e1,ih']
   ·rw[if_pos h0,if_neg h4]at ih'
    rw[h0]at g1;obtain⟨y1,y2,y3,y4⟩:=y;simp only at h4 ih' hE
    try rw[hE]at ih'
    have hne:¬L++ [(⟨y1,y2,y3,sha E⟩:Ent)]=[]:=by simp
    have hln:(L++ [(⟨y1,y2,y3,sha E⟩:Ent)]).length=L.length+1:=by simp
    unfold DC DB mD mZ at ih' ⊢
    by_cases hz:L=[]
    ·subst hz
     simp only[if_neg hne,hln,if_true,Img.sv,qe,Ent.sv,dh,bH]at ih' hg g1 g2 g3 ⊢;simp only[aF,aC,bH,Ent.sv,aw,cg]at ih';rw[ah];simp only[go_sem,Q0,Q1,Q2,Q3,Q4,Q5,Q6,Q7,Q8,Q9,Qa,Qb,Qc,Qd,Qe,Qf,Qg,Qh,Qi,Qj,Qk,reduceCtorEq,reduceIte,hi,hiI,hv,hg,g1,uM,h4,g2,xjL,g3,Rg,e1,ih']
    ·have hvL:=dP L
     have tf:kG L.length (dh L)=dh L:=by rw[<-hvL,bY]
     have b1:(L.length+1)*56<=140737488355328:=by omega
     simp only[if_neg hne,if_neg hz,hln,Img.sv,qe,Ent.sv]at ih' hg g1 g2 g3 ⊢;rw[ah];simp only[go_sem,Q0,Q1,Q2,Q3,Q4,Q5,Q6,Q7,Q8,Q9,Qa,Qb,Qc,Qd,Qe,Qf,Qg,Qh,Qi,Qj,Qk,reduceCtorEq,reduceIte,hi,hiI,hv,hg,g1,uM,h4,g2,xjL,g3,Rg,e1,hvL,tf,b1,ih']
  ·rw[if_neg h0]at ih'
   obtain⟨y1,y2,y3,y4⟩:=y;unfold DC DB mD mZ at ih' ⊢
   by_cases hz:L=[]
   ·simp only[if_pos hz,Img.sv]at ih' hg g1 ⊢
    rw[ah];simp only[go_sem,Q0,Q1,Q2,Q3,Q4,Q5,Q6,Q7,Q8,Q9,Qa,Qb,Qc,Qd,Qe,Qf,Qg,Qh,Qi,Qj,Qk,reduceCtorEq,reduceIte,hi,hiI,hv,hg,g1,uM,h0,e1,ih']
   ·simp only[if_neg hz,Img.sv]at ih' hg g1 ⊢
    rw[ah];simp only[go_sem,Q0,Q1,Q2,Q3,Q4,Q5,Q6,Q7,Q8,Q9,Qa,Qb,Qc,Qd,Qe,Qf,Qg,Qh,Qi,Qj,Qk,reduceCtorEq,reduceIte,hi,hiI,hv,hg,g1,uM,h0,e1,ih']
theorem uo:∀(ch:List Img)(L:List Ent),(ch.foldl addP L).length<=L.length+ch.length
 |[],L=>aH _
 |y::r,L=>by have h1:=uo r (addP L y);have h2:=uL L y;rw[cr,ai];omega
def QC(ch:List Img):List Ent:=cpt eqE (isr eL en0 ((ch.foldl addP []).length-1) 1 (ch.foldl addP []))
theorem f36(ch:List Img)(hb:∀y∈ch,N1 y)(hcl:ch.length<=12)(v:List UInt8)(ve:Int):call T 36 [.str v,.int .i64 ve,.lst 4 (kC ch) .no] [] 0=
 some ⟨.agg [.str v,.int .i64 ve,.int .i64 0,.int .i64 0,.int .i64 1099511627776,.lst 4 (dh (QC ch)) .no,.lst 4 [] .clip],[],[]⟩:=by
 have h:=l36 ch hb (by omega) v ve _ 0 [] rfl (bJ _) (aH _);have hl:=uo ch [];rw[aB,bj]at h;have hv:=jR ch;unfold QC;generalize ch.foldl addP []=L at*;simp only[aw,cg]at hl;unfold DB DC mD mZ at h;rw[aj xmK]
 by_cases hz:L=[]
 ·subst hz
  have g1:=xk9;have g2:=xk8;simp only[if_true]at h;simp only[go_sem,Q0,Q1,Q2,Q3,Q4,Q5,Q6,Q7,Q8,Q9,Qa,Qb,Qc,Qd,Qe,Qf,Qg,Qh,Qi,Qj,Qk,reduceCtorEq,reduceIte,hv,h,g1,xjK,g2,xjJ];rfl
 ·have h0:0<L.length:=List.length_pos_iff.2 hz
  have g1:=f66 L h0 (by omega);have hil:=AY eL en0 (L.length-1) 1 L;obtain⟨R,k',r1,r2,r3,g2⟩:=f68 (isr eL en0 (L.length-1) 1 L) (by omega) (by omega);rw[hil]at g2 r1 r2;have hvl:=dP L;have hvi:=dP (isr eL en0 (L.length-1) 1 L);rw[<-r3];simp only[if_neg hz,if_true]at h;have r4:k'<=R.length:=by omega
  simp only[go_sem,Q0,Q1,Q2,Q3,Q4,Q5,Q6,Q7,Q8,Q9,Qa,Qb,Qc,Qd,Qe,Qf,Qg,Qh,Qi,Qj,Qk,reduceCtorEq,reduceIte,hv,h,g1,xjK,g2,xjJ,hvl,r4]
def MR(l:List Ent)(y:Img):List Ent:=if gz y=0 then r6 y l else l
theorem p8:∀(ch:List Img)(A B:List Ent),A.foldl (fun a x=>nD eL x a) []=B->(ch.foldl addP A).foldl (fun a x=>nD eL x a) []=ch.foldl MR B
 |[],_,_,h=>h
 |y::r,A,B,h=>by
  rw[cr,cr];refine p8 r _ _ ?_;unfold addP MR r6
  by_cases h0:gz y=0
  ·rw[if_pos h0,if_pos h0]
   by_cases h4:y.role=4
   ·rw[if_pos h4,if_pos h4];exact h
   ·rw[if_neg h4,if_neg h4,List.foldl_append,h,ry];rfl
  ·rw[if_neg h0,if_neg h0];exact h
theorem QB(ch:List Img):QC ch=ch.foldl MR []:=by unfold QC;rw[DY pj Qn,p8 ch [] [] rfl]
theorem nT:∀(ch:List Img)(B:List Ent),(∀y∈ch,gz y=0)->ch.foldl MR B=uD ch B
 |[],_,_=>rfl
 |y::r,B,h=>by
  rw[cr];unfold uD;rw[cr];have:MR B y=r6 y B:=by unfold MR;rw[if_pos (h y ay)]
  rw[this];exact nT r _ fun z hz=>h z (ao _ hz)
theorem wb{ch:List Img}(hc:lI ch):QC ch=uD ch []:=by rw[QB,nT ch [] (lV hc)]
end
end Go.Proofs.YtkggincjigbelaaGreatDoor
