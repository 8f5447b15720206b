/- Contracts. No condition. -/
import Derived.Test.YtkcjdeofknkndaaGreatDoorTgDF
open List renaming Pairwise -> gg, cons_append -> aV, drop -> lv, drop_eq_getElem_cons -> aY, drop_length -> bv, drop_zero -> bh, getD_cons_succ -> bQ, getD_cons_zero -> bF, getD_eq_getElem?_getD -> aa, getElem?_eq_getElem -> ab, getElem_of_mem -> bM, length_append -> af, length_cons -> ay, length_drop -> aL, length_take -> aA, map_append -> df, map_cons -> aG, mem_append -> ak, mem_cons -> am, mem_cons_of_mem -> an, mem_cons_self -> aw, mem_map -> aQ, mem_of_mem_drop -> Dw, mem_of_mem_take -> cm, mem_singleton -> aW, nil_append -> aK, take -> dn, take_append_drop -> fY, take_length -> bB
open Nat renaming add_zero -> dU, le_refl -> aN, zero_add -> cf, zero_le -> bD
set_option maxRecDepth 100000
set_option maxHeartbeats 16000000
set_option linter.unusedSimpArgs false
set_option linter.unusedVariables false
namespace Go.Proofs.YtkcjdeofknkndaaGreatDoor
open Go.Sy
open UInt8 renaming reduceLT -> Q0, reduceLE -> Q1
open Int renaming reduceToNat -> Q2, reduceLE -> Q3, reduceLT -> Q4, reduceEq -> Q5, reduceNe -> Q6, reduceNeg -> Q7, reduceAdd -> Q8, reduceSub -> Q9, reduceMul -> Qa
open Nat renaming reducePow -> Qb, reduceDiv -> Qc, reduceMod -> Qd, reduceAdd -> Qe, reduceSub -> Qf, reduceMul -> Qg, reduceLT -> Qh, reduceLeDiff -> Qi, reduceEqDiff -> Qj, reduceBEq -> Qk
structure EvS(e:Ev):Prop where
 d2:e.dg.length=2
 b:e.data.length<=1000
 d0:(e.dg.getD 0 []).length<=1000
 d1:(e.dg.getD 1 []).length<=1000
theorem XY(r k a:Int)(d:t6)(h:d.length<=1000):EvS (mkV r k a d):=by
 have C:=uc d;have z:=jr d
 by_cases y:k=5
 ·refine⟨?_,h, ?_, ?_⟩<;>simp only[mkV,y,if_true]<;>decide
 ·refine⟨?_,h, ?_, ?_⟩<;>simp only[mkV,y,if_false]
  ·rfl
  ·rw[bF]
   split
   ·omega
   ·exact bD _
  ·rw[bQ,bF]
   split
   ·omega
   ·exact bD _
def fo(x:Ent):List Ent->Nat
 |[]=>0
 |y::r=>if eE y x=true then fo x r+1 else 0
theorem rY(x:Ent):∀l,fo x l<=l.length
 |[]=>aN _
 |y::r=>by have:=rY x r;rw[fo,ay];split<;>omega
def mO(v:t6)(h:Int)(l:List Ent)(tk:Tok):aC:= .rc [.str v,.int .i64 h,.int .i64 0,.int .i64 0,.int .i64 1099511627776,.lst 4 (cd l) tk,.lst 4 [] .clip]
def mZ:aC:= .rc [.str [],.int .i64 0,.int .i64 0,.int .i64 0,.int .i64 0,.lst 4 [] .clip,.lst 4 [] .clip]
theorem xjJ(I:f8)(v:t6)(W i:Int)(l:List Ent)(x:Ent)(hl:l.length<=1000)(hd:∀y∈l,y.dig.length<=1000):∀(n k:Nat),l.length-k=n->k<=l.length->
 run T (.loop xG) ⟨[(2,.lst 4 I .no),(6,.ptr 106 0),(7,.ptr 107 0),(8,.int .i64 i),(10,.ptr 110 0),(11,.int .i64 k)],[(106,mZ),(107,mO v W l .no),(110,.rc x.sv)],[]⟩=
  some (.x 2,⟨[(2,.lst 4 I .no),(6,.ptr 106 0),(7,.ptr 107 0),(8,.int .i64 i),(10,.ptr 110 0),(11,.int .i64 ((k+fo x (l.drop k):Nat):Int))],[(106,mZ),(107,mO v W l .no),(110,.rc x.sv)],[]⟩):=by
 intro n;induction n with
 |zero=>
  intro k h0 Z;have:k=l.length:=by omega
  subst this;have J:=cw l;rw[bv,al];simp only[fo,dU,mO,mZ];simp only[go_sem,Q0,Q1,Q2,Q3,Q4,Q5,Q6,Q7,Q8,Q9,Qa,Qb,Qc,Qd,Qe,Qf,Qg,Qh,Qi,Qj,Qk,reduceCtorEq,reduceIte,J]
 |succ n ih=>
  intro k h0 Z;have h:k<l.length:=by omega
  have U:=cA k (by omega);have C:=ih (k+1) (by omega) (by omega);have J:=cw l;have H:=dM l k h;have O:l.drop k=l.getD k en0::l.drop (k+1):=by rw[aY h,aa,ab h];rfl
  have hm:=dd l en0 k h;have z:=f46 (l.getD k en0) x (by have:=hd _ hm;omega);have E:(k:Int)<(l.length:Int):=by omega
  rw[O,fo,al];generalize l.getD k en0=y at*;obtain⟨x1,x2,L,Q⟩:=x;obtain⟨y1,y2,y3,y4⟩:=y
  by_cases F:eE ⟨y1,y2,y3,y4⟩ ⟨x1,x2,L,Q⟩=true
  ·rw[if_pos F]
   rw[F]at z;rw[show k+(fo ⟨x1,x2,L,Q⟩ (l.drop (k+1))+1)=k+1+fo ⟨x1,x2,L,Q⟩ (l.drop (k+1))from by omega];simp only[mO,mZ,Ent.sv]at C z H ⊢;simp only[go_sem,Q0,Q1,Q2,Q3,Q4,Q5,Q6,Q7,Q8,Q9,Qa,Qb,Qc,Qd,Qe,Qf,Qg,Qh,Qi,Qj,Qk,reduceCtorEq,reduceIte,h,E,U,J,H,z,Yv,C]
  ·rw[if_neg F]
   rw[eq_false_of_ne_true F]at z;rw[dU];simp only[mO,mZ,Ent.sv]at z H ⊢;simp only[go_sem,Q0,Q1,Q2,Q3,Q4,Q5,Q6,Q7,Q8,Q9,Qa,Qb,Qc,Qd,Qe,Qf,Qg,Qh,Qi,Qj,Qk,reduceCtorEq,reduceIte,h,E,U,J,H,z,Yv]
theorem ml{x:Img}(h:dT x=0):¬(dN x).length=0:=by unfold dN;rw[if_pos h,ey];omega
def jt(y:Img):Ent:=⟨y.role,y.name,y.ver,sha (dN y)⟩
def mU(x:Ent)(l:List Ent):List Ent:=if fo x l<l.length/\eE x (l.getD (fo x l) en0)=false then l else l.take (fo x l)++x::l.drop (fo x l)
def ju(y:Img)(l:List Ent):List Ent:=if y.role=4 then l else mU (jt y) l
theorem s34(H:List Img){i:Nat}(h0:dT (H.getD i im0)=0)(a5:H.length<=1000)(v:t6)(ve:Int)(l:List Ent)(hl:l.length<=900)(hd:∀y∈l,y.dig.length<=1000)(hi:i<H.length):
 run T (.loop lG) ⟨[(2,.lst 4 (dS H) .no),(6,.ptr 106 0),(7,.ptr 107 0),(8,.int .i64 i)],[(106,mZ),(107,mO v ve l .no)],[]⟩=
 run T (.loop lG) ⟨[(2,.lst 4 (dS H) .no),(6,.ptr 106 0),(7,.ptr 107 0),(8,.int .i64 ((i+1:Nat):Int))],[(106,mZ),(107,mO v ve (ju (H.getD i im0) l) .no)],[]⟩:=by
 have L:(i:Int)<(H.length:Int):=by omega
 have hv:=dY H;have U:=gA H i hi;have e1:=cA i (by omega);generalize H.getD i im0=y at*;obtain⟨u1,u2⟩:=kU h0;have W:=f95 y u1 u2;have a3:=pF y u1 u2;have g2:=f65 (dN y) (by omega);have O:¬(dN y).length=0:=ml h0;have F:¬((dN y).length:Int)=0:=by omega
 have a4:=jr (dN y);have C:=xjJ (dS H) v ve i l (jt y) (by omega) hd l.length 0 (by omega) (bD _);rw[cf,bh,show((0:Nat):Int)=0 from rfl]at C;have a2:=rY (jt y) l;have Q:=cw l;unfold ju mU;generalize hE:dN y=E at*
 by_cases h4:y.role=4
 ·rw[if_pos h4]
  obtain⟨y1,y2,y3,y4⟩:=y;simp only at h4;subst h4;rw[al];simp only[mO,mZ,Img.sv]at W U ⊢;simp only[go_sem,Q0,Q1,Q2,Q3,Q4,Q5,Q6,Q7,Q8,Q9,Qa,Qb,Qc,Qd,Qe,Qf,Qg,Qh,Qi,Qj,Qk,reduceCtorEq,reduceIte,L,hi,hv,U,W,sS,O,F,e1]
 ·rw[if_neg h4]
  have a1:jt y=⟨y.role,y.name,y.ver,sha E⟩:=by rw[<-hE];rfl
  rw[a1]at C a2 ⊢
  by_cases hk:fo ⟨y.role,y.name,y.ver,sha E⟩ l<l.length
  ·have Z:=f46 ⟨y.role,y.name,y.ver,sha E⟩ (l.getD (fo ⟨y.role,y.name,y.ver,sha E⟩ l) en0) (by show(sha E).length<=_;omega)
   have I:=dM l _ hk;have J:(fo ⟨y.role,y.name,y.ver,sha E⟩ l:Int)<(l.length:Int):=by omega
   have e2:cd (l.take (fo ⟨y.role,y.name,y.ver,sha E⟩ l)++⟨y.role,y.name,y.ver,sha E⟩::l.drop (fo ⟨y.role,y.name,y.ver,sha E⟩ l))=dn (fo ⟨y.role,y.name,y.ver,sha E⟩ l) (cd l)++(Ent.sv ⟨y.role,y.name,y.ver,sha E⟩::lv (fo ⟨y.role,y.name,y.ver,sha E⟩ l) (cd l)):=by rw[cd,cd,df,aG,List.map_take,List.map_drop]
   generalize fo ⟨y.role,y.name,y.ver,sha E⟩ l=k at*;generalize l.getD k en0=z at*;have a0:k<=l.length:=by omega
   have tf:dn l.length (cd l)=cd l:=by rw[<-Q,bB]
   have vA:(dn k (cd l)).length=k:=by rw[aA,Q];omega
   have vD:(lv k (cd l)).length=l.length-k:=by rw[aL,Q]
   have b1:k*56<=140737488355328:=by omega
   have b3:(k+1)*56<=140737488355328:=by omega
   have b2:(k+(1+(l.length-k)))*56<=140737488355328:=by omega
   have b4:(k+1+(l.length-k))*56<=140737488355328:=by omega
   obtain⟨y1,y2,y3,y4⟩:=y;obtain⟨z1,z2,z3,z4⟩:=z
   by_cases hb:eE ⟨y1,y2,y3,sha E⟩ ⟨z1,z2,z3,z4⟩=false
   ·rw[if_pos ⟨hk,hb⟩]
    simp only at Z;rw[hb]at Z;rw[al];simp only[mO,mZ,Img.sv,Ent.sv]at W U C Z I ⊢;simp only[go_sem,Q0,Q1,Q2,Q3,Q4,Q5,Q6,Q7,Q8,Q9,Qa,Qb,Qc,Qd,Qe,Qf,Qg,Qh,Qi,Qj,Qk,reduceCtorEq,reduceIte,L,hi,hv,U,W,sS,O,F,h4,g2,Nh,C,Q,hk,J,I,Z,Yv,e1]
   ·rw[if_neg (fun h=>hb h.2)]
    simp only at Z;rw[eq_true_of_ne_false hb]at Z;rw[al];simp only[mO,e2];simp only[mO,mZ,Img.sv,Ent.sv]at W U C Z I ⊢;simp only[go_sem,Q0,Q1,Q2,Q3,Q4,Q5,Q6,Q7,Q8,Q9,Qa,Qb,Qc,Qd,Qe,Qf,Qg,Qh,Qi,Qj,Qk,reduceCtorEq,reduceIte,L,hi,hv,U,W,sS,O,F,h4,g2,Nh,C,Q,hk,J,a0,I,Z,Yv,e1,tf,vA,vD,b1,b2,b3,b4]
  ·have J:¬(fo ⟨y.role,y.name,y.ver,sha E⟩ l:Int)<(l.length:Int):=by omega
   rw[if_neg (fun h=>hk h.1)]
   have e2:cd (l.take (fo ⟨y.role,y.name,y.ver,sha E⟩ l)++⟨y.role,y.name,y.ver,sha E⟩::l.drop (fo ⟨y.role,y.name,y.ver,sha E⟩ l))=dn (fo ⟨y.role,y.name,y.ver,sha E⟩ l) (cd l)++(Ent.sv ⟨y.role,y.name,y.ver,sha E⟩::lv (fo ⟨y.role,y.name,y.ver,sha E⟩ l) (cd l)):=by rw[cd,cd,df,aG,List.map_take,List.map_drop]
   generalize fo ⟨y.role,y.name,y.ver,sha E⟩ l=k at*;have a0:k<=l.length:=by omega
   have tf:dn l.length (cd l)=cd l:=by rw[<-Q,bB]
   have vA:(dn k (cd l)).length=k:=by rw[aA,Q];omega
   have vD:(lv k (cd l)).length=l.length-k:=by rw[aL,Q]
   have b1:k*56<=140737488355328:=by omega
   have b3:(k+1)*56<=140737488355328:=by omega
   have b2:(k+(1+(l.length-k)))*56<=140737488355328:=by omega
   have b4:(k+1+(l.length-k))*56<=140737488355328:=by omega
   obtain⟨y1,y2,y3,y4⟩:=y;rw[al];simp only[mO,e2];simp only[mO,mZ,Img.sv,Ent.sv]at W U C ⊢;simp only[go_sem,Q0,Q1,Q2,Q3,Q4,Q5,Q6,Q7,Q8,Q9,Qa,Qb,Qc,Qd,Qe,Qf,Qg,Qh,Qi,Qj,Qk,reduceCtorEq,reduceIte,L,hi,hv,U,W,sS,O,F,h4,g2,Nh,C,Q,hk,J,a0,e1,tf,vA,vD,b1,b2,b3,b4]
structure iX(l:List Ent)(n:Nat):Prop where
 len:l.length<=n
 e:∀x∈l,x.name.length<=1000000/\x.dig.length=32
theorem Fg{x z:Ent}{l:List Ent}(h:z∈mU x l):z=x\/z∈l:=by
 unfold mU at h;split at h
 ·exact .inr h
 ·rw[ak,am]at h
  rcases h with h|h|h
  ·exact .inr (cm h)
  ·exact .inl h
  ·exact .inr (Dw h)
theorem Ft(x:Ent)(l:List Ent):(mU x l).length<=l.length+1:=by
 unfold mU;have:=rY x l;split
 ·omega
 ·rw[af,ay,aA,aL];omega
theorem FC{y:Img}(h:dT y=0):y.name.length<=1000000:=(kU h).1
theorem Cd{y:Img}(C:dT y=0){l:List Ent}{n:Nat}(h:iX l n):iX (ju y l) (n+1):=by
 unfold ju;split
 ·exact⟨Nat.le_succ_of_le h.len,h.e⟩
 ·refine⟨?_,fun x z=> ?_⟩
  ·have:=Ft (jt y) l
   have:=h.len;omega
  ·rcases Fg z with rfl|z
   ·exact⟨FC C,jr _⟩
   ·exact h.e x z
def lk(l:List Img)(es:List Ent):List Ent:=l.foldl (fun a y=>ju y a) es
theorem BW:∀(l:List Img)(es:List Ent)(n:Nat),(∀y∈l,dT y=0)->iX es n->iX (lk l es) (n+l.length)
 |[],es,n,_,h=>h
 |y::r,es,n,hl,h=>by have:=BW r (ju y es) (n+1) (fun z hz=>hl z (an _ hz)) (Cd (hl y aw) h);rw[ay,show n+(r.length+1)=n+1+r.length from by omega];exact this
theorem BV{h:List Img}(z:ej h):iX (lk h []) 8:=by
 have:=BW h [] 0 (fun y C=>by obtain⟨i,hi,rfl⟩:=bM C;have:=z.ok i hi;rwa[aa,ab hi]at this) ⟨aN _,fun x E=>by cases E⟩
 have n8:=z.n8;exact⟨by have:=this.len;omega,this.e⟩
theorem BA(x:Ent):∀l,fo x l<l.length->eE (l.getD (fo x l) en0) x=false
 |[],h=>by simp at h
 |y::r,h=>by
  rw[fo]at h ⊢
  by_cases z:eE y x=true
  ·rw[if_pos z]at h ⊢
   rw[bQ];exact BA x r (by rw[ay]at h;omega)
  ·rw[if_neg z,bF]
   exact eq_false_of_ne_true z
theorem C7(x:Ent)(l:List Ent):x∈mU x l:=by
 unfold mU;split
 ·rename_i h
  have y:=BA x l h.1;have:=nI.tri _ _ h.2 y;rw[this];exact dd l en0 _ h.1
 ·exact List.mem_append_right _ aw
theorem C8{x z:Ent}{l:List Ent}(h:z∈l):z∈mU x l:=by
 unfold mU;split
 ·exact h
 ·rw[<-fY (fo x l) l,ak]at h
  rcases h with h|h
  ·exact List.mem_append_left _ h
  ·exact List.mem_append_right _ (an _ h)
theorem Dv{y:Img}{z:Ent}{l:List Ent}(h:z∈l):z∈ju y l:=by
 unfold ju;split
 ·exact h
 ·exact C8 h
theorem rk:∀(l:List Img){es:List Ent}{z:Ent},z∈es->z∈lk l es
 |[],_,_,h=>h
 |y::r,es,z,h=>rk r (Dv h)
theorem uZ:∀(l:List Img)(es:List Ent){y:Img},y∈l->¬y.role=4->jt y∈lk l es
 |[],_,_,h,_=>by cases h
 |x::r,es,y,h,h4=>by
  show jt y∈lk r (ju x es);rcases am.1 h with rfl|h
  ·refine rk r ?_
   unfold ju;rw[if_neg h4];exact C7 _ _
  ·exact uZ r _ h h4
section
open SortT
theorem si(x:Ent):∀l:List Ent,mU x l=oJ eE x l
 |[]=>by simp[mU,oJ,fo]
 |y::r=>by
  have F:=si x r;unfold oJ;rw[<-F];unfold mU
  by_cases h:eE y x=true
  ·have E:fo x (y::r)=fo x r+1:=by rw[fo,if_pos h]
   rw[E,if_pos h,bQ,List.take_succ_cons,List.drop_succ_cons,ay]
   by_cases z:fo x r<r.length/\eE x (r.getD (fo x r) en0)=false
   ·rw[if_pos z,if_pos ⟨by omega,z.2⟩]
   ·rw[if_neg z,if_neg (fun k=>z ⟨by omega,k.2⟩),aV]
  ·have E:fo x (y::r)=0:=by rw[fo,if_neg h]
   rw[E,if_neg h,bF,List.take_zero,bh,aK]
   by_cases C:eE x y=true
   ·rw[if_pos C,if_neg (fun k=>by rw[C]at k;exact absurd k.2 (by simp))]
   ·rw[if_neg C,if_pos ⟨by simp,by simpa using C⟩]
theorem Qy{y:Img}(h:dT y=0)(J:¬y.role=4):pd (jt y):=by obtain⟨E,I,z,C,F,H⟩:=iz h;exact⟨E,by show y.role<=3;omega,z,C,jr _,F⟩
theorem sx:∀(l:List Img)(es:List Ent),(∀y∈l,dT y=0)->(∀x∈es,pd x)->Str eE es->(∀x∈lk l es,pd x)/\Str eE (lk l es)
 |[],es,_,h1,h2=>⟨h1,h2⟩
 |y::r,es,h0,h1,h2=>by
  have F:=h0 y aw
  have h:(∀x∈ju y es,pd x)/\Str eE (ju y es):=by
   unfold ju
   by_cases E:y.role=4
   ·rw[if_pos E];exact⟨h1,h2⟩
   ·rw[if_neg E,si]
    refine⟨fun x C=> ?_,pt nI _ _ h2⟩;rcases (lX nI _ _ _).1 C with rfl|C
    ·exact Qy F E
    ·exact h1 x C
  exact sx r (ju y es) (fun z hz=>h0 z (an _ hz)) h.1 h.2
theorem ru{h:List Img}(z:ej h):∀y∈h,dT y=0:=by intro y C;obtain⟨i,hi,rfl⟩:=bM C;have:=z.ok i hi;rwa[aa,ab hi]at this
theorem xcP{h:List Img}(y:ej h):(∀x∈lk h [],pd x)/\Str eE (lk h []):=sx h [] (ru y) (fun x z=>by cases z) gg.nil
structure xiY(m:Man):Prop where
 v:m.vendor.length<=100
 en:m.ents.length<=8
 rn:m.ruls.length<=8
 e:∀x∈m.ents,x.name.length<=1000000/\x.dig.length=32
 r:∀x∈m.ruls,x.text.length<=20
 ok:gJ m=0
theorem xiY.bd{m:Man}(h:xiY m):gu m:=⟨by have:=h.v;omega,by have:=h.en;omega,by have:=h.rn;omega,fun x y=>by have:=h.e x y;omega,fun x y=>by have:=h.r x y;omega⟩
end
theorem o5{α:Type}{P:α->Prop}{l r:List α}(h:∀e,e∈l->P e)(z:∀e,e∈r->P e):∀e,e∈l++r->P e:=by
 intro e C;rcases ak.mp C with y|y
 ·exact h e y
 ·exact z e y
theorem xcQ(x:Img)(a:Int):((nL (dN x) a).getD 0 []).length<=1000/\((nL (dN x) a).getD 1 []).length<=1000:=by
 have y:=uc (dN x);have h:=jr (dN x);unfold nL;split
 ·exact⟨bD _,bD _⟩
 ·constructor
  ·rw[bF]
   split
   ·omega
   ·exact bD _
  ·rw[bQ,bF]
   split
   ·omega
   ·exact bD _
theorem XU{x:Img}(a:Int)(h:dT x=0):EvS (ofI x a):=by obtain⟨I,H,F,J,z,L⟩:=iz h;have hn:=iK z;obtain⟨v,E⟩:=Int.eq_ofNat_of_zero_le F;have O:=kg 6 v (by omega);obtain⟨C,y⟩:=xcQ x a;refine⟨FX _ _, ?_,C,y⟩;show(qR x.name x.ver).length<=1000;unfold qR;rw[E,af,ay];show x.name.length+((dec v).length+1)<=1000;omega
theorem xcF{x:Img}(a role:Int)(h:dT x=0):∀e,e∈gV a role x->EvS e:=by
 intro e z;obtain⟨F,E,L,H,J,I⟩:=iz h;unfold gV at z;split at z
 ·split at z
  ·obtain⟨y,C,rfl⟩:=aQ.1 z
   have:=(mE x.pay).2 y C;exact XY _ _ _ _ (by omega)
  ·rw[aW.1 z];exact XU a h
 ·cases z
theorem Gm(a:Int):∀n i e,e∈uf a i n->EvS e
 |0,i,e,he=>by cases he
 |n+1,i,e,he=>by
  rw[uf]at he;rcases am.1 he with rfl|he
  ·exact XY _ _ _ _ (by decide)
  ·exact Gm a n _ e he
theorem xju{l:List Img}{x:Img}(h:x∈l)(y:∀i,i<l.length->dT (l.getD i im0)=0):dT x=0:=by obtain⟨i,hi,rfl⟩:=bM h;have:=y i hi;rwa[aa,ab hi]at this
theorem xfX{l:List Img}(z:ej l)(a:Int):∀e,e∈evF l a->EvS e:=by
 have y:∀role e,e∈l.flatMap (gV a role)->EvS e:=by intro role e E;obtain⟨x,C,h⟩:=List.mem_flatMap.1 E;exact xcF a role (xju C z.ok) e h
 unfold evF;exact o5 (y 1) (o5 (y 2) (o5 (Gm a 8 0) (o5 (y 3) (y 4))))
theorem Qr{l:List Img}(h:ej l)(a:Int):8<=(evF l a).length/\(evF l a).length<=150:=by have n8:=h.n8;have b1:=eI l a 1;have C:=eI l a 2;have y:=eI l a 3;have z:=eI l a 4;have b0:=ue a 8 0;unfold evF;simp only[af];omega
end Go.Proofs.YtkcjdeofknkndaaGreatDoor
