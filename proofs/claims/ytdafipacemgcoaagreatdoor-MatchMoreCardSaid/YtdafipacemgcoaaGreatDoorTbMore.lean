/- What the functions come to. No condition. -/
import Derived.Test.YtdafipacemgcoaaGreatDoorTaMore
open Bool renaming and_eq_true -> az, eq_iff_iff -> du, false_and -> Fl, false_eq_true -> aH, false_or -> dq, not_eq_true' -> cR, or_eq_true -> dt, true_or -> fU
open Int renaming cast_ofNat_Int -> cB, fdiv -> Fj, natCast_zero -> aB
open Go.IntKind renaming i64 -> ai, u32 -> aA, u64 -> bm, wrap_u64 -> cH
open List renaming all_cons -> lD, append_assoc -> aZ, append_nil -> bH, cons -> lR, cons_append -> bK, drop -> eQ, drop_eq_getElem_cons -> aU, drop_eq_nil_of_le -> bU, drop_length -> aL, drop_zero -> aR, flatMap_cons -> jG, getD_cons_succ -> bh, getD_cons_zero -> bc, getD_eq_getElem?_getD -> aa, getElem?_append_left -> bn, getElem?_append_right -> bA, getElem?_eq_getElem -> af, getElem_mem -> bj, getElem_of_mem -> bJ, length_append -> ah, length_cons -> av, length_eq_zero_iff -> bR, length_map -> aX, length_nil -> aQ, length_replicate -> cQ, length_set -> cu, length_singleton -> aD, length_take -> ay, map_append -> bx, map_cons -> aP, mem_append -> an, mem_singleton -> bp, nil_append -> bw, replicate -> aq, singleton_append -> dO, take -> cj, take_length -> bo
open Nat renaming le_refl -> aM, lt_or_ge -> bP, mul_one -> dx, sub_zero -> iT, zero_add -> bB, zero_le -> bL
open Go.Op renaming bytesLess -> cx
open UInt8 renaming ofInt -> bM, ofNat -> wD
set_option maxRecDepth 100000
set_option maxHeartbeats 16000000
set_option linter.unusedSimpArgs false
set_option linter.unusedVariables false
namespace Go.Proofs.YtdafipacemgcoaaGreatDoor
open Go.Sy
open UInt8 renaming reduceLT -> Q0, reduceLE -> Q1
open Int renaming reduceToNat -> Q2, reduceLE -> Q3, reduceLT -> Q4, reduceEq -> Q5, reduceNe -> Q6, reduceNeg -> Q7, reduceAdd -> Q8, reduceSub -> Q9, reduceMul -> Qa
open Nat renaming reducePow -> Qb, reduceDiv -> Qc, reduceMod -> Qd, reduceAdd -> Qe, reduceSub -> Qf, reduceMul -> Qg, reduceLT -> Qh, reduceLeDiff -> Qi, reduceEqDiff -> Qj, reduceBEq -> Qk
def ev0:Ev:=⟨0,0,[],[]⟩
theorem kC(l:List Ev)(i:Nat)(h:i<l.length):l.drop i=l.getD i ev0::l.drop (i+1):=by rw[aU h,aa,af h];rfl
def jy:List Ev->Wk->Nat->Wk×Nat×Bool
 |[],w,i=>(w,i,true)
 |e::r,w,i=>if okW w e=true then jy r (stW w e) (i+1)else(w,i,false)
theorem xdi{w:Wk}{e:Ev}(h:okW w e=false):stW w e=w:=by unfold stW;rw[if_pos (.inl h)]
theorem gu(l:List Ev)(i:Nat)(h:i<l.length):(bD l).getD i []=(l.getD i ev0).sv:=mN l i h
theorem xgW:w0.sv=[.int .i64 0,.int .i64 0,.bool false,.bool false,.bool false,.bool false,.bool false,.bool false]:=rfl
def okP(ph nx:Int)(e:Ev):Bool:=
 decide (ph<=phR e)&&(decide (0<ph)||decide (phR e=1))&&(!decide (phR e=3)||decide (e.reg=nx))&&(!decide (3<phR e)||decide (nx=8))
def nxP(nx:Int)(e:Ev):Int:=if phR e=3 then ai.wrap (nx+1)else nx
def kr:List Ev->Int->Int->Nat->Int×Nat×Bool
 |[],ph,nx,i=>(ph,i,true)
 |e::r,ph,nx,i=>if phR e=0 then kr r ph nx (i+1)else if okP ph nx e=true then kr r (phR e) (nxP nx e) (i+1)else(ph,i,false)
theorem xev(e:Ev):phR e=0\/phR e=1\/phR e=2\/phR e=3\/phR e=4\/phR e=5\/phR e= -1:=by
 unfold phR;repeat' split
 all_goals simp
def wO(a z:Int)(evs:List Ev)(ph nx:Int)(i:Nat):CSt:=⟨[(1,.ptr 101 0),(5,.int .i64 ph),(6,.int .i64 nx),(7,.int .i64 i)],[(101,.rc [.int .i64 a,.int .i64 z,.lst 4 (bD evs) .no])],[]⟩
def TQ(a z:Int)(evs:List Ev)(ph:Int)(i:Nat):CSt:=⟨[(2,.int .i64 ph),(3,.int .i64 i),(4,.int .i64 41)],[(101,.rc [.int .i64 a,.int .i64 z,.lst 4 (bD evs) .no])],[]⟩
theorem s28(a z:Int)(evs:List Ev)(hl:evs.length<=1000000000000)(i:Nat)(ph nx:Int)(hi:i<evs.length)(hz:phR (evs.getD i ev0)≠0):
 run T (.loop mc) (wO a z evs ph nx i)=if okP ph nx (evs.getD i ev0)=true then run T (.loop mc) (wO a z evs (phR (evs.getD i ev0)) (nxP nx (evs.getD i ev0)) (i+1))else some (.r,TQ a z evs ph i):=by
 have e1:=bV i (by omega);have g:=f42 (evs.getD i ev0);have hp:=xev (evs.getD i ev0);have hg:=gu evs i hi;have hv:=bZ evs;unfold okP nxP;generalize evs.getD i ev0=e at*;obtain⟨r,k,d,b⟩:=e;simp only[Ev.sv]at hg g ⊢;generalize phR _=p at*;unfold wO TQ;rw[aj];rcases hp with rfl|rfl|rfl|rfl|rfl|rfl|rfl
 ·exact absurd rfl hz
 ·by_cases k1:ph<=1
  ·by_cases k2:0<ph<;>simp only[go_sem,Q4,Q5,Qe,Qh,Qi,Qj,Qk,reduceIte,hi,e1,hg,hv,jY,g,k1,k2]
  ·simp only[go_sem,Q4,Q5,Qe,Qh,Qi,Qj,Qk,reduceIte,hi,hg,hv,jY,g,k1]
 ·by_cases k1:ph<=2
  ·by_cases k2:0<ph<;>simp only[go_sem,Q4,Q5,Qe,Qh,Qi,Qj,Qk,reduceIte,hi,e1,hg,hv,jY,g,k1,k2]
  ·simp only[go_sem,Q4,Q5,Qe,Qh,Qi,Qj,Qk,reduceIte,hi,hg,hv,jY,g,k1]
 ·by_cases k1:ph<=3
  ·by_cases k2:0<ph
   ·by_cases k3:r=nx
    ·subst k3;simp only[go_sem,Q4,Q5,Qe,Qh,Qi,Qj,Qk,reduceIte,hi,e1,hg,hv,jY,g,k1,k2]
    ·simp only[go_sem,Q4,Q5,Qe,Qh,Qi,Qj,Qk,reduceIte,hi,hg,hv,jY,g,k1,k2,k3]
   ·simp only[go_sem,Q4,Q5,Qe,Qh,Qi,Qj,Qk,reduceIte,hi,hg,hv,jY,g,k1,k2]
  ·simp only[go_sem,Q4,Q5,Qe,Qh,Qi,Qj,Qk,reduceIte,hi,hg,hv,jY,g,k1]
 ·by_cases k1:ph<=4
  ·by_cases k2:0<ph
   ·by_cases k3:nx=8
    ·subst k3;simp only[go_sem,Q4,Q5,Q8,Qe,Qh,Qi,Qj,Qk,reduceIte,hi,e1,hg,hv,jY,g,k1,k2]
    ·simp only[go_sem,Q4,Q5,Qe,Qh,Qi,Qj,Qk,reduceIte,hi,hg,hv,jY,g,k1,k2,k3]
   ·simp only[go_sem,Q4,Q5,Qe,Qh,Qi,Qj,Qk,reduceIte,hi,hg,hv,jY,g,k1,k2]
  ·simp only[go_sem,Q4,Q5,Qe,Qh,Qi,Qj,Qk,reduceIte,hi,hg,hv,jY,g,k1]
 ·by_cases k1:ph<=5
  ·by_cases k2:0<ph
   ·by_cases k3:nx=8
    ·subst k3;simp only[go_sem,Q4,Q5,Q8,Qe,Qh,Qi,Qj,Qk,reduceIte,hi,e1,hg,hv,jY,g,k1,k2]
    ·simp only[go_sem,Q4,Q5,Qe,Qh,Qi,Qj,Qk,reduceIte,hi,hg,hv,jY,g,k1,k2,k3]
   ·simp only[go_sem,Q4,Q5,Qe,Qh,Qi,Qj,Qk,reduceIte,hi,hg,hv,jY,g,k1,k2]
  ·simp only[go_sem,Q4,Q5,Qe,Qh,Qi,Qj,Qk,reduceIte,hi,hg,hv,jY,g,k1]
 ·by_cases k1:ph<= -1
  ·by_cases k2:0<ph
   ·exact absurd k2 (by omega)
   ·simp only[go_sem,Q4,Q7,Qe,Qh,Qi,Qj,Qk,reduceCtorEq,reduceIte,hi,hg,hv,jY,g,k1,k2]
  ·simp only[go_sem,Q4,Q7,Qe,Qh,Qi,Qj,Qk,reduceCtorEq,reduceIte,hi,hg,hv,jY,g,k1]
theorem z28(a z:Int)(evs:List Ev)(hl:evs.length<=1000000000000)(i:Nat)(ph nx:Int)(hi:i<evs.length)(hz:phR (evs.getD i ev0)=0):
 run T (.loop mc) (wO a z evs ph nx i)=run T (.loop mc) (wO a z evs ph nx (i+1)):=by
 have e1:=bV i (by omega);have g:=f42 (evs.getD i ev0);have hg:=gu evs i hi;have hv:=bZ evs;generalize evs.getD i ev0=e at*;obtain⟨r,k,d,b⟩:=e;rw[hz]at g;simp only[Ev.sv]at hg g ⊢;unfold wO;rw[aj];simp only[go_sem,Qe,Qh,Qj,Qk,reduceIte,hi,e1,hg,hv,jY,g]
theorem l28(a z:Int)(evs:List Ev)(hl:evs.length<=1000000000000):∀(n i:Nat)(ph nx:Int),evs.length-i=n->i<=evs.length->
 run T (.loop mc) (wO a z evs ph nx i)=if(kr (evs.drop i) ph nx i).2.2=true then
  some (.x 0,⟨[(1,.ptr 101 0),(5,.int .i64 (kr (evs.drop i) ph nx i).1)],[(101,.rc [.int .i64 a,.int .i64 z,.lst 4 (bD evs) .no])],[]⟩)
  else some (.r,TQ a z evs (kr (evs.drop i) ph nx i).1 (kr (evs.drop i) ph nx i).2.1):=by
 intro n;induction n with
 |zero=>
  intro i ph nx h0 h1;have hi:i=evs.length:=by omega
  subst hi;have hv:=bZ evs;rw[aL,aj];unfold wO;simp only[go_sem,Qe,Qh,Qj,Qk,reduceIte,kr,hv]
 |succ n ih=>
  intro i ph nx h0 h1;have hi:i<evs.length:=by omega
  rw[kC evs i hi];unfold kr
  by_cases hz:phR (evs.getD i ev0)=0
  ·rw[if_pos hz,z28 a z evs hl i ph nx hi hz]
   exact ih (i+1) ph nx (by omega) (by omega)
  ·rw[if_neg hz,s28 a z evs hl i ph nx hi hz]
   by_cases ho:okP ph nx (evs.getD i ev0)=true
   ·rw[if_pos ho,if_pos ho]
    exact ih (i+1) _ _ (by omega) (by omega)
   ·rw[if_neg ho,if_neg ho];rfl
theorem f28(a z:Int)(evs:List Ev)(hl:evs.length<=1000000000000):call T 28 [.agg [.int .i64 a,.int .i64 z,.lst 4 (bD evs) .no]] [] 0=
 some ⟨.tup [.int .i64 (kr evs 0 0 0).1,.int .i64 (kr evs 0 0 0).2.1,.int .i64 (if(kr evs 0 0 0).2.2=true then 0 else 41)],[],[]⟩:=by
 have h:=l28 a z evs hl _ 0 0 0 rfl (by omega);simp only[aR,aB,wO,TQ]at h;rw[am xpw];have hv:=bZ evs
 have hat:(kr evs 0 0 0).2.2=true->(kr evs 0 0 0).2.1=evs.length:=by
  have key:∀(l:List Ev)(ph nx:Int)(i:Nat),(kr l ph nx i).2.2=true->(kr l ph nx i).2.1=i+l.length:=by
   intro l;induction l with
   |nil=>intro ph nx i _;rfl
   |cons e r ih=>
    intro ph nx i h;unfold kr at h ⊢
    by_cases hz:phR e=0
    ·rw[if_pos hz]at h ⊢;rw[ih _ _ _ h,av];omega
    ·rw[if_neg hz]at h ⊢
     by_cases ho:okP ph nx e=true
     ·rw[if_pos ho]at h ⊢;rw[ih _ _ _ h,av];omega
     ·rw[if_neg ho]at h;cases h
  intro h;rw[key _ _ _ _ h];omega
 cases hr:(kr evs 0 0 0).2.2 with
 |true=>rw[if_pos hr]at h;have hat':=hat hr;simp only[go_sem,Qe,Qh,Qi,Qj,Qk,reduceCtorEq,reduceIte,hv,h,hat']
 |false=>rw[if_neg (by rw[hr];simp)]at h;simp only[go_sem,Qe,Qh,Qi,Qj,Qk,reduceCtorEq,reduceIte,h]
theorem p6:∀(l:List Ev)(w:Wk)(i:Nat),0<=w.ph->0<=w.nx->w.nx<=1000000000000->w.s1=decide (0<w.ph)->l.length+w.nx.toNat<=1000000000000->
 (jy l w i).1.ph=(kr l w.ph w.nx i).1/\(jy l w i).2=(kr l w.ph w.nx i).2
 |[],w,i,_,_,_,_,_=>⟨rfl,rfl⟩
 |e::r,w,i,h1,h2,h3,h4,h5=>by
  unfold jy kr;rw[av]at h5
  by_cases hk:e.kind=5
  ·have e0:phR e=0:=by unfold phR;rw[if_pos hk]
   have eo:okW w e=true:=by unfold okW;rw[if_pos hk]
   have es:stW w e=w:=by unfold stW;rw[if_pos (.inr hk)]
   rw[if_pos e0,if_pos eo,es];exact p6 r w (i+1) h1 h2 h3 h4 (by omega)
  ·have hR:phR e=0->False:=by
    unfold phR;rw[if_neg hk];repeat' split
    all_goals simp
   have hPR:(phP e=0/\(phR e= -1\/(phR e=3/\e.reg<0)))\/(phP e≠0/\phR e=phP e):=by
    unfold phP phR;rw[if_neg hk];repeat' split
    all_goals simp_all
    all_goals omega
   have hle:=OM e;rw[if_neg hR]
   have hw:okW w e=okP w.ph w.nx e:=by
    unfold okW okP;rw[if_neg hk,h4,du];simp only[az,dt,decide_eq_true_eq,cR,decide_eq_false_iff_not]
    repeat' split
    all_goals simp only[true_iff,false_iff,aH]
    all_goals omega
   by_cases ho:okP w.ph w.nx e=true
   ·have hs:stW w e= {ph:=phP e,nx:=if phP e=3 then ai.wrap (w.nx+1)else w.nx,s0:=w.s0,s1:=w.s1||decide (phP e=1),s2:=w.s2||decide (phP e=2),s3:=w.s3||decide (phP e=3),s4:=w.s4||decide (phP e=4),s5:=w.s5||decide (phP e=5)}:=by
     unfold stW;rw[if_neg (by rw[hw,ho];simp[hk])]
    have hx:=w64 (n:=w.nx+1) (by omega) (by omega);rw[if_pos ho,if_pos (hw.trans ho)];unfold okP at ho;simp only[az,dt,decide_eq_true_eq,cR,decide_eq_false_iff_not]at ho
    have hRP:phR e=phP e:=by
     rcases hPR with⟨h6,h7⟩|⟨_,h7⟩
     ·omega
     ·exact h7
    have ih:=p6 r (stW w e) (i+1) (by rw[hs];dsimp only;omega) (by rw[hs];dsimp only;split<;>omega)
     (by rw[hs];dsimp only;split<;>omega)
     (by rw[hs];show(w.s1||decide (phP e=1))=decide (0<phP e);rw[h4,decide_eq_true (show 0<phP e by omega),dt,decide_eq_true_eq,decide_eq_true_eq];omega)
     (by rw[hs];dsimp only;split<;>omega)
    have e1:(stW w e).ph=phR e:=by rw[hs,hRP]
    have e2:(stW w e).nx=nxP w.nx e:=by rw[hs];unfold nxP;rw[hRP]
    rw[e1,e2]at ih;exact ih
   ·rw[if_neg ho,if_neg (by rw[hw];exact ho)]
    exact⟨rfl,rfl⟩
theorem AK:∀(l:List Ev)(w:Wk)(i:Nat),(jy l w i).2.2=true->(jy l w i).1.s4=(w.s4||l.any fun e=>decide (phR e=4))
 |[],w,i,_=>by simp[jy]
 |e::r,w,i,h=>by
  unfold jy at h ⊢
  by_cases ho:okW w e=true
  ·rw[if_pos ho]at h ⊢
   rw[AK r _ _ h,List.any_cons,<-Bool.or_assoc]
   congr 1
   by_cases hk:e.kind=5
   ·have e0:phR e=0:=by unfold phR;rw[if_pos hk]
    have es:stW w e=w:=by unfold stW;rw[if_pos (.inr hk)]
    rw[es,e0];simp
   ·unfold stW
    rw[if_neg (by rw[ho];simp[hk])];show(w.s4||decide (phP e=4))=_
    congr 1
    unfold phP phR;rw[if_neg hk]
    repeat' split
    all_goals simp_all
  ·rw[if_neg ho]at h;cases h
structure Img where
 role:Int
 name:List UInt8
 ver:Int
 pay:List UInt8
def Img.sv(x:Img):List SV:=[.int .i64 x.role,.str x.name,.int .i64 x.ver,.byt x.pay .no]
theorem l95(s:List UInt8)(hs:s.length<=1000000000000):∀(n i:Nat),s.length-i=n->i<=s.length->
 run T (.loop Pu) ⟨[(0,.str s),(3,.int .i64 i)],[],[]⟩=if(s.drop i).all Pr.okc=true then some (.x 0,⟨[],[],[]⟩)else some (.r,⟨[(2,.bool false)],[],[]⟩):=by
 intro n;induction n with
 |zero=>
  intro i h0 h1;have hi:i=s.length:=by omega
  subst hi;rw[aj,aL];simp only[go_sem,Qh,Qj,Qk,reduceCtorEq,reduceIte]
 |succ n ih=>
  intro i h0 h1;have hi:i<s.length:=by omega
  have e1:=bV i (by omega);have ih':=ih (i+1) (by omega) (by omega);rw[aj,cV s i hi,lD];unfold Pr.okc at ih' ⊢;generalize hc:s.getD i 0=c at*;generalize List.all (eQ (i+1) s) _=q at*
  by_cases a1:c<97
  ·by_cases a3:c<48
   ·by_cases a5:c=45
    ·subst a5;simp only[go_sem,Q0,Qh,Qj,Qk,reduceCtorEq,reduceIte,hi,hc,e1,ih']
    ·simp only[go_sem,Qh,Qj,Qk,reduceCtorEq,reduceIte,hi,hc,a1,a3,a5]
   ·by_cases a4:57<c
    ·by_cases a5:c=45
     ·subst a5;simp only[go_sem,Q0,Qh,Qj,Qk,reduceCtorEq,reduceIte,hi,hc,e1,ih']
     ·simp only[go_sem,Qh,Qj,Qk,reduceCtorEq,reduceIte,hi,hc,a1,a3,a4,a5]
    ·simp only[go_sem,Qh,Qj,Qk,reduceCtorEq,reduceIte,hi,hc,e1,a1,a3,a4,ih']
  ·by_cases a2:122<c
   ·by_cases a3:c<48
    ·exact absurd a3 (by intro h;have:=UInt8.lt_trans a2 h;revert this;decide)
    ·by_cases a4:57<c
     ·by_cases a5:c=45
      ·subst a5;simp only[go_sem,Q0,Qh,Qj,Qk,reduceCtorEq,reduceIte,hi,hc,e1,ih']
      ·simp only[go_sem,Qh,Qj,Qk,reduceCtorEq,reduceIte,hi,hc,a1,a2,a3,a4,a5]
     ·simp only[go_sem,Qh,Qj,Qk,reduceCtorEq,reduceIte,hi,hc,e1,a1,a2,a3,a4,ih']
   ·simp only[go_sem,Qh,Qj,Qk,reduceCtorEq,reduceIte,hi,hc,e1,a1,a2,ih']
theorem f95(s:List UInt8)(hs:s.length<=1000000000000):call T 95 [.str s] [] 0=some ⟨.bool (Pr.nameB s),[],[]⟩:=by
 have h:=l95 s hs _ 0 rfl (by omega);simp only[aB,aR]at h;rw[am xoG];unfold Pr.nameB
 by_cases h1:s.length<1
 ·have h1':(s.length:Int)<1:=by omega
  simp only[go_sem,Qh,Qi,Qj,Qk,reduceCtorEq,reduceIte,h1,h1']
 ·have h1':¬(s.length:Int)<1:=by omega
  by_cases h2:12<s.length
  ·have h2':(12:Int)<s.length:=by omega
   simp only[go_sem,Qh,Qi,Qj,Qk,reduceCtorEq,reduceIte,h1,h1',h2,h2']
  ·have h2':¬(12:Int)<s.length:=by omega
   cases hq:s.all Pr.okc with
   |true=>rw[if_pos hq]at h;simp only[go_sem,Qh,Qi,Qj,Qk,reduceCtorEq,reduceIte,h1,h1',h2,h2',h]
   |false=>rw[if_neg (by rw[hq];simp)]at h;simp only[go_sem,Qh,Qi,Qj,Qk,reduceCtorEq,reduceIte,h1,h1',h2,h2',h]
def lnF:List UInt8->List (List UInt8)->List UInt8->Option (List (List UInt8)×List UInt8)
 |[],o,l=>some (o,l)
 |c::r,o,l=>if c=10 then(if(l.length:Int)=0 then none else if(4:Int)<=o.length then none else lnF r (o++ [l]) [])else if c<32 then none else if 126<c then none else lnF r o (l++ [c])
def gg(p:List UInt8):List (List UInt8):=match lnF p [] []with
 |some (o,l)=>if(0:Int)<l.length then []else o
 |none=> []
theorem eW(l:List (List UInt8)):(bls l).length=l.length:=aX ..
theorem Tk(l:List (List UInt8))(d:List UInt8):bls (l++ [d])=bls l++ [[.byt d .no]]:=by simp[bls]
theorem l79(ro:Int)(na:List UInt8)(ve:Int)(p:List UInt8)(hp:p.length<=1000000000000):∀(n i:Nat)(o:List (List UInt8))(l:List UInt8),p.length-i=n->i<=p.length->l.length<=i->o.length<=4->
 run T (.loop yC) ⟨[(1,.ptr 101 0),(3,.lst 1 (bls o) (.id 103)),(4,.byt l (.id 104)),(5,.int .i64 i)],[(101,.rc [.int .i64 ro,.str na,.int .i64 ve,.byt p .no])],[103,104]⟩=
 match lnF (p.drop i) o l with
 |some (o',l')=>some (.x 0,⟨[(3,.lst 1 (bls o') (.id 103)),(4,.byt l' (.id 104))],[(101,.rc [.int .i64 ro,.str na,.int .i64 ve,.byt p .no])],[103,104]⟩)
 |none=>some (.r,⟨[(2,.lst 1 [] .clip)],[(101,.rc [.int .i64 ro,.str na,.int .i64 ve,.byt p .no])],[103,104]⟩):=by
 intro n;induction n with
 |zero=>
  intro i o l h0 h1 h2 h3;have hi:i=p.length:=by omega
  subst hi;rw[aj,aL];simp only[go_sem,Qe,Qh,Qj,Qk,reduceIte,lnF]
 |succ n ih=>
  intro i o l h0 h1 h2 h3;have hi:i<p.length:=by omega
  have e1:=bV i (by omega);have hb:=eW o;rw[aj,cV p i hi];unfold lnF;generalize hc:p.getD i 0=c at*;have c1:l.length+1<=140737488355328:=by omega
  have c2:(o.length+1)*24<=140737488355328:=by omega
  by_cases a1:c=10
  ·subst a1
   by_cases a2:(l.length:Int)=0
   ·simp only[go_sem,Q0,Qe,Qh,Qj,Qk,reduceIte,hi,hc,a2]
   ·by_cases a3:(4:Int)<=o.length
    ·simp only[go_sem,Q0,Qe,Qh,Qj,Qk,reduceIte,hi,hc,a2,a3,hb]
    ·have ih':=ih (i+1) (o++ [l]) [] (by omega) (by omega) (by simp) (by rw[ah,aD];omega)
     rw[Tk]at ih';simp only[go_sem,Q0,Qe,Qh,Qi,Qj,Qk,reduceIte,hi,hc,e1,a2,a3,hb,c2,ih']
  ·have ih':=ih (i+1) o (l++ [c]) (by omega) (by omega) (by rw[ah,aD];omega) h3
   by_cases a2:c<32
   ·simp only[go_sem,Qe,Qh,Qi,Qj,Qk,reduceIte,hi,hc,a1,a2]
   ·by_cases a3:126<c
    ·simp only[go_sem,Qe,Qh,Qi,Qj,Qk,reduceIte,hi,hc,a1,a2,a3]
    ·simp only[go_sem,Qe,Qh,Qi,Qj,Qk,reduceIte,hi,hc,e1,a1,a2,a3,c1,ih']
theorem f79(x:Img)(hp:x.pay.length<=1000000000000):call T 79 [.agg x.sv] [] 0=some ⟨.lst 1 (bls (gg x.pay)) .no,[],[]⟩:=by
 obtain⟨ro,na,ve,p⟩:=x;have h:=l79 ro na ve p hp _ 0 [] [] rfl (by omega) (by simp) (by simp);simp only[aB,aR]at h;have hb:bls []=[]:=rfl;rw[hb]at h;rw[am xoV];unfold gg Img.sv;cases hq:lnF p [] []with
 |none=>rw[hq]at h;simp only[go_sem,Qe,Qh,Qi,Qj,Qk,reduceCtorEq,reduceIte,h,hb]
 |some q=>
  obtain⟨o,l⟩:=q;rw[hq]at h
  by_cases h1:(0:Int)<l.length
  ·simp only[go_sem,Qe,Qh,Qi,Qj,Qk,reduceCtorEq,reduceIte,h,hb,h1]
  ·simp only[go_sem,Qe,Qh,Qi,Qj,Qk,reduceCtorEq,reduceIte,h,h1]
def gK(x:Img):Int:=
 if x.role<1 then 1 else if 4<x.role then 1 else if x.ver<0 then 1 else if 1000000<x.ver then 1 else if Pr.nameB x.name=false then 43 else if(64:Int)<x.pay.length then 4 else if x.role=4 then(if((gg x.pay).length:Int)=0 then 40 else 0)else 0
theorem f81(x:Img)(hn:x.name.length<=1000000000000)(hp:x.pay.length<=1000000000000):call T 81 [.agg x.sv] [] 0=some ⟨.int .i64 (gK x),[],[]⟩:=by
 have g1:=f95 x.name hn;have g2:=f79 x hp;obtain⟨ro,na,ve,p⟩:=x;have hb:=eW (gg p);simp only[Img.sv]at g1 g2 ⊢;rw[am xoT];unfold gK
 by_cases a1:ro<1
 ·simp only[go_sem,Qe,Qh,Qi,Qj,Qk,reduceCtorEq,reduceIte,a1]
 by_cases a2:4<ro
 ·simp only[go_sem,Qe,Qh,Qi,Qj,Qk,reduceCtorEq,reduceIte,a1,a2]
 by_cases a3:ve<0
 ·simp only[go_sem,Qe,Qh,Qi,Qj,Qk,reduceCtorEq,reduceIte,a1,a2,a3]
 by_cases a4:1000000<ve
 ·simp only[go_sem,Qe,Qh,Qi,Qj,Qk,reduceCtorEq,reduceIte,a1,a2,a3,a4]
 cases a5:Pr.nameB na with
 |false=>rw[a5]at g1;simp only[go_sem,Qe,Qh,Qi,Qj,Qk,reduceCtorEq,reduceIte,a1,a2,a3,a4,g1,kG]
 |true=>
  rw[a5]at g1
  by_cases a6:(64:Int)<p.length
  ·simp only[go_sem,Qe,Qh,Qi,Qj,Qk,reduceCtorEq,reduceIte,a1,a2,a3,a4,g1,kG,a6]
  by_cases a7:ro=4
  ·subst a7
   by_cases a8:((gg p).length:Int)=0
   ·simp only[go_sem,Qe,Qh,Qi,Qj,Qk,reduceCtorEq,reduceIte,a1,a2,a3,a4,g1,kG,a6,g2,xgB,hb,a8]
   ·simp only[go_sem,Qe,Qh,Qi,Qj,Qk,reduceCtorEq,reduceIte,a1,a2,a3,a4,g1,kG,a6,g2,xgB,hb,a8]
  ·simp only[go_sem,Qe,Qh,Qi,Qj,Qk,reduceCtorEq,reduceIte,a1,a2,a3,a4,g1,kG,a6,a7]
def wu(a b:Int):Int:=if a<b then-1 else if b<a then 1 else 0
theorem xl9(a:Int):call T 153 [.int .i64 a] [] 0=some ⟨.bool false,[],[]⟩:=by rw[am xjS];simp only[go_sem,Qh,Qi,Qj,Qk,reduceCtorEq,reduceIte]
theorem xmh(a b:Int):call T 122 [.int .i64 a,.int .i64 b] [] 0=some ⟨.int .i64 (wu a b),[],[]⟩:=by
 have g1:=xl9 a;have g2:=xl9 b;rw[am xka];unfold wu
 by_cases h1:a<b
 ·simp only[go_sem,Q7,Qe,Qh,Qi,Qj,Qk,reduceCtorEq,reduceIte,g1,g2,QG,h1]
 ·by_cases h2:b<a
  ·simp only[go_sem,Q7,Qe,Qh,Qi,Qj,Qk,reduceCtorEq,reduceIte,g1,g2,QG,h1,h2]
  ·simp only[go_sem,Q7,Qe,Qh,Qi,Qj,Qk,reduceCtorEq,reduceIte,g1,g2,QG,h1,h2]
theorem f61(a b:List UInt8):call T 61 [.byt a .no,.byt b .no] [] 0=some ⟨.int .i64 (Lib.compareBytes a b),[],[]⟩:=by rw[i6 xo4];rfl
theorem xn5(a b:List UInt8):call T 154 [.str a,.str b] [] 0=some ⟨.int .i64 (Lib.compareBytes a b),[],[]⟩:=by rw[i6 xjR];rfl
theorem xoh(a:List UInt8):call T 111 [.str a] [] 0=some ⟨.bool (Pr.nameB a),[],[]⟩:=by rw[i6 xki];rfl
theorem xod(a b:List UInt8):call T 123 [.str a,.str b] [] 0=some ⟨.int .i64 (Lib.compareBytes a b),[],[]⟩:=by have g:=xn5 a b;rw[am xj9];simp only[go_sem,Qe,Qh,Qi,Qj,Qk,reduceCtorEq,reduceIte,g,xkt]
def orI(a b c d:Int):Int:=if a≠0 then a else if b≠0 then b else if c≠0 then c else d
theorem xoe(a b c d:Int):call T 121 [.lst 1 [[.int .i64 a],[.int .i64 b],[.int .i64 c],[.int .i64 d]] .no] [] 0=some ⟨.int .i64 (orI a b c d),[],[]⟩:=by
 have k1:ai.wrap 1=1:=rfl;have k2:ai.wrap 2=2:=rfl;have k3:ai.wrap 3=3:=rfl;have k4:ai.wrap 4=4:=rfl;rw[am xkb];unfold orI
 by_cases h1:a=0
 ·subst h1
  by_cases h2:b=0
  ·subst h2
   by_cases h3:c=0
   ·subst h3
    by_cases h4:d=0
    ·subst h4
     simp only[go_sem,Qe,Qh,Qi,Qj,Qk,reduceCtorEq,reduceIte]
     iterate 5
      rw[aj];simp only[go_sem,Q2,Q3,Q4,Q8,Qe,Qh,Qj,Qk,reduceIte,k1,k2,k3,k4]
    ·simp only[go_sem,Qe,Qh,Qi,Qj,Qk,reduceCtorEq,reduceIte]
     iterate 4
      rw[aj];simp only[go_sem,Q2,Q3,Q4,Q8,Qe,Qh,Qj,Qk,reduceIte,k1,k2,k3,h4]
   ·simp only[go_sem,Qe,Qh,Qi,Qj,Qk,reduceCtorEq,reduceIte]
    iterate 3
     rw[aj];simp only[go_sem,Q2,Q3,Q4,Q8,Qe,Qh,Qj,Qk,reduceIte,k1,k2,h3]
  ·simp only[go_sem,Qe,Qh,Qi,Qj,Qk,reduceCtorEq,reduceIte]
   iterate 2
    rw[aj];simp only[go_sem,Q2,Q3,Q4,Q8,Qe,Qh,Qj,Qk,reduceIte,k1,h2]
 ·simp only[go_sem,Qe,Qh,Qi,Qj,Qk,reduceCtorEq,reduceIte]
  rw[aj];simp only[go_sem,Q2,Q3,Q4,Qe,Qh,Qj,Qk,reduceIte,h1]
structure Ent where
 role:Int
 name:List UInt8
 ver:Int
 dig:List UInt8
def Ent.sv(x:Ent):List SV:=[.int .i64 x.role,.str x.name,.int .i64 x.ver,.byt x.dig .no]
def Fo(x y:Ent):Int:=orI (wu x.role y.role) (Lib.compareBytes x.name y.name) (wu x.ver y.ver) (Lib.compareBytes x.dig y.dig)
theorem f72(x y:Ent):call T 72 [.agg x.sv,.agg y.sv] [] 0=some ⟨.int .i64 (Fo x y),[],[]⟩:=by have g1:=xmh x.role y.role;have g2:=xod x.name y.name;have g3:=xmh x.ver y.ver;have g4:=f61 x.dig y.dig;have g5:=xoe (wu x.role y.role) (Lib.compareBytes x.name y.name) (wu x.ver y.ver) (Lib.compareBytes x.dig y.dig);obtain⟨r,n,v,d⟩:=x;obtain⟨r2,n2,v2,d2⟩:=y;simp only[Ent.sv]at*;rw[am xo0];unfold Fo;simp only[go_sem,Qb,Qc,Qd,Qe,Qh,Qi,Qj,Qk,reduceCtorEq,reduceIte,g1,xkB,g2,xkA,g3,g4,Ty,g5,xkC]
def lsF:List UInt8->List UInt8->Option Bool
 |a::x,b::y=>if a=b then lsF x y else some (decide (a<b))
 |_,_=>none
theorem vJ:∀x y:List UInt8,cx x y=match lsF x y with|some q=>q|none=>decide (x.length<y.length)
 |[],[]=>by simp[lsF,cx]
 |[],_::_=>by simp[lsF,cx]
 |_::_,[]=>by simp[lsF,cx]
 |a::x,b::y=>by
  unfold lsF cx
  by_cases h:a=b
  ·subst h
   rw[if_pos rfl,vJ x y];have:¬a<a:=UInt8.lt_irrefl a;simp[this]
  ·rw[if_neg h]
   simp[h]
theorem l63(a b:List UInt8)(ha:a.length<=1000000000000):∀(n i:Nat),a.length-i=n->i<=a.length->i<=b.length->
 run T (.loop PE) ⟨[(0,.byt a .no),(1,.byt b .no),(5,.int .i64 i)],[],[]⟩=
 match lsF (a.drop i) (b.drop i)with
 |some q=>some (.r,⟨[(4,.bool q)],[],[]⟩)
 |none=>some (.x 0,⟨[(0,.byt a .no),(1,.byt b .no)],[],[]⟩):=by
 intro n;induction n with
 |zero=>
  intro i h0 h1 h2;have:i=a.length:=by omega
  subst this;have e:lsF [] (b.drop a.length)=none:=by unfold lsF;rfl
  rw[aj,aL,e];simp only[go_sem,Qh,Qj,Qk,reduceCtorEq,reduceIte]
 |succ n ih=>
  intro i h0 h1 h2;have hi:i<a.length:=by omega
  have e1:=bV i (by omega);rw[aj,cV a i hi]
  by_cases hj:i<b.length
  ·have ih':=ih (i+1) (by omega) (by omega) (by omega)
   rw[cV b i hj];unfold lsF
   by_cases hc:a.getD i 0=b.getD i 0
   ·rw[if_pos hc]
    simp only[go_sem,Qh,Qj,Qk,reduceCtorEq,reduceIte,hi,hj,e1,hc,ih']
   ·rw[if_neg hc]
    simp only[go_sem,Qh,Qj,Qk,reduceCtorEq,reduceIte,hi,hj,hc]
  ·have hb:b.drop i=[]:=bU (by omega)
   have e:lsF (a.getD i 0::a.drop (i+1)) []=none:=by unfold lsF;rfl
   rw[hb,e];simp only[go_sem,Qh,Qj,Qk,reduceCtorEq,reduceIte,hi,hj]
theorem f63(a b:List UInt8)(ha:a.length<=1000000000000):call T 63 [.byt a .no,.byt b .no] [] 0=some ⟨.bool (cx a b),[],[]⟩:=by
 have h:=l63 a b ha _ 0 rfl (by omega) (by omega);simp only[aB,aR]at h;rw[am xo3,vJ];cases hq:lsF a b with
 |some q=>rw[hq]at h;simp only[go_sem,Qe,Qh,Qi,Qj,Qk,reduceCtorEq,reduceIte,h]
 |none=>rw[hq]at h;simp only[go_sem,Qe,Qh,Qi,Qj,Qk,reduceCtorEq,reduceIte,h]
def oQ(x y:Ent):Bool:=if x.role=y.role then(if x.name=y.name then(if x.ver=y.ver then cx x.dig y.dig else decide (x.ver<y.ver))else cx x.name y.name)else decide (x.role<y.role)
theorem f84(x y:Ent)(hx:x.dig.length<=1000000000000):call T 84 [.agg x.sv,.agg y.sv] [] 0=some ⟨.bool (oQ x y),[],[]⟩:=by
 have g:=f63 x.dig y.dig hx;obtain⟨r,n,v,d⟩:=x;obtain⟨r2,n2,v2,d2⟩:=y;simp only[Ent.sv]at*;rw[am xoQ];unfold oQ
 by_cases h1:r=r2
 ·by_cases h2:n=n2
  ·by_cases h3:v=v2
   ·simp only[go_sem,Qe,Qh,Qi,Qj,Qk,reduceCtorEq,reduceIte,h1,h2,h3,g,xgD]
   ·simp only[go_sem,Qe,Qh,Qi,Qj,Qk,reduceCtorEq,reduceIte,h1,h2,h3]
  ·simp only[go_sem,Qe,Qh,Qi,Qj,Qk,reduceCtorEq,reduceIte,h1,h2]
 ·simp only[go_sem,Qe,Qh,Qi,Qj,Qk,reduceCtorEq,reduceIte,h1]
theorem kU:∀x y:List UInt8,Lib.compareBytes x y<0↔cx x y=true
 |[],[]=>by simp[Lib.compareBytes,cx]
 |[],_::_=>by simp[Lib.compareBytes,cx]
 |_::_,[]=>by simp[Lib.compareBytes,cx]
 |a::x,b::y=>by
  unfold Lib.compareBytes cx;have ih:=kU x y
  by_cases h1:a<b
  ·simp[h1]
  ·by_cases h2:b<a
   ·have h3:¬a=b:=by intro e;subst e;exact h1 h2
    simp[h1,h2,h3]
   ·have h3:a=b:=UInt8.le_antisymm (UInt8.not_lt.1 h2) (UInt8.not_lt.1 h1)
    subst h3;simp[h1,ih]
theorem nj:∀x y:List UInt8,Lib.compareBytes x y=0↔x=y
 |[],[]=>by simp[Lib.compareBytes]
 |[],_::_=>by simp[Lib.compareBytes]
 |_::_,[]=>by simp[Lib.compareBytes]
 |a::x,b::y=>by
  unfold Lib.compareBytes;have ih:=nj x y
  by_cases h1:a<b
  ·have h3:¬a=b:=by intro e;subst e;exact UInt8.lt_irrefl a h1
   simp[h1,h3]
  ·by_cases h2:b<a
   ·have h3:¬a=b:=by intro e;subst e;exact h1 h2
    simp[h1,h2,h3]
   ·have h3:a=b:=UInt8.le_antisymm (UInt8.not_lt.1 h2) (UInt8.not_lt.1 h1)
    subst h3;simp[h1,ih]
theorem Dd(a b:Int):wu a b<0↔a<b:=by
 unfold wu;repeat' split
 all_goals omega
theorem pL(a b:Int):wu a b=0↔a=b:=by
 unfold wu;repeat' split
 all_goals omega
theorem R7(x y:Ent):Fo x y<0↔oQ x y=true:=by
 unfold Fo orI oQ
 by_cases h1:x.role=y.role
 ·rw[if_neg (by simp[pL,h1]),if_pos h1]
  by_cases h2:x.name=y.name
  ·rw[if_neg (by simp[nj,h2]),if_pos h2]
   by_cases h3:x.ver=y.ver
   ·rw[if_neg (by simp[pL,h3]),if_pos h3];exact kU _ _
   ·rw[if_pos (by simp[pL,h3]),if_neg h3,decide_eq_true_eq];exact Dd _ _
  ·rw[if_pos (by simp[nj,h2]),if_neg h2];exact kU _ _
 ·rw[if_pos (by simp[pL,h1]),if_neg h1,decide_eq_true_eq];exact Dd _ _
theorem xnR(s:List UInt8):call T 68 [.agg [.int .i64 1,.str s,.int .i64 0,.byt [] .no]] [] 0=some ⟨.int .i64 (if Pr.nameB s=true then 0 else 43),[],[]⟩:=by
 have g:=xoh s;rw[am xo1];cases h:Pr.nameB s with
 |true=>rw[h]at g;simp only[go_sem,Q4,Q5,Qe,Qh,Qi,Qj,Qk,reduceCtorEq,reduceIte,g,xbX]
 |false=>rw[h]at g;simp only[go_sem,Q4,Q5,Qe,Qh,Qi,Qj,Qk,reduceCtorEq,reduceIte,g,xbX]
theorem f89(s:List UInt8):call T 89 [.str s] [] 0=some ⟨.bool (Pr.nameB s),[],[]⟩:=by
 have g:=xnR s;rw[am xoM];cases h:Pr.nameB s with
 |true=>rw[h]at g;simp only[go_sem,Qe,Qh,Qi,Qj,Qk,reduceCtorEq,reduceIte,g,xmA]
 |false=>rw[h]at g;simp only[go_sem,Q5,Qe,Qh,Qi,Qj,Qk,reduceCtorEq,reduceIte,g,xmA]
structure Rul where
 kind:Int
 text:List UInt8
 lo:Int
 hi:Int
def Rul.sv(r:Rul):List SV:=[.int .i64 r.kind,.str r.text,.int .i64 r.lo,.int .i64 r.hi]
structure Man where
 vendor:List UInt8
 ver:Int
 flr:Int
 frm:Int
 til:Int
 ents:List Ent
 ruls:List Rul
def dC(l:List Ent):List (List SV):=l.map Ent.sv
def eP(l:List Rul):List (List SV):=l.map Rul.sv
def Man.sv(m:Man):List SV:=[.str m.vendor,.int .i64 m.ver,.int .i64 m.flr,.int .i64 m.frm,.int .i64 m.til,.lst 4 (dC m.ents) .no,.lst 4 (eP m.ruls) .no]
def en0:Ent:=⟨0,[],0,[]⟩
def rl0:Rul:=⟨0,[],0,0⟩
theorem cT(l:List Ent):(dC l).length=l.length:=aX ..
theorem dP(l:List Rul):(eP l).length=l.length:=aX ..
theorem fx(l:List Ent)(i:Nat)(h:i<l.length):(dC l).getD i []=(l.getD i en0).sv:=by simp[dC,aa,h]
theorem ja(l:List Rul)(i:Nat)(h:i<l.length):(eP l).getD i []=(l.getD i rl0).sv:=by simp[eP,aa,h]
structure eX(m:Man):Prop where
 v:m.vendor.length<=1000000
 en:m.ents.length<=1000000
 rn:m.ruls.length<=1000000
 e:∀x∈m.ents,x.name.length<=1000000/\x.dig.length<=1000000
 r:∀x∈m.ruls,x.text.length<=1000000
theorem bG{α:Type}(l:List α)(d:α)(i:Nat)(h:i<l.length):l.getD i d∈l:=by rw[aa,af h];exact bj _
def lw(l:List Ent)(i:Nat):Int:=
 if(l.getD i en0).role<1 then 1 else if 3<(l.getD i en0).role then 1 else if(l.getD i en0).ver<0 then 1 else if 1000000<(l.getD i en0).ver then 1
 else if((l.getD i en0).dig.length:Int)=32 then(if Pr.nameB (l.getD i en0).name=true then(if i=0 then 0 else if oQ (l.getD (i-1) en0) (l.getD i en0)=true then 0 else 41)else 43)else 1
def gD(l:List Ent):Nat->Nat->Int
 |0,_=>0
 |n+1,i=>if lw l i=0 then gD l n (i+1)else lw l i
def AM(r:Rul):Int:=chk r.kind r.text r.lo r.hi
def jL:List Rul->Int
 |[]=>0
 |r::t=>if AM r=0 then jL t else AM r
def lq(m:Man):Int:=
 if Pr.nameB m.vendor=true then
  (if m.flr<0 then 1 else if m.ver<m.flr then 1 else if 1000000<m.ver then 1 else if m.frm<0 then 1 else if m.til<=m.frm then 1 else if 1099511627776<m.til then 1
  else if(16:Int)<m.ents.length then 4 else if(8:Int)<m.ruls.length then 4 else if gD m.ents m.ents.length 0=0 then jL m.ruls else gD m.ents m.ents.length 0)
 else 43
def AD(m:Man)(i:Nat):CSt:=⟨[(1,.ptr 101 0),(58,.lst 4 (dC m.ents) .no),(59,.int .i64 m.ents.length),(60,.int .i64 i)],[(101,.rc m.sv)],[]⟩
theorem s44(m:Man)(hm:eX m)(i:Nat)(hi:i<m.ents.length):
 (lw m.ents i=0->run T (.loop l6) (AD m i)=run T (.loop l6) (AD m (i+1)))/\
 (lw m.ents i≠0->∃ob,run T (.loop l6) (AD m i)=some (.r,⟨[(2,.int .i64 (lw m.ents i))],ob,[]⟩)):=by
 have e1:=bV i (by have:=hm.en;omega);have hv:=cT m.ents;have hg:=fx m.ents i hi;have g1:=f89 (m.ents.getD i en0).name;have g2:=f72 (m.ents.getD (i-1) en0) (m.ents.getD i en0);have hb:=R7 (m.ents.getD (i-1) en0) (m.ents.getD i en0);have es:0<i->ai.wrap ((i:Int)-1)=((i-1:Nat):Int):=fun h=>by rw[w64 (by omega) (by have:=hm.en;omega)];omega
 have hi1:i-1<m.ents.length:=by omega
 have hg1:=fx m.ents (i-1) hi1;unfold lw;obtain⟨mv,m1,m2,m3,m4,es0,rs⟩:=m;simp only[AD,Man.sv]at*;generalize es0.getD i en0=x at*;generalize es0.getD (i-1) en0=y at*;obtain⟨r,n,v,d⟩:=x;obtain⟨r2,n2,v2,d2⟩:=y;simp only[Ent.sv]at*
 by_cases a1:r<1
 ·refine⟨fun h=>by simp[a1]at h,fun _=>⟨[(101,.rc [.str mv,.int .i64 m1,.int .i64 m2,.int .i64 m3,.int .i64 m4,.lst 4 (dC es0) .no,.lst 4 (eP rs) .no]),(104,.rc [.int .i64 r,.str n,.int .i64 v,.byt d .no])], ?_⟩⟩
  rw[aj];simp only[go_sem,Qe,Qh,Qi,Qj,Qk,reduceIte,hi,hv,hg,a1]
 by_cases a2:3<r
 ·refine⟨fun h=>by simp[a1,a2]at h,fun _=>⟨[(101,.rc [.str mv,.int .i64 m1,.int .i64 m2,.int .i64 m3,.int .i64 m4,.lst 4 (dC es0) .no,.lst 4 (eP rs) .no]),(104,.rc [.int .i64 r,.str n,.int .i64 v,.byt d .no])], ?_⟩⟩
  rw[aj];simp only[go_sem,Qe,Qh,Qi,Qj,Qk,reduceIte,hi,hv,hg,a1,a2]
 by_cases a3:v<0
 ·refine⟨fun h=>by simp[a1,a2,a3]at h,fun _=>⟨[(101,.rc [.str mv,.int .i64 m1,.int .i64 m2,.int .i64 m3,.int .i64 m4,.lst 4 (dC es0) .no,.lst 4 (eP rs) .no]),(104,.rc [.int .i64 r,.str n,.int .i64 v,.byt d .no])], ?_⟩⟩
  rw[aj];simp only[go_sem,Qe,Qh,Qi,Qj,Qk,reduceIte,hi,hv,hg,a1,a2,a3]
 by_cases a4:1000000<v
 ·refine⟨fun h=>by simp[a1,a2,a3,a4]at h,fun _=>⟨[(101,.rc [.str mv,.int .i64 m1,.int .i64 m2,.int .i64 m3,.int .i64 m4,.lst 4 (dC es0) .no,.lst 4 (eP rs) .no]),(104,.rc [.int .i64 r,.str n,.int .i64 v,.byt d .no])], ?_⟩⟩
  rw[aj];simp only[go_sem,Qe,Qh,Qi,Qj,Qk,reduceIte,hi,hv,hg,a1,a2,a3,a4]
 by_cases a5:(d.length:Int)=32
 ·cases a6:Pr.nameB n with
  |false=>rw[a6]at g1;refine⟨fun h=>by simp[a1,a2,a3,a4,a5]at h,fun _=>⟨[(101,.rc [.str mv,.int .i64 m1,.int .i64 m2,.int .i64 m3,.int .i64 m4,.lst 4 (dC es0) .no,.lst 4 (eP rs) .no]),(104,.rc [.int .i64 r,.str n,.int .i64 v,.byt d .no])], ?_⟩⟩;rw[aj];simp only[go_sem,Qe,Qh,Qi,Qj,Qk,reduceIte,hi,hv,hg,a1,a2,a3,a4,a5,g1,oh]
  |true=>
   rw[a6]at g1
   by_cases a7:i=0
   ·subst a7
    have hp:(0:Int)<es0.length:=by omega
    have kw:ai.wrap 1=1:=rfl;refine⟨fun _=> ?_,fun h=>by simp[a1,a2,a3,a4,a5]at h⟩;rw[aj];simp only[go_sem,Q2,Q3,Q4,Q8,Qb,Qc,Qd,Qe,Qh,Qi,Qj,Qk,reduceIte,hp,kw,hv,hg,a1,a2,a3,a4,a5,g1,oh]
   ·have hp:(0:Int)<(i:Nat):=by omega
    have hp0:0<i:=by omega
    have es':=es hp0;cases a8:oQ ⟨r2,n2,v2,d2⟩ ⟨r,n,v,d⟩with
    |true=>
     have h9:¬0<=Fo ⟨r2,n2,v2,d2⟩ ⟨r,n,v,d⟩:=by have:=hb.2 a8;omega
     refine⟨fun _=> ?_,fun h=>by simp[a1,a2,a3,a4,a5,a7]at h⟩;rw[aj];simp only[go_sem,Qb,Qc,Qd,Qe,Qh,Qi,Qj,Qk,reduceIte,hi,hp,hi1,es',hg1,e1,hv,hg,a1,a2,a3,a4,a5,g1,oh,g2,xmz,h9]
    |false=>
     have h9:0<=Fo ⟨r2,n2,v2,d2⟩ ⟨r,n,v,d⟩:=by
      rcases Int.lt_or_le (Fo ⟨r2,n2,v2,d2⟩ ⟨r,n,v,d⟩) 0 with h|h
      ·rw[hb.1 h]at a8;cases a8
      ·exact h
     refine⟨fun h=>by simp[a1,a2,a3,a4,a5,a7]at h,fun _=>⟨[(101,.rc [.str mv,.int .i64 m1,.int .i64 m2,.int .i64 m3,.int .i64 m4,.lst 4 (dC es0) .no,.lst 4 (eP rs) .no]),(104,.rc [.int .i64 r,.str n,.int .i64 v,.byt d .no])], ?_⟩⟩;rw[aj];simp only[go_sem,Qb,Qc,Qd,Qe,Qh,Qi,Qj,Qk,reduceIte,hi,hp,hi1,es',hg1,hv,hg,a1,a2,a3,a4,a5,g1,oh,g2,xmz,h9,a7]
 ·refine⟨fun h=>by simp[a1,a2,a3,a4,a5]at h,fun _=>⟨[(101,.rc [.str mv,.int .i64 m1,.int .i64 m2,.int .i64 m3,.int .i64 m4,.lst 4 (dC es0) .no,.lst 4 (eP rs) .no]),(104,.rc [.int .i64 r,.str n,.int .i64 v,.byt d .no])], ?_⟩⟩
  rw[aj];simp only[go_sem,Qe,Qh,Qi,Qj,Qk,reduceIte,hi,hv,hg,a1,a2,a3,a4,a5]
theorem l44(m:Man)(hm:eX m):∀(n i:Nat),m.ents.length-i=n->i<=m.ents.length->
 (gD m.ents n i=0->run T (.loop l6) (AD m i)=some (.x 1,⟨[(1,.ptr 101 0)],[(101,.rc m.sv)],[]⟩))/\
 (gD m.ents n i≠0->∃ob,run T (.loop l6) (AD m i)=some (.r,⟨[(2,.int .i64 (gD m.ents n i))],ob,[]⟩)):=by
 intro n;induction n with
 |zero=>
  intro i h0 h1;have:i=m.ents.length:=by omega
  subst this;refine⟨fun _=> ?_,fun h=>absurd rfl h⟩;rw[aj];simp only[AD,go_sem,Qh,Qj,Qk,reduceIte]
 |succ n ih=>
  intro i h0 h1;obtain⟨s1,s2⟩:=s44 m hm i (by omega);obtain⟨i1,i2⟩:=ih (i+1) (by omega) (by omega);unfold gD
  by_cases h:lw m.ents i=0
  ·rw[if_pos h,s1 h];exact⟨i1,i2⟩
  ·rw[if_neg h];exact⟨fun h'=>absurd h' h,s2⟩
theorem xnw(m:Man)(hm:eX m)(ob:List (Nat×aF))(hob:ob=[(101,.rc m.sv)]):∀(n i:Nat),m.ruls.length-i=n->i<=m.ruls.length->
 (jL (m.ruls.drop i)=0->run T (.loop ul) ⟨[(111,.lst 4 (eP m.ruls) .no),(112,.int .i64 m.ruls.length),(113,.int .i64 i)],ob,[]⟩=some (.x 4,⟨[],ob,[]⟩))/\
 (jL (m.ruls.drop i)≠0->∃ob',run T (.loop ul) ⟨[(111,.lst 4 (eP m.ruls) .no),(112,.int .i64 m.ruls.length),(113,.int .i64 i)],ob,[]⟩=some (.r,⟨[(2,.int .i64 (jL (m.ruls.drop i)))],ob',[]⟩)):=by
 intro n;induction n with
 |zero=>
  intro i h0 h1;have:i=m.ruls.length:=by omega
  subst this;rw[aL];refine⟨fun _=> ?_,fun h=>absurd rfl h⟩;rw[aj];simp only[go_sem,Qh,Qj,Qk,reduceIte]
 |succ n ih=>
  intro i h0 h1;have hi:i<m.ruls.length:=by omega
  obtain⟨i1,i2⟩:=ih (i+1) (by omega) (by omega);have e1:=bV i (by have:=hm.rn;omega);have hv:=dP m.ruls;have hg:=ja m.ruls i hi;have hd:m.ruls.drop i=m.ruls.getD i rl0::m.ruls.drop (i+1):=by rw[aU hi,aa,af hi];rfl
  have hb:=hm.r _ (bG m.ruls rl0 i hi);rw[hd];unfold jL;generalize m.ruls.drop (i+1)=R at*;generalize m.ruls.getD i rl0=x at*;obtain⟨mv,m1,m2,m3,m4,es0,rs⟩:=m;obtain⟨k,t,lo,hi'⟩:=x;simp only[Man.sv,Rul.sv]at*;subst hob;have g:=f90 k t lo hi' (by omega)
  by_cases h:AM ⟨k,t,lo,hi'⟩=0
  ·rw[if_pos h]
   unfold AM at h;simp only at h;rw[h]at g;refine⟨fun h2=> ?_,fun h2=> ?_⟩
   ·have i1':=i1 h2
    rw[aj];simp only[go_sem,Qe,Qh,Qi,Qj,Qk,reduceIte,hi,e1,hv,hg,g,tX,i1']
   ·obtain⟨ob',i2'⟩:=i2 h2
    refine⟨ob', ?_⟩;rw[aj];simp only[go_sem,Qe,Qh,Qi,Qj,Qk,reduceIte,hi,e1,hv,hg,g,tX,i2']
  ·rw[if_neg h]
   unfold AM at h ⊢;simp only at h ⊢;refine⟨fun h2=>absurd h2 h,fun h2=>⟨[(101,.rc [.str mv,.int .i64 m1,.int .i64 m2,.int .i64 m3,.int .i64 m4,.lst 4 (dC es0) .no,.lst 4 (eP rs) .no]),(106,.rc [.int .i64 k,.str t,.int .i64 lo,.int .i64 hi'])], ?_⟩⟩;rw[aj];simp only[go_sem,Qe,Qh,Qi,Qj,Qk,reduceIte,hi,hv,hg,g,tX,h]
theorem f44(m:Man)(hm:eX m):call T 44 [.agg m.sv] [] 0=some ⟨.int .i64 (lq m),[],[]⟩:=by
 have g1:=f89 m.vendor;obtain⟨l1,l2⟩:=l44 m hm _ 0 rfl (by omega);obtain⟨r1,r2⟩:=xnw m hm _ rfl _ 0 rfl (by omega);have hv:=cT m.ents;have hr:=dP m.ruls;obtain⟨mv,m1,m2,m3,m4,es0,rs⟩:=m;simp only[AD,Man.sv,aB,aR,iT]at*;rw[am xpk];unfold lq;simp only;cases a0:Pr.nameB mv with
 |false=>rw[a0]at g1;simp only[go_sem,Qe,Qh,Qi,Qj,Qk,reduceCtorEq,reduceIte,g1,oh]
 |true=>
  rw[a0]at g1
  by_cases a1:m2<0
  ·simp only[go_sem,Qe,Qh,Qi,Qj,Qk,reduceCtorEq,reduceIte,g1,oh,a1]
  by_cases a2:m1<m2
  ·simp only[go_sem,Qe,Qh,Qi,Qj,Qk,reduceCtorEq,reduceIte,g1,oh,a1,a2]
  by_cases a3:1000000<m1
  ·simp only[go_sem,Qe,Qh,Qi,Qj,Qk,reduceCtorEq,reduceIte,g1,oh,a1,a2,a3]
  by_cases a4:m3<0
  ·simp only[go_sem,Qe,Qh,Qi,Qj,Qk,reduceCtorEq,reduceIte,g1,oh,a1,a2,a3,a4]
  by_cases a5:m4<=m3
  ·simp only[go_sem,Qe,Qh,Qi,Qj,Qk,reduceCtorEq,reduceIte,g1,oh,a1,a2,a3,a4,a5]
  by_cases a6:1099511627776<m4
  ·simp only[go_sem,Qe,Qh,Qi,Qj,Qk,reduceCtorEq,reduceIte,g1,oh,a1,a2,a3,a4,a5,a6]
  by_cases a7:(16:Int)<es0.length
  ·simp only[go_sem,Qe,Qh,Qi,Qj,Qk,reduceCtorEq,reduceIte,g1,oh,a1,a2,a3,a4,a5,a6,a7,hv]
  by_cases a8:(8:Int)<rs.length
  ·simp only[go_sem,Qe,Qh,Qi,Qj,Qk,reduceCtorEq,reduceIte,g1,oh,a1,a2,a3,a4,a5,a6,a7,a8,hv,hr]
  by_cases a9:gD es0 es0.length 0=0
  ·have l1':=l1 a9
   by_cases b0:jL rs=0
   ·have r1':=r1 b0
    simp only[go_sem,Qe,Qh,Qi,Qj,Qk,reduceCtorEq,reduceIte,g1,oh,a1,a2,a3,a4,a5,a6,a7,a8,hv,hr,l1',a9,r1',b0]
   ·obtain⟨ob,r2'⟩:=r2 b0
    simp only[go_sem,Qe,Qh,Qi,Qj,Qk,reduceCtorEq,reduceIte,g1,oh,a1,a2,a3,a4,a5,a6,a7,a8,hv,hr,l1',a9,r2']
  ·obtain⟨ob,l2'⟩:=l2 a9
   simp only[go_sem,Qe,Qh,Qi,Qj,Qk,reduceCtorEq,reduceIte,g1,oh,a1,a2,a3,a4,a5,a6,a7,a8,hv,hr,l2',a9]
def AC(m:Man)(i:Nat):CSt:=⟨[(1,.ptr 101 0),(3,.int .i64 i)],[(101,.rc m.sv)],[]⟩
theorem s54(m:Man)(hm:eX m)(i:Nat)(hi:i<m.ents.length):
 (lw m.ents i=0->run T (.loop l5) (AC m i)=run T (.loop l5) (AC m (i+1)))/\
 (lw m.ents i≠0->∃ob,run T (.loop l5) (AC m i)=some (.r,⟨[(2,.int .i64 (lw m.ents i))],ob,[]⟩)):=by
 have e1:=bV i (by have:=hm.en;omega);have hv:=cT m.ents;have hg:=fx m.ents i hi;have hbx:=hm.e _ (bG m.ents en0 i hi);have hi1:i-1<m.ents.length:=by omega
 have hby:=hm.e _ (bG m.ents en0 (i-1) hi1);have g1:=f95 (m.ents.getD i en0).name (by omega);have g2:=f84 (m.ents.getD (i-1) en0) (m.ents.getD i en0) (by omega);have es:0<i->ai.wrap ((i:Int)-1)=((i-1:Nat):Int):=fun h=>by rw[w64 (by omega) (by have:=hm.en;omega)];omega
 have hg1:=fx m.ents (i-1) hi1;unfold lw;obtain⟨mv,m1,m2,m3,m4,es0,rs⟩:=m;simp only[AC,Man.sv]at*;generalize es0.getD i en0=x at*;generalize es0.getD (i-1) en0=y at*;obtain⟨r,n,v,d⟩:=x;obtain⟨r2,n2,v2,d2⟩:=y;simp only[Ent.sv]at*
 by_cases a1:r<1
 ·refine⟨fun h=>by simp[a1]at h,fun _=>⟨[(101,.rc [.str mv,.int .i64 m1,.int .i64 m2,.int .i64 m3,.int .i64 m4,.lst 4 (dC es0) .no,.lst 4 (eP rs) .no]),(104,.rc [.int .i64 r,.str n,.int .i64 v,.byt d .no])], ?_⟩⟩
  rw[aj];simp only[go_sem,Qe,Qh,Qi,Qj,Qk,reduceIte,hi,hv,hg,a1]
 by_cases a2:3<r
 ·refine⟨fun h=>by simp[a1,a2]at h,fun _=>⟨[(101,.rc [.str mv,.int .i64 m1,.int .i64 m2,.int .i64 m3,.int .i64 m4,.lst 4 (dC es0) .no,.lst 4 (eP rs) .no]),(104,.rc [.int .i64 r,.str n,.int .i64 v,.byt d .no])], ?_⟩⟩
  rw[aj];simp only[go_sem,Qe,Qh,Qi,Qj,Qk,reduceIte,hi,hv,hg,a1,a2]
 by_cases a3:v<0
 ·refine⟨fun h=>by simp[a1,a2,a3]at h,fun _=>⟨[(101,.rc [.str mv,.int .i64 m1,.int .i64 m2,.int .i64 m3,.int .i64 m4,.lst 4 (dC es0) .no,.lst 4 (eP rs) .no]),(104,.rc [.int .i64 r,.str n,.int .i64 v,.byt d .no])], ?_⟩⟩
  rw[aj];simp only[go_sem,Qe,Qh,Qi,Qj,Qk,reduceIte,hi,hv,hg,a1,a2,a3]
 by_cases a4:1000000<v
 ·refine⟨fun h=>by simp[a1,a2,a3,a4]at h,fun _=>⟨[(101,.rc [.str mv,.int .i64 m1,.int .i64 m2,.int .i64 m3,.int .i64 m4,.lst 4 (dC es0) .no,.lst 4 (eP rs) .no]),(104,.rc [.int .i64 r,.str n,.int .i64 v,.byt d .no])], ?_⟩⟩
  rw[aj];simp only[go_sem,Qe,Qh,Qi,Qj,Qk,reduceIte,hi,hv,hg,a1,a2,a3,a4]
 by_cases a5:(d.length:Int)=32
 ·cases a6:Pr.nameB n with
  |false=>rw[a6]at g1;refine⟨fun h=>by simp[a1,a2,a3,a4,a5]at h,fun _=>⟨[(101,.rc [.str mv,.int .i64 m1,.int .i64 m2,.int .i64 m3,.int .i64 m4,.lst 4 (dC es0) .no,.lst 4 (eP rs) .no]),(104,.rc [.int .i64 r,.str n,.int .i64 v,.byt d .no])], ?_⟩⟩;rw[aj];simp only[go_sem,Qe,Qh,Qi,Qj,Qk,reduceIte,hi,hv,hg,a1,a2,a3,a4,a5,g1,kG]
  |true=>
   rw[a6]at g1
   by_cases a7:i=0
   ·subst a7
    have hp:(0:Int)<es0.length:=by omega
    have kw:ai.wrap 1=1:=rfl;refine⟨fun _=> ?_,fun h=>by simp[a1,a2,a3,a4,a5]at h⟩;rw[aj];simp only[go_sem,Q2,Q3,Q4,Q8,Qb,Qc,Qd,Qe,Qh,Qi,Qj,Qk,reduceIte,hp,kw,hv,hg,a1,a2,a3,a4,a5,g1,kG]
   ·have hp:(0:Int)<(i:Nat):=by omega
    have hp0:0<i:=by omega
    have es':=es hp0;cases a8:oQ ⟨r2,n2,v2,d2⟩ ⟨r,n,v,d⟩with
    |true=>rw[a8]at g2;refine⟨fun _=> ?_,fun h=>by simp[a1,a2,a3,a4,a5,a7]at h⟩;rw[aj];simp only[go_sem,Qb,Qc,Qd,Qe,Qh,Qi,Qj,Qk,reduceIte,hi,hp,hi1,es',hg1,e1,hv,hg,a1,a2,a3,a4,a5,g1,kG,g2,Pa]
    |false=>rw[a8]at g2;refine⟨fun h=>by simp[a1,a2,a3,a4,a5,a7]at h,fun _=>⟨[(101,.rc [.str mv,.int .i64 m1,.int .i64 m2,.int .i64 m3,.int .i64 m4,.lst 4 (dC es0) .no,.lst 4 (eP rs) .no]),(104,.rc [.int .i64 r,.str n,.int .i64 v,.byt d .no])], ?_⟩⟩;rw[aj];simp only[go_sem,Qb,Qc,Qd,Qe,Qh,Qi,Qj,Qk,reduceIte,hi,hp,hi1,es',hg1,hv,hg,a1,a2,a3,a4,a5,g1,kG,g2,Pa,a7]
 ·refine⟨fun h=>by simp[a1,a2,a3,a4,a5]at h,fun _=>⟨[(101,.rc [.str mv,.int .i64 m1,.int .i64 m2,.int .i64 m3,.int .i64 m4,.lst 4 (dC es0) .no,.lst 4 (eP rs) .no]),(104,.rc [.int .i64 r,.str n,.int .i64 v,.byt d .no])], ?_⟩⟩
  rw[aj];simp only[go_sem,Qe,Qh,Qi,Qj,Qk,reduceIte,hi,hv,hg,a1,a2,a3,a4,a5]
theorem l54(m:Man)(hm:eX m):∀(n i:Nat),m.ents.length-i=n->i<=m.ents.length->
 (gD m.ents n i=0->run T (.loop l5) (AC m i)=some (.x 0,⟨[(1,.ptr 101 0)],[(101,.rc m.sv)],[]⟩))/\
 (gD m.ents n i≠0->∃ob,run T (.loop l5) (AC m i)=some (.r,⟨[(2,.int .i64 (gD m.ents n i))],ob,[]⟩)):=by
 intro n;induction n with
 |zero=>
  intro i h0 h1;have:i=m.ents.length:=by omega
  subst this;refine⟨fun _=> ?_,fun h=>absurd rfl h⟩;rw[aj];have hv:=cT m.ents;obtain⟨mv,m1,m2,m3,m4,es0,rs⟩:=m;simp only[AC,Man.sv]at*;simp only[go_sem,Qe,Qh,Qi,Qj,Qk,reduceIte,hv]
 |succ n ih=>
  intro i h0 h1;obtain⟨s1,s2⟩:=s54 m hm i (by omega);obtain⟨i1,i2⟩:=ih (i+1) (by omega) (by omega);unfold gD
  by_cases h:lw m.ents i=0
  ·rw[if_pos h,s1 h];exact⟨i1,i2⟩
  ·rw[if_neg h];exact⟨fun h'=>absurd h' h,s2⟩
theorem xnu(m:Man)(hm:eX m)(ob:List (Nat×aF))(hob:ob=[(101,.rc m.sv)]):∀(n i:Nat),m.ruls.length-i=n->i<=m.ruls.length->
 (jL (m.ruls.drop i)=0->run T (.loop uj) ⟨[(1,.ptr 101 0),(5,.int .i64 i)],ob,[]⟩=some (.x 2,⟨[],ob,[]⟩))/\
 (jL (m.ruls.drop i)≠0->∃ob',run T (.loop uj) ⟨[(1,.ptr 101 0),(5,.int .i64 i)],ob,[]⟩=some (.r,⟨[(2,.int .i64 (jL (m.ruls.drop i)))],ob',[]⟩)):=by
 intro n;induction n with
 |zero=>
  intro i h0 h1;have:i=m.ruls.length:=by omega
  subst this;rw[aL];refine⟨fun _=> ?_,fun h=>absurd rfl h⟩;have hv:=dP m.ruls;obtain⟨mv,m1,m2,m3,m4,es0,rs⟩:=m;subst hob;simp only[Man.sv]at*;rw[aj];simp only[go_sem,Qe,Qh,Qj,Qk,reduceIte,hv]
 |succ n ih=>
  intro i h0 h1;have hi:i<m.ruls.length:=by omega
  obtain⟨i1,i2⟩:=ih (i+1) (by omega) (by omega);have e1:=bV i (by have:=hm.rn;omega);have hv:=dP m.ruls;have hg:=ja m.ruls i hi;have hd:m.ruls.drop i=m.ruls.getD i rl0::m.ruls.drop (i+1):=by rw[aU hi,aa,af hi];rfl
  have hb:=hm.r _ (bG m.ruls rl0 i hi);rw[hd];unfold jL;generalize m.ruls.drop (i+1)=R at*;generalize m.ruls.getD i rl0=x at*;obtain⟨mv,m1,m2,m3,m4,es0,rs⟩:=m;obtain⟨k,t,lo,hi'⟩:=x;simp only[Man.sv,Rul.sv]at*;subst hob;have g:=f96 k t lo hi' (by omega)
  by_cases h:AM ⟨k,t,lo,hi'⟩=0
  ·rw[if_pos h]
   unfold AM at h;simp only at h;rw[h]at g;refine⟨fun h2=> ?_,fun h2=> ?_⟩
   ·have i1':=i1 h2
    rw[aj];simp only[go_sem,Qe,Qh,Qj,Qk,reduceIte,hi,e1,hv,hg,g,nt,i1']
   ·obtain⟨ob',i2'⟩:=i2 h2
    refine⟨ob', ?_⟩;rw[aj];simp only[go_sem,Qe,Qh,Qj,Qk,reduceIte,hi,e1,hv,hg,g,nt,i2']
  ·rw[if_neg h]
   unfold AM at h ⊢;simp only at h ⊢;refine⟨fun h2=>absurd h2 h,fun h2=>⟨[(101,.rc [.str mv,.int .i64 m1,.int .i64 m2,.int .i64 m3,.int .i64 m4,.lst 4 (dC es0) .no,.lst 4 (eP rs) .no])], ?_⟩⟩;rw[aj];simp only[go_sem,Qe,Qh,Qj,Qk,reduceIte,hi,hv,hg,g,nt,h]
theorem f54(m:Man)(hm:eX m):call T 54 [.agg m.sv] [] 0=some ⟨.int .i64 (lq m),[],[]⟩:=by
 have g1:=f95 m.vendor (by have:=hm.v;omega);obtain⟨l1,l2⟩:=l54 m hm _ 0 rfl (by omega);obtain⟨r1,r2⟩:=xnu m hm _ rfl _ 0 rfl (by omega);have hv:=cT m.ents;have hr:=dP m.ruls;obtain⟨mv,m1,m2,m3,m4,es0,rs⟩:=m;simp only[AC,Man.sv,aB,aR,iT]at*;rw[am xpa];unfold lq;simp only;cases a0:Pr.nameB mv with
 |false=>rw[a0]at g1;simp only[go_sem,Qe,Qh,Qi,Qj,Qk,reduceCtorEq,reduceIte,g1,kG]
 |true=>
  rw[a0]at g1
  by_cases a1:m2<0
  ·simp only[go_sem,Qe,Qh,Qi,Qj,Qk,reduceCtorEq,reduceIte,g1,kG,a1]
  by_cases a2:m1<m2
  ·simp only[go_sem,Qe,Qh,Qi,Qj,Qk,reduceCtorEq,reduceIte,g1,kG,a1,a2]
  by_cases a3:1000000<m1
  ·simp only[go_sem,Qe,Qh,Qi,Qj,Qk,reduceCtorEq,reduceIte,g1,kG,a1,a2,a3]
  by_cases a4:m3<0
  ·simp only[go_sem,Qe,Qh,Qi,Qj,Qk,reduceCtorEq,reduceIte,g1,kG,a1,a2,a3,a4]
  by_cases a5:m4<=m3
  ·simp only[go_sem,Qe,Qh,Qi,Qj,Qk,reduceCtorEq,reduceIte,g1,kG,a1,a2,a3,a4,a5]
  by_cases a6:1099511627776<m4
  ·simp only[go_sem,Qe,Qh,Qi,Qj,Qk,reduceCtorEq,reduceIte,g1,kG,a1,a2,a3,a4,a5,a6]
  by_cases a7:(16:Int)<es0.length
  ·simp only[go_sem,Qe,Qh,Qi,Qj,Qk,reduceCtorEq,reduceIte,g1,kG,a1,a2,a3,a4,a5,a6,a7,hv]
  by_cases a8:(8:Int)<rs.length
  ·simp only[go_sem,Qe,Qh,Qi,Qj,Qk,reduceCtorEq,reduceIte,g1,kG,a1,a2,a3,a4,a5,a6,a7,a8,hv,hr]
  by_cases a9:gD es0 es0.length 0=0
  ·have l1':=l1 a9
   by_cases b0:jL rs=0
   ·have r1':=r1 b0
    simp only[go_sem,Qe,Qh,Qi,Qj,Qk,reduceCtorEq,reduceIte,g1,kG,a1,a2,a3,a4,a5,a6,a7,a8,hv,hr,l1',a9,r1',b0]
   ·obtain⟨ob,r2'⟩:=r2 b0
    simp only[go_sem,Qe,Qh,Qi,Qj,Qk,reduceCtorEq,reduceIte,g1,kG,a1,a2,a3,a4,a5,a6,a7,a8,hv,hr,l1',a9,r2']
  ·obtain⟨ob,l2'⟩:=l2 a9
   simp only[go_sem,Qe,Qh,Qi,Qj,Qk,reduceCtorEq,reduceIte,g1,kG,a1,a2,a3,a4,a5,a6,a7,a8,hv,hr,l2',a9]
theorem iD:∀v,v<100->cs2.getD (2*v) 0=dg (v/10)/\cs2.getD (2*v+1) 0=dg (v % 10):=by decide
theorem xdl:∀v,v<100->(cs2.take (2*v+2)).drop (2*v)=[dg (v/10),dg (v % 10)]:=by decide
theorem xge:∀v,v<10->(cs1.take (v+1)).drop v=[dg v]:=by decide
theorem lx:cs2.length=200:=rfl
theorem Te:cs1.length=36:=rfl
theorem Tf:cs0.length=256:=rfl
theorem xov{n:Nat}(h1:10<=n)(h2:n<100):dec n=[dg (n/10),dg (n % 10)]:=by rw[cd (by omega),ez (by omega)];rfl
theorem xn4(n:Nat)(h:n<100):call T 155 [.int .i64 n] [] 0=some ⟨.str (dec n),[],[]⟩:=by
 have e1:ai.wrap ((n:Int)+1)=((n+1:Nat):Int):=bV n (by omega);have e2:ai.wrap ((n:Int)*2)=((2*n:Nat):Int):=wZ (by omega)
 have e3:ai.wrap (((2*n:Nat):Int)+2)=((2*n+2:Nat):Int):=wZ (by omega)
 have l1:=Te;have l2:=lx;rw[am xjQ]
 by_cases h1:n<10
 ·have h1':(n:Int)<10:=by omega
  have hs:=xge n h1;have k1:n<=n+1:=by omega
  have k2:((n+1:Nat):Int)<=36:=by omega
  rw[ez h1];simp only[go_sem,Qh,Qi,Qj,Qk,reduceCtorEq,reduceIte,h1',e1,l1,k1,k2,hs]
 ·have h1':¬(n:Int)<10:=by omega
  have hs:=xdl n h;have k1:2*n<=2*n+2:=by omega
  have k2:((2*n+2:Nat):Int)<=200:=by omega
  rw[xov (by omega) h];simp only[go_sem,Qh,Qi,Qj,Qk,reduceCtorEq,reduceIte,h1',e2,e3,l2,k1,k2,hs]
def bl8(v:Nat):Nat:=(cs0.getD v 0).toNat
theorem uJ:∀v,v<256->bl8 v<=8/\(v=0\/(1<=bl8 v/\2^(bl8 v-1)<=v))/\v<2^bl8 v:=by unfold bl8;decide
def pN(u:Nat):Nat:=if u<256 then bl8 u else if u<65536 then 8+bl8 (u/256)else 16+bl8 (u/65536)
theorem xn6(u:Nat)(h:u<16777216):call T 152 [.int .u64 u] [] 0=some ⟨.int .i64 (pN u:Nat),[],[]⟩:=by
 have h1:¬(4294967296:Int)<=(u:Nat):=by omega
 have l0:=Tf;have b0:∀v,v<256->bl8 v<=8:=fun v hv=>(uJ v hv).1
 have kw:∀a b:Nat,a<=100->b<=8->ai.wrap ((a:Int)+(b:Int))=((a+b:Nat):Int):=fun a b ha hb=>by rw[w64 (by omega) (by omega)];omega
 have u8:∀v:Nat,v<256->(bM (v:Int)).toNat=v:=fun v hv=>by show(wD ((v:Int) % 256).toNat).toNat=v;rw[show((v:Int) % 256).toNat=v from by omega];simp;omega
 rw[am xjT];unfold pN;have d8:Fj (u:Int) (2^8)=((u/256:Nat):Int):=by rw[Int.fdiv_eq_ediv_of_nonneg _ (by decide)];rfl
 have d16:Fj (u:Int) (2^16)=((u/65536:Nat):Int):=by rw[Int.fdiv_eq_ediv_of_nonneg _ (by decide)];rfl
 have m8:min 8 64=8:=rfl;have m16:min 16 64=16:=rfl
 by_cases h2:u<256
 ·have a1:¬(65536:Int)<=(u:Nat):=by omega
  have a2:¬(256:Int)<=(u:Nat):=by omega
  have q:=u8 u h2;have hi:(u:Int)<256:=by omega
  have z:=kw 0 (bl8 u) (by omega) (b0 u h2);rw[bB,aB]at z;unfold bl8 at z ⊢;simp only[go_sem,Q2,Q3,Q8,Qh,Qi,Qj,Qk,reduceCtorEq,reduceIte,h1,a1,a2,h2,q,l0,hi,z]
 ·by_cases h3:u<65536
  ·have a1:¬(65536:Int)<=(u:Nat):=by omega
   have a2:(256:Int)<=(u:Nat):=by omega
   have h4:u/256<256:=by omega
   have q:=u8 (u/256) h4;have hi:((u/256:Nat):Int)<256:=by omega
   have w8:ai.wrap 8=8:=rfl;have z:=kw 8 (bl8 (u/256)) (by omega) (b0 _ h4);simp only[cB]at z;unfold bl8 at z ⊢;simp only[go_sem,Q2,Q3,Q8,Qh,Qi,Qj,Qk,reduceCtorEq,reduceIte,h1,a1,a2,h2,h3,q,l0,hi,w8,z,d8,m8]
  ·have a1:(65536:Int)<=(u:Nat):=by omega
   have h4:u/65536<256:=by omega
   have a2:¬(256:Int)<=((u/65536:Nat):Int):=by omega
   have q:=u8 (u/65536) h4;have hi:((u/65536:Nat):Int)<256:=by omega
   have w16:ai.wrap 16=16:=rfl;have z:=kw 16 (bl8 (u/65536)) (by omega) (b0 _ h4);simp only[cB]at z;unfold bl8 at z ⊢;simp only[go_sem,Q2,Q3,Q8,Qh,Qi,Qj,Qk,reduceCtorEq,reduceIte,h1,a1,a2,h2,h3,q,l0,hi,w16,z,d16,m16]
theorem Tm(u:Nat)(h:u<16777216)(h1:1<=u):1<=pN u/\pN u<=24/\2^(pN u-1)<=u/\u<2^pN u:=by
 unfold pN
 by_cases h2:u<256
 ·rw[if_pos h2]
  obtain⟨a,b,c⟩:=uJ u h2;omega
 ·rw[if_neg h2]
  by_cases h3:u<65536
  ·rw[if_pos h3]
   obtain⟨a,b,c⟩:=uJ (u/256) (by omega);have d:1<=bl8 (u/256)/\2^(bl8 (u/256)-1)<=u/256:=by omega
   obtain⟨d1,d2⟩:=d;generalize bl8 (u/256)=k at*;have e1:2^(8+k-1)=256*2^(k-1):=by rw[show 8+k-1=8+(k-1)from by omega,Nat.pow_add]
   have e2:2^(8+k)=256*2^k:=by rw[Nat.pow_add]
   rw[e1,e2];omega
  ·rw[if_neg h3]
   obtain⟨a,b,c⟩:=uJ (u/65536) (by omega);have d:1<=bl8 (u/65536)/\2^(bl8 (u/65536)-1)<=u/65536:=by omega
   obtain⟨d1,d2⟩:=d;generalize bl8 (u/65536)=k at*;have e1:2^(16+k-1)=65536*2^(k-1):=by rw[show 16+k-1=16+(k-1)from by omega,Nat.pow_add]
   have e2:2^(16+k)=65536*2^k:=by rw[Nat.pow_add]
   rw[e1,e2];omega
def nd(u:Nat):Nat:=if u<1000 then 3 else if u<10000 then 4 else if u<100000 then 5 else if u<1000000 then 6 else 7
theorem xnZ(k:Nat)(h:k<=24):call T 178 [.int .i64 k] [] 0=some ⟨.int .i64 (k*78913/262144:Nat),[],[]⟩:=by
 have e1:ai.wrap ((k:Int)*78913)=((k*78913:Nat):Int):=wZ (by omega)
 have e2:Fj ((k*78913:Nat):Int) (2^18)=((k*78913/262144:Nat):Int):=by rw[Int.fdiv_eq_ediv_of_nonneg _ (by decide)];rfl
 have m:min 18 64=18:=rfl;rw[am xjJ];simp only[go_sem,Q2,Q3,Qh,Qi,Qj,Qk,reduceCtorEq,reduceIte,e1,e2,m]
theorem xl7(b:Bool):call T 179 [.bool b] [] 0=some ⟨.int .i64 (if b=true then 1 else 0),[],[]⟩:=by rw[am xjI];cases b<;>simp only[go_sem,Qi,Qk,reduceCtorEq,reduceIte]
theorem xn3(u:Nat)(h0:100<=u)(h:u<10000000):call T 156 [.int .u64 u] [] 0=some ⟨.int .i64 (nd u:Nat),[],[]⟩:=by
 obtain⟨b1,b2,b3,b4⟩:=Tm u (by omega) (by omega);have g1:=xn6 u (by omega);have g2:=xnZ (pN u) b2;have gt:=xl7 true;have gf:=xl7 false
 have k7:7<=pN u:=by
  rcases bP (pN u) 7 with h5|h5
  ·have:2^pN u<=2^6:=Nat.pow_le_pow_right (by omega) (by omega)
   omega
  ·exact h5
 have key:∀v,pN u*78913/262144=v->10^v<=u*10->u<10^(v+1)->2<=v->v<=7->call T 156 [.int .u64 u] [] 0=some ⟨.int .i64 (nd u:Nat),[],[]⟩:=by
  intro v hv h1 h2 h3 h4;rw[hv]at g2;have hc:v=2\/v=3\/v=4\/v=5\/v=6\/v=7:=by omega
  rw[am xjP];generalize pN u=bb at*;unfold nd;rcases hc with rfl|rfl|rfl|rfl|rfl|rfl
  ·have kw0:ai.wrap 2=2:=rfl
   have kw1:ai.wrap 3=3:=rfl;simp only[cB]at g2
   by_cases h5:(100:Int)<=(u:Nat)
   ·have hn:(if u<1000 then 3 else if u<10000 then 4 else if u<100000 then 5 else if u<1000000 then 6 else 7)=3:=by
     repeat' split
     all_goals omega
    rw[hn];simp only[go_sem,Q2,Q3,Q4,Q8,Qe,Qg,Qh,Qi,Qj,Qk,reduceCtorEq,reduceIte,g1,kZ,g2,kY,iW,h5,gt,kX,kw1]
   ·have hn:(if u<1000 then 3 else if u<10000 then 4 else if u<100000 then 5 else if u<1000000 then 6 else 7)=2:=by
     repeat' split
     all_goals omega
    rw[hn];simp only[go_sem,Q2,Q3,Q4,Q8,Qe,Qg,Qh,Qi,Qj,Qk,reduceCtorEq,reduceIte,g1,kZ,g2,kY,iW,h5,gf,kX,kw0]
  ·have kw0:ai.wrap 3=3:=rfl
   have kw1:ai.wrap 4=4:=rfl;simp only[cB]at g2
   by_cases h5:(1000:Int)<=(u:Nat)
   ·have hn:(if u<1000 then 3 else if u<10000 then 4 else if u<100000 then 5 else if u<1000000 then 6 else 7)=4:=by
     repeat' split
     all_goals omega
    rw[hn];simp only[go_sem,Q2,Q3,Q4,Q8,Qe,Qg,Qh,Qi,Qj,Qk,reduceCtorEq,reduceIte,g1,kZ,g2,kY,iW,h5,gt,kX,kw1]
   ·have hn:(if u<1000 then 3 else if u<10000 then 4 else if u<100000 then 5 else if u<1000000 then 6 else 7)=3:=by
     repeat' split
     all_goals omega
    rw[hn];simp only[go_sem,Q2,Q3,Q4,Q8,Qe,Qg,Qh,Qi,Qj,Qk,reduceCtorEq,reduceIte,g1,kZ,g2,kY,iW,h5,gf,kX,kw0]
  ·have kw0:ai.wrap 4=4:=rfl
   have kw1:ai.wrap 5=5:=rfl;simp only[cB]at g2
   by_cases h5:(10000:Int)<=(u:Nat)
   ·have hn:(if u<1000 then 3 else if u<10000 then 4 else if u<100000 then 5 else if u<1000000 then 6 else 7)=5:=by
     repeat' split
     all_goals omega
    rw[hn];simp only[go_sem,Q2,Q3,Q4,Q8,Qe,Qg,Qh,Qi,Qj,Qk,reduceCtorEq,reduceIte,g1,kZ,g2,kY,iW,h5,gt,kX,kw1]
   ·have hn:(if u<1000 then 3 else if u<10000 then 4 else if u<100000 then 5 else if u<1000000 then 6 else 7)=4:=by
     repeat' split
     all_goals omega
    rw[hn];simp only[go_sem,Q2,Q3,Q4,Q8,Qe,Qg,Qh,Qi,Qj,Qk,reduceCtorEq,reduceIte,g1,kZ,g2,kY,iW,h5,gf,kX,kw0]
  ·have kw0:ai.wrap 5=5:=rfl
   have kw1:ai.wrap 6=6:=rfl;simp only[cB]at g2
   by_cases h5:(100000:Int)<=(u:Nat)
   ·have hn:(if u<1000 then 3 else if u<10000 then 4 else if u<100000 then 5 else if u<1000000 then 6 else 7)=6:=by
     repeat' split
     all_goals omega
    rw[hn];simp only[go_sem,Q2,Q3,Q4,Q8,Qe,Qg,Qh,Qi,Qj,Qk,reduceCtorEq,reduceIte,g1,kZ,g2,kY,iW,h5,gt,kX,kw1]
   ·have hn:(if u<1000 then 3 else if u<10000 then 4 else if u<100000 then 5 else if u<1000000 then 6 else 7)=5:=by
     repeat' split
     all_goals omega
    rw[hn];simp only[go_sem,Q2,Q3,Q4,Q8,Qe,Qg,Qh,Qi,Qj,Qk,reduceCtorEq,reduceIte,g1,kZ,g2,kY,iW,h5,gf,kX,kw0]
  ·have kw0:ai.wrap 6=6:=rfl
   have kw1:ai.wrap 7=7:=rfl;simp only[cB]at g2
   by_cases h5:(1000000:Int)<=(u:Nat)
   ·have hn:(if u<1000 then 3 else if u<10000 then 4 else if u<100000 then 5 else if u<1000000 then 6 else 7)=7:=by
     repeat' split
     all_goals omega
    rw[hn];simp only[go_sem,Q2,Q3,Q4,Q8,Qe,Qg,Qh,Qi,Qj,Qk,reduceCtorEq,reduceIte,g1,kZ,g2,kY,iW,h5,gt,kX,kw1]
   ·have hn:(if u<1000 then 3 else if u<10000 then 4 else if u<100000 then 5 else if u<1000000 then 6 else 7)=6:=by
     repeat' split
     all_goals omega
    rw[hn];simp only[go_sem,Q2,Q3,Q4,Q8,Qe,Qg,Qh,Qi,Qj,Qk,reduceCtorEq,reduceIte,g1,kZ,g2,kY,iW,h5,gf,kX,kw0]
  ·have kw0:ai.wrap 7=7:=rfl
   have kw1:ai.wrap 8=8:=rfl;simp only[cB]at g2
   by_cases h5:(10000000:Int)<=(u:Nat)
   ·have hn:(if u<1000 then 3 else if u<10000 then 4 else if u<100000 then 5 else if u<1000000 then 6 else 7)=8:=by
     repeat' split
     all_goals omega
    rw[hn];simp only[go_sem,Q2,Q3,Q4,Q8,Qe,Qg,Qh,Qi,Qj,Qk,reduceCtorEq,reduceIte,g1,kZ,g2,kY,iW,h5,gt,kX,kw1]
   ·have hn:(if u<1000 then 3 else if u<10000 then 4 else if u<100000 then 5 else if u<1000000 then 6 else 7)=7:=by
     repeat' split
     all_goals omega
    rw[hn];simp only[go_sem,Q2,Q3,Q4,Q8,Qe,Qg,Qh,Qi,Qj,Qk,reduceCtorEq,reduceIte,g1,kZ,g2,kY,iW,h5,gf,kX,kw0]
 have hk:∀k,7<=k->k<=24->2^(k-1)<10000000->10^(k*78913/262144)<=2^(k-1)*10/\2^k<=10^(k*78913/262144+1)/\2<=k*78913/262144/\k*78913/262144<=7:=by
  intro k h1 h2 h3;have hd:∀k,k<25->7<=k->10^(k*78913/262144)<=2^(k-1)*10/\2^k<=10^(k*78913/262144+1)/\2<=k*78913/262144/\k*78913/262144<=7:=by decide
  exact hd k (by omega) h1
 obtain⟨c1,c2,c3,c4⟩:=hk (pN u) k7 b2 (by omega);exact key _ rfl (by omega) (by omega) c3 c4
theorem fk(k:Nat)(h:k<4294967296):aA.wrap (k:Int)=(k:Int):=by rw[IntKind.wrap_u32];omega
theorem xf0(u:Nat)(h1:100<=u)(h2:u<1000):call T 157 [.psl 0 1 1 3 (some 23),.int .u64 u] [.bar (aq 24 0)] 0=some ⟨.tup [],[(0,.bar (0::(dec u++aq 20 0)))],[]⟩:=by
 have hl:cs2.length=200:=by exact lx
 have q0:aA.wrap (u:Int)=(u:Int):=by exact fk u (by omega)
 have a1:(u:Int).tmod 100=((u % 100:Nat):Int):=by rfl
 have a2:(u:Int).tdiv 100=((u/100:Nat):Int):=by rfl
 have b2:aA.wrap ((u/100:Nat):Int)=((u/100:Nat):Int):=by exact fk _ (by omega)
 have c3:aA.wrap ((((u % 100):Nat):Int)*2)=((2*(u % 100):Nat):Int):=by rw[show(((u % 100):Nat):Int)*2=((2*(u % 100):Nat):Int)from by omega];exact fk _ (by omega)
 have d3:aA.wrap (((2*(u % 100):Nat):Int)+1)=((2*(u % 100)+1:Nat):Int):=by rw[show((2*(u % 100):Nat):Int)+1=((2*(u % 100)+1:Nat):Int)from by omega];exact fk _ (by omega)
 have e3:cs2.getD (2*(u % 100)) 0=dg ((u % 100)/10)/\cs2.getD (2*(u % 100)+1) 0=dg ((u % 100) % 10):=by exact iD _ (by omega)
 have f3:((2*(u % 100):Nat):Int)<200/\((2*(u % 100)+1:Nat):Int)<200:=by omega
 have z1:aA.wrap (48+(((u/100):Nat):Int))=((48+(u/100):Nat):Int):=by rw[show 48+(((u/100):Nat):Int)=((48+(u/100):Nat):Int)from by omega];exact fk _ (by omega)
 have z2:bM ((48+(u/100):Nat):Int)=dg (u/100):=by rfl
 have hd:dec u=[dg ((u/100)),dg ((u % 100)/10),dg ((u % 100) % 10)]:=by rw[cd (n:=u) (by omega),cd (n:=u/10) (by omega),ez (n:=u/10/10) (by omega)];simp only[bw,bK,lR.injEq,and_true];exact⟨congrArg dg (by omega),congrArg dg (by omega),congrArg dg (by omega)⟩
 have w0:ai.wrap 0=0:=rfl;have w1:ai.wrap 1=1:=rfl;have w2:ai.wrap 2=2:=rfl;have w3:ai.wrap 3=3:=rfl;have w4:ai.wrap 4=4:=rfl;have w5:ai.wrap 5=5:=rfl;have w6:ai.wrap 6=6:=rfl;have w7:ai.wrap 7=7:=rfl;have hr:aq 24 (0:UInt8)=[0,0,0,0,0,0,0,0,0,0,0,0,0,0,0,0,0,0,0,0,0,0,0,0]:=rfl;have hr2:aq 20 (0:UInt8)=[0,0,0,0,0,0,0,0,0,0,0,0,0,0,0,0,0,0,0,0]:=rfl;rw[hd,hr,hr2,am yc];simp only[go_sem,Qe,Qh,Qi,Qj,Qk,reduceCtorEq,reduceIte];rw[aj];simp only[go_sem,Q2,Q3,Q4,Q5,Q9,Qb,Qc,Qd,Qe,Qh,Qj,Qk,reduceCtorEq,reduceIte,hl,q0,a1,a2,b2,c3,d3,e3.1,e3.2,f3.1,f3.2,z1,z2,w1,w2]
theorem xfZ(u:Nat)(h1:1000<=u)(h2:u<10000):call T 157 [.psl 0 1 1 4 (some 23),.int .u64 u] [.bar (aq 24 0)] 0=some ⟨.tup [],[(0,.bar (0::(dec u++aq 19 0)))],[]⟩:=by
 have hl:cs2.length=200:=by exact lx
 have q0:aA.wrap (u:Int)=(u:Int):=by exact fk u (by omega)
 have a1:(u:Int).tmod 10000=((u % 10000:Nat):Int):=by rfl
 have a2:(u:Int).tdiv 10000=((u/10000:Nat):Int):=by rfl
 have b2:aA.wrap ((u/10000:Nat):Int)=((u/10000:Nat):Int):=by exact fk _ (by omega)
 have a3:(((u % 10000):Nat):Int).tdiv 100=(((u % 10000)/100:Nat):Int):=by rfl
 have b3:aA.wrap (((u % 10000)/100:Nat):Int)=(((u % 10000)/100:Nat):Int):=by exact fk _ (by omega)
 have a4:(((u % 10000):Nat):Int).tmod 100=(((u % 10000) % 100:Nat):Int):=by rfl
 have c5:aA.wrap (((((u % 10000)/100):Nat):Int)*2)=((2*((u % 10000)/100):Nat):Int):=by rw[show((((u % 10000)/100):Nat):Int)*2=((2*((u % 10000)/100):Nat):Int)from by omega];exact fk _ (by omega)
 have d5:aA.wrap (((2*((u % 10000)/100):Nat):Int)+1)=((2*((u % 10000)/100)+1:Nat):Int):=by rw[show((2*((u % 10000)/100):Nat):Int)+1=((2*((u % 10000)/100)+1:Nat):Int)from by omega];exact fk _ (by omega)
 have e5:cs2.getD (2*((u % 10000)/100)) 0=dg (((u % 10000)/100)/10)/\cs2.getD (2*((u % 10000)/100)+1) 0=dg (((u % 10000)/100) % 10):=by exact iD _ (by omega)
 have f5:((2*((u % 10000)/100):Nat):Int)<200/\((2*((u % 10000)/100)+1:Nat):Int)<200:=by omega
 have c6:aA.wrap (((((u % 10000) % 100):Nat):Int)*2)=((2*((u % 10000) % 100):Nat):Int):=by rw[show((((u % 10000) % 100):Nat):Int)*2=((2*((u % 10000) % 100):Nat):Int)from by omega];exact fk _ (by omega)
 have d6:aA.wrap (((2*((u % 10000) % 100):Nat):Int)+1)=((2*((u % 10000) % 100)+1:Nat):Int):=by rw[show((2*((u % 10000) % 100):Nat):Int)+1=((2*((u % 10000) % 100)+1:Nat):Int)from by omega];exact fk _ (by omega)
 have e6:cs2.getD (2*((u % 10000) % 100)) 0=dg (((u % 10000) % 100)/10)/\cs2.getD (2*((u % 10000) % 100)+1) 0=dg (((u % 10000) % 100) % 10):=by exact iD _ (by omega)
 have f6:((2*((u % 10000) % 100):Nat):Int)<200/\((2*((u % 10000) % 100)+1:Nat):Int)<200:=by omega
 have hd:dec u=[dg (((u % 10000)/100)/10),dg (((u % 10000)/100) % 10),dg (((u % 10000) % 100)/10),dg (((u % 10000) % 100) % 10)]:=by rw[cd (n:=u) (by omega),cd (n:=u/10) (by omega),cd (n:=u/10/10) (by omega),ez (n:=u/10/10/10) (by omega)];simp only[bw,bK,lR.injEq,and_true];exact⟨congrArg dg (by omega),congrArg dg (by omega),congrArg dg (by omega),congrArg dg (by omega)⟩
 have w0:ai.wrap 0=0:=rfl;have w1:ai.wrap 1=1:=rfl;have w2:ai.wrap 2=2:=rfl;have w3:ai.wrap 3=3:=rfl;have w4:ai.wrap 4=4:=rfl;have w5:ai.wrap 5=5:=rfl;have w6:ai.wrap 6=6:=rfl;have w7:ai.wrap 7=7:=rfl;have hr:aq 24 (0:UInt8)=[0,0,0,0,0,0,0,0,0,0,0,0,0,0,0,0,0,0,0,0,0,0,0,0]:=rfl;have hr2:aq 19 (0:UInt8)=[0,0,0,0,0,0,0,0,0,0,0,0,0,0,0,0,0,0,0]:=rfl;rw[hd,hr,hr2,am yc];simp only[go_sem,Qe,Qh,Qi,Qj,Qk,reduceCtorEq,reduceIte];rw[aj];simp only[go_sem,Q2,Q3,Q4,Q5,Q7,Q9,Qb,Qc,Qd,Qe,Qh,Qj,Qk,reduceCtorEq,reduceIte,hl,q0,a1,a2,b2,a3,b3,a4,c5,d5,e5.1,e5.2,f5.1,f5.2,c6,d6,e6.1,e6.2,f6.1,f6.2,w0,w1,w2,w3]
theorem xfY(u:Nat)(h1:10000<=u)(h2:u<100000):call T 157 [.psl 0 1 1 5 (some 23),.int .u64 u] [.bar (aq 24 0)] 0=some ⟨.tup [],[(0,.bar (0::(dec u++aq 18 0)))],[]⟩:=by
 have hl:cs2.length=200:=by exact lx
 have q0:aA.wrap (u:Int)=(u:Int):=by exact fk u (by omega)
 have a1:(u:Int).tmod 10000=((u % 10000:Nat):Int):=by rfl
 have a2:(u:Int).tdiv 10000=((u/10000:Nat):Int):=by rfl
 have b2:aA.wrap ((u/10000:Nat):Int)=((u/10000:Nat):Int):=by exact fk _ (by omega)
 have a3:(((u % 10000):Nat):Int).tdiv 100=(((u % 10000)/100:Nat):Int):=by rfl
 have b3:aA.wrap (((u % 10000)/100:Nat):Int)=(((u % 10000)/100:Nat):Int):=by exact fk _ (by omega)
 have a4:(((u % 10000):Nat):Int).tmod 100=(((u % 10000) % 100:Nat):Int):=by rfl
 have c5:aA.wrap (((((u % 10000)/100):Nat):Int)*2)=((2*((u % 10000)/100):Nat):Int):=by rw[show((((u % 10000)/100):Nat):Int)*2=((2*((u % 10000)/100):Nat):Int)from by omega];exact fk _ (by omega)
 have d5:aA.wrap (((2*((u % 10000)/100):Nat):Int)+1)=((2*((u % 10000)/100)+1:Nat):Int):=by rw[show((2*((u % 10000)/100):Nat):Int)+1=((2*((u % 10000)/100)+1:Nat):Int)from by omega];exact fk _ (by omega)
 have e5:cs2.getD (2*((u % 10000)/100)) 0=dg (((u % 10000)/100)/10)/\cs2.getD (2*((u % 10000)/100)+1) 0=dg (((u % 10000)/100) % 10):=by exact iD _ (by omega)
 have f5:((2*((u % 10000)/100):Nat):Int)<200/\((2*((u % 10000)/100)+1:Nat):Int)<200:=by omega
 have c6:aA.wrap (((((u % 10000) % 100):Nat):Int)*2)=((2*((u % 10000) % 100):Nat):Int):=by rw[show((((u % 10000) % 100):Nat):Int)*2=((2*((u % 10000) % 100):Nat):Int)from by omega];exact fk _ (by omega)
 have d6:aA.wrap (((2*((u % 10000) % 100):Nat):Int)+1)=((2*((u % 10000) % 100)+1:Nat):Int):=by rw[show((2*((u % 10000) % 100):Nat):Int)+1=((2*((u % 10000) % 100)+1:Nat):Int)from by omega];exact fk _ (by omega)
 have e6:cs2.getD (2*((u % 10000) % 100)) 0=dg (((u % 10000) % 100)/10)/\cs2.getD (2*((u % 10000) % 100)+1) 0=dg (((u % 10000) % 100) % 10):=by exact iD _ (by omega)
 have f6:((2*((u % 10000) % 100):Nat):Int)<200/\((2*((u % 10000) % 100)+1:Nat):Int)<200:=by omega
 have z1:aA.wrap (48+(((u/10000):Nat):Int))=((48+(u/10000):Nat):Int):=by rw[show 48+(((u/10000):Nat):Int)=((48+(u/10000):Nat):Int)from by omega];exact fk _ (by omega)
 have z2:bM ((48+(u/10000):Nat):Int)=dg (u/10000):=by rfl
 have hd:dec u=[dg ((u/10000)),dg (((u % 10000)/100)/10),dg (((u % 10000)/100) % 10),dg (((u % 10000) % 100)/10),dg (((u % 10000) % 100) % 10)]:=by rw[cd (n:=u) (by omega),cd (n:=u/10) (by omega),cd (n:=u/10/10) (by omega),cd (n:=u/10/10/10) (by omega),ez (n:=u/10/10/10/10) (by omega)];simp only[bw,bK,lR.injEq,and_true];exact⟨congrArg dg (by omega),congrArg dg (by omega),congrArg dg (by omega),congrArg dg (by omega),congrArg dg (by omega)⟩
 have w0:ai.wrap 0=0:=rfl;have w1:ai.wrap 1=1:=rfl;have w2:ai.wrap 2=2:=rfl;have w3:ai.wrap 3=3:=rfl;have w4:ai.wrap 4=4:=rfl;have w5:ai.wrap 5=5:=rfl;have w6:ai.wrap 6=6:=rfl;have w7:ai.wrap 7=7:=rfl;have hr:aq 24 (0:UInt8)=[0,0,0,0,0,0,0,0,0,0,0,0,0,0,0,0,0,0,0,0,0,0,0,0]:=rfl;have hr2:aq 18 (0:UInt8)=[0,0,0,0,0,0,0,0,0,0,0,0,0,0,0,0,0,0]:=rfl;rw[hd,hr,hr2,am yc];simp only[go_sem,Qe,Qh,Qi,Qj,Qk,reduceCtorEq,reduceIte];rw[aj];simp only[go_sem,Q2,Q3,Q4,Q5,Q7,Q9,Qb,Qc,Qd,Qe,Qh,Qj,Qk,reduceCtorEq,reduceIte,hl,q0,a1,a2,b2,a3,b3,a4,c5,d5,e5.1,e5.2,f5.1,f5.2,c6,d6,e6.1,e6.2,f6.1,f6.2,z1,z2,w0,w1,w2,w3,w4]
theorem xfX(u:Nat)(h1:100000<=u)(h2:u<1000000):call T 157 [.psl 0 1 1 6 (some 23),.int .u64 u] [.bar (aq 24 0)] 0=some ⟨.tup [],[(0,.bar (0::(dec u++aq 17 0)))],[]⟩:=by
 have hl:cs2.length=200:=by exact lx
 have q0:aA.wrap (u:Int)=(u:Int):=by exact fk u (by omega)
 have a1:(u:Int).tmod 10000=((u % 10000:Nat):Int):=by rfl
 have a2:(u:Int).tdiv 10000=((u/10000:Nat):Int):=by rfl
 have b2:aA.wrap ((u/10000:Nat):Int)=((u/10000:Nat):Int):=by exact fk _ (by omega)
 have a3:(((u % 10000):Nat):Int).tdiv 100=(((u % 10000)/100:Nat):Int):=by rfl
 have b3:aA.wrap (((u % 10000)/100:Nat):Int)=(((u % 10000)/100:Nat):Int):=by exact fk _ (by omega)
 have a4:(((u % 10000):Nat):Int).tmod 100=(((u % 10000) % 100:Nat):Int):=by rfl
 have c5:aA.wrap (((((u % 10000)/100):Nat):Int)*2)=((2*((u % 10000)/100):Nat):Int):=by rw[show((((u % 10000)/100):Nat):Int)*2=((2*((u % 10000)/100):Nat):Int)from by omega];exact fk _ (by omega)
 have d5:aA.wrap (((2*((u % 10000)/100):Nat):Int)+1)=((2*((u % 10000)/100)+1:Nat):Int):=by rw[show((2*((u % 10000)/100):Nat):Int)+1=((2*((u % 10000)/100)+1:Nat):Int)from by omega];exact fk _ (by omega)
 have e5:cs2.getD (2*((u % 10000)/100)) 0=dg (((u % 10000)/100)/10)/\cs2.getD (2*((u % 10000)/100)+1) 0=dg (((u % 10000)/100) % 10):=by exact iD _ (by omega)
 have f5:((2*((u % 10000)/100):Nat):Int)<200/\((2*((u % 10000)/100)+1:Nat):Int)<200:=by omega
 have c6:aA.wrap (((((u % 10000) % 100):Nat):Int)*2)=((2*((u % 10000) % 100):Nat):Int):=by rw[show((((u % 10000) % 100):Nat):Int)*2=((2*((u % 10000) % 100):Nat):Int)from by omega];exact fk _ (by omega)
 have d6:aA.wrap (((2*((u % 10000) % 100):Nat):Int)+1)=((2*((u % 10000) % 100)+1:Nat):Int):=by rw[show((2*((u % 10000) % 100):Nat):Int)+1=((2*((u % 10000) % 100)+1:Nat):Int)from by omega];exact fk _ (by omega)
 have e6:cs2.getD (2*((u % 10000) % 100)) 0=dg (((u % 10000) % 100)/10)/\cs2.getD (2*((u % 10000) % 100)+1) 0=dg (((u % 10000) % 100) % 10):=by exact iD _ (by omega)
 have f6:((2*((u % 10000) % 100):Nat):Int)<200/\((2*((u % 10000) % 100)+1:Nat):Int)<200:=by omega
 have a7:(((u/10000):Nat):Int).tmod 100=(((u/10000) % 100:Nat):Int):=by rfl
 have a8:(((u/10000):Nat):Int).tdiv 100=(((u/10000)/100:Nat):Int):=by rfl
 have b8:aA.wrap (((u/10000)/100:Nat):Int)=(((u/10000)/100:Nat):Int):=by exact fk _ (by omega)
 have c9:aA.wrap (((((u/10000) % 100):Nat):Int)*2)=((2*((u/10000) % 100):Nat):Int):=by rw[show((((u/10000) % 100):Nat):Int)*2=((2*((u/10000) % 100):Nat):Int)from by omega];exact fk _ (by omega)
 have d9:aA.wrap (((2*((u/10000) % 100):Nat):Int)+1)=((2*((u/10000) % 100)+1:Nat):Int):=by rw[show((2*((u/10000) % 100):Nat):Int)+1=((2*((u/10000) % 100)+1:Nat):Int)from by omega];exact fk _ (by omega)
 have e9:cs2.getD (2*((u/10000) % 100)) 0=dg (((u/10000) % 100)/10)/\cs2.getD (2*((u/10000) % 100)+1) 0=dg (((u/10000) % 100) % 10):=by exact iD _ (by omega)
 have f9:((2*((u/10000) % 100):Nat):Int)<200/\((2*((u/10000) % 100)+1:Nat):Int)<200:=by omega
 have hd:dec u=[dg (((u/10000) % 100)/10),dg (((u/10000) % 100) % 10),dg (((u % 10000)/100)/10),dg (((u % 10000)/100) % 10),dg (((u % 10000) % 100)/10),dg (((u % 10000) % 100) % 10)]:=by rw[cd (n:=u) (by omega),cd (n:=u/10) (by omega),cd (n:=u/10/10) (by omega),cd (n:=u/10/10/10) (by omega),cd (n:=u/10/10/10/10) (by omega),ez (n:=u/10/10/10/10/10) (by omega)];simp only[bw,bK,lR.injEq,and_true];exact⟨congrArg dg (by omega),congrArg dg (by omega),congrArg dg (by omega),congrArg dg (by omega),congrArg dg (by omega),congrArg dg (by omega)⟩
 have w0:ai.wrap 0=0:=rfl;have w1:ai.wrap 1=1:=rfl;have w2:ai.wrap 2=2:=rfl;have w3:ai.wrap 3=3:=rfl;have w4:ai.wrap 4=4:=rfl;have w5:ai.wrap 5=5:=rfl;have w6:ai.wrap 6=6:=rfl;have w7:ai.wrap 7=7:=rfl;have hr:aq 24 (0:UInt8)=[0,0,0,0,0,0,0,0,0,0,0,0,0,0,0,0,0,0,0,0,0,0,0,0]:=rfl;have hr2:aq 17 (0:UInt8)=[0,0,0,0,0,0,0,0,0,0,0,0,0,0,0,0,0]:=rfl;rw[hd,hr,hr2,am yc];simp only[go_sem,Qe,Qh,Qi,Qj,Qk,reduceCtorEq,reduceIte];rw[aj];simp only[go_sem,Q2,Q3,Q4,Q5,Q9,Qb,Qc,Qd,Qe,Qh,Qj,Qk,reduceCtorEq,reduceIte,hl,q0,a1,a2,b2,a3,b3,a4,c5,d5,e5.1,e5.2,f5.1,f5.2,c6,d6,e6.1,e6.2,f6.1,f6.2,a7,a8,b8,c9,d9,e9.1,e9.2,f9.1,f9.2,w0,w1,w2,w3,w4,w5]
theorem xfW(u:Nat)(h1:1000000<=u)(h2:u<10000000):call T 157 [.psl 0 1 1 7 (some 23),.int .u64 u] [.bar (aq 24 0)] 0=some ⟨.tup [],[(0,.bar (0::(dec u++aq 16 0)))],[]⟩:=by
 have hl:cs2.length=200:=by exact lx
 have q0:aA.wrap (u:Int)=(u:Int):=by exact fk u (by omega)
 have a1:(u:Int).tmod 10000=((u % 10000:Nat):Int):=by rfl
 have a2:(u:Int).tdiv 10000=((u/10000:Nat):Int):=by rfl
 have b2:aA.wrap ((u/10000:Nat):Int)=((u/10000:Nat):Int):=by exact fk _ (by omega)
 have a3:(((u % 10000):Nat):Int).tdiv 100=(((u % 10000)/100:Nat):Int):=by rfl
 have b3:aA.wrap (((u % 10000)/100:Nat):Int)=(((u % 10000)/100:Nat):Int):=by exact fk _ (by omega)
 have a4:(((u % 10000):Nat):Int).tmod 100=(((u % 10000) % 100:Nat):Int):=by rfl
 have c5:aA.wrap (((((u % 10000)/100):Nat):Int)*2)=((2*((u % 10000)/100):Nat):Int):=by rw[show((((u % 10000)/100):Nat):Int)*2=((2*((u % 10000)/100):Nat):Int)from by omega];exact fk _ (by omega)
 have d5:aA.wrap (((2*((u % 10000)/100):Nat):Int)+1)=((2*((u % 10000)/100)+1:Nat):Int):=by rw[show((2*((u % 10000)/100):Nat):Int)+1=((2*((u % 10000)/100)+1:Nat):Int)from by omega];exact fk _ (by omega)
 have e5:cs2.getD (2*((u % 10000)/100)) 0=dg (((u % 10000)/100)/10)/\cs2.getD (2*((u % 10000)/100)+1) 0=dg (((u % 10000)/100) % 10):=by exact iD _ (by omega)
 have f5:((2*((u % 10000)/100):Nat):Int)<200/\((2*((u % 10000)/100)+1:Nat):Int)<200:=by omega
 have c6:aA.wrap (((((u % 10000) % 100):Nat):Int)*2)=((2*((u % 10000) % 100):Nat):Int):=by rw[show((((u % 10000) % 100):Nat):Int)*2=((2*((u % 10000) % 100):Nat):Int)from by omega];exact fk _ (by omega)
 have d6:aA.wrap (((2*((u % 10000) % 100):Nat):Int)+1)=((2*((u % 10000) % 100)+1:Nat):Int):=by rw[show((2*((u % 10000) % 100):Nat):Int)+1=((2*((u % 10000) % 100)+1:Nat):Int)from by omega];exact fk _ (by omega)
 have e6:cs2.getD (2*((u % 10000) % 100)) 0=dg (((u % 10000) % 100)/10)/\cs2.getD (2*((u % 10000) % 100)+1) 0=dg (((u % 10000) % 100) % 10):=by exact iD _ (by omega)
 have f6:((2*((u % 10000) % 100):Nat):Int)<200/\((2*((u % 10000) % 100)+1:Nat):Int)<200:=by omega
 have a7:(((u/10000):Nat):Int).tmod 100=(((u/10000) % 100:Nat):Int):=by rfl
 have a8:(((u/10000):Nat):Int).tdiv 100=(((u/10000)/100:Nat):Int):=by rfl
 have b8:aA.wrap (((u/10000)/100:Nat):Int)=(((u/10000)/100:Nat):Int):=by exact fk _ (by omega)
 have c9:aA.wrap (((((u/10000) % 100):Nat):Int)*2)=((2*((u/10000) % 100):Nat):Int):=by rw[show((((u/10000) % 100):Nat):Int)*2=((2*((u/10000) % 100):Nat):Int)from by omega];exact fk _ (by omega)
 have d9:aA.wrap (((2*((u/10000) % 100):Nat):Int)+1)=((2*((u/10000) % 100)+1:Nat):Int):=by rw[show((2*((u/10000) % 100):Nat):Int)+1=((2*((u/10000) % 100)+1:Nat):Int)from by omega];exact fk _ (by omega)
 have e9:cs2.getD (2*((u/10000) % 100)) 0=dg (((u/10000) % 100)/10)/\cs2.getD (2*((u/10000) % 100)+1) 0=dg (((u/10000) % 100) % 10):=by exact iD _ (by omega)
 have f9:((2*((u/10000) % 100):Nat):Int)<200/\((2*((u/10000) % 100)+1:Nat):Int)<200:=by omega
 have z1:aA.wrap (48+((((u/10000)/100):Nat):Int))=((48+((u/10000)/100):Nat):Int):=by rw[show 48+((((u/10000)/100):Nat):Int)=((48+((u/10000)/100):Nat):Int)from by omega];exact fk _ (by omega)
 have z2:bM ((48+((u/10000)/100):Nat):Int)=dg ((u/10000)/100):=by rfl
 have hd:dec u=[dg (((u/10000)/100)),dg (((u/10000) % 100)/10),dg (((u/10000) % 100) % 10),dg (((u % 10000)/100)/10),dg (((u % 10000)/100) % 10),dg (((u % 10000) % 100)/10),dg (((u % 10000) % 100) % 10)]:=by rw[cd (n:=u) (by omega),cd (n:=u/10) (by omega),cd (n:=u/10/10) (by omega),cd (n:=u/10/10/10) (by omega),cd (n:=u/10/10/10/10) (by omega),cd (n:=u/10/10/10/10/10) (by omega),ez (n:=u/10/10/10/10/10/10) (by omega)];simp only[bw,bK,lR.injEq,and_true];exact⟨congrArg dg (by omega),congrArg dg (by omega),congrArg dg (by omega),congrArg dg (by omega),congrArg dg (by omega),congrArg dg (by omega),congrArg dg (by omega)⟩
 have w0:ai.wrap 0=0:=rfl;have w1:ai.wrap 1=1:=rfl;have w2:ai.wrap 2=2:=rfl;have w3:ai.wrap 3=3:=rfl;have w4:ai.wrap 4=4:=rfl;have w5:ai.wrap 5=5:=rfl;have w6:ai.wrap 6=6:=rfl;have w7:ai.wrap 7=7:=rfl;have hr:aq 24 (0:UInt8)=[0,0,0,0,0,0,0,0,0,0,0,0,0,0,0,0,0,0,0,0,0,0,0,0]:=rfl;have hr2:aq 16 (0:UInt8)=[0,0,0,0,0,0,0,0,0,0,0,0,0,0,0,0]:=rfl;rw[hd,hr,hr2,am yc];simp only[go_sem,Qe,Qh,Qi,Qj,Qk,reduceCtorEq,reduceIte];rw[aj];simp only[go_sem,Q2,Q3,Q4,Q5,Q9,Qb,Qc,Qd,Qe,Qh,Qj,Qk,reduceCtorEq,reduceIte,hl,q0,a1,a2,b2,a3,b3,a4,c5,d5,e5.1,e5.2,f5.1,f5.2,c6,d6,e6.1,e6.2,f6.1,f6.2,a7,a8,b8,c9,d9,e9.1,e9.2,f9.1,f9.2,z1,z2,w1,w2,w3,w4,w5,w6]
theorem xoa(n:Nat)(h:n<10000000):call T 132 [.int .i64 n,.int .i64 10] [] 0=some ⟨.str (dec n),[],[]⟩:=by
 rw[am xj1]
 by_cases h1:n<100
 ·have h1':(n:Int)<100:=by omega
  have g:=xn4 n h1;simp only[go_sem,Qe,Qh,Qi,Qj,Qk,reduceCtorEq,reduceIte,h1',g,xks]
 ·have h1':¬(n:Int)<100:=by omega
  have g1:=xn3 n (by omega) h;have e1:bm.wrap (n:Int)=(n:Int):=by rw[cH];omega
  have n0:¬(n:Int)<0:=by omega
  have hk:(nd n=3/\n<1000)\/(nd n=4/\1000<=n/\n<10000)\/(nd n=5/\10000<=n/\n<100000)\/(nd n=6/\100000<=n/\n<1000000)\/(nd n=7/\1000000<=n):=by
   unfold nd
   repeat' split
   all_goals omega
  rcases hk with⟨hk,h3⟩|⟨hk,h3,h4⟩|⟨hk,h3,h4⟩|⟨hk,h3,h4⟩|⟨hk,h3⟩
  ·have g2:=xf0 n (by omega) (by omega)
   have hl:(dec n).length=3:=by rw[cd (n:=n) (by omega),cd (n:=n/10) (by omega),ez (n:=n/10/10) (by omega)];rfl
   have ht:cj 3 (dec n++aq 20 0)=dec n:=by rw[<-hl];exact List.take_left
   have w1:ai.wrap (1+3)=4:=rfl;have w2:ai.wrap 4=4:=rfl;have hb:3<=(dec n).length+20:=by omega
   rw[hk]at g1;simp only[cB]at g1;simp only[go_sem,Q2,Q3,Q4,Q8,Qe,Qf,Qg,Qh,Qi,Qj,Qk,reduceCtorEq,reduceIte,h1',n0,e1,g1,yk,g2,yj,w2,ht,hl,av,ah,cQ]
  ·have g2:=xfZ n (by omega) (by omega)
   have hl:(dec n).length=4:=by rw[cd (n:=n) (by omega),cd (n:=n/10) (by omega),cd (n:=n/10/10) (by omega),ez (n:=n/10/10/10) (by omega)];rfl
   have ht:cj 4 (dec n++aq 19 0)=dec n:=by rw[<-hl];exact List.take_left
   have w1:ai.wrap (1+4)=5:=rfl;have w2:ai.wrap 5=5:=rfl;have hb:4<=(dec n).length+19:=by omega
   rw[hk]at g1;simp only[cB]at g1;simp only[go_sem,Q2,Q3,Q4,Q8,Qe,Qf,Qg,Qh,Qi,Qj,Qk,reduceCtorEq,reduceIte,h1',n0,e1,g1,yk,g2,yj,w2,ht,hl,av,ah,cQ]
  ·have g2:=xfY n (by omega) (by omega)
   have hl:(dec n).length=5:=by rw[cd (n:=n) (by omega),cd (n:=n/10) (by omega),cd (n:=n/10/10) (by omega),cd (n:=n/10/10/10) (by omega),ez (n:=n/10/10/10/10) (by omega)];rfl
   have ht:cj 5 (dec n++aq 18 0)=dec n:=by rw[<-hl];exact List.take_left
   have w1:ai.wrap (1+5)=6:=rfl;have w2:ai.wrap 6=6:=rfl;have hb:5<=(dec n).length+18:=by omega
   rw[hk]at g1;simp only[cB]at g1;simp only[go_sem,Q2,Q3,Q4,Q8,Qe,Qf,Qg,Qh,Qi,Qj,Qk,reduceCtorEq,reduceIte,h1',n0,e1,g1,yk,g2,yj,w2,ht,hl,av,ah,cQ]
  ·have g2:=xfX n (by omega) (by omega)
   have hl:(dec n).length=6:=by rw[cd (n:=n) (by omega),cd (n:=n/10) (by omega),cd (n:=n/10/10) (by omega),cd (n:=n/10/10/10) (by omega),cd (n:=n/10/10/10/10) (by omega),ez (n:=n/10/10/10/10/10) (by omega)];rfl
   have ht:cj 6 (dec n++aq 17 0)=dec n:=by rw[<-hl];exact List.take_left
   have w1:ai.wrap (1+6)=7:=rfl;have w2:ai.wrap 7=7:=rfl;have hb:6<=(dec n).length+17:=by omega
   rw[hk]at g1;simp only[cB]at g1;simp only[go_sem,Q2,Q3,Q4,Q8,Qe,Qf,Qg,Qh,Qi,Qj,Qk,reduceCtorEq,reduceIte,h1',n0,e1,g1,yk,g2,yj,w2,ht,hl,av,ah,cQ]
  ·have g2:=xfW n (by omega) (by omega)
   have hl:(dec n).length=7:=by rw[cd (n:=n) (by omega),cd (n:=n/10) (by omega),cd (n:=n/10/10) (by omega),cd (n:=n/10/10/10) (by omega),cd (n:=n/10/10/10/10) (by omega),cd (n:=n/10/10/10/10/10) (by omega),ez (n:=n/10/10/10/10/10/10) (by omega)];rfl
   have ht:cj 7 (dec n++aq 16 0)=dec n:=by rw[<-hl];exact List.take_left
   have w1:ai.wrap (1+7)=8:=rfl;have w2:ai.wrap 8=8:=rfl;have hb:7<=(dec n).length+16:=by omega
   rw[hk]at g1;simp only[cB]at g1;simp only[go_sem,Q2,Q3,Q4,Q8,Qe,Qf,Qg,Qh,Qi,Qj,Qk,reduceCtorEq,reduceIte,h1',n0,e1,g1,yk,g2,yj,w2,ht,hl,av,ah,cQ]
theorem f91(n:Nat)(h:n<10000000):call T 91 [.int .i64 n] [] 0=some ⟨.str (dec n),[],[]⟩:=by have g:=xoa n h;rw[am xoK];simp only[go_sem,Qh,Qi,Qj,Qk,reduceCtorEq,reduceIte,g,xkx]
theorem f49(n:Nat)(h:n<10000000):call T 49 [.int .i64 n] [] 0=some ⟨.str (dec n),[],[]⟩:=by have g:=f91 n h;rw[am xpf];simp only[go_sem,Qh,Qi,Qj,Qk,reduceCtorEq,reduceIte,g,xpO]
def il(x:Img):List UInt8:=if gK x=0 then jw (jw (be 1 (bm.wrap x.role)++be 4 (bm.wrap x.ver)) x.name) x.pay else []
theorem dY(B X:List UInt8):(jw B X).length=B.length+2+min 65535 X.length:=by unfold jw;rw[ah,ah,ib,ay]
theorem qz(x:Img)(hn:x.name.length<=1000000)(hp:x.pay.length<=1000000):(il x).length<=10000000:=by
 unfold il;split
 ·rw[dY,dY,ah,ib,ib];omega
 ·simp
theorem f33(x:Img)(hn:x.name.length<=1000000)(hp:x.pay.length<=1000000):call T 33 [.agg x.sv] [] 0=some ⟨.byt (il x) .no,[],[]⟩:=by
 have g0:=f81 x (by omega) (by omega);have g1:=f82 [] 1 x.role (by omega) (by omega) (by simp);have g2:=f82 (be 1 (bm.wrap x.role)) 4 x.ver (by omega) (by omega) (by rw[ib];omega);have g3:=f83 (be 1 (bm.wrap x.role)++be 4 (bm.wrap x.ver)) x.name (by rw[ah,ib,ib];omega) (by omega);have g4:=f83 (jw (be 1 (bm.wrap x.role)++be 4 (bm.wrap x.ver)) x.name) x.pay (by rw[dY,ah,ib,ib];omega) (by omega);simp only[cB,bw]at g1 g2;obtain⟨ro,na,ve,p⟩:=x;simp only[Img.sv]at*;rw[am xpt];unfold il
 by_cases h:gK ⟨ro,na,ve,p⟩=0
 ·rw[h]at g0
  simp only[go_sem,Qe,Qg,Qh,Qi,Qj,Qk,reduceCtorEq,reduceIte,g0,ye,g1,Fx,g2,g3,Tx,g4,h]
 ·simp only[go_sem,Qe,Qh,Qi,Qj,Qk,reduceCtorEq,reduceIte,g0,ye,h]
def sS(role:Int):Int:=if role=1 then 0 else if role=2 then 4 else if role=3 then 8 else if role=4 then 9 else-1
theorem f55(role:Int):call T 55 [.int .i64 role] [] 0=some ⟨.int .i64 (sS role),[],[]⟩:=by
 rw[am xo9];unfold sS
 by_cases h1:role=1
 ·subst h1;simp only[go_sem,Q5,Q7,Qh,Qi,Qj,Qk,reduceCtorEq,reduceIte]
 by_cases h2:role=2
 ·subst h2;simp only[go_sem,Q5,Q7,Qh,Qi,Qj,Qk,reduceCtorEq,reduceIte]
 by_cases h3:role=3
 ·subst h3;simp only[go_sem,Q5,Q7,Qh,Qi,Qj,Qk,reduceCtorEq,reduceIte]
 by_cases h4:role=4
 ·subst h4;simp only[go_sem,Q5,Q7,Qh,Qi,Qj,Qk,reduceCtorEq,reduceIte]
 simp only[go_sem,Q7,Qh,Qi,Qj,Qk,reduceCtorEq,reduceIte,h1,h2,h3,h4]
def qW(a:Int)(b:Nat):Bool:=if b=0 then decide (a=1\/a=3)else decide (a=2\/a=3)
def lA(a:Int):Prop:=a=1\/a=2\/a=3
theorem xbt(a:Int)(h:lA a):call T 124 [.int .i64 a,.int .i64 0] [] 0=some ⟨.bool (qW a 0),[],[]⟩:=by rcases h with rfl|rfl|rfl<;>(rw[am xbJ];simp only[go_sem,Qe,Qh,Qi,Qj,Qk,reduceCtorEq,reduceIte];rfl)
theorem xbs(a:Int)(h:lA a):call T 124 [.int .i64 a,.int .i64 1] [] 0=some ⟨.bool (qW a 1),[],[]⟩:=by rcases h with rfl|rfl|rfl<;>(rw[am xbJ];simp only[go_sem,Qe,Qh,Qi,Qj,Qk,reduceCtorEq,reduceIte];rfl)
def wm(b:List UInt8)(a:Int):List (List UInt8):=if b=[]then [[],[]]else [if qW a 0 then iZ b else [],if qW a 1 then sha b else []]
theorem wk(b:List UInt8)(a:Int):(wm b a).length=2:=by unfold wm;split<;>rfl
theorem xoc(x:Img)(a:Int)(ha:lA a)(hn:x.name.length<=1000000)(hp:x.pay.length<=1000000):call T 125 [.agg x.sv,.int .i64 a] [] 0=some ⟨.lst 1 (bls (wm (il x) a)) .no,[],[]⟩:=by
 have g0:=f33 x hn hp;have hl:=qz x hn hp;have g1:=xbt a ha;have g2:=xbs a ha;have g3:=xgs (il x) (by omega);have g4:=xgr (il x) (by omega);have k1:ai.wrap 1=1:=rfl;have k2:ai.wrap 2=2:=rfl;obtain⟨ro,na,ve,p⟩:=x;simp only[Img.sv]at*;generalize il ⟨ro,na,ve,p⟩=b at*;rw[am xj8];unfold wm bls
 by_cases hb:b=[]
 ·subst hb
  simp only[go_sem,Q2,Q3,Qa,Qe,Qh,Qi,Qj,Qk,reduceCtorEq,reduceIte,g0,FC,aq]
  iterate 3
   rw[aj];simp only[go_sem,Q4,Q8,Qe,Qh,Qj,Qk,reduceIte,k1,k2]
 ·have hb':(0:Int)<b.length:=by
   have:b.length≠0:=fun e=>hb (bR.1 e)
   omega
  cases q1:qW a 0<;>cases q2:qW a 1<;>rw[q1]at g1<;>rw[q2]at g2<;>
  ·simp only[go_sem,Q2,Q3,Qa,Qe,Qh,Qi,Qj,Qk,reduceCtorEq,reduceIte,g0,FC,aq]
   iterate 3
    rw[aj];simp only[go_sem,Q2,Q3,Q4,Q8,Qe,Qh,Qj,Qk,reduceIte,k1,k2,hb,hb',g1,g2,g3,g4,QH,Di,eH]
def ti(name:List UInt8)(ver:Int):List UInt8:=name++32::dec ver.toNat
theorem f56(name:List UInt8)(ver:Int)(hn:name.length<=1000000)(h0:0<=ver)(h1:ver<=1000000):call T 56 [.str name,.int .i64 ver] [] 0=some ⟨.byt (ti name ver) .no,[],[]⟩:=by
 obtain⟨v,rfl⟩:=Int.eq_ofNat_of_zero_le h0;have g:=f97 v (by omega);have hl:=jg 6 v (by omega);rw[am xo8];unfold ti;have c1:name.length+1<=140737488355328:=by omega
 have c2:name.length+1+(dec v).length<=140737488355328:=by omega
 simp only[go_sem,Qe,Qg,Qh,Qi,Qj,Qk,reduceCtorEq,reduceIte,g,Tw,c1,c2]
theorem kM{s:List UInt8}(h:Pr.nameB s=true):1<=s.length/\s.length<=12:=by
 unfold Pr.nameB at h;split at h
 ·cases h
 ·omega
theorem jC{x:Img}(h:gK x=0):1<=x.role/\x.role<=4/\0<=x.ver/\x.ver<=1000000/\Pr.nameB x.name=true/\x.pay.length<=64:=by
 unfold gK at h
 repeat' split at h
 all_goals first|omega|skip
 all_goals (cases hq:Pr.nameB x.name with
  |true=>exact⟨by omega,by omega,by omega,by omega,rfl,by omega⟩
  |false=>simp_all)
theorem mi{x:Img}(h:gK x=0):x.name.length<=1000000/\x.pay.length<=1000000:=by obtain⟨_,_,_,_,h1,h2⟩:=jC h;have:=kM h1;omega
def ofI(x:Img)(a:Int):Ev:=⟨sS x.role,1,wm (il x) a,ti x.name x.ver⟩
theorem f78(x:Img)(a:Int)(ha:lA a)(h:gK x=0)(h4:x.role≠4):call T 78 [.agg x.sv,.int .i64 a] [] 0=some ⟨.agg (ofI x a).sv,[],[]⟩:=by obtain⟨q1,q2,q3,q4,q5,q6⟩:=jC h;obtain⟨b1,b2⟩:=mi h;have g0:=f81 x (by omega) (by omega);have g1:=f55 x.role;have g2:=xoc x a ha b1 b2;have g3:=f56 x.name x.ver b1 q3 q4;rw[h]at g0;obtain⟨ro,na,ve,p⟩:=x;simp only[Img.sv,Ev.sv,ofI]at*;rw[am xoW];simp only[go_sem,Qb,Qc,Qd,Qe,Qh,Qi,Qj,Qk,reduceCtorEq,reduceIte,g0,ye,h4,g1,Dj,g2,xkz,g3,xbL]
def mkV(reg kind a:Int)(data:List UInt8):Ev:=⟨reg,kind,if kind=5 then [[],[]]else [if qW a 0 then iZ data else [],if qW a 1 then sha data else []],data⟩
theorem f76(reg kind a:Int)(data:List UInt8)(ha:lA a)(hd:data.length<=1000000):call T 76 [.int .i64 reg,.int .i64 kind,.int .i64 a,.byt data .no] [] 0=some ⟨.agg (mkV reg kind a data).sv,[],[]⟩:=by
 have g1:=xbt a ha;have g2:=xbs a ha;have g3:=xgs data (by omega);have g4:=xgr data (by omega);have k1:ai.wrap 1=1:=rfl;have k2:ai.wrap 2=2:=rfl;rw[am xoY];unfold mkV Ev.sv bls
 by_cases hk:kind=5
 ·subst hk
  cases q1:qW a 0<;>cases q2:qW a 1<;>rw[q1]at g1<;>rw[q2]at g2<;>
  ·simp only[go_sem,Q2,Q3,Qa,Qe,Qh,Qi,Qj,Qk,reduceCtorEq,reduceIte,aq]
   iterate 3
    rw[aj];simp only[go_sem,Q4,Q8,Qe,Qh,Qi,Qj,Qk,reduceIte,k1,k2,g1,g2,QH]
 ·cases q1:qW a 0<;>cases q2:qW a 1<;>rw[q1]at g1<;>rw[q2]at g2<;>
  ·simp only[go_sem,Q2,Q3,Qa,Qe,Qh,Qi,Qj,Qk,reduceCtorEq,reduceIte,aq]
   iterate 3
    rw[aj];simp only[go_sem,Q2,Q3,Q4,Q8,Qb,Qc,Qd,Qe,Qh,Qi,Qj,Qk,reduceCtorEq,reduceIte,k1,k2,hk,g1,g2,g3,g4,QH,Di,eH]
theorem f77:call T 77 [] [] 0=some ⟨.byt [0,0,0,0] .no,[],[]⟩:=by rw[am xoX];simp only[go_sem,Qh,Qk,reduceCtorEq,reduceIte]
def fm(l:List Img):List (List SV):=l.map Img.sv
def im0:Img:=⟨0,[],0,[]⟩
theorem eM(l:List Img):(fm l).length=l.length:=aX ..
theorem gJ(l:List Img)(i:Nat)(h:i<l.length):(fm l).getD i []=(l.getD i im0).sv:=by simp[fm,aa,h]
structure eD(l:List Img):Prop where
 n1:1<=l.length
 n8:l.length<=8
 ok:∀i,i<l.length->gK (l.getD i im0)=0
 ord:∀i,i+1<l.length->(l.getD i im0).role<=(l.getD (i+1) im0).role
 dup:∀i,i<l.length->∀k,k<i->(l.getD k im0).role=(l.getD i im0).role->(l.getD k im0).name≠(l.getD i im0).name
 fw:∃i,i<l.length/\(l.getD i im0).role=1
 kn:∃i,i<l.length/\(l.getD i im0).role=3
theorem xno(l:List Img)(h:eD l)(f k:Bool)(i:Nat)(hi:i<l.length):∀(n j:Nat),i-j=n->j<=i->
 run T (.loop yD) ⟨[(0,.lst 4 (fm l) .no),(3,.bool f),(4,.bool k),(5,.int .i64 i),(7,.int .i64 j)],[],[]⟩=some (.x 2,⟨[(0,.lst 4 (fm l) .no),(3,.bool f),(4,.bool k),(5,.int .i64 i)],[],[]⟩):=by
 intro n;induction n with
 |zero=>
  intro j h0 h1;have:j=i:=by omega
  subst this;rw[aj];simp only[go_sem,Qh,Qj,Qk,reduceCtorEq,reduceIte]
 |succ n ih=>
  intro j h0 h1;have hj:j<i:=by omega
  have hj2:j<l.length:=by omega
  have e1:=bV j (by have:=h.n8;omega);have ih':=ih (j+1) (by omega) (by omega);have hv:=eM l;have hg:=gJ l i hi;have hg2:=gJ l j hj2;have hd:=h.dup i hi j hj;rw[aj];generalize l.getD i im0=x at*;generalize l.getD j im0=y at*;obtain⟨ro,na,ve,p⟩:=x;obtain⟨ro2,na2,ve2,p2⟩:=y;simp only[Img.sv]at*
  by_cases hr:ro2=ro
  ·have hn:¬na2=na:=hd hr
   simp only[go_sem,Qe,Qh,Qi,Qj,Qk,reduceCtorEq,reduceIte,hj,hj2,hi,e1,hv,hg,hg2,hr,hn,ih']
  ·simp only[go_sem,Qe,Qh,Qi,Qj,Qk,reduceCtorEq,reduceIte,hj,hj2,hi,e1,hv,hg,hg2,hr,ih']
def rf(l:List Img)(r:Int)(i:Nat):Bool:=(l.take i).any fun x=>decide (x.role=r)
theorem sh(l:List Img)(r:Int)(i:Nat)(hi:i<l.length):rf l r (i+1)=(rf l r i||decide ((l.getD i im0).role=r)):=by unfold rf;rw[List.take_succ_eq_append_getElem hi,List.any_append,List.any_cons,List.any_nil,Bool.or_false,aa,af hi];rfl
theorem ww{l:List Img}{r:Int}(h:∃i,i<l.length/\(l.getD i im0).role=r):rf l r l.length=true:=by obtain⟨i,hi,hr⟩:=h;unfold rf;rw[bo,List.any_eq_true];refine⟨l[i],bj _, ?_⟩;rw[aa,af hi]at hr;simpa using hr
theorem l75(l:List Img)(h:eD l):∀(n i:Nat),l.length-i=n->i<=l.length->
 run T (.loop ug) ⟨[(0,.lst 4 (fm l) .no),(3,.bool (rf l 1 i)),(4,.bool (rf l 3 i)),(5,.int .i64 i)],[],[]⟩=some (.x 0,⟨[(3,.bool true),(4,.bool true)],[],[]⟩):=by
 intro n;induction n with
 |zero=>
  intro i h0 h1;have:i=l.length:=by omega
  subst this;have hv:=eM l;have a1:=ww h.fw;have a2:=ww h.kn;rw[aj];simp only[go_sem,Qh,Qj,Qk,reduceCtorEq,reduceIte,hv,a1,a2]
 |succ n ih=>
  intro i h0 h1;have hi:i<l.length:=by omega
  have e1:=bV i (by have:=h.n8;omega);have ih':=ih (i+1) (by omega) (by omega);have hv:=eM l;have hg:=gJ l i hi;have hok:=h.ok i hi;obtain⟨b1,b2⟩:=mi hok;have g:=f81 (l.getD i im0) (by omega) (by omega);have g2:=xno l h (rf l 1 i) (rf l 3 i) i hi _ 0 rfl (by omega);simp only[aB]at g2;rw[hok]at g;rw[sh l 1 i hi,sh l 3 i hi]at ih';rw[aj]
  have key:∀q1 q2:Bool,rf l 1 i=q1->rf l 3 i=q2->run T (.loop ug) ⟨[(0,.lst 4 (fm l) .no),(3,.bool q1),(4,.bool q2),(5,.int .i64 i)],[],[]⟩=some (.x 0,⟨[(3,.bool true),(4,.bool true)],[],[]⟩):=by
   intro q1 q2 hq1 hq2;rw[hq1,hq2]at ih' g2;rw[aj]
   by_cases h00:i=0
   ·subst h00
    generalize l.getD 0 im0=x at*;obtain⟨ro,na,ve,p⟩:=x;simp only[Img.sv]at*;have hi':(0:Int)<l.length:=by omega
    have c1:((0+1:Nat):Int)=1:=rfl;have kw:ai.wrap 1=1:=rfl;rw[c1]at ih';simp only[aB]at g2
    by_cases p1:ro=1
    ·subst p1
     cases q1<;>cases q2<;>simp only[fU,dq,decide_true,decide_false,Int.reduceEq,eq_self]at ih'<;>simp only[go_sem,Q2,Q3,Q4,Q5,Q8,Qe,Qh,Qi,Qj,Qk,reduceCtorEq,reduceIte,hi',kw,hv,hg,g,ye,g2,ih']
    ·by_cases p3:ro=3
     ·subst p3
      cases q1<;>cases q2<;>simp only[fU,dq,decide_true,decide_false,Int.reduceEq,eq_self]at ih'<;>simp only[go_sem,Q2,Q3,Q4,Q5,Q8,Qe,Qh,Qi,Qj,Qk,reduceCtorEq,reduceIte,hi',kw,hv,hg,g,ye,g2,ih']
     ·cases q1<;>cases q2<;>simp only[fU,dq,decide_false,p1,p3]at ih'<;>simp only[go_sem,Q2,Q3,Q4,Q8,Qe,Qh,Qi,Qj,Qk,reduceCtorEq,reduceIte,hi',kw,hv,hg,g,ye,g2,p1,p3,ih']
   ·have hp:0<i:=by omega
    have hp':(0:Int)<(i:Nat):=by omega
    have es:ai.wrap ((i:Int)-1)=((i-1:Nat):Int):=by rw[w64 (by omega) (by have:=h.n8;omega)];omega
    have hi1:i-1<l.length:=by omega
    have hg1:=gJ l (i-1) hi1;have ho:=h.ord (i-1) (by omega);rw[show i-1+1=i from by omega]at ho;generalize l.getD i im0=x at*;generalize l.getD (i-1) im0=y at*;obtain⟨ro,na,ve,p⟩:=x;obtain⟨ro2,na2,ve2,p2⟩:=y;simp only[Img.sv]at*;have ho':¬ro<ro2:=by omega
    by_cases p1:ro=1
    ·subst p1
     cases q1<;>cases q2<;>simp only[fU,dq,decide_true,decide_false,Int.reduceEq,eq_self]at ih'<;>simp only[go_sem,Q5,Qe,Qh,Qi,Qj,Qk,reduceCtorEq,reduceIte,hi,hp',hi1,es,e1,hv,hg,hg1,g,ye,g2,ho',ih']
    ·by_cases p3:ro=3
     ·subst p3
      cases q1<;>cases q2<;>simp only[fU,dq,decide_true,decide_false,Int.reduceEq,eq_self]at ih'<;>simp only[go_sem,Q5,Qe,Qh,Qi,Qj,Qk,reduceCtorEq,reduceIte,hi,hp',hi1,es,e1,hv,hg,hg1,g,ye,g2,ho',ih']
     ·cases q1<;>cases q2<;>simp only[fU,dq,decide_false,p1,p3]at ih'<;>simp only[go_sem,Qe,Qh,Qi,Qj,Qk,reduceCtorEq,reduceIte,hi,hp',hi1,es,e1,hv,hg,hg1,g,ye,g2,ho',p1,p3,ih']
  have:=key _ _ rfl rfl;rw[aj]at this;exact this
theorem f75(l:List Img)(h:eD l):call T 75 [.lst 4 (fm l) .no] [] 0=some ⟨.int .i64 0,[],[]⟩:=by
 have g:=l75 l h _ 0 rfl (by omega);have z1:rf l 1 0=false:=rfl;have z3:rf l 3 0=false:=rfl;rw[z1,z3]at g;simp only[aB]at g;have hv:=eM l;have n1:=h.n1;have n8:=h.n8;have k1:¬(l.length:Int)=0:=by omega
 have k2:¬(8:Int)<l.length:=by omega
 rw[am xoZ];simp only[go_sem,Qh,Qi,Qj,Qk,reduceCtorEq,reduceIte,hv,k1,k2,g]
theorem f47(role:Int):call T 47 [.int .i64 role] [] 0=some ⟨.int .i64 (sS role),[],[]⟩:=by
 rw[am xph];unfold sS
 by_cases h1:role=1
 ·subst h1;simp only[go_sem,Q2,Q3,Q4,Q5,Q7,Qe,Qg,Qh,Qi,Qj,Qk,reduceCtorEq,reduceIte,pD]
 by_cases h2:role=2
 ·subst h2;simp only[go_sem,Q2,Q3,Q4,Q5,Q7,Qe,Qg,Qh,Qi,Qj,Qk,reduceCtorEq,reduceIte,pD]
 by_cases h3:role=3
 ·subst h3;simp only[go_sem,Q2,Q3,Q4,Q5,Q7,Qe,Qg,Qh,Qi,Qj,Qk,reduceCtorEq,reduceIte,pD]
 by_cases h4:role=4
 ·subst h4;simp only[go_sem,Q2,Q3,Q4,Q5,Q7,Qe,Qg,Qh,Qi,Qj,Qk,reduceCtorEq,reduceIte,pD]
 by_cases h0:role=0
 ·subst h0;simp only[go_sem,Q2,Q3,Q4,Q5,Q7,Qe,Qg,Qh,Qi,Qj,Qk,reduceCtorEq,reduceIte,pD]
 by_cases h5:role<0
 ·simp only[go_sem,Q7,Qh,Qi,Qj,Qk,reduceCtorEq,reduceIte,h1,h2,h3,h4,h5]
 ·have h6:5<=role:=by omega
  simp only[go_sem,Q7,Qh,Qi,Qj,Qk,reduceCtorEq,reduceIte,h1,h2,h3,h4,h5,h6]
theorem f48(a b:List UInt8):call T 48 [.byt a .no,.byt b .no] [] 0=some ⟨.bool (decide (a=b)),[],[]⟩:=by rw[am xpg];simp only[go_sem,Qe,Qh,Qi,Qj,Qk,reduceCtorEq,reduceIte]
def s9(b:List UInt8):Bool:=b.all fun c=> !(decide (c<32)||decide (126<c))
theorem l98(b:List UInt8)(hb:b.length<=1000000000000):∀(n i:Nat),b.length-i=n->i<=b.length->
 run T (.loop Pp) ⟨[(0,.byt b .no),(3,.int .i64 i)],[],[]⟩=if s9 (b.drop i)=true then some (.x 0,⟨[(0,.byt b .no)],[],[]⟩)else some (.r,⟨[(2,.bool false)],[],[]⟩):=by
 intro n;induction n with
 |zero=>
  intro i h0 h1;have hi:i=b.length:=by omega
  subst hi;rw[aj,aL];simp only[go_sem,Qh,Qj,Qk,reduceCtorEq,reduceIte,s9]
 |succ n ih=>
  intro i h0 h1;have hi:i<b.length:=by omega
  have e1:=bV i (by omega);have ih':=ih (i+1) (by omega) (by omega);rw[aj,cV b i hi];unfold s9 at ih' ⊢;rw[lD];generalize hc:b.getD i 0=c at*;generalize (eQ (i+1) b).all _=q at*
  by_cases a1:c<32
  ·simp only[go_sem,Qh,Qj,Qk,reduceCtorEq,reduceIte,hi,hc,a1]
  ·by_cases a2:126<c
   ·simp only[go_sem,Qh,Qj,Qk,reduceCtorEq,reduceIte,hi,hc,a1,a2]
   ·simp only[go_sem,Qh,Qj,Qk,reduceCtorEq,reduceIte,hi,hc,e1,a1,a2,ih']
theorem f98(b:List UInt8)(hb:b.length<=1000000000000):call T 98 [.byt b .no] [] 0=some ⟨.bool (s9 b&&decide ((0:Int)<b.length)),[],[]⟩:=by
 have h:=l98 b hb _ 0 rfl (by omega);simp only[aB,aR]at h;rw[am xoD];cases hq:s9 b with
 |true=>rw[if_pos hq]at h;simp only[go_sem,Qh,Qi,Qj,Qk,reduceCtorEq,reduceIte,h]
 |false=>rw[if_neg (by rw[hq];simp)]at h;simp only[go_sem,Qi,Qk,reduceCtorEq,reduceIte,h]
def iy(m:Bool)(d s:List UInt8):Bool:=if(0:Int)<d.length then(m&&decide (d=s))else true
def pK(e:Ev):Bool:=
 if e.kind=1 then true
 else if e.kind=2 then(if e.data=[0,0,0,0]then iy true (e.dg.getD 0 []) (iZ e.data)&&iy true (e.dg.getD 1 []) (sha e.data)else false)
 else if e.kind=3 then(if(e.data.length:Int)=0 then false else if s9 e.data=true then iy true (e.dg.getD 0 []) (iZ e.data)&&iy true (e.dg.getD 1 []) (sha e.data)else false)
 else if e.kind=4 then iy true (e.dg.getD 0 []) (iZ e.data)&&iy true (e.dg.getD 1 []) (sha e.data)
 else if e.kind=5 then iy false (e.dg.getD 0 []) []&&iy false (e.dg.getD 1 []) []
 else false
theorem xnv(O:SV)(m:Bool)(ob:List (Nat×aF))(b:List UInt8)(hb:b.length<=1000000000000):∀(n i:Nat),b.length-i=n->i<=b.length->
 run T (.loop yI) ⟨[(1,O),(3,.bool m),(34,.byt b .no),(35,.int .i64 b.length),(36,.int .i64 i)],ob,[]⟩=
 if s9 (b.drop i)=true then some (.x 1,⟨[(1,O),(3,.bool m)],ob,[]⟩)else some (.r,⟨[(2,.bool false)],ob,[]⟩):=by
 intro n;induction n with
 |zero=>
  intro i h0 h1;have hi:i=b.length:=by omega
  subst hi;rw[aj,aL];simp only[go_sem,Qh,Qj,Qk,reduceIte,s9]
 |succ n ih=>
  intro i h0 h1;have hi:i<b.length:=by omega
  have e1:=bV i (by omega);have ih':=ih (i+1) (by omega) (by omega);rw[aj,cV b i hi];unfold s9 at ih' ⊢;rw[lD];generalize hc:b.getD i 0=c at*;generalize (eQ (i+1) b).all _=q at*
  by_cases a1:c<32
  ·simp only[go_sem,Qh,Qj,Qk,reduceIte,hi,hc,a1]
  ·by_cases a2:126<c
   ·simp only[go_sem,Qh,Qj,Qk,reduceIte,hi,hc,a1,a2]
   ·simp only[go_sem,Qh,Qj,Qk,reduceIte,hi,hc,e1,a1,a2,ih']
theorem xl3(
 m:Bool)(g k:Int)(d0 d1 b s0 s1:List UInt8)(hb:b.length<=1000000)(h0:m=true->s0=iZ b)(h1:m=true->s1=sha b):
 run T (.loop yH) ⟨[(1,.ptr 101 0),(3,.bool m),(53,.int .i64 2),(54,.int .i64 0)],[(101,.rc [.int .i64 g,.int .i64 k,.lst 1 [[.byt d0 .no],[.byt d1 .no]] .no,.byt b .no])],[]⟩=
 if(iy m d0 s0&&iy m d1 s1)=true then some (.x 3,⟨[],[(101,.rc [.int .i64 g,.int .i64 k,.lst 1 [[.byt d0 .no],[.byt d1 .no]] .no,.byt b .no])],[]⟩)
 else some (.r,⟨[(2,.bool false)],[(101,.rc [.int .i64 g,.int .i64 k,.lst 1 [[.byt d0 .no],[.byt d1 .no]] .no,.byt b .no])],[]⟩):=by
 have g0:=xnQ b (by omega);have g1:=f69 b (by omega);have g2:=f48 d0 (iZ b);have g3:=f48 d1 (sha b);have k1:ai.wrap 1=1:=rfl;have k2:ai.wrap 2=2:=rfl;unfold iy;cases m with
 |false=>
  by_cases a1:(0:Int)<d0.length
  ·rw[aj];simp only[go_sem,Q2,Q3,Q4,Qe,Qh,Qi,Qj,Qk,reduceIte,a1]
  ·by_cases a2:(0:Int)<d1.length
   ·iterate 2
     rw[aj];simp only[go_sem,Q2,Q3,Q4,Q8,Qe,Qh,Qi,Qj,Qk,reduceIte,a1,a2,k1]
   ·iterate 3
     rw[aj];simp only[go_sem,Q2,Q3,Q4,Q8,Qe,Qh,Qi,Qj,Qk,reduceIte,a1,a2,k1,k2]
 |true=>
  rw[h0 rfl,h1 rfl]
  by_cases a1:(0:Int)<d0.length
  ·by_cases b1:d0=iZ b
   ·have g2':call T 48 [.byt d0 .no,.byt (iZ b) .no] [] 0=some ⟨.bool true,[],[]⟩:=by rw[g2,decide_eq_true b1]
    by_cases a2:(0:Int)<d1.length
    ·by_cases b2:d1=sha b
     ·have g3':call T 48 [.byt d1 .no,.byt (sha b) .no] [] 0=some ⟨.bool true,[],[]⟩:=by rw[g3,decide_eq_true b2]
      rw[decide_eq_true b1,decide_eq_true b2]
      iterate 3
       rw[aj];simp only[go_sem,Q2,Q3,Q4,Q8,Qe,Qh,Qi,Qj,Qk,reduceIte,a1,a2,k1,k2,g0,g1,g2',g3',FA,wB]
     ·have g3':call T 48 [.byt d1 .no,.byt (sha b) .no] [] 0=some ⟨.bool false,[],[]⟩:=by rw[g3,decide_eq_false b2]
      rw[decide_eq_true b1,decide_eq_false b2]
      iterate 2
       rw[aj];simp only[go_sem,Q2,Q3,Q4,Q8,Qe,Qh,Qi,Qj,Qk,reduceIte,a1,a2,k1,g0,g1,g2',g3',FA,wB]
    ·rw[decide_eq_true b1]
     iterate 3
      rw[aj];simp only[go_sem,Q2,Q3,Q4,Q8,Qe,Qh,Qi,Qj,Qk,reduceIte,a1,a2,k1,k2,g0,g2',FA,wB]
   ·have g2':call T 48 [.byt d0 .no,.byt (iZ b) .no] [] 0=some ⟨.bool false,[],[]⟩:=by rw[g2,decide_eq_false b1]
    rw[decide_eq_false b1];rw[aj];simp only[go_sem,Q2,Q3,Q4,Qe,Qh,Qi,Qj,Qk,reduceIte,a1,g0,g2',FA,wB]
  ·by_cases a2:(0:Int)<d1.length
   ·by_cases b2:d1=sha b
    ·have g3':call T 48 [.byt d1 .no,.byt (sha b) .no] [] 0=some ⟨.bool true,[],[]⟩:=by rw[g3,decide_eq_true b2]
     rw[decide_eq_true b2]
     iterate 3
      rw[aj];simp only[go_sem,Q2,Q3,Q4,Q8,Qe,Qh,Qi,Qj,Qk,reduceIte,a1,a2,k1,k2,g1,g3',FA,wB]
    ·have g3':call T 48 [.byt d1 .no,.byt (sha b) .no] [] 0=some ⟨.bool false,[],[]⟩:=by rw[g3,decide_eq_false b2]
     rw[decide_eq_false b2]
     iterate 2
      rw[aj];simp only[go_sem,Q2,Q3,Q4,Q8,Qe,Qh,Qi,Qj,Qk,reduceIte,a1,a2,k1,g1,g3',FA,wB]
   ·iterate 3
     rw[aj];simp only[go_sem,Q2,Q3,Q4,Q8,Qe,Qh,Qi,Qj,Qk,reduceIte,a1,a2,k1,k2]
theorem two{α:Type}(l:List α)(d:α)(h:l.length=2):l=[l.getD 0 d,l.getD 1 d]:=by
 match l,h with
 |[a,b],_=>rfl
theorem f50(e:Ev)(hd:e.dg.length=2)(hb:e.data.length<=1000000):call T 50 [.agg e.sv] [] 0=some ⟨.bool (pK e),[],[]⟩:=by
 obtain⟨g,k,ds,b⟩:=e;simp only at hd hb;rw[two ds [] hd];generalize ds.getD 0 []=d0;generalize ds.getD 1 []=d1;clear hd;have q0:=xl3 false g k d0 d1 b [] [] hb (fun h=>by cases h) (fun h=>by cases h);have q1:=xl3 true g k d0 d1 b (iZ b) (sha b) hb (fun _=>rfl) (fun _=>rfl);have p:=xnv (.ptr 101 0) true [(101,.rc [.int .i64 g,.int .i64 k,.lst 1 [[.byt d0 .no],[.byt d1 .no]] .no,.byt b .no])] b (by omega) _ 0 rfl (by omega);have p4:=f48 b [0,0,0,0];simp only[aB,aR]at p;have hbl:bls [d0,d1]=[[.byt d0 .no],[.byt d1 .no]]:=rfl;rw[am xpe];unfold pK Ev.sv;simp only[hbl,bc,bh];generalize (iy false d0 []&&iy false d1 [])=z0 at*;generalize (iy true d0 (iZ b)&&iy true d1 (sha b))=z1 at*
 by_cases h1:k=1
 ·subst h1;simp only[go_sem,Q2,Q3,Q5,Qb,Qc,Qd,Qe,Qh,Qi,Qj,Qk,reduceCtorEq,reduceIte]
 by_cases h2:k=2
 ·subst h2
  by_cases h3:b=[0,0,0,0]
  ·rw[decide_eq_true h3]at p4
   cases z1<;>simp only[go_sem,Q2,Q3,Q5,Qb,Qc,Qd,Qe,Qh,Qi,Qj,Qk,reduceCtorEq,reduceIte,h3,aq]at p4 q1 ⊢ <;>simp only[go_sem,Q4,Qb,Qc,Qd,Qe,Qg,Qh,Qi,Qj,Qk,reduceIte,p4,wB,q1]
  ·rw[decide_eq_false h3]at p4
   simp only[go_sem,Q2,Q3,Q5,Qb,Qc,Qd,Qe,Qg,Qh,Qi,Qj,Qk,reduceCtorEq,reduceIte,h3,p4,wB,aq]
 by_cases h3:k=3
 ·subst h3
  by_cases h4:(b.length:Int)=0
  ·simp only[go_sem,Q2,Q3,Q5,Qb,Qc,Qd,Qe,Qh,Qi,Qj,Qk,reduceCtorEq,reduceIte,h4]
  ·cases hp:s9 b with
   |true=>rw[if_pos hp]at p;cases z1<;>simp only[go_sem,reduceIte]at q1<;>simp only[go_sem,Q2,Q3,Q4,Q5,Qb,Qc,Qd,Qe,Qh,Qi,Qj,Qk,reduceCtorEq,reduceIte,h4,p,q1]
   |false=>rw[if_neg (by rw[hp];simp)]at p;simp only[go_sem,Q2,Q3,Q5,Qb,Qc,Qd,Qe,Qh,Qi,Qj,Qk,reduceCtorEq,reduceIte,h4,p]
 by_cases h4:k=4
 ·subst h4
  cases z1<;>simp only[go_sem,reduceIte]at q1<;>simp only[go_sem,Q2,Q3,Q4,Q5,Qb,Qc,Qd,Qe,Qh,Qi,Qj,Qk,reduceCtorEq,reduceIte,q1]
 by_cases h5:k=5
 ·subst h5
  cases z0<;>simp only[go_sem,reduceIte]at q0<;>simp only[go_sem,Q2,Q3,Q4,Q5,Qb,Qc,Qd,Qe,Qh,Qi,Qj,Qk,reduceCtorEq,reduceIte,q0]
 simp only[go_sem,Q2,Q3,Qb,Qc,Qd,Qe,Qh,Qi,Qj,Qk,reduceCtorEq,reduceIte,h1,h2,h3,h4,h5]
theorem xns(g:Int)(d0 d1 b:List UInt8):
 run T (.loop ui) ⟨[(1,.ptr 101 0),(3,.int .i64 0)],[(101,.rc [.int .i64 g,.int .i64 5,.lst 1 [[.byt d0 .no],[.byt d1 .no]] .no,.byt b .no])],[]⟩=
 if(iy false d0 []&&iy false d1 [])=true then some (.x 0,⟨[],[(101,.rc [.int .i64 g,.int .i64 5,.lst 1 [[.byt d0 .no],[.byt d1 .no]] .no,.byt b .no])],[]⟩)
 else some (.r,⟨[(2,.bool false)],[(101,.rc [.int .i64 g,.int .i64 5,.lst 1 [[.byt d0 .no],[.byt d1 .no]] .no,.byt b .no])],[]⟩):=by
 have k1:ai.wrap 1=1:=rfl;have k2:ai.wrap 2=2:=rfl;unfold iy
 by_cases a1:(0:Int)<d0.length
 ·rw[aj];simp only[go_sem,Q2,Q3,Q4,Qb,Qc,Qd,Qe,Qh,Qi,Qj,Qk,reduceCtorEq,reduceIte,a1]
 ·by_cases a2:(0:Int)<d1.length
  ·iterate 2
    rw[aj];simp only[go_sem,Q2,Q3,Q4,Q8,Qb,Qc,Qd,Qe,Qh,Qi,Qj,Qk,reduceCtorEq,reduceIte,a1,a2,k1]
  ·iterate 3
    rw[aj];simp only[go_sem,Q2,Q3,Q4,Q8,Qb,Qc,Qd,Qe,Qh,Qi,Qj,Qk,reduceCtorEq,reduceIte,a1,a2,k1,k2]
theorem xnt(g k:Int)(hk:k≠5)(d0 d1 b:List UInt8)(hb:b.length<=1000000)(hd0:d0.length<=1000000)(hd1:d1.length<=1000000):
 run T (.loop ui) ⟨[(1,.ptr 101 0),(3,.int .i64 0)],[(101,.rc [.int .i64 g,.int .i64 k,.lst 1 [[.byt d0 .no],[.byt d1 .no]] .no,.byt b .no])],[]⟩=
 if(iy true d0 (iZ b)&&iy true d1 (sha b))=true then some (.x 0,⟨[],[(101,.rc [.int .i64 g,.int .i64 k,.lst 1 [[.byt d0 .no],[.byt d1 .no]] .no,.byt b .no])],[]⟩)
 else some (.r,⟨[(2,.bool false)],[(101,.rc [.int .i64 g,.int .i64 k,.lst 1 [[.byt d0 .no],[.byt d1 .no]] .no,.byt b .no])],[]⟩):=by
 have g0:=xgs b (by omega);have g1:=xgr b (by omega);have g2:=f25 d0 (iZ b) (by omega);have g3:=f25 d1 (sha b) (by omega);have k1:ai.wrap 1=1:=rfl;have k2:ai.wrap 2=2:=rfl;unfold iy
 by_cases a1:(0:Int)<d0.length
 ·by_cases b1:d0=iZ b
  ·rw[decide_eq_true b1]at g2 ⊢
   by_cases a2:(0:Int)<d1.length
   ·by_cases b2:d1=sha b
    ·rw[decide_eq_true b2]at g3 ⊢
     iterate 3
      rw[aj];simp only[go_sem,Q2,Q3,Q4,Q8,Qb,Qc,Qd,Qe,Qh,Qi,Qj,Qk,reduceCtorEq,reduceIte,hk,a1,a2,k1,k2,g0,g1,g2,g3,Di,iS]
    ·rw[decide_eq_false b2]at g3 ⊢
     iterate 2
      rw[aj];simp only[go_sem,Q2,Q3,Q4,Q8,Qb,Qc,Qd,Qe,Qh,Qi,Qj,Qk,reduceCtorEq,reduceIte,hk,a1,a2,k1,g0,g1,g2,g3,Di,iS]
   ·iterate 3
     rw[aj];simp only[go_sem,Q2,Q3,Q4,Q8,Qb,Qc,Qd,Qe,Qh,Qi,Qj,Qk,reduceCtorEq,reduceIte,hk,a1,a2,k1,k2,g0,g2,Di,iS]
  ·rw[decide_eq_false b1]at g2 ⊢
   rw[aj];simp only[go_sem,Q2,Q3,Q4,Qb,Qc,Qd,Qe,Qh,Qi,Qj,Qk,reduceCtorEq,reduceIte,hk,a1,g0,g2,Di,iS]
 ·by_cases a2:(0:Int)<d1.length
  ·by_cases b2:d1=sha b
   ·rw[decide_eq_true b2]at g3 ⊢
    iterate 3
     rw[aj];simp only[go_sem,Q2,Q3,Q4,Q8,Qb,Qc,Qd,Qe,Qh,Qi,Qj,Qk,reduceCtorEq,reduceIte,hk,a1,a2,k1,k2,g1,g3,Di,iS]
   ·rw[decide_eq_false b2]at g3 ⊢
    iterate 2
     rw[aj];simp only[go_sem,Q2,Q3,Q4,Q8,Qb,Qc,Qd,Qe,Qh,Qi,Qj,Qk,reduceCtorEq,reduceIte,hk,a1,a2,k1,g1,g3,Di,iS]
  ·iterate 3
    rw[aj];simp only[go_sem,Q2,Q3,Q4,Q8,Qb,Qc,Qd,Qe,Qh,Qi,Qj,Qk,reduceCtorEq,reduceIte,a1,a2,k1,k2]
theorem f57(e:Ev)(hd:e.dg.length=2)(hb:e.data.length<=1000000)(hd0:(e.dg.getD 0 []).length<=1000000)(hd1:(e.dg.getD 1 []).length<=1000000):call T 57 [.agg e.sv] [] 0=some ⟨.bool (pK e),[],[]⟩:=by
 obtain⟨g,k,ds,b⟩:=e;simp only at hd hb hd0 hd1;rw[two ds [] hd];generalize ds.getD 0 []=d0 at*;generalize ds.getD 1 []=d1 at*;clear hd;have q0:=xns g d0 d1 b;have q1:=fun hk=>xnt g k hk d0 d1 b hb hd0 hd1
 have g77:=f77;have p4:=f25 b [0,0,0,0] (by omega);have p:=f98 b (by omega);have hbl:bls [d0,d1]=[[.byt d0 .no],[.byt d1 .no]]:=rfl;rw[am xo7];unfold pK Ev.sv;simp only[hbl,bc,bh];generalize (iy false d0 []&&iy false d1 [])=z0 at*;generalize (iy true d0 (iZ b)&&iy true d1 (sha b))=z1 at*
 by_cases h1:k=1
 ·subst h1;simp only[go_sem,Q5,Qe,Qh,Qi,Qj,Qk,reduceCtorEq,reduceIte]
 by_cases h2:k=2
 ·subst h2
  have q1':=q1 (by decide)
  by_cases h3:b=[0,0,0,0]
  ·rw[decide_eq_true h3]at p4
   cases z1<;>simp only[go_sem,reduceIte]at q1'<;>simp only[go_sem,Q4,Q5,Qb,Qc,Qd,Qe,Qh,Qi,Qj,Qk,reduceCtorEq,reduceIte,g77,xgC,p4,iS,q1']<;>simp only[h3,go_sem,reduceIte]
  ·rw[decide_eq_false h3]at p4
   simp only[go_sem,Q4,Q5,Qb,Qc,Qd,Qe,Qh,Qi,Qj,Qk,reduceCtorEq,reduceIte,h3,p4,g77,xgC,iS]
 by_cases h3:k=3
 ·subst h3
  have q1':=q1 (by decide)
  by_cases h4:(b.length:Int)=0
  ·have h5:¬(0:Int)<b.length:=by omega
   rw[decide_eq_false h5,Bool.and_false]at p;simp only[go_sem,Q4,Q5,Qb,Qc,Qd,Qe,Qh,Qi,Qj,Qk,reduceCtorEq,reduceIte,h4,p,xgy]
  ·have h5:(0:Int)<b.length:=by omega
   rw[decide_eq_true h5,Bool.and_true]at p;cases hp:s9 b with
   |true=>rw[hp]at p;cases z1<;>simp only[go_sem,reduceIte]at q1'<;>simp only[go_sem,Q4,Q5,Qb,Qc,Qd,Qe,Qh,Qi,Qj,Qk,reduceCtorEq,reduceIte,h4,p,xgy,q1']
   |false=>rw[hp]at p;simp only[go_sem,Q4,Q5,Qb,Qc,Qd,Qe,Qh,Qi,Qj,Qk,reduceCtorEq,reduceIte,h4,p,xgy]
 by_cases h4:k=4
 ·subst h4
  have q1':=q1 (by decide);cases z1<;>simp only[go_sem,reduceIte]at q1'<;>simp only[go_sem,Q4,Q5,Qb,Qc,Qd,Qe,Qh,Qi,Qj,Qk,reduceCtorEq,reduceIte,q1']
 by_cases h5:k=5
 ·subst h5
  cases z0<;>simp only[go_sem,reduceIte]at q0<;>simp only[go_sem,Q4,Q5,Qb,Qc,Qd,Qe,Qh,Qi,Qj,Qk,reduceCtorEq,reduceIte,q0]
 by_cases h6:k<1
 ·simp only[go_sem,Qe,Qh,Qi,Qj,Qk,reduceCtorEq,reduceIte,h1,h2,h3,h4,h5,h6]
 ·have h7:5<k:=by omega
  simp only[go_sem,Qe,Qh,Qi,Qj,Qk,reduceCtorEq,reduceIte,h1,h2,h3,h4,h5,h6,h7]
theorem xbc(n:Int):fJ n 2=0\/fJ n 2=1:=by
 unfold fJ;rw[if_neg (by omega)]
 have:n.tmod 2=0\/n.tmod 2=1\/n.tmod 2= -1:=by have h1:=Int.tmod_lt_of_pos n (show(0:Int)<2 by decide);have h2:=Int.lt_tmod_of_pos n (show(0:Int)<2 by decide);omega
 rcases this with h|h|h<;>rw[h]<;>simp
theorem f29(n:Int)(h1: -9223372036854775808<=n)(h2:n<=9223372036854775807):call T 29 [.int .i64 n] [] 0=some ⟨.int .i64 (2+fJ n 2),[],[]⟩:=by
 have g:=f18 n 2 h1 h2 (by omega);have e:ai.wrap (2+fJ n 2)=2+fJ n 2:=by rcases xbc n with h|h<;>rw[h]<;>rfl
 rw[am xpv];simp only[go_sem,Qh,Qi,Qj,Qk,reduceCtorEq,reduceIte,g,yh,e]
def jU(ts:List Nat):List UInt8:=ts.flatMap fun t=>gh t++ [10]
theorem D0(ts:List Nat)(t:Nat):jU (ts++ [t])=jU ts++(gh t++ [10]):=by simp[jU]
theorem rO(t:Nat):(gh t).length<=8:=by unfold gh;split<;>simp
theorem vw(ts:List Nat):(jU ts).length<=9*ts.length:=by
 induction ts with
 |nil=>simp[jU]
 |cons t r ih=>rw[jU,jG,ah,ah,av,av,aQ];have:=rO t;unfold jU at ih;omega
theorem GL(t:Nat)(r:List UInt8)(o:List (List UInt8))(ho:o.length<4):lnF (gh t++10::r) o []=lnF r (o++ [gh t]) []:=by
 have h:¬(4:Int)<=o.length:=by omega
 unfold gh;split<;>simp[lnF,h]
theorem C1:∀(ts:List Nat)(o:List (List UInt8)),o.length+ts.length<=4->lnF (jU ts) o []=some (o++ts.map gh,[])
 |[],o,_=>by simp[jU,lnF]
 |t::r,o,h=>by
  rw[av]at h;have e:jU (t::r)=gh t++10::jU r:=by simp[jU]
  rw[e,GL t _ o (by omega),C1 r _ (by rw[ah,aD];omega)];simp
theorem xH(ts:List Nat)(h:ts.length<=4):gg (jU ts)=ts.map gh:=by unfold gg;rw[C1 ts [] (by simpa using h)];simp
theorem xnJ(B:List UInt8)(hB:B.length<=1000):∀(k:Nat)(ts:List Nat)(j:Nat),k<=4->ts.length+k<=100->∃us j',us.length=k/\
 run T (.loop zb) ⟨[(0,.ptr 0 0),(3,.byt (jU ts) (.id 103)),(4,.int .i64 k)],[(0,aI B j)],[103]⟩=some (.x 0,⟨[(3,.byt (jU (ts++us)) (.id 103))],[(0,aI B j')],[103]⟩):=by
 intro k;induction k with
 |zero=>intro ts j h1 h2;refine⟨[],j,rfl, ?_⟩;rw[aj,bH];simp only[go_sem,Q4,Qh,Qj,Qk,reduceCtorEq,reduceIte]
 |succ k ih=>
  intro ts j h1 h2;obtain⟨us,j',hu,ih'⟩:=ih (ts++ [dz B j 6]) (cg B j) (by omega) (by rw[ah,aD];omega);refine⟨dz B j 6::us,j',by rw[av,hu], ?_⟩;have g:=f86 B j hB;have hl:=vw ts;have hl2:=rO (dz B j 6);have e1:ai.wrap (((k+1:Nat):Int)-1)=(k:Int):=wZ (by omega)
  have hp:(0:Int)<((k+1:Nat):Int):=by omega
  have c1:(jU ts).length+(gh (dz B j 6)).length<=140737488355328:=by omega
  have c2:(jU ts).length+(gh (dz B j 6)).length+1<=140737488355328:=by omega
  rw[D0]at ih';rw[show ts++dz B j 6::us=ts++ [dz B j 6]++us from by simp];rw[aj];simp only[aI]at g ih' ⊢;simp only[go_sem,Qe,Qg,Qh,Qi,Qj,Qk,reduceCtorEq,reduceIte,hp,g,oi,c1,c2,e1,ih']
theorem xoj(B:List UInt8)(i:Nat)(hB:B.length<=1000):∃ts j,1<=ts.length/\ts.length<=4/\call T 109 [.ptr 0 0] [aI B i] 0=some ⟨.byt (jU ts) .no,[(0,aI B j)],[]⟩:=by
 have g:=f37 B i 4 (by omega) (by omega);have hv:=dH B i 4 (by omega);obtain⟨us,j,hu,h⟩:=xnJ B hB (1+dz B i 4) [] (cg B i) (by omega) (by simp only[aQ];omega);have e:ai.wrap (1+((dz B i 4:Nat):Int))=((1+dz B i 4:Nat):Int):=wZ (by omega)
 refine⟨us,j,by omega,by omega, ?_⟩;have hp:jU []=[]:=rfl;rw[hp,bw]at h;rw[cz4]at g;simp only[aI]at g h ⊢;rw[am xkk];simp only[go_sem,Qe,Qg,Qh,Qi,Qj,Qk,reduceCtorEq,reduceIte,g,eI,e,h]
def fN:Nat->List UInt8
 |0=> [97]
 |1=> [103,114,117,98]
 |2=> [108,105,110,117,120]
 |3=> [110,101,116,45,48]
 |_=> [116,119,101,108,118,101,45,98,121,116,101,115]
theorem xok:call T 108 [] [] 0=some ⟨.agg [.str (fN 0),.str (fN 1),.str (fN 2),.str (fN 3),.str (fN 4)],[],[]⟩:=by rw[am xkl];simp only[go_sem,Qe,Qg,Qi,Qj,Qk,reduceCtorEq,reduceIte,fN]
theorem GE:∀v,v<5->Pr.nameB (fN v)=true:=by decide
theorem l65(B:List UInt8)(hB:B.length<=1000)(role ve:Int)(na:List UInt8):∀(n i:Nat)(l:List UInt8)(j:Nat),l.length-i=n->i<=l.length->l.length<=6->∃l' j',l'.length=l.length/\
 run T (.loop uh) ⟨[(0,.ptr 0 0),(4,.ptr 104 0),(5,.ptr 105 0),(6,.int .i64 i)],[(0,aI B j),(104,.rc [.int .i64 0,.str [],.int .i64 0,.byt [] .clip]),(105,.rc [.int .i64 role,.str na,.int .i64 ve,.psl 130 1 0 l.length (some l.length)]),(130,.bar l)],[]⟩=
  some (.x 0,⟨[(4,.ptr 104 0),(5,.ptr 105 0)],[(0,aI B j'),(104,.rc [.int .i64 0,.str [],.int .i64 0,.byt [] .clip]),(105,.rc [.int .i64 role,.str na,.int .i64 ve,.psl 130 1 0 l.length (some l.length)]),(130,.bar l')],[]⟩):=by
 intro n;induction n with
 |zero=>
  intro i l j h0 h1 h2;have:i=l.length:=by omega
  refine⟨l,j,rfl, ?_⟩;subst this;rw[aj];simp only[go_sem,Qe,Qh,Qj,Qk,reduceCtorEq,reduceIte]
 |succ n ih=>
  intro i l j h0 h1 h2;have hi:i<l.length:=by omega
  have e1:=bV i (by omega);have g:=f37 B j 256 (by omega) (by omega);rw[xox]at g;obtain⟨l',j',q1,q2⟩:=ih (i+1) (l.set i (bM ((dz B j 256:Nat):Int))) (cg B j) (by rw[cu];omega) (by rw[cu];omega) (by rw[cu];omega);rw[cu]at q1 q2;refine⟨l',j',q1, ?_⟩;rw[aj];simp only[aI]at g q2 ⊢;simp only[go_sem,Qb,Qc,Qd,Qe,Qg,Qh,Qi,Qj,Qk,reduceCtorEq,reduceIte,hi,e1,g,eI,q2]
theorem f65(B:List UInt8)(j:Nat)(hB:B.length<=1000)(role:Int)(h1:1<=role)(h4:role<=4):∃(x:Img)(j':Nat),gK x=0/\x.role=role/\
 call T 65 [.ptr 0 0,.int .i64 role] [aI B j] 0=some ⟨.agg x.sv,[(0,aI B j')],[]⟩:=by
 have g1:=xok;have g2:=f37 B j 5 (by omega) (by omega);have v2:=dH B j 5 (by omega);have g3:=f37 B (cg B j) 5 (by omega) (by omega);have v3:=dH B (cg B j) 5 (by omega);have g4:=f37 B (cg B (cg B j)) 9 (by omega) (by omega);have g5:=f37 B (cg B (cg B (cg B j))) 3 (by omega) (by omega);have v5:=dH B (cg B (cg B (cg B j))) 3 (by omega);rw[cz5]at g2 g3;rw[c9]at g4;rw[cz3]at g5;generalize dz B j 5=w2 at*;generalize dz B (cg B j) 5=w3 at*;generalize dz B (cg B (cg B j)) 9=w4 at*;generalize dz B (cg B (cg B (cg B j))) 3=w5 at*;simp only[aI]at g2 g3 g4 g5
 have hN:(eQ w2 [SV.str (fN 0),.str (fN 1),.str (fN 2),.str (fN 3),.str (fN 4)]).getD 0 .undef= .str (fN w2):=by
  have hn:w2=0\/w2=1\/w2=2\/w2=3\/w2=4:=by omega
  rcases hn with rfl|rfl|rfl|rfl|rfl<;>rfl
 have hw2:(w2:Int)<5:=by omega
 have em:w2*1=w2:=dx _;have hnb:=GE w2 v2;have ew:ai.wrap (1000000-(w5:Int))=1000000-(w5:Int):=w64 (by omega) (by omega)
 have key:∀(jj:Nat)(ve:Int),0<=ve->ve<=1000000->∃(x:Img)(j':Nat),gK x=0/\x.role=role/\x.name=fN w2/\x.ver=ve/\
  (role=4->call T 109 [.ptr 0 0] [aI B jj] 0=some ⟨.byt x.pay .no,[(0,aI B j')],[]⟩)/\
  (¬role=4->∃(j1 n:Nat),n<7/\call T 37 [.ptr 0 0,.int .i64 7] [aI B jj] 0=some ⟨.int .i64 (n:Int),[(0,aI B j1)],[]⟩/\x.pay.length=n/\
   run T (.loop uh) ⟨[(0,.ptr 0 0),(4,.ptr 104 0),(5,.ptr 105 0),(6,.int .i64 0)],[(0,aI B j1),(104,.rc [.int .i64 0,.str [],.int .i64 0,.byt [] .clip]),(105,.rc [.int .i64 role,.str (fN w2),.int .i64 ve,.psl 130 1 0 n (some n)]),(130,.bar (aq n 0))],[]⟩=
    some (.x 0,⟨[(4,.ptr 104 0),(5,.ptr 105 0)],[(0,aI B j'),(104,.rc [.int .i64 0,.str [],.int .i64 0,.byt [] .clip]),(105,.rc [.int .i64 role,.str (fN w2),.int .i64 ve,.psl 130 1 0 n (some n)]),(130,.bar x.pay)],[]⟩)):=by
  intro jj ve hv0 hv1
  by_cases hr:role=4
  ·obtain⟨ts,j',t1,t2,t3⟩:=xoj B jj hB
   refine⟨⟨role,fN w2,ve,jU ts⟩,j', ?_,rfl,rfl,rfl,fun _=>t3,fun h=>absurd hr h⟩;have hl:=vw ts;have hL:=xH ts t2;unfold gK;rw[if_neg (by show ¬role<1;omega),if_neg (by show ¬4<role;omega),if_neg (by show ¬ve<0;omega),if_neg (by show ¬1000000<ve;omega),if_neg (by show ¬Pr.nameB (fN w2)=false;rw[hnb];simp),if_neg (by show ¬(64:Int)<(jU ts).length;omega)];show(if role=4 then(if((gg (jU ts)).length:Int)=0 then 40 else 0)else 0)=(0:Int);rw[if_pos hr,hL,if_neg];rw[aX];omega
  ·have g7:=f37 B jj 7 (by omega) (by omega)
   have v7:=dH B jj 7 (by omega);rw[show((7:Nat):Int)=7 from rfl]at g7;obtain⟨l',j',q1,q2⟩:=l65 B hB role ve (fN w2) (dz B jj 7) 0 (aq (dz B jj 7) 0) (cg B jj) (by rw[cQ];rfl) (bL _) (by rw[cQ];omega);rw[cQ]at q1 q2;refine⟨⟨role,fN w2,ve,l'⟩,j', ?_,rfl,rfl,rfl,fun h=>absurd h hr,fun _=>⟨cg B jj,dz B jj 7,v7,g7,q1,q2⟩⟩;unfold gK;rw[if_neg (by show ¬role<1;omega),if_neg (by show ¬4<role;omega),if_neg (by show ¬ve<0;omega),if_neg (by show ¬1000000<ve;omega),if_neg (by show ¬Pr.nameB (fN w2)=false;rw[hnb];simp),if_neg (by show ¬(64:Int)<l'.length;omega)];show(if role=4 then(if((gg l').length:Int)=0 then 40 else 0)else 0)=(0:Int);rw[if_neg hr]
 by_cases p4:w4=8
 ·have p4':(w4:Int)=8:=by omega
  obtain⟨⟨xr,xn,xv,xp⟩,j',e0,e1,e2,e3,e4,e5⟩:=key (cg B (cg B (cg B (cg B j)))) (1000000-(w5:Int)) (by omega) (by omega);simp only at e1 e2 e3 e4 e5;subst e1 e2 e3;refine⟨_,j',e0,rfl, ?_⟩;rw[am xmu]
  by_cases hr:xr=4
  ·have t:=e4 hr
   simp only[aI,Img.sv]at t ⊢;simp only[go_sem,Qb,Qc,Qd,Qe,Qg,Qh,Qi,Qj,Qk,reduceCtorEq,reduceIte,g1,Ff,g2,eI,g3,g4,g5,p4',ew,hr,hN,hw2,em,t,xbY]
  ·obtain⟨j1,n,hn,t1,t2,t3⟩:=e5 hr
   have t2':xp.length=n:=t2;have hle:n<=xp.length:=by omega
   have hq:cj n xp=xp:=by rw[<-t2',bo]
   have hn':(n:Int)<7:=by omega
   have hn2:(n:Int)<=140737488355328:=by omega
   simp only[aI,Img.sv]at t1 t3 ⊢;simp only[go_sem,Qb,Qc,Qd,Qe,Qg,Qh,Qi,Qj,Qk,reduceCtorEq,reduceIte,g1,Ff,g2,eI,g3,g4,g5,p4',ew,hr,hN,hw2,em,t1,hn2,t3,hle,hq]
 ·have p4':¬(w4:Int)=8:=by omega
  obtain⟨⟨xr,xn,xv,xp⟩,j',e0,e1,e2,e3,e4,e5⟩:=key (cg B (cg B (cg B j))) (w3:Int) (by omega) (by omega);simp only at e1 e2 e3 e4 e5;subst e1 e2 e3;refine⟨_,j',e0,rfl, ?_⟩;rw[am xmu]
  by_cases hr:xr=4
  ·have t:=e4 hr
   simp only[aI,Img.sv]at t ⊢;simp only[go_sem,Qb,Qc,Qd,Qe,Qg,Qh,Qi,Qj,Qk,reduceCtorEq,reduceIte,g1,Ff,g2,eI,g3,g4,p4',hr,hN,hw2,em,t,xbY]
  ·obtain⟨j1,n,hn,t1,t2,t3⟩:=e5 hr
   have t2':xp.length=n:=t2;have hle:n<=xp.length:=by omega
   have hq:cj n xp=xp:=by rw[<-t2',bo]
   have hn':(n:Int)<7:=by omega
   have hn2:(n:Int)<=140737488355328:=by omega
   simp only[aI,Img.sv]at t1 t3 ⊢;simp only[go_sem,Qb,Qc,Qd,Qe,Qg,Qh,Qi,Qj,Qk,reduceCtorEq,reduceIte,g1,Ff,g2,eI,g3,g4,p4',hr,hN,hw2,em,t1,hn2,t3,hle,hq]
theorem Eh(l:List Img)(i:Nat)(h:i<l.length):l.getD i im0∈l:=by rw[aa,af h];exact bj _
theorem jx{α:Type}(l:List α)(x d:α)(i:Nat)(h:i<l.length):(l++ [x]).getD i d=l.getD i d:=by rw[aa,aa,bn h]
theorem o6{α:Type}(l:List α)(x d:α):(l++ [x]).getD l.length d=x:=by rw[aa,bA (aM _),Nat.sub_self];rfl
structure ChP(l:List Img)(role:Int):Prop where
 ok:∀i,i<l.length->gK (l.getD i im0)=0
 le:∀i,i<l.length->(l.getD i im0).role<=role
 ord:∀i,i+1<l.length->(l.getD i im0).role<=(l.getD (i+1) im0).role
 dup:∀i,i<l.length->∀k,k<i->(l.getD k im0).role=(l.getD i im0).role->(l.getD k im0).name≠(l.getD i im0).name
def agn(x:Img)(l:List Img):Bool:=l.any fun y=>decide (y.role=x.role)&&decide (y.name=x.name)
theorem ChP.snoc{l:List Img}{role:Int}(h:ChP l role){x:Img}(hx:gK x=0)(hr:x.role=role)(ha:agn x l=false):ChP (l++ [x]) role:=by
 have hlen:(l++ [x]).length=l.length+1:=by simp
 refine⟨fun i hi=> ?_,fun i hi=> ?_,fun i hi=> ?_,fun i hi k hk=> ?_⟩
 ·rcases bP i l.length with h1|h1
  ·rw[jx l x im0 i h1];exact h.ok i h1
  ·rw[show i=l.length from by omega,o6];exact hx
 ·rcases bP i l.length with h1|h1
  ·rw[jx l x im0 i h1];exact h.le i h1
  ·rw[show i=l.length from by omega,o6,hr];exact Int.le_refl _
 ·rw[jx l x im0 i (by omega)]
  rcases bP (i+1) l.length with h1|h1
  ·rw[jx l x im0 (i+1) h1];exact h.ord i h1
  ·rw[show i+1=l.length from by omega,o6,hr];exact h.le i (by omega)
 ·rcases bP i l.length with h1|h1
  ·rw[jx l x im0 i h1,jx l x im0 k (by omega)];exact h.dup i h1 k hk
  ·rw[show i=l.length from by omega]at hk ⊢
   rw[o6,jx l x im0 k hk];intro q1 q2;unfold agn at ha;rw[List.any_eq_false]at ha;have:=ha (l.getD k im0) (Eh l k hk);rw[decide_eq_true q1,decide_eq_true q2]at this;exact this rfl
theorem xnA(B:List UInt8)(j:Nat)(l:List Img)(x:Img)(role n:Int)(hl:l.length<=100):∀(k i:Nat)(ag:Bool),l.length-i=k->i<=l.length->
 run T (.loop yR) ⟨[(3,.ptr 12100 0),(4,.lst 4 (fm l) (.id 104)),(5,.int .i64 role),(6,.int .i64 n),(7,.ptr 107 0),(8,.bool ag),(9,.int .i64 i)],[(107,.rc x.sv),(12100,aI B j)],[104]⟩=
 some (.x 4,⟨[(3,.ptr 12100 0),(4,.lst 4 (fm l) (.id 104)),(5,.int .i64 role),(6,.int .i64 n),(7,.ptr 107 0),(8,.bool (ag||agn x (l.drop i)))],[(107,.rc x.sv),(12100,aI B j)],[104]⟩):=by
 intro k;induction k with
 |zero=>
  intro i ag h0 h1;have:i=l.length:=by omega
  subst this;have hv:=eM l;obtain⟨a,b,c,d⟩:=x;simp only[aI,Img.sv]at*;rw[aj,aL];simp only[go_sem,Qh,Qj,Qk,reduceIte,hv,agn,List.any_nil,Bool.or_false]
 |succ k ih=>
  intro i ag h0 h1;have hi:i<l.length:=by omega
  have e1:=bV i (by omega);have ih':=ih (i+1) (ag||(decide ((l.getD i im0).role=x.role)&&decide ((l.getD i im0).name=x.name))) (by omega) (by omega);have hv:=eM l;have hg:=gJ l i hi;have hd:l.drop i=l.getD i im0::l.drop (i+1):=by rw[aU hi,aa,af hi];rfl
  have ha:agn x (l.drop i)=((decide ((l.getD i im0).role=x.role)&&decide ((l.getD i im0).name=x.name))||agn x (l.drop (i+1))):=by rw[hd];rfl
  rw[ha,<-Bool.or_assoc];rw[aj];generalize agn x (l.drop (i+1))=R at*;generalize l.getD i im0=y at*;obtain⟨a,b,c,d⟩:=x;obtain⟨a2,b2,c2,d2⟩:=y;simp only[aI,Img.sv]at*;cases ag with
  |true=>simp only[fU]at ih' ⊢;simp only[go_sem,Qb,Qc,Qd,Qh,Qj,Qk,reduceIte,hi,e1,hv,ih']
  |false=>
   by_cases p1:a2=a
   ·by_cases p2:b2=b
    ·rw[decide_eq_true p1,decide_eq_true p2]at ih' ⊢
     simp only[Bool.and_self,dq,fU]at ih' ⊢;simp only[go_sem,Qb,Qc,Qd,Qe,Qh,Qi,Qj,Qk,reduceIte,hi,e1,hv,hg,p1,p2,ih']
    ·rw[decide_eq_true p1,decide_eq_false p2]at ih' ⊢
     simp only[Bool.and_false,dq]at ih' ⊢;simp only[go_sem,Qb,Qc,Qd,Qe,Qh,Qi,Qj,Qk,reduceIte,hi,e1,hv,hg,p1,p2,ih']
   ·rw[decide_eq_false p1]at ih' ⊢
    simp only[Fl,dq]at ih' ⊢;simp only[go_sem,Qb,Qc,Qd,Qe,Qh,Qi,Qj,Qk,reduceIte,hi,e1,hv,hg,p1,ih']
theorem rS(l:List Img)(x:Img):fm l++ [x.sv]=fm (l++ [x]):=by rw[fm,fm,bx];rfl
theorem Hu{x:Img}{l:List Img}(h:agn x l=true):∃i,i<l.length/\(l.getD i im0).role=x.role:=by unfold agn at h;rw[List.any_eq_true]at h;obtain⟨y,hy,h⟩:=h;obtain⟨i,hi,rfl⟩:=bJ hy;refine⟨i,hi, ?_⟩;rw[az]at h;rw[aa,af hi];exact of_decide_eq_true h.1
theorem xbh(B:List UInt8)(hB:B.length<=1000)(role:Int)(r1:1<=role)(r4:role<=4):∀(n:Nat)(l:List Img)(j:Nat),l.length+n<=8->ChP l role->
 ∃r j',ChP (l++r) role/\r.length<=n/\(1<=n->∃i,i<(l++r).length/\((l++r).getD i im0).role=role)/\
 run T (.loop yQ) ⟨[(3,.ptr 12100 0),(4,.lst 4 (fm l) (.id 104)),(5,.int .i64 role),(6,.int .i64 (n:Int))],[(12100,aI B j)],[104]⟩=
  some (.x 2,⟨[(3,.ptr 12100 0),(4,.lst 4 (fm (l++r)) (.id 104)),(5,.int .i64 role)],[(12100,aI B j')],[104]⟩):=by
 intro n;induction n with
 |zero=>intro l j hl hc;refine⟨[],j,by rw[bH];exact hc,bL _,fun h=>absurd h (by omega), ?_⟩;rw[bH,aj];simp only[aI];simp only[go_sem,Q4,Qh,Qj,Qk,reduceIte]
 |succ n ih=>
  intro l j hl hc;obtain⟨x,j1,hx,hr,g⟩:=f65 B j hB role r1 r4;have ga:=xnA B j1 l x role ((n+1:Nat):Int) (by omega) l.length 0 false (by omega) (bL _);have hp:(0:Int)<((n+1:Nat):Int):=by omega
  have e1:ai.wrap (((n+1:Nat):Int)-1)=(n:Int):=wZ (by omega)
  have hv:=eM l;have hs:=rS l x;have c1:(l.length+1)*56<=140737488355328:=by omega
  rw[aR,dq,show((0:Nat):Int)=0 from rfl]at ga;cases ha:agn x l with
  |true=>
   rw[ha]at ga;obtain⟨r,j',q1,q2,q3,q4⟩:=ih l j1 (by omega) hc;refine⟨r,j',q1,by omega,fun _=> ?_, ?_⟩
   ·obtain⟨i,hi,e⟩:=Hu ha
    refine⟨i,by rw[ah];omega, ?_⟩;rw[aa,bn hi,<-aa,e,hr]
   ·rw[aj]
    obtain⟨a,b,c,d⟩:=x;simp only[aI,Img.sv]at g ga q4 hs ⊢;simp only[go_sem,Qe,Qg,Qh,Qi,Qj,Qk,reduceIte,hp,g,xmC,e1,ga,q4]
  |false=>
   rw[ha]at ga;obtain⟨r,j',q1,q2,q3,q4⟩:=ih (l++ [x]) j1 (by rw[ah,aD];omega) (hc.snoc hx hr ha);rw[aZ]at q1 q3 q4;refine⟨[x]++r,j',q1,by rw[ah,aD];omega,fun _=> ?_, ?_⟩
   ·refine⟨l.length,by rw[ah,ah,aD];omega, ?_⟩
    rw[aa,bA (aM _),Nat.sub_self];exact hr
   ·rw[aj]
    obtain⟨a,b,c,d⟩:=x;rw[<-aZ,<-rS]at*;simp only[aI,Img.sv]at g ga q4 ⊢;simp only[go_sem,Qe,Qg,Qh,Qi,Qj,Qk,reduceIte,hp,g,xmC,e1,ga,hv,c1,q4]
theorem uG{l r:List Img}{c:Int}(h:∃i,i<l.length/\(l.getD i im0).role=c):∃i,i<(l++r).length/\((l++r).getD i im0).role=c:=by obtain⟨i,hi,e⟩:=h;refine⟨i,by rw[ah];omega, ?_⟩;rw[aa,bn hi,<-aa,e]
theorem xbg(B:List UInt8)(hB:B.length<=1000)(role:Int)(r1:1<=role)(r4:role<=4)(l:List Img)(j:Nat)(hl:l.length+2<=8)(hc:ChP l role):
 ∃r j',ChP (l++r) role/\r.length<=2/\(role=1\/role=3->∃i,i<(l++r).length/\((l++r).getD i im0).role=role)/\
 run T (.loop qP) ⟨[(3,.ptr 12100 0),(4,.lst 4 (fm l) (.id 104)),(5,.int .i64 role)],[(12100,aI B j)],[104]⟩=
 run T (.loop qP) ⟨[(3,.ptr 12100 0),(4,.lst 4 (fm (l++r)) (.id 104)),(5,.int .i64 (role+1))],[(12100,aI B j')],[104]⟩:=by
 have g1:=f37 B j 3 (by omega) (by omega);have g2:=f37 B (cg B j) 2 (by omega) (by omega);have v1:=dH B j 3 (by omega);have v2:=dH B (cg B j) 2 (by omega);rw[cz3]at g1;rw[c2]at g2;have e:ai.wrap (1+((dz B (cg B j) 2:Nat):Int))=((1+dz B (cg B j) 2:Nat):Int):=wZ (by omega)
 have hr:role=1\/role=2\/role=3\/role=4:=by omega
 rcases hr with rfl|rfl|rfl|rfl
 ·obtain⟨r,j',q1,q2,q3,q4⟩:=xbh B hB 1 (by decide) (by decide) (1+dz B (cg B j) 2) l (cg B (cg B j)) (by omega) hc
  refine⟨r,j',q1,by omega,fun _=>q3 (by omega), ?_⟩;rw[aj];simp only[aI]at g1 g2 q4 ⊢;simp only[go_sem,Q3,Q5,Q8,Qe,Qg,Qh,Qi,Qj,Qk,reduceIte,g1,g2,eI,e,q4];rfl
 ·obtain⟨r,j',q1,q2,q3,q4⟩:=xbh B hB 2 (by decide) (by decide) (dz B j 3) l (cg B j) (by omega) hc
  refine⟨r,j',q1,by omega,fun h=>absurd h (by decide), ?_⟩;rw[aj];simp only[aI]at g1 g2 q4 ⊢;simp only[go_sem,Q3,Q5,Q8,Qe,Qg,Qh,Qi,Qj,Qk,reduceIte,g1,eI,q4];rfl
 ·obtain⟨r,j',q1,q2,q3,q4⟩:=xbh B hB 3 (by decide) (by decide) (1+dz B (cg B j) 2) l (cg B (cg B j)) (by omega) hc
  refine⟨r,j',q1,by omega,fun _=>q3 (by omega), ?_⟩;rw[aj];simp only[aI]at g1 g2 q4 ⊢;simp only[go_sem,Q3,Q5,Q8,Qe,Qg,Qh,Qi,Qj,Qk,reduceIte,g1,g2,eI,e,q4];rfl
 ·obtain⟨r,j',q1,q2,q3,q4⟩:=xbh B hB 4 (by decide) (by decide) (dz B j 3) l (cg B j) (by omega) hc
  refine⟨r,j',q1,by omega,fun h=>absurd h (by decide), ?_⟩;rw[aj];simp only[aI]at g1 g2 q4 ⊢;simp only[go_sem,Q3,Q5,Q8,Qe,Qg,Qh,Qi,Qj,Qk,reduceIte,g1,eI,q4];rfl
theorem zk{l:List Img}{a b:Int}(h:ChP l a)(hab:a<=b):ChP l b:=⟨h.ok,fun i hi=>Int.le_trans (h.le i hi) hab,h.ord,h.dup⟩
theorem f24(codes:List UInt8):∃l,eD l/\call T 24 [.byt codes .no] [] 0=some ⟨.lst 4 (fm l) .no,[],[]⟩:=by
 have hB:(codes.take 200).length<=1000:=by rw[ay];omega
 have g:=f35 codes 200;rw[xmo]at g;generalize codes.take 200=B at*;have h0:ChP [] 1:=⟨fun i hi=>absurd hi (by simp),fun i hi=>absurd hi (by simp),fun i hi=>absurd hi (by simp),fun i hi=>absurd hi (by simp)⟩;obtain⟨a1,j1,p1,n1,w1,t1⟩:=xbg B hB 1 (by decide) (by decide) [] 0 (by decide) h0;rw[bw]at p1 w1 t1;obtain⟨a2,j2,p2,n2,w2,t2⟩:=xbg B hB 2 (by decide) (by decide) a1 j1 (by omega) (zk p1 (by decide));obtain⟨a3,j3,p3,n3,w3,t3⟩:=xbg B hB 3 (by decide) (by decide) (a1++a2) j2 (by rw[ah];omega) (zk p2 (by decide));obtain⟨a4,j4,p4,n4,w4,t4⟩:=xbg B hB 4 (by decide) (by decide) (a1++a2++a3) j3 (by simp only[ah];omega) (zk p3 (by decide));refine⟨a1++a2++a3++a4,⟨?_, ?_,p4.ok,p4.ord,p4.dup,uG (uG (uG (w1 (Or.inl rfl)))),uG (w3 (Or.inr rfl))⟩, ?_⟩
 ·obtain⟨i,hi,_⟩:=w1 (Or.inl rfl)
  simp only[ah];omega
 ·simp only[ah];omega
 ·rw[am xpz]
  rw[show(1:Int)+1=2 from rfl]at t1;rw[show(2:Int)+1=3 from rfl]at t2;rw[show(3:Int)+1=4 from rfl]at t3;rw[show(4:Int)+1=5 from rfl]at t4
  have t5:run T (.loop qP) ⟨[(3,.ptr 12100 0),(4,.lst 4 (fm (a1++a2++a3++a4)) (.id 104)),(5,.int .i64 5)],[(12100,aI B j4)],[104]⟩=some (.x 0,⟨[(4,.lst 4 (fm (a1++a2++a3++a4)) (.id 104))],[(12100,aI B j4)],[104]⟩):=by rw[aj];simp only[aI,go_sem,Q3,Qh,Qj,Qk,reduceIte]
  rw[t5]at t4;rw[t4]at t3;rw[t3]at t2;rw[t2]at t1;have e0:fm []=[]:=rfl;rw[e0]at t1;simp only[aI,c0,aZ]at g t1;simp only[go_sem,Qe,Qg,Qh,Qi,Qj,Qk,reduceCtorEq,reduceIte,g,Pe,t1,aZ]
theorem qx(l:List Ev)(e:Ev):bD (l++ [e])=bD l++ [e.sv]:=by simp[bD]
def sO(a:Int):Nat->Nat->List Ev
 |_,0=> []
 |i,n+1=>mkV i 2 a [0,0,0,0]::sO a (i+1) n
theorem pZ(a:Int):∀n i,(sO a i n).length=n
 |0,_=>rfl
 |n+1,i=>by rw[sO,av,pZ a n]
theorem xnz(L:List (List SV))(a role:Int)(ha:lA a):∀(n i:Nat)(acc:List Ev),8-i=n->i<=8->acc.length<=100000+i->
 run T (.loop yP) ⟨[(0,.lst 4 L .no),(1,.int .i64 a),(5,.lst 4 (bD acc) (.id 105)),(6,.int .i64 role),(7,.int .i64 i)],[],[105]⟩=
 some (.x 2,⟨[(0,.lst 4 L .no),(1,.int .i64 a),(5,.lst 4 (bD (acc++sO a i n)) (.id 105)),(6,.int .i64 role)],[],[105]⟩):=by
 have g1:=f77;intro n;induction n with
 |zero=>
  intro i acc h0 h1 h2;have:i=8:=by omega
  subst this;rw[aj];simp only[go_sem,Q4,Qh,Qj,Qk,reduceCtorEq,reduceIte,sO,bH]
 |succ n ih=>
  intro i acc h0 h1 h2;have hi:(i:Int)<8:=by omega
  have e1:=bV i (by omega);have g:=f76 i 2 a [0,0,0,0] ha (by simp);have ih':=ih (i+1) (acc++ [mkV i 2 a [0,0,0,0]]) (by omega) (by omega) (by rw[ah,aD];omega);rw[qx,aZ,dO]at ih';have hl:=bZ acc;have c1:(acc.length+1)*64<=140737488355328:=by omega
  rw[aj,sO];simp only[Ev.sv]at g ih';simp only[go_sem,Qe,Qh,Qi,Qj,Qk,reduceCtorEq,reduceIte,hi,e1,g1,xgC,g,ny,hl,c1,ih']
theorem zd(B:Nat):∀(p:List UInt8)(o:List (List UInt8))(l:List UInt8)(o':List (List UInt8))(l':List UInt8),o.length<=4->(∀x∈o,x.length<=B)->l.length+p.length<=B->lnF p o l=some (o',l')->o'.length<=4/\∀x∈o',x.length<=B
 |[],o,l,o',l',h1,h2,_,h=>by cases h;exact⟨h1,h2⟩
 |c::r,o,l,o',l',h1,h2,h3,h=>by
  rw[av]at h3;unfold lnF at h;split at h
  ·split at h
   ·cases h
   ·split at h
    ·cases h
    ·refine zd B r _ _ o' l' (by rw[ah,aD];omega) ?_ (by simp;omega) h
     intro x hx;rcases an.1 hx with hx|hx
     ·exact h2 x hx
     ·rw[bp.1 hx];omega
  ·split at h
   ·cases h
   ·split at h
    ·cases h
    ·exact zd B r _ _ o' l' h1 h2 (by rw[ah,aD];omega) h
theorem nN(p:List UInt8):(gg p).length<=4/\∀x∈gg p,x.length<=p.length:=by
 unfold gg;split
 ·rename_i o l h
  have:=zd p.length p [] [] o l (by simp) (by simp) (by simp) h;split
  ·exact⟨by simp,by simp⟩
  ·exact this
 ·exact⟨by simp,by simp⟩
theorem iR(l:List (List UInt8))(i:Nat)(h:i<l.length):(bls l).getD i []=[.byt (l.getD i []) .no]:=by simp[bls,aa,h]
theorem xny(L:List (List SV))(a role:Int)(i:Int)(ls:List (List UInt8))(ha:lA a)(hls:∀x∈ls,x.length<=1000000)(hn:ls.length<=4):∀(n k:Nat)(acc:List Ev),ls.length-k=n->k<=ls.length->acc.length<=100000+k->
 run T (.loop yO) ⟨[(0,.lst 4 L .no),(1,.int .i64 a),(5,.lst 4 (bD acc) (.id 105)),(6,.int .i64 role),(8,.int .i64 i),(9,.lst 1 (bls ls) .no),(10,.int .i64 k)],[],[105]⟩=
 some (.x 6,⟨[(0,.lst 4 L .no),(1,.int .i64 a),(5,.lst 4 (bD (acc++(ls.drop k).map (mkV 9 3 a))) (.id 105)),(6,.int .i64 role),(8,.int .i64 i)],[],[105]⟩):=by
 intro n;induction n with
 |zero=>
  intro k acc h0 h1 h2;have:k=ls.length:=by omega
  subst this;have hb:=eW ls;rw[aj,aL];simp only[go_sem,Qh,Qj,Qk,reduceCtorEq,reduceIte,hb,bH]
 |succ n ih=>
  intro k acc h0 h1 h2;have hk:k<ls.length:=by omega
  have e1:=bV k (by omega);have hb:=eW ls;have hg:=iR ls k hk;have hm:ls.getD k []∈ls:=by rw[aa,af hk];exact bj _
  have g:=f76 9 3 a (ls.getD k []) ha (hls _ hm);have ih':=ih (k+1) (acc++ [mkV 9 3 a (ls.getD k [])]) (by omega) (by omega) (by rw[ah,aD];omega);have hd:ls.drop k=ls.getD k []::ls.drop (k+1):=nR ls k hk;rw[qx,aZ,dO]at ih';rw[hd,aP];have hl:=bZ acc;have c1:(acc.length+1)*64<=140737488355328:=by omega
  generalize ls.getD k []=d at*;rw[aj];simp only[Ev.sv]at g ih';simp only[go_sem,Qe,Qh,Qi,Qj,Qk,reduceCtorEq,reduceIte,hk,e1,hb,hg,g,ny,hl,c1,ih']
def jV(a role:Int)(x:Img):List Ev:=if x.role=role then(if role=4 then(gg x.pay).map (mkV 9 3 a)else [ofI x a])else []
theorem wg(a role:Int)(x:Img):(jV a role x).length<=4:=by
 unfold jV;split
 ·split
  ·rw[aX];exact(nN x.pay).1
  ·simp
 ·simp
theorem xbf(l:List Img)(hc:eD l)(a role:Int)(ha:lA a):∀(n i:Nat)(acc:List Ev),l.length-i=n->i<=l.length->acc.length<=10000+4*i->
 run T (.loop yN) ⟨[(0,.lst 4 (fm l) .no),(1,.int .i64 a),(5,.lst 4 (bD acc) (.id 105)),(6,.int .i64 role),(8,.int .i64 i)],[],[105]⟩=
 some (.x 4,⟨[(0,.lst 4 (fm l) .no),(1,.int .i64 a),(5,.lst 4 (bD (acc++(l.drop i).flatMap (jV a role))) (.id 105)),(6,.int .i64 role)],[],[105]⟩):=by
 intro n;induction n with
 |zero=>
  intro i acc h0 h1 h2;have:i=l.length:=by omega
  subst this;have hb:=eM l;rw[aj,aL];simp only[go_sem,Qh,Qj,Qk,reduceCtorEq,reduceIte,hb,List.flatMap_nil,bH]
 |succ n ih=>
  intro i acc h0 h1 h2;have hi:i<l.length:=by omega
  have n8:=hc.n8;have e1:=bV i (by omega);have hb:=eM l;have hg:=gJ l i hi;have hok:=hc.ok i hi;obtain⟨b1,b2⟩:=mi hok;have hlen:=wg a role (l.getD i im0);have ih':=ih (i+1) (acc++jV a role (l.getD i im0)) (by omega) (by omega) (by rw[ah];omega);have hd:l.drop i=l.getD i im0::l.drop (i+1):=by rw[aU hi,aa,af hi];rfl
  rw[hd,jG];rw[aZ]at ih';generalize (l.drop (i+1)).flatMap (jV a role)=R at*;rw[aj];have g1:=f79 (l.getD i im0) (by omega);have g2:=fun h4=>f78 (l.getD i im0) a ha hok h4
  obtain⟨k1,k2⟩:=nN (l.getD i im0).pay;generalize l.getD i im0=x at*;have g3:=xny (fm l) a 4 i (gg x.pay) ha (fun y hy=>by have:=k2 y hy;omega) k1 _ 0 acc rfl (by omega) (by omega);simp only[aB,aR]at g3;have hl:=bZ acc;have c1:(acc.length+1)*64<=140737488355328:=by omega
  unfold jV at ih' ⊢
  by_cases hr:x.role=role
  ·by_cases h4:role=4
   ·rw[if_pos hr,if_pos h4]at ih' ⊢
    subst h4;obtain⟨ro,na,ve,p⟩:=x;simp only[Img.sv]at*;subst hr;simp only[go_sem,Qe,Qh,Qi,Qj,Qk,reduceCtorEq,reduceIte,hi,e1,hb,hg,g1,xgB,g3,ih']
   ·rw[if_pos hr,if_neg h4]at ih' ⊢
    have g2':=g2 (by rw[hr];exact h4);obtain⟨ro,na,ve,p⟩:=x;simp only[Img.sv]at*;subst hr;rw[<-aZ,qx,aZ]at ih';simp only[Ev.sv]at g2' ih';simp only[go_sem,Qe,Qh,Qi,Qj,Qk,reduceCtorEq,reduceIte,hi,e1,hb,hg,h4,g2',xpQ,hl,c1,ih']
  ·rw[if_neg hr]at ih' ⊢
   obtain⟨ro,na,ve,p⟩:=x;simp only[Img.sv,bw,bH]at*;simp only[go_sem,Qe,Qh,Qi,Qj,Qk,reduceCtorEq,reduceIte,hi,e1,hb,hg,hr,ih']
def evF(l:List Img)(a:Int):List Ev:=l.flatMap (jV a 1)++(l.flatMap (jV a 2)++(sO a 0 8++(l.flatMap (jV a 3)++l.flatMap (jV a 4))))
theorem iq(l:List Img)(a role:Int):(l.flatMap (jV a role)).length<=4*l.length:=by
 induction l with
 |nil=>simp
 |cons x r ih=>rw[jG,ah,av];have:=wg a role x;omega
theorem f31(l:List Img)(hc:eD l)(a:Int)(ha:lA a):call T 31 [.lst 4 (fm l) .no,.int .i64 a] [] 0=some ⟨.lst 4 (bD (evF l a)) .no,[],[]⟩:=by
 have g:=f75 l hc;have n8:=hc.n8;have b1:=iq l a 1;have b2:=iq l a 2;have b3:=iq l a 3;have b0:=pZ a 8 0;have q1:=xbf l hc a 1 ha _ 0 [] rfl (by omega) (by simp);have q2:=xbf l hc a 2 ha _ 0 (l.flatMap (jV a 1)) rfl (by omega) (by omega);have q0:=xnz (fm l) a 3 ha _ 0 (l.flatMap (jV a 1)++l.flatMap (jV a 2)) rfl (by omega) (by rw[ah];omega);have q3:=xbf l hc a 3 ha _ 0 (l.flatMap (jV a 1)++l.flatMap (jV a 2)++sO a 0 8) rfl (by omega) (by rw[ah,ah];omega);have q4:=xbf l hc a 4 ha _ 0 (l.flatMap (jV a 1)++l.flatMap (jV a 2)++sO a 0 8++l.flatMap (jV a 3)) rfl (by omega) (by rw[ah,ah,ah];omega);simp only[aB,aR,bw,aZ]at q1 q2 q0 q3 q4;have hev:bD []=[]:=rfl;rw[hev]at q1;have a1:¬a<1:=by rcases ha with h|h|h<;>omega
 have a3:¬3<a:=by rcases ha with h|h|h<;>omega
 have k2:ai.wrap 2=2:=rfl;have k3:ai.wrap 3=3:=rfl;have k4:ai.wrap 4=4:=rfl;have k5:ai.wrap 5=5:=rfl;rw[am xpu];unfold evF;simp only[go_sem,Qe,Qh,Qi,Qj,Qk,reduceCtorEq,reduceIte,g,xpR,a1,a3];rw[aj];simp only[go_sem,Q3,Q5,Q8,Qe,Qh,Qj,Qk,reduceCtorEq,reduceIte,k2,q1];rw[aj];simp only[go_sem,Q3,Q5,Q8,Qe,Qh,Qj,Qk,reduceCtorEq,reduceIte,k3,q2];rw[aj];simp only[go_sem,Q3,Q8,Qe,Qf,Qh,Qj,Qk,reduceCtorEq,reduceIte,k4,q0,q3];rw[aj];simp only[go_sem,Q3,Q5,Q8,Qe,Qh,Qj,Qk,reduceCtorEq,reduceIte,k5,q4];rw[aj];simp only[go_sem,Q3,Qh,Qj,Qk,reduceCtorEq,reduceIte]
end Go.Proofs.YtdafipacemgcoaaGreatDoor
