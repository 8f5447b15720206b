/- Contracts. No condition. -/
import Derived.Test.YtdafipacemgcoaaGreatDoorTlMD
open Int renaming cast_ofNat_Int -> bX, natCast_zero -> aH, toNat_natCast -> gP
open Go.IntKind renaming u64 -> bd
open List renaming all_cons -> iH, append_assoc -> aZ, append_nil -> bK, cons_append -> bU, drop -> lm, drop_eq_getElem_cons -> aU, drop_length -> bh, drop_zero -> bi, foldl_cons -> cx, getD_eq_getElem?_getD -> aa, getElem?_eq_getElem -> af, length_append -> ah, length_cons -> av, length_drop -> aE, length_nil -> bg, length_pos_iff -> ig, length_singleton -> aL, length_take -> aD, map_append -> dh, map_cons -> aO, map_nil -> ic, mem_cons -> an, mem_cons_of_mem -> aq, mem_cons_self -> ax, nil_append -> bw, not_mem_nil -> cj, singleton_append -> dG, take -> dj, take_length -> bt
open Nat renaming le_refl -> aI, zero_add -> bC, zero_le -> cu
set_option maxRecDepth 100000
set_option maxHeartbeats 16000000
set_option linter.unusedSimpArgs false
set_option linter.unusedVariables false
namespace Go.Proofs.YtdafipacemgcoaaGreatDoor
open Go.Sy
open UInt8 renaming reduceLT -> Q0, reduceLE -> Q1
open Int renaming reduceToNat -> Q2, reduceLE -> Q3, reduceLT -> Q4, reduceEq -> Q5, reduceNe -> Q6, reduceNeg -> Q7, reduceAdd -> Q8, reduceSub -> Q9, reduceMul -> Qa
open Nat renaming reducePow -> Qb, reduceDiv -> Qc, reduceMod -> Qd, reduceAdd -> Qe, reduceSub -> Qf, reduceMul -> Qg, reduceLT -> Qh, reduceLeDiff -> Qi, reduceEqDiff -> Qj, reduceBEq -> Qk
def okp(c:UInt8):Bool:= !(decide (c<32)||decide (126<c))
theorem xj7(l:t6)(c:UInt8):call T 139 [.byt l .no,.u8 c] [] 0=some ⟨.int .i64 (sd l c),[],[]⟩:=by rw[gX xgs];rfl
theorem xjA(l:t6)(J:l.length<=1000000000000):∀(n i:Nat),l.length-i=n->i<=l.length->
 run T (.loop xK) ⟨[(5,.byt l .no),(6,.int .i64 l.length),(7,.int .i64 i)],[],[]⟩=if(l.drop i).all okp=true then some (.x 0,⟨[],[],[]⟩)else some (.r,⟨[(2,.bool false)],[],[]⟩):=by
 intro n;induction n with
 |zero=>
  intro i F E;have hi:i=l.length:=by omega
  subst hi;rw[al,bh];simp only[go_sem,Q0,Q1,Q2,Q3,Q4,Q5,Q6,Q7,Q8,Q9,Qa,Qb,Qc,Qd,Qe,Qf,Qg,Qh,Qi,Qj,Qk,reduceCtorEq,reduceIte]
 |succ n H=>
  intro i F E;have hi:i<l.length:=by omega
  have I:=cA i (by omega);have h:=H (i+1) (by omega) (by omega);rw[al,dp l i hi,iH];unfold okp at h ⊢;generalize z:l.getD i 0=c at*;generalize List.all (lm (i+1) l) _=q at*
  by_cases B:c<32
  ·simp only[go_sem,Q0,Q1,Q2,Q3,Q4,Q5,Q6,Q7,Q8,Q9,Qa,Qb,Qc,Qd,Qe,Qf,Qg,Qh,Qi,Qj,Qk,reduceCtorEq,reduceIte,hi,z,B]
  ·by_cases C:126<c
   ·simp only[go_sem,Q0,Q1,Q2,Q3,Q4,Q5,Q6,Q7,Q8,Q9,Qa,Qb,Qc,Qd,Qe,Qf,Qg,Qh,Qi,Qj,Qk,reduceCtorEq,reduceIte,hi,z,B,C]
   ·simp only[go_sem,Q0,Q1,Q2,Q3,Q4,Q5,Q6,Q7,Q8,Q9,Qa,Qb,Qc,Qd,Qe,Qf,Qg,Qh,Qi,Qj,Qk,reduceCtorEq,reduceIte,hi,z,I,B,C,h]
theorem xj6(l:t6)(z:l.length<=1000000000000):call T 140 [.byt l .no] [] 0=some ⟨.bool (l.all okp),[],[]⟩:=by
 have h:=xjA l z _ 0 rfl (by omega);simp only[aH,bi]at h;rw[az xgr];cases hq:l.all okp with
 |true=>rw[if_pos hq]at h;simp only[go_sem,Q0,Q1,Q2,Q3,Q4,Q5,Q6,Q7,Q8,Q9,Qa,Qb,Qc,Qd,Qe,Qf,Qg,Qh,Qi,Qj,Qk,reduceCtorEq,reduceIte,h,hq]
 |false=>rw[if_neg (by rw[hq];simp)]at h;simp only[go_sem,Q0,Q1,Q2,Q3,Q4,Q5,Q6,Q7,Q8,Q9,Qa,Qb,Qc,Qd,Qe,Qf,Qg,Qh,Qi,Qj,Qk,reduceCtorEq,reduceIte,h,hq]
theorem qN(l:t6)(c:UInt8):(sd l c= -1/\c∉l)\/∃k:Nat,sd l c=k/\k<l.length/\l=l.take k++c::l.drop (k+1)/\c∉l.take k:=by
 have e:sd l c=Lib.indexByte l c:=Lib.firstIdx_eq _ _;rw[e];clear e;induction l with
 |nil=>exact .inl ⟨rfl,cj⟩
 |cons b l E=>
  unfold Lib.indexByte
  by_cases h:b=c
  ·subst h
   exact .inr ⟨0,by simp,by simp,by simp,by simp⟩
  ·have B:¬(b==c)=true:=by simpa using h
   rw[if_neg B];rcases E with⟨z,C⟩|⟨k,z,C,h3,h4⟩
   ·rw[z]
    refine .inl ⟨rfl, ?_⟩;rw[an,not_or];exact⟨fun e=>h e.symm,C⟩
   ·rw[z]
    refine .inr ⟨k+1, ?_,by simpa using C, ?_, ?_⟩
    ·have:¬((k:Int)== -1)=true:=by simp
     rw[if_neg this];omega
    ·rw[List.take_succ_cons,List.drop_succ_cons,bU,<-h3]
    ·rw[List.take_succ_cons,an,not_or]
     exact⟨fun e=>h e.symm,h4⟩
def lnP:Nat->t6->List t6->List t6
 |0,_,o=>o
 |n+1,r,o=>if r=[]then o else if sd r 10<1 then []else if o.length=4 then []else if(r.take (sd r 10).toNat).all okp=true then lnP n (r.drop ((sd r 10).toNat+1)) (o++ [r.take (sd r 10).toNat])else []
theorem xZ:∀(a:t6)(o:List t6)(l r:t6),(10:UInt8)∉a->lnF (a++r) o l=if a.all okp=true then lnF r o (l++a)else none
 |[],o,l,r,_=>by simp
 |c::a,o,l,r,h=>by
  rw[an,not_or]at h;rw[bU,iH]
  conv=>lhs;unfold lnF
  rw[if_neg (fun e=>h.1 e.symm),xZ a o (l++ [c]) r h.2,aZ,dG];generalize List.all a okp=q;generalize lnF r o (l++c::a)=z;unfold okp
  by_cases B:c<32
  ·simp[B]
  ·by_cases C:126<c
   ·simp[B,C]
   ·simp[B,C]
def lnW(p:Option (List t6×t6)):List t6:=match p with
 |some (o,l)=>if(0:Int)<l.length then []else o
 |none=> []
theorem MN:∀(n:Nat)(r:t6)(o:List t6),r.length<n->o.length<=4->lnP n r o=lnW (lnF r o [])
 |0,r,o,h,_=>by omega
 |n+1,r,o,h,ho=>by
  unfold lnP
  by_cases F:r=[]
  ·subst F
   rw[if_pos rfl];simp[lnF,lnW]
  ·rw[if_neg F]
   rcases qN r 10 with⟨B,I⟩|⟨k,B,I,h3,h4⟩
   ·rw[B,if_pos (by omega)]
    have e:lnF r o []=if r.all okp=true then some (o,r)else none:=by have:=xZ r o [] [] I;rw[bK]at this;rw[this];simp[lnF]
    rw[e]
    have J:(0:Int)<r.length:=by have:0<r.length:=ig.2 F;omega
    split
    ·simp only[lnW];rw[if_pos J]
    ·rfl
   ·rw[B,gP]
    have e:lnF r o []=if(r.take k).all okp=true then lnF (10::r.drop (k+1)) o (r.take k)else none:=by
     conv=>lhs;rw[h3]
     rw[xZ _ o [] _ h4,bw]
    rw[e];have L:(r.take k).length=k:=by rw[aD];omega
    unfold lnF;rw[if_pos rfl,L]
    by_cases O:k=0
    ·have E:(k:Int)<1:=by omega
     have C:(k:Int)=0:=by omega
     simp only[if_pos E,if_pos C,ite_self];rfl
    ·have E:¬(k:Int)<1:=by omega
     have C:¬(k:Int)=0:=by omega
     simp only[if_neg E,if_neg C]
     by_cases H:o.length=4
     ·have z:(4:Int)<=o.length:=by omega
      simp only[if_pos H,if_pos z,ite_self];rfl
     ·have z:¬(4:Int)<=o.length:=by omega
      simp only[if_neg H,if_neg z];split
      ·exact MN n _ _ (by rw[aE];omega) (by rw[ah,aL];omega)
      ·rfl
theorem xjF(
 ro:Int)(I:t6)(L:Int)(p:t6)(hp:p.length<=1000000000000):∀(n:Nat)(r:t6)(o:List t6),r.length<n->r.length<=p.length->o.length<=4->
 ((
  ∃O,lnP n r o=O/\run T (.loop tg) ⟨[(3,.lst 1 (bls o) (.id 103)),(4,.byt r .no)],[(101,.rc [.int .i64 ro,.str I,.int .i64 L,.byt p .no])],[103]⟩=some (.x 0,⟨[(3,.lst 1 (bls O) (.id 103))],[(101,.rc [.int .i64 ro,.str I,.int .i64 L,.byt p .no])],[103]⟩))\/
  (lnP n r o=[]/\run T (.loop tg) ⟨[(3,.lst 1 (bls o) (.id 103)),(4,.byt r .no)],[(101,.rc [.int .i64 ro,.str I,.int .i64 L,.byt p .no])],[103]⟩=some (.r,⟨[(2,.lst 1 [] .clip)],[(101,.rc [.int .i64 ro,.str I,.int .i64 L,.byt p .no])],[103]⟩))):=by
 intro n;induction n with
 |zero=>intro r o h0;omega
 |succ n ih=>
  intro r o h0 h1 h2;have J:=fK o;unfold lnP
  by_cases Q:r=[]
  ·subst Q
   rw[if_pos rfl];refine .inl ⟨o,rfl, ?_⟩;rw[al];simp only[go_sem,Q0,Q1,Q2,Q3,Q4,Q5,Q6,Q7,Q8,Q9,Qa,Qb,Qc,Qd,Qe,Qf,Qg,Qh,Qi,Qj,Qk,reduceCtorEq,reduceIte]
  ·rw[if_neg Q]
   have z:0<r.length:=ig.2 Q;have h:(0:Int)<r.length:=by omega
   have g:=xj7 r 10;rcases qN r 10 with⟨W,_⟩|⟨k,W,h4,_,_⟩
   ·rw[W]at g ⊢
    rw[if_pos (by omega)];refine .inr ⟨rfl, ?_⟩;rw[al];simp only[go_sem,Q0,Q1,Q2,Q3,Q4,Q5,Q6,Q7,Q8,Q9,Qa,Qb,Qc,Qd,Qe,Qf,Qg,Qh,Qi,Qj,Qk,reduceCtorEq,reduceIte,z,h,g,tD]
   ·rw[W]at g ⊢
    rw[gP]
    by_cases k0:k=0
    ·subst k0
     rw[if_pos (by omega)];refine .inr ⟨rfl, ?_⟩;rw[al];simp only[go_sem,Q0,Q1,Q2,Q3,Q4,Q5,Q6,Q7,Q8,Q9,Qa,Qb,Qc,Qd,Qe,Qf,Qg,Qh,Qi,Qj,Qk,reduceCtorEq,reduceIte,z,h,g,tD,aH]
    ·have k1:¬(k:Int)<1:=by omega
     have k2:k<=r.length:=by omega
     have C:(k:Int)<=r.length:=by omega
     have H:=xj6 (r.take k) (by rw[aD];omega);rw[if_neg k1]
     by_cases E:o.length=4
     ·rw[if_pos E]
      have B:(o.length:Int)=4:=by omega
      refine .inr ⟨rfl, ?_⟩;rw[al];simp only[go_sem,Q0,Q1,Q2,Q3,Q4,Q5,Q6,Q7,Q8,Q9,Qa,Qb,Qc,Qd,Qe,Qf,Qg,Qh,Qi,Qj,Qk,reduceCtorEq,reduceIte,z,h,g,tD,k1,J,E,B]
     ·rw[if_neg E]
      have B:¬(o.length:Int)=4:=by omega
      cases hq:(r.take k).all okp with
      |false=>rw[if_neg (by simp)];rw[hq]at H;refine .inr ⟨rfl, ?_⟩;rw[al];simp only[go_sem,Q0,Q1,Q2,Q3,Q4,Q5,Q6,Q7,Q8,Q9,Qa,Qb,Qc,Qd,Qe,Qf,Qg,Qh,Qi,Qj,Qk,reduceCtorEq,reduceIte,z,h,g,tD,k1,k2,C,J,E,B,H,NX]
      |true=>
       rw[if_pos rfl];rw[hq]at H;have F:=ih (r.drop (k+1)) (o++ [r.take k]) (by rw[aE];omega) (by rw[aE];omega) (by rw[ah,aL];omega);rw[Cq]at F;have Z:=cA k (by omega);have k3:k+1<=r.length:=by omega
       have tf:dj r.length r=r:=bt;have c2:(o.length+1)*24<=140737488355328:=by omega
       rcases F with⟨O,S,U⟩|⟨S,U⟩
       ·refine .inl ⟨O,S, ?_⟩
        rw[al];simp only[go_sem,Q0,Q1,Q2,Q3,Q4,Q5,Q6,Q7,Q8,Q9,Qa,Qb,Qc,Qd,Qe,Qf,Qg,Qh,Qi,Qj,Qk,reduceCtorEq,reduceIte,z,h,g,tD,k1,k2,C,k3,J,E,B,H,NX,Z,tf,c2,U]
       ·refine .inr ⟨S, ?_⟩
        rw[al];simp only[go_sem,Q0,Q1,Q2,Q3,Q4,Q5,Q6,Q7,Q8,Q9,Qa,Qb,Qc,Qd,Qe,Qf,Qg,Qh,Qi,Qj,Qk,reduceCtorEq,reduceIte,z,h,g,tD,k1,k2,C,k3,J,E,B,H,NX,Z,tf,c2,U]
theorem xir(x:Img)(H:x.pay.length<=1000000000000):call T 112 [.agg x.sv] [] 0=some ⟨.lst 1 (bls (dN x.pay)) .no,[],[]⟩:=by
 obtain⟨F,E,I,p⟩:=x;have J:dN p=lnP (p.length+1) p []:=by rw[MN _ _ _ (by omega) (by simp)];rfl
 have h:=xjF F E I p H (p.length+1) p [] (by omega) (aI _) (by simp);rw[<-J]at h;have C:bls []=[]:=rfl;rw[C]at h;rw[az xgP];simp only[Img.sv];rcases h with⟨L,z,B⟩|⟨z,B⟩
 ·rw[z]
  simp only[go_sem,Q0,Q1,Q2,Q3,Q4,Q5,Q6,Q7,Q8,Q9,Qa,Qb,Qc,Qd,Qe,Qf,Qg,Qh,Qi,Qj,Qk,reduceCtorEq,reduceIte,B]
 ·rw[z,C]
  simp only[go_sem,Q0,Q1,Q2,Q3,Q4,Q5,Q6,Q7,Q8,Q9,Qa,Qb,Qc,Qd,Qe,Qf,Qg,Qh,Qi,Qj,Qk,reduceCtorEq,reduceIte,B]
theorem f68(x:Img)(S:x.pay.length<=1000000000000):call T 68 [.agg x.sv] [] 0=some ⟨.int .i64 (dD x),[],[]⟩:=by
 have z:=xdr x.name;have H:=xir x S;obtain⟨I,U,J,p⟩:=x;have O:=fK (dN p);simp only[Img.sv]at z H ⊢;rw[az xdt];unfold dD
 by_cases h:I<1
 ·simp only[go_sem,Q0,Q1,Q2,Q3,Q4,Q5,Q6,Q7,Q8,Q9,Qa,Qb,Qc,Qd,Qe,Qf,Qg,Qh,Qi,Qj,Qk,reduceCtorEq,reduceIte,h]
 by_cases B:4<I
 ·simp only[go_sem,Q0,Q1,Q2,Q3,Q4,Q5,Q6,Q7,Q8,Q9,Qa,Qb,Qc,Qd,Qe,Qf,Qg,Qh,Qi,Qj,Qk,reduceCtorEq,reduceIte,h,B]
 by_cases C:J<0
 ·simp only[go_sem,Q0,Q1,Q2,Q3,Q4,Q5,Q6,Q7,Q8,Q9,Qa,Qb,Qc,Qd,Qe,Qf,Qg,Qh,Qi,Qj,Qk,reduceCtorEq,reduceIte,h,B,C]
 by_cases E:1000000<J
 ·simp only[go_sem,Q0,Q1,Q2,Q3,Q4,Q5,Q6,Q7,Q8,Q9,Qa,Qb,Qc,Qd,Qe,Qf,Qg,Qh,Qi,Qj,Qk,reduceCtorEq,reduceIte,h,B,C,E]
 cases a5:Pr.nameB U with
 |false=>rw[a5]at z;simp only[go_sem,Q0,Q1,Q2,Q3,Q4,Q5,Q6,Q7,Q8,Q9,Qa,Qb,Qc,Qd,Qe,Qf,Qg,Qh,Qi,Qj,Qk,reduceCtorEq,reduceIte,h,B,C,E,a5,z,kD]
 |true=>
  rw[a5]at z
  by_cases F:(64:Int)<p.length
  ·simp only[go_sem,Q0,Q1,Q2,Q3,Q4,Q5,Q6,Q7,Q8,Q9,Qa,Qb,Qc,Qd,Qe,Qf,Qg,Qh,Qi,Qj,Qk,reduceCtorEq,reduceIte,h,B,C,E,a5,z,kD,F]
  by_cases L:I=4
  ·subst L
   by_cases Q:((dN p).length:Int)=0
   ·simp only[go_sem,Q0,Q1,Q2,Q3,Q4,Q5,Q6,Q7,Q8,Q9,Qa,Qb,Qc,Qd,Qe,Qf,Qg,Qh,Qi,Qj,Qk,reduceCtorEq,reduceIte,h,B,C,E,a5,z,kD,F,H,Eg,O,Q]
   ·simp only[go_sem,Q0,Q1,Q2,Q3,Q4,Q5,Q6,Q7,Q8,Q9,Qa,Qb,Qc,Qd,Qe,Qf,Qg,Qh,Qi,Qj,Qk,reduceCtorEq,reduceIte,h,B,C,E,a5,z,kD,F,H,Eg,O,Q]
  ·simp only[go_sem,Q0,Q1,Q2,Q3,Q4,Q5,Q6,Q7,Q8,Q9,Qa,Qb,Qc,Qd,Qe,Qf,Qg,Qh,Qi,Qj,Qk,reduceCtorEq,reduceIte,h,B,C,E,a5,z,kD,F,L]
theorem f70(x:Img)(hn:x.name.length<=1000000)(J:x.pay.length<=1000000):call T 70 [.agg x.sv] [] 0=some ⟨.byt (dl x) .no,[],[]⟩:=by
 have g0:=f68 x (by omega);have z:=Yv [] 1 x.role (by omega) (by omega) (by simp);have B:=Yv (be 1 (bd.wrap x.role)) 4 x.ver (by omega) (by omega) (by rw[eg];omega);have C:=P0 (be 1 (bd.wrap x.role)++be 4 (bd.wrap x.ver)) x.name (by rw[ah,eg,eg];omega) (by omega);have I:=P0 (kU (be 1 (bd.wrap x.role)++be 4 (bd.wrap x.ver)) x.name) x.pay (by rw[dy,ah,eg,eg];omega) (by omega);simp only[bX,bw]at z B;obtain⟨E,F,H,p⟩:=x;simp only[Img.sv]at*;rw[az xiB];unfold dl
 by_cases h:dD ⟨E,F,H,p⟩=0
 ·rw[if_pos h]
  rw[h]at g0;simp only[go_sem,Q0,Q1,Q2,Q3,Q4,Q5,Q6,Q7,Q8,Q9,Qa,Qb,Qc,Qd,Qe,Qf,Qg,Qh,Qi,Qj,Qk,reduceCtorEq,reduceIte,g0,sP,z,jK,B,C,ll,I]
 ·rw[if_neg h]
  simp only[go_sem,Q0,Q1,Q2,Q3,Q4,Q5,Q6,Q7,Q8,Q9,Qa,Qb,Qc,Qd,Qe,Qf,Qg,Qh,Qi,Qj,Qk,reduceCtorEq,reduceIte,g0,sP,h]
theorem xie(x:Img):call T 68 [.agg x.sv] [] 0=some ⟨.int .i64 (dD x),[],[]⟩:=by
 have B:=xdr x.name;have O:=fun h=>xir x h
 obtain⟨J,W,Q,p⟩:=x;have U:=fK (dN p);simp only[Img.sv]at B O ⊢;rw[az xdt];unfold dD
 by_cases z:J<1
 ·simp only[go_sem,Q0,Q1,Q2,Q3,Q4,Q5,Q6,Q7,Q8,Q9,Qa,Qb,Qc,Qd,Qe,Qf,Qg,Qh,Qi,Qj,Qk,reduceCtorEq,reduceIte,z]
 by_cases C:4<J
 ·simp only[go_sem,Q0,Q1,Q2,Q3,Q4,Q5,Q6,Q7,Q8,Q9,Qa,Qb,Qc,Qd,Qe,Qf,Qg,Qh,Qi,Qj,Qk,reduceCtorEq,reduceIte,z,C]
 by_cases E:Q<0
 ·simp only[go_sem,Q0,Q1,Q2,Q3,Q4,Q5,Q6,Q7,Q8,Q9,Qa,Qb,Qc,Qd,Qe,Qf,Qg,Qh,Qi,Qj,Qk,reduceCtorEq,reduceIte,z,C,E]
 by_cases F:1000000<Q
 ·simp only[go_sem,Q0,Q1,Q2,Q3,Q4,Q5,Q6,Q7,Q8,Q9,Qa,Qb,Qc,Qd,Qe,Qf,Qg,Qh,Qi,Qj,Qk,reduceCtorEq,reduceIte,z,C,E,F]
 cases a5:Pr.nameB W with
 |false=>rw[a5]at B;simp only[go_sem,Q0,Q1,Q2,Q3,Q4,Q5,Q6,Q7,Q8,Q9,Qa,Qb,Qc,Qd,Qe,Qf,Qg,Qh,Qi,Qj,Qk,reduceCtorEq,reduceIte,z,C,E,F,a5,B,kD]
 |true=>
  rw[a5]at B
  by_cases I:(64:Int)<p.length
  ·simp only[go_sem,Q0,Q1,Q2,Q3,Q4,Q5,Q6,Q7,Q8,Q9,Qa,Qb,Qc,Qd,Qe,Qf,Qg,Qh,Qi,Qj,Qk,reduceCtorEq,reduceIte,z,C,E,F,a5,B,kD,I]
  have H:=O (by omega)
  by_cases S:J=4
  ·subst S
   by_cases L:((dN p).length:Int)=0
   ·simp only[go_sem,Q0,Q1,Q2,Q3,Q4,Q5,Q6,Q7,Q8,Q9,Qa,Qb,Qc,Qd,Qe,Qf,Qg,Qh,Qi,Qj,Qk,reduceCtorEq,reduceIte,z,C,E,F,a5,B,kD,I,H,Eg,U,L]
   ·simp only[go_sem,Q0,Q1,Q2,Q3,Q4,Q5,Q6,Q7,Q8,Q9,Qa,Qb,Qc,Qd,Qe,Qf,Qg,Qh,Qi,Qj,Qk,reduceCtorEq,reduceIte,z,C,E,F,a5,B,kD,I,H,Eg,U,L]
  ·simp only[go_sem,Q0,Q1,Q2,Q3,Q4,Q5,Q6,Q7,Q8,Q9,Qa,Qb,Qc,Qd,Qe,Qf,Qg,Qh,Qi,Qj,Qk,reduceCtorEq,reduceIte,z,C,E,F,a5,B,kD,I,S]
theorem xjP(x:Img):call T 70 [.agg x.sv] [] 0=some ⟨.byt (dl x) .no,[],[]⟩:=by
 by_cases h:dD x=0
 ·obtain⟨C,z⟩:=gV h
  exact f70 x C z
 ·have g0:=xie x
  have B:dl x=[]:=if_neg h;rw[B];generalize dD x=e at*;obtain⟨E,F,H,p⟩:=x;simp only[Img.sv]at*;rw[az xiB];simp only[go_sem,Q0,Q1,Q2,Q3,Q4,Q5,Q6,Q7,Q8,Q9,Qa,Qb,Qc,Qd,Qe,Qf,Qg,Qh,Qi,Qj,Qk,reduceCtorEq,reduceIte,g0,sP,h]
theorem Qm(x:Img):(dl x).length<=10000000:=by
 by_cases h:dD x=0
 ·obtain⟨C,B⟩:=gV h
  exact jc x C B
 ·have z:dl x=[]:=if_neg h
  rw[z];simp
section
open SortT
def mD(v:t6)(h:Int)(e:SV):aC:= .rc [.str v,.int .i64 h,.int .i64 0,.int .i64 0,.int .i64 1099511627776,e,.lst 4 [] .clip]
def Em(l:List Ent):SV:=if l=[]then .lst 4 [] .clip else .psl 140 4 0 l.length none
def En(l:List Ent):List (Nat×aC):=if l=[]then []else [(140,.arr 4 (cO l))]
def nH(l:List Ent)(y:Img):List Ent:=if dD y=0 then(if y.role=4 then l else l++ [dU y])else l
theorem va(l:List Ent)(y:Img):(nH l y).length<=l.length+1:=by
 unfold nH;split
 ·split
  ·omega
  ·simp
 ·omega
theorem qX(l:List Ent)(x:Ent):cO (l++ [x])=cO l++ [x.sv]:=by rw[cO,cO,dh];rfl
theorem l30(z:List Img)(a0:z.length<=1000)(v:t6)(ve:Int):∀(n i:Nat)(L:List Ent),z.length-i=n->i<=z.length->L.length<=i->
 run T (.loop Nz) ⟨[(6,.ptr 106 0),(7,.ptr 107 0),(13,.lst 4 (eP z) .no),(14,.int .i64 z.length),(15,.int .i64 i)],(106,mZ)::(107,mD v ve (Em L))::En L,[]⟩=
  some (.x 0,⟨[(6,.ptr 106 0),(7,.ptr 107 0)],(106,mZ)::(107,mD v ve (Em ((z.drop i).foldl nH L)))::En ((z.drop i).foldl nH L),[]⟩):=by
 intro n;induction n with
 |zero=>
  intro i L H h1 hL;have hi:i=z.length:=by omega
  subst hi;rw[bh,List.foldl_nil,al];unfold En Em mD mZ
  by_cases hz:L=[]
  ·simp only[if_pos hz,go_sem,Q0,Q1,Q2,Q3,Q4,Q5,Q6,Q7,Q8,Q9,Qa,Qb,Qc,Qd,Qe,Qf,Qg,Qh,Qi,Qj,Qk,reduceCtorEq,reduceIte]
  ·simp only[if_neg hz,go_sem,Q0,Q1,Q2,Q3,Q4,Q5,Q6,Q7,Q8,Q9,Qa,Qb,Qc,Qd,Qe,Qf,Qg,Qh,Qi,Qj,Qk,reduceCtorEq,reduceIte]
 |succ n ih=>
  intro i L H h1 hL;have hi:i<z.length:=by omega
  have C:(i:Int)<(z.length:Int):=by omega
  have J:=cA i (by omega);have O:=dx z;have F:=eO z i hi;have hd:z.drop i=z.getD i im0::z.drop (i+1):=by rw[aU hi,aa,af hi];rfl
  rw[hd,cx];have h:=ih (i+1) (nH L (z.getD i im0)) (by omega) (by omega) (by have:=va L (z.getD i im0);omega);generalize List.foldl nH (nH L (z.getD i im0)) (z.drop (i+1))=Z at*;generalize z.getD i im0=y at*;have B:=xie y;have g2:=xjP y;have a1:=Qm y;have W:=f69 (dl y) (by omega);unfold nH dU at h;generalize hE:dl y=E at*
  by_cases H:dD y=0
  ·by_cases I:y.role=4
   ·rw[if_pos H,if_pos I]at h
    rw[H]at B;obtain⟨y1,y2,y3,y4⟩:=y;simp only at I;subst I;unfold En Em mD mZ at h ⊢
    by_cases hz:L=[]
    ·simp only[if_pos hz,Img.sv]at h F B ⊢
     rw[al];simp only[go_sem,Q0,Q1,Q2,Q3,Q4,Q5,Q6,Q7,Q8,Q9,Qa,Qb,Qc,Qd,Qe,Qf,Qg,Qh,Qi,Qj,Qk,reduceCtorEq,reduceIte,hi,C,O,F,B,sP,J,h]
    ·simp only[if_neg hz,Img.sv]at h F B ⊢
     rw[al];simp only[go_sem,Q0,Q1,Q2,Q3,Q4,Q5,Q6,Q7,Q8,Q9,Qa,Qb,Qc,Qd,Qe,Qf,Qg,Qh,Qi,Qj,Qk,reduceCtorEq,reduceIte,hi,C,O,F,B,sP,J,h]
   ·rw[if_pos H,if_neg I]at h
    rw[H]at B;obtain⟨y1,y2,y3,y4⟩:=y;simp only at I h hE
    try rw[hE]at h
    have U:¬L++ [(⟨y1,y2,y3,sha E⟩:Ent)]=[]:=by simp
    have S:(L++ [(⟨y1,y2,y3,sha E⟩:Ent)]).length=L.length+1:=by simp
    unfold En Em mD mZ at h ⊢
    by_cases hz:L=[]
    ·subst hz
     simp only[if_neg U,S,if_true,Img.sv,qX,Ent.sv,cO,ic]at h F B g2 W ⊢;simp only[bw,aO,ic,Ent.sv,bg,bC]at h;rw[al];simp only[go_sem,Q0,Q1,Q2,Q3,Q4,Q5,Q6,Q7,Q8,Q9,Qa,Qb,Qc,Qd,Qe,Qf,Qg,Qh,Qi,Qj,Qk,reduceCtorEq,reduceIte,hi,C,O,F,B,sP,I,g2,xiL,W,wO,J,h]
    ·have Q:=dd L
     have tf:dj L.length (cO L)=cO L:=by rw[<-Q,bt]
     have b1:(L.length+1)*56<=140737488355328:=by omega
     simp only[if_neg U,if_neg hz,S,Img.sv,qX,Ent.sv]at h F B g2 W ⊢;rw[al];simp only[go_sem,Q0,Q1,Q2,Q3,Q4,Q5,Q6,Q7,Q8,Q9,Qa,Qb,Qc,Qd,Qe,Qf,Qg,Qh,Qi,Qj,Qk,reduceCtorEq,reduceIte,hi,C,O,F,B,sP,I,g2,xiL,W,wO,J,Q,tf,b1,h]
  ·rw[if_neg H]at h
   obtain⟨y1,y2,y3,y4⟩:=y;unfold En Em mD mZ at h ⊢
   by_cases hz:L=[]
   ·simp only[if_pos hz,Img.sv]at h F B ⊢
    rw[al];simp only[go_sem,Q0,Q1,Q2,Q3,Q4,Q5,Q6,Q7,Q8,Q9,Qa,Qb,Qc,Qd,Qe,Qf,Qg,Qh,Qi,Qj,Qk,reduceCtorEq,reduceIte,hi,C,O,F,B,sP,H,J,h]
   ·simp only[if_neg hz,Img.sv]at h F B ⊢
    rw[al];simp only[go_sem,Q0,Q1,Q2,Q3,Q4,Q5,Q6,Q7,Q8,Q9,Qa,Qb,Qc,Qd,Qe,Qf,Qg,Qh,Qi,Qj,Qk,reduceCtorEq,reduceIte,hi,C,O,F,B,sP,H,J,h]
theorem uH:∀(h:List Img)(L:List Ent),(h.foldl nH L).length<=L.length+h.length
 |[],L=>aI _
 |y::r,L=>by have B:=uH r (nH L y);have z:=va L y;rw[cx,av];omega
def Qx(h:List Img):List Ent:=cpt eqE (isr eo en0 ((h.foldl nH []).length-1) 1 (h.foldl nH []))
theorem xjU(z:List Img)(Q:z.length<=12)(v:t6)(E:Int):call T 30 [.str v,.int .i64 E,.lst 4 (eP z) .no] [] 0=
 some ⟨.agg [.str v,.int .i64 E,.int .i64 0,.int .i64 0,.int .i64 1099511627776,.lst 4 (cO (Qx z)) .no,.lst 4 [] .clip],[],[]⟩:=by
 have h:=l30 z (by omega) v E _ 0 [] rfl (cu _) (aI _);have J:=uH z [];rw[aH,bi]at h;have I:=dx z;unfold Qx;generalize z.foldl nH []=L at*;simp only[bg,bC]at J;unfold Em En mD mZ at h;rw[az xlg]
 by_cases hz:L=[]
 ·subst hz
  have C:=xjO;have B:=xjN;simp only[if_true]at h;simp only[go_sem,Q0,Q1,Q2,Q3,Q4,Q5,Q6,Q7,Q8,Q9,Qa,Qb,Qc,Qd,Qe,Qf,Qg,Qh,Qi,Qj,Qk,reduceCtorEq,reduceIte,I,h,C,xiK,B,xiJ];rfl
 ·have O:0<L.length:=ig.2 hz
  have C:=f71 L O (by omega);have F:=BX eo en0 (L.length-1) 1 L;obtain⟨R,U,r1,W,r3,B⟩:=f73 (isr eo en0 (L.length-1) 1 L) (by omega) (by omega);rw[F]at B r1 W;have H:=dd L;have Z:=dd (isr eo en0 (L.length-1) 1 L);rw[<-r3];simp only[if_neg hz,if_true]at h;have S:U<=R.length:=by omega
  simp only[go_sem,Q0,Q1,Q2,Q3,Q4,Q5,Q6,Q7,Q8,Q9,Qa,Qb,Qc,Qd,Qe,Qf,Qg,Qh,Qi,Qj,Qk,reduceCtorEq,reduceIte,I,h,C,xiK,B,xiJ,H,S]
def MY(l:List Ent)(y:Img):List Ent:=if dD y=0 then iX y l else l
theorem qR:∀(E:List Img)(A B:List Ent),A.foldl (fun a x=>oB eo x a) []=B->(E.foldl nH A).foldl (fun a x=>oB eo x a) []=E.foldl MY B
 |[],_,_,h=>h
 |y::r,A,B,h=>by
  rw[cx,cx];refine qR r _ _ ?_;unfold nH MY iX
  by_cases z:dD y=0
  ·rw[if_pos z,if_pos z]
   by_cases C:y.role=4
   ·rw[if_pos C,if_pos C];exact h
   ·rw[if_neg C,if_neg C,List.foldl_append,h,r8];rfl
  ·rw[if_neg z,if_neg z];exact h
theorem Qw(h:List Img):Qx h=h.foldl MY []:=by unfold Qx;rw[EL nE P8,qR h [] [] rfl]
theorem oP:∀(C:List Img)(B:List Ent),(∀y∈C,dD y=0)->C.foldl MY B=gO C B
 |[],_,_=>rfl
 |y::r,B,h=>by
  rw[cx];unfold gO;rw[cx];have:MY B y=iX y B:=by unfold MY;rw[if_pos (h y ax)]
  rw[this];exact oP r _ fun z hz=>h z (aq _ hz)
theorem wC{h:List Img}(z:cd h):Qx h=gO h []:=by rw[Qw,oP h [] (rf z)]
end
end Go.Proofs.YtdafipacemgcoaaGreatDoor
