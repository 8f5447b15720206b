/- What the functions come to. No condition. -/
import Derived.Test.YtkggincjigbelaaGreatDoorToD
open Int renaming natCast_zero -> aB
open Go.IntKind renaming u64 -> aI
open List renaming append_assoc -> av, append_nil -> aZ, cons_append -> aS, drop_length -> bP, drop_zero -> bj, length_append -> ac, length_drop -> aQ, length_singleton -> aV, length_take -> ax, mem_cons -> an, nil_append -> aF, not_mem_nil -> bU, singleton_append -> dA, take -> kG, take_length -> bY
open Nat renaming le_refl -> aH
set_option maxRecDepth 100000
set_option maxHeartbeats 16000000
set_option linter.unusedSimpArgs false
set_option linter.unusedVariables false
namespace Go.Proofs.YtkggincjigbelaaGreatDoor
open Go.Sy
open UInt8 renaming reduceLT -> Q0, reduceLE -> Q1
open Int renaming reduceToNat -> Q2, reduceLE -> Q3, reduceLT -> Q4, reduceEq -> Q5, reduceNe -> Q6, reduceNeg -> Q7, reduceAdd -> Q8, reduceSub -> Q9, reduceMul -> Qa
open Nat renaming reducePow -> Qb, reduceDiv -> Qc, reduceMod -> Qd, reduceAdd -> Qe, reduceSub -> Qf, reduceMul -> Qg, reduceLT -> Qh, reduceLeDiff -> Qi, reduceEqDiff -> Qj, reduceBEq -> Qk
def okp(c:UInt8):Bool:= !(decide (c<32)||decide (126<c))
theorem xlA(l:List UInt8)(c:UInt8):call T 164 [.byt l .no,.u8 c] [] 0=some ⟨.int .i64 (rB l c),[],[]⟩:=by rw[ix xgC];rfl
theorem xkG(l:List UInt8)(hl:l.length<=1000000000000):∀(n i:Nat),l.length-i=n->i<=l.length->
 run T (.loop xo) ⟨[(5,.byt l .no),(6,.int .i64 l.length),(7,.int .i64 i)],[],[]⟩=if(l.drop i).all okp=true then some (.x 0,⟨[],[],[]⟩)else some (.r,⟨[(2,.bool false)],[],[]⟩):=by
 intro n;induction n with
 |zero=>
  intro i h0 h1;have hi:i=l.length:=by omega
  subst hi;rw[ah,bP];simp only[go_sem,Q0,Q1,Q2,Q3,Q4,Q5,Q6,Q7,Q8,Q9,Qa,Qb,Qc,Qd,Qe,Qf,Qg,Qh,Qi,Qj,Qk,reduceCtorEq,reduceIte]
 |succ n ih=>
  intro i h0 h1;have hi:i<l.length:=by omega
  have e1:=cR i (by omega);have ih':=ih (i+1) (by omega) (by omega);rw[ah,de l i hi,List.all_cons];unfold okp at ih' ⊢;generalize hc:l.getD i 0=c at*;generalize List.all (List.drop (i+1) l) _=q at*
  by_cases a1:c<32
  ·simp only[go_sem,Q0,Q1,Q2,Q3,Q4,Q5,Q6,Q7,Q8,Q9,Qa,Qb,Qc,Qd,Qe,Qf,Qg,Qh,Qi,Qj,Qk,reduceCtorEq,reduceIte,hi,hc,a1]
  ·by_cases a2:126<c
   ·simp only[go_sem,Q0,Q1,Q2,Q3,Q4,Q5,Q6,Q7,Q8,Q9,Qa,Qb,Qc,Qd,Qe,Qf,Qg,Qh,Qi,Qj,Qk,reduceCtorEq,reduceIte,hi,hc,a1,a2]
   ·simp only[go_sem,Q0,Q1,Q2,Q3,Q4,Q5,Q6,Q7,Q8,Q9,Qa,Qb,Qc,Qd,Qe,Qf,Qg,Qh,Qi,Qj,Qk,reduceCtorEq,reduceIte,hi,hc,e1,a1,a2,ih']
theorem xlz(l:List UInt8)(hl:l.length<=1000000000000):call T 165 [.byt l .no] [] 0=some ⟨.bool (l.all okp),[],[]⟩:=by
 have h:=xkG l hl _ 0 rfl (by omega);simp only[aB,bj]at h;rw[aj xgB];cases hq:l.all okp with
 |true=>rw[if_pos hq]at h;simp only[go_sem,Q0,Q1,Q2,Q3,Q4,Q5,Q6,Q7,Q8,Q9,Qa,Qb,Qc,Qd,Qe,Qf,Qg,Qh,Qi,Qj,Qk,reduceCtorEq,reduceIte,h,hq]
 |false=>rw[if_neg (by rw[hq];simp)]at h;simp only[go_sem,Q0,Q1,Q2,Q3,Q4,Q5,Q6,Q7,Q8,Q9,Qa,Qb,Qc,Qd,Qe,Qf,Qg,Qh,Qi,Qj,Qk,reduceCtorEq,reduceIte,h,hq]
theorem pY(l:List UInt8)(c:UInt8):(rB l c= -1/\c∉l)\/∃k:Nat,rB l c=k/\k<l.length/\l=l.take k++c::l.drop (k+1)/\c∉l.take k:=by
 have e:rB l c=Lib.indexByte l c:=Lib.firstIdx_eq _ _;rw[e];clear e;induction l with
 |nil=>exact .inl ⟨rfl,bU⟩
 |cons b l ih=>
  unfold Lib.indexByte
  by_cases hb:b=c
  ·subst hb
   exact .inr ⟨0,by simp,by simp,by simp,by simp⟩
  ·have hb':¬(b==c)=true:=by simpa using hb
   rw[if_neg hb'];rcases ih with⟨h1,h2⟩|⟨k,h1,h2,h3,h4⟩
   ·rw[h1]
    refine .inl ⟨rfl, ?_⟩;rw[an,not_or];exact⟨fun e=>hb e.symm,h2⟩
   ·rw[h1]
    refine .inr ⟨k+1, ?_,by simpa using h2, ?_, ?_⟩
    ·have:¬((k:Int)== -1)=true:=by simp
     rw[if_neg this];omega
    ·rw[List.take_succ_cons,List.drop_succ_cons,aS,<-h3]
    ·rw[List.take_succ_cons,an,not_or]
     exact⟨fun e=>hb e.symm,h4⟩
def lnP:Nat->List UInt8->List (List UInt8)->List (List UInt8)
 |0,_,o=>o
 |n+1,r,o=>if r=[]then o else if rB r 10<1 then []else if o.length=4 then []else if(r.take (rB r 10).toNat).all okp=true then lnP n (r.drop ((rB r 10).toNat+1)) (o++ [r.take (rB r 10).toNat])else []
theorem xS:∀(a:List UInt8)(o:List (List UInt8))(l r:List UInt8),(10:UInt8)∉a->lnF (a++r) o l=if a.all okp=true then lnF r o (l++a)else none
 |[],o,l,r,_=>by simp
 |c::a,o,l,r,h=>by
  rw[an,not_or]at h;rw[aS,List.all_cons]
  conv=>lhs;unfold lnF
  rw[if_neg (fun e=>h.1 e.symm),xS a o (l++ [c]) r h.2,av,dA];generalize List.all a okp=q;generalize lnF r o (l++c::a)=z;unfold okp
  by_cases h1:c<32
  ·simp[h1]
  ·by_cases h2:126<c
   ·simp[h1,h2]
   ·simp[h1,h2]
def lnW(p:Option (List (List UInt8)×List UInt8)):List (List UInt8):=match p with
 |some (o,l)=>if(0:Int)<l.length then []else o
 |none=> []
theorem MB:∀(n:Nat)(r:List UInt8)(o:List (List UInt8)),r.length<n->o.length<=4->lnP n r o=lnW (lnF r o [])
 |0,r,o,h,_=>by omega
 |n+1,r,o,h,ho=>by
  unfold lnP
  by_cases hr:r=[]
  ·subst hr
   rw[if_pos rfl];simp[lnF,lnW]
  ·rw[if_neg hr]
   rcases pY r 10 with⟨h1,h2⟩|⟨k,h1,h2,h3,h4⟩
   ·rw[h1,if_pos (by omega)]
    have e:lnF r o []=if r.all okp=true then some (o,r)else none:=by have:=xS r o [] [] h2;rw[aZ]at this;rw[this];simp[lnF]
    rw[e]
    have hl:(0:Int)<r.length:=by have:0<r.length:=List.length_pos_iff.2 hr;omega
    split
    ·simp only[lnW];rw[if_pos hl]
    ·rfl
   ·rw[h1,Int.toNat_natCast]
    have e:lnF r o []=if(r.take k).all okp=true then lnF (10::r.drop (k+1)) o (r.take k)else none:=by
     conv=>lhs;rw[h3]
     rw[xS _ o [] _ h4,aF]
    rw[e];have hk:(r.take k).length=k:=by rw[ax];omega
    unfold lnF;rw[if_pos rfl,hk]
    by_cases k0:k=0
    ·have i1:(k:Int)<1:=by omega
     have i2:(k:Int)=0:=by omega
     simp only[if_pos i1,if_pos i2,ite_self];rfl
    ·have i1:¬(k:Int)<1:=by omega
     have i2:¬(k:Int)=0:=by omega
     simp only[if_neg i1,if_neg i2]
     by_cases o4:o.length=4
     ·have i4:(4:Int)<=o.length:=by omega
      simp only[if_pos o4,if_pos i4,ite_self];rfl
     ·have i4:¬(4:Int)<=o.length:=by omega
      simp only[if_neg o4,if_neg i4];split
      ·exact MB n _ _ (by rw[aQ];omega) (by rw[ac,aV];omega)
      ·rfl
theorem xkR(
 ro:Int)(na:List UInt8)(ve:Int)(p:List UInt8)(hp:p.length<=1000000000000):∀(n:Nat)(r:List UInt8)(o:List (List UInt8)),r.length<n->r.length<=p.length->o.length<=4->
 ((
  ∃o',lnP n r o=o'/\run T (.loop sH) ⟨[(3,.lst 1 (bls o) (.id 103)),(4,.byt r .no)],[(101,.rc [.int .i64 ro,.str na,.int .i64 ve,.byt p .no])],[103]⟩=some (.x 0,⟨[(3,.lst 1 (bls o') (.id 103))],[(101,.rc [.int .i64 ro,.str na,.int .i64 ve,.byt p .no])],[103]⟩))\/
  (lnP n r o=[]/\run T (.loop sH) ⟨[(3,.lst 1 (bls o) (.id 103)),(4,.byt r .no)],[(101,.rc [.int .i64 ro,.str na,.int .i64 ve,.byt p .no])],[103]⟩=some (.r,⟨[(2,.lst 1 [] .clip)],[(101,.rc [.int .i64 ro,.str na,.int .i64 ve,.byt p .no])],[103]⟩))):=by
 intro n;induction n with
 |zero=>intro r o h0;omega
 |succ n ih=>
  intro r o h0 h1 h2;have hb:=nO o;unfold lnP
  by_cases hr:r=[]
  ·subst hr
   rw[if_pos rfl];refine .inl ⟨o,rfl, ?_⟩;rw[ah];simp only[go_sem,Q0,Q1,Q2,Q3,Q4,Q5,Q6,Q7,Q8,Q9,Qa,Qb,Qc,Qd,Qe,Qf,Qg,Qh,Qi,Qj,Qk,reduceCtorEq,reduceIte]
  ·rw[if_neg hr]
   have hpos:0<r.length:=List.length_pos_iff.2 hr;have hposI:(0:Int)<r.length:=by omega
   have g:=xlA r 10;rcases pY r 10 with⟨h3,_⟩|⟨k,h3,h4,_,_⟩
   ·rw[h3]at g ⊢
    rw[if_pos (by omega)];refine .inr ⟨rfl, ?_⟩;rw[ah];simp only[go_sem,Q0,Q1,Q2,Q3,Q4,Q5,Q6,Q7,Q8,Q9,Qa,Qb,Qc,Qd,Qe,Qf,Qg,Qh,Qi,Qj,Qk,reduceCtorEq,reduceIte,hpos,hposI,g,sS]
   ·rw[h3]at g ⊢
    rw[Int.toNat_natCast]
    by_cases k0:k=0
    ·subst k0
     rw[if_pos (by omega)];refine .inr ⟨rfl, ?_⟩;rw[ah];simp only[go_sem,Q0,Q1,Q2,Q3,Q4,Q5,Q6,Q7,Q8,Q9,Qa,Qb,Qc,Qd,Qe,Qf,Qg,Qh,Qi,Qj,Qk,reduceCtorEq,reduceIte,hpos,hposI,g,sS,aB]
    ·have k1:¬(k:Int)<1:=by omega
     have k2:k<=r.length:=by omega
     have k2':(k:Int)<=r.length:=by omega
     have gp:=xlz (r.take k) (by rw[ax];omega);rw[if_neg k1]
     by_cases o4:o.length=4
     ·rw[if_pos o4]
      have o4':(o.length:Int)=4:=by omega
      refine .inr ⟨rfl, ?_⟩;rw[ah];simp only[go_sem,Q0,Q1,Q2,Q3,Q4,Q5,Q6,Q7,Q8,Q9,Qa,Qb,Qc,Qd,Qe,Qf,Qg,Qh,Qi,Qj,Qk,reduceCtorEq,reduceIte,hpos,hposI,g,sS,k1,hb,o4,o4']
     ·rw[if_neg o4]
      have o4':¬(o.length:Int)=4:=by omega
      cases hq:(r.take k).all okp with
      |false=>rw[if_neg (by simp)];rw[hq]at gp;refine .inr ⟨rfl, ?_⟩;rw[ah];simp only[go_sem,Q0,Q1,Q2,Q3,Q4,Q5,Q6,Q7,Q8,Q9,Qa,Qb,Qc,Qd,Qe,Qf,Qg,Qh,Qi,Qj,Qk,reduceCtorEq,reduceIte,hpos,hposI,g,sS,k1,k2,k2',hb,o4,o4',gp,NQ]
      |true=>
       rw[if_pos rfl];rw[hq]at gp;have ih':=ih (r.drop (k+1)) (o++ [r.take k]) (by rw[aQ];omega) (by rw[aQ];omega) (by rw[ac,aV];omega);rw[Bi]at ih';have e1:=cR k (by omega);have k3:k+1<=r.length:=by omega
       have tf:kG r.length r=r:=bY;have c2:(o.length+1)*24<=140737488355328:=by omega
       rcases ih' with⟨o',g1,g2⟩|⟨g1,g2⟩
       ·refine .inl ⟨o',g1, ?_⟩
        rw[ah];simp only[go_sem,Q0,Q1,Q2,Q3,Q4,Q5,Q6,Q7,Q8,Q9,Qa,Qb,Qc,Qd,Qe,Qf,Qg,Qh,Qi,Qj,Qk,reduceCtorEq,reduceIte,hpos,hposI,g,sS,k1,k2,k2',k3,hb,o4,o4',gp,NQ,e1,tf,c2,g2]
       ·refine .inr ⟨g1, ?_⟩
        rw[ah];simp only[go_sem,Q0,Q1,Q2,Q3,Q4,Q5,Q6,Q7,Q8,Q9,Qa,Qb,Qc,Qd,Qe,Qf,Qg,Qh,Qi,Qj,Qk,reduceCtorEq,reduceIte,hpos,hposI,g,sS,k1,k2,k2',k3,hb,o4,o4',gp,NQ,e1,tf,c2,g2]
theorem xlY(x:Img)(hp:x.pay.length<=1000000000000):call T 103 [.agg x.sv] [] 0=some ⟨.lst 1 (bls (gb x.pay)) .no,[],[]⟩:=by
 obtain⟨ro,na,ve,p⟩:=x;have he:gb p=lnP (p.length+1) p []:=by rw[MB _ _ _ (by omega) (by simp)];rfl
 have h:=xkR ro na ve p hp (p.length+1) p [] (by omega) (aH _) (by simp);rw[<-he]at h;have hb:bls []=[]:=rfl;rw[hb]at h;rw[aj xhi];simp only[Img.sv];rcases h with⟨o',h1,h2⟩|⟨h1,h2⟩
 ·rw[h1]
  simp only[go_sem,Q0,Q1,Q2,Q3,Q4,Q5,Q6,Q7,Q8,Q9,Qa,Qb,Qc,Qd,Qe,Qf,Qg,Qh,Qi,Qj,Qk,reduceCtorEq,reduceIte,h2]
 ·rw[h1,hb]
  simp only[go_sem,Q0,Q1,Q2,Q3,Q4,Q5,Q6,Q7,Q8,Q9,Qa,Qb,Qc,Qd,Qe,Qf,Qg,Qh,Qi,Qj,Qk,reduceCtorEq,reduceIte,h2]
theorem f63(x:Img)(hp:x.pay.length<=1000000000000):call T 63 [.agg x.sv] [] 0=some ⟨.int .i64 (gz x),[],[]⟩:=by
 have g1:=xjk x.name;have g2:=xlY x hp;obtain⟨ro,na,ve,p⟩:=x;have hb:=nO (gb p);simp only[Img.sv]at g1 g2 ⊢;rw[aj xjw];unfold gz
 by_cases a1:ro<1
 ·simp only[go_sem,Q0,Q1,Q2,Q3,Q4,Q5,Q6,Q7,Q8,Q9,Qa,Qb,Qc,Qd,Qe,Qf,Qg,Qh,Qi,Qj,Qk,reduceCtorEq,reduceIte,a1]
 by_cases a2:4<ro
 ·simp only[go_sem,Q0,Q1,Q2,Q3,Q4,Q5,Q6,Q7,Q8,Q9,Qa,Qb,Qc,Qd,Qe,Qf,Qg,Qh,Qi,Qj,Qk,reduceCtorEq,reduceIte,a1,a2]
 by_cases a3:ve<0
 ·simp only[go_sem,Q0,Q1,Q2,Q3,Q4,Q5,Q6,Q7,Q8,Q9,Qa,Qb,Qc,Qd,Qe,Qf,Qg,Qh,Qi,Qj,Qk,reduceCtorEq,reduceIte,a1,a2,a3]
 by_cases a4:1000000<ve
 ·simp only[go_sem,Q0,Q1,Q2,Q3,Q4,Q5,Q6,Q7,Q8,Q9,Qa,Qb,Qc,Qd,Qe,Qf,Qg,Qh,Qi,Qj,Qk,reduceCtorEq,reduceIte,a1,a2,a3,a4]
 cases a5:Pr.nameB na with
 |false=>rw[a5]at g1;simp only[go_sem,Q0,Q1,Q2,Q3,Q4,Q5,Q6,Q7,Q8,Q9,Qa,Qb,Qc,Qd,Qe,Qf,Qg,Qh,Qi,Qj,Qk,reduceCtorEq,reduceIte,a1,a2,a3,a4,a5,g1,pz]
 |true=>
  rw[a5]at g1
  by_cases a6:(64:Int)<p.length
  ·simp only[go_sem,Q0,Q1,Q2,Q3,Q4,Q5,Q6,Q7,Q8,Q9,Qa,Qb,Qc,Qd,Qe,Qf,Qg,Qh,Qi,Qj,Qk,reduceCtorEq,reduceIte,a1,a2,a3,a4,a5,g1,pz,a6]
  by_cases a7:ro=4
  ·subst a7
   by_cases a8:((gb p).length:Int)=0
   ·simp only[go_sem,Q0,Q1,Q2,Q3,Q4,Q5,Q6,Q7,Q8,Q9,Qa,Qb,Qc,Qd,Qe,Qf,Qg,Qh,Qi,Qj,Qk,reduceCtorEq,reduceIte,a1,a2,a3,a4,a5,g1,pz,a6,g2,Yc,hb,a8]
   ·simp only[go_sem,Q0,Q1,Q2,Q3,Q4,Q5,Q6,Q7,Q8,Q9,Qa,Qb,Qc,Qd,Qe,Qf,Qg,Qh,Qi,Qj,Qk,reduceCtorEq,reduceIte,a1,a2,a3,a4,a5,g1,pz,a6,g2,Yc,hb,a8]
  ·simp only[go_sem,Q0,Q1,Q2,Q3,Q4,Q5,Q6,Q7,Q8,Q9,Qa,Qb,Qc,Qd,Qe,Qf,Qg,Qh,Qi,Qj,Qk,reduceCtorEq,reduceIte,a1,a2,a3,a4,a5,g1,pz,a6,a7]
theorem f65(x:Img)(hn:x.name.length<=1000000)(hp:x.pay.length<=1000000):call T 65 [.agg x.sv] [] 0=some ⟨.byt (v8 x) .no,[],[]⟩:=by
 have g0:=f63 x (by omega);have g1:=f40 [] 1 x.role (by omega) (by omega) (by simp);have g2:=f40 (be 1 (aI.wrap x.role)) 4 x.ver (by omega) (by omega) (by rw[dQ];omega);have g3:=f72 (be 1 (aI.wrap x.role)++be 4 (aI.wrap x.ver)) x.name (by rw[ac,dQ,dQ];omega) (by omega);have g4:=f72 (jv (be 1 (aI.wrap x.role)++be 4 (aI.wrap x.ver)) x.name) x.pay (by rw[eo,ac,dQ,dQ];omega) (by omega);simp only[Int.cast_ofNat_Int,aF]at g1 g2;obtain⟨ro,na,ve,p⟩:=x;simp only[Img.sv]at*;rw[aj xmt];unfold v8
 by_cases h:gz ⟨ro,na,ve,p⟩=0
 ·rw[if_pos h]
  rw[h]at g0;simp only[go_sem,Q0,Q1,Q2,Q3,Q4,Q5,Q6,Q7,Q8,Q9,Qa,Qb,Qc,Qd,Qe,Qf,Qg,Qh,Qi,Qj,Qk,reduceCtorEq,reduceIte,g0,uM,g1,nV,g2,g3,r8,g4]
 ·rw[if_neg h]
  simp only[go_sem,Q0,Q1,Q2,Q3,Q4,Q5,Q6,Q7,Q8,Q9,Qa,Qb,Qc,Qd,Qe,Qf,Qg,Qh,Qi,Qj,Qk,reduceCtorEq,reduceIte,g0,uM,h]
end Go.Proofs.YtkggincjigbelaaGreatDoor
