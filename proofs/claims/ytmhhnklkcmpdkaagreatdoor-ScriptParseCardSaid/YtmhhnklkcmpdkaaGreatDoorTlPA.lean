/- Contracts. No condition. -/
import Derived.Test.YtmhhnklkcmpdkaaGreatDoorTjPA
open Bool renaming false_eq_true -> az, true_and -> df
open Int renaming natCast_zero -> aA
open Go.IntKind renaming i64 -> ai
open List renaming all_cons -> fV, append_assoc -> ay, append_nil -> aZ, drop_eq_getElem_cons -> aF, drop_eq_nil_of_le -> ct, drop_length -> bB, drop_zero -> bj, getD_cons_zero -> dE, getD_eq_getElem?_getD -> aa, getElem?_append_left -> bi, getElem?_append_right -> bo, getElem?_eq_getElem -> ab, getElem?_eq_none -> eH, getElem?_map -> aN, getElem_mem -> aU, length -> mq, length_append -> ac, length_cons -> ah, length_drop -> aX, length_nil -> au, length_singleton -> aD, length_take -> av, map_append -> cz, mem_append -> an, mem_cons -> al, mem_cons_of_mem -> af, mem_cons_self -> aq, mem_singleton -> bX, nil_append -> aR, singleton_append -> cf, take -> fg, take_append_drop -> kQ, take_length -> ba
open Nat renaming add_assoc -> eU, add_zero -> bW, le_refl -> bc, le_trans -> gf, zero_add -> cd, zero_le -> bC
open Option renaming getD_some -> aO, map_some -> bn
open Prod renaming fst -> cI
open UInt8 renaming ofNat -> aQ
set_option maxRecDepth 100000
set_option maxHeartbeats 16000000
set_option linter.unusedSimpArgs false
set_option linter.unusedVariables false
namespace Go.Proofs.YtmhhnklkcmpdkaaGreatDoor
open Go.Sy
open UInt8 renaming reduceLT -> Q0, reduceLE -> Q1
open Int renaming reduceToNat -> Q2, reduceLE -> Q3, reduceLT -> Q4, reduceEq -> Q5, reduceNe -> Q6, reduceNeg -> Q7, reduceAdd -> Q8, reduceSub -> Q9, reduceMul -> Qa
open Nat renaming reducePow -> Qb, reduceDiv -> Qc, reduceMod -> Qd, reduceAdd -> Qe, reduceSub -> Qf, reduceMul -> Qg, reduceLT -> Qh, reduceLeDiff -> Qi, reduceEqDiff -> Qj, reduceBEq -> Qk
section
open Pr (wsv)
theorem tS:∀(l:List Stp),(∀x∈l,wrB x=true)->(fi bK l).length<=l.length*90001
 |[],_=>by simp[fi]
 |x::r,h=>by have E:=mZ ((bM x).1 (h x aq));have C:=tS r (fun y z=>h y (af _ z));simp only[fi,ac,ah];omega
theorem l11(l:List Stp)(hl:l.length<=1000000):∀(n i:Nat)(acc:d9),l.length-i=n->i<=l.length->acc.length+90001*n<=1000000000000->
 run T (.loop O1) ⟨[(0,.lst 7 (dO l) .no),(3,.str acc),(4,.int .i64 i)],[],[]⟩=
  if(l.drop i).all wrB=true then some (.x 0,⟨[(3,.str (acc++fi bK (l.drop i)))],[],[]⟩)else some (.r,⟨[(2,.str [])],[],[]⟩):=by
 intro n;induction n with
 |zero=>
  intro i acc J h1 h9;have:i=l.length:=by omega
  subst this;have hv:=co l;rw[aj,bB];simp only[go_sem,Q0,Q1,Q2,Q3,Q4,Q5,Q6,Q7,Q8,Q9,Qa,Qb,Qc,Qd,Qe,Qf,Qg,Qh,Qi,Qj,Qk,reduceCtorEq,reduceIte,hv,fi,aZ]
 |succ n W=>
  intro i acc J h1 h9;have hi:i<l.length:=by omega
  have O:=cX i (by omega);have hv:=co l;have I:=mN l i hi;have g:=f38 (l.getD i st0);have hd:l.drop i=l.getD i st0::l.drop (i+1):=by rw[aF hi,aa,ab hi];rfl
  have F:=fun a h=>W (i+1) a (by omega) (by omega) h
  have E:=mZ (s:=l.getD i st0);rw[hd,fV,fi,aj];generalize fi bK (l.drop (i+1))=Q at*;generalize (l.drop (i+1)).all wrB=A at*;generalize l.getD i st0=x at*;unfold eV at g;cases hx:wrB x with
  |false=>rw[if_neg (by rw[hx];simp)]at g;obtain⟨k,m,n,t,B,M,C⟩:=x;simp only[Stp.sv]at*;simp only[go_sem,Q0,Q1,Q2,Q3,Q4,Q5,Q6,Q7,Q8,Q9,Qa,Qb,Qc,Qd,Qe,Qf,Qg,Qh,Qi,Qj,Qk,reduceCtorEq,reduceIte,hi,hv,I,g,ED]
  |true=>
   rw[if_pos hx]at g;have hw:=E ((bM x).1 hx);obtain⟨k,m,n,t,B,M,C⟩:=x;simp only[Stp.sv]at*;generalize ln bK ⟨k,m,n,t,B,M,C⟩=L at*;have H:¬L++ [10]=[]:=by simp
   have z:=F (acc++(L++ [10])) (by simp only[ac,aD];omega);have Z:acc++(L++10::Q)=acc++(L++ [10])++Q:=by simp[ay]
   rw[Z,df,<-z];have y:acc.length+(L++ [10]).length<=9223372036854775807:=by simp only[ac,aD];omega
   generalize L++ [10]=L2 at*;simp only[go_sem,Q0,Q1,Q2,Q3,Q4,Q5,Q6,Q7,Q8,Q9,Qa,Qb,Qc,Qd,Qe,Qf,Qg,Qh,Qi,Qj,Qk,reduceCtorEq,reduceIte,hi,O,hv,I,g,ED,H,y]
theorem f11(l:List Stp)(h:l.length<=1000000):call T 11 [.lst 7 (dO l) .no] [] 0=some ⟨.str (if l.all wrB=true then fi bK l else []),[],[]⟩:=by
 have g:=l11 l h _ 0 [] rfl (bC _) (by simp only[au];omega);rw[bj,aA,aR]at g;rw[am xn9];cases hA:l.all wrB with
 |false=>rw[hA]at g;simp only[az,if_false]at g ⊢;simp only[go_sem,Q0,Q1,Q2,Q3,Q4,Q5,Q6,Q7,Q8,Q9,Qa,Qb,Qc,Qd,Qe,Qf,Qg,Qh,Qi,Qj,Qk,reduceCtorEq,reduceIte,g]
 |true=>rw[hA]at g;simp only[if_true]at g ⊢;simp only[go_sem,Q0,Q1,Q2,Q3,Q4,Q5,Q6,Q7,Q8,Q9,Qa,Qb,Qc,Qd,Qe,Qf,Qg,Qh,Qi,Qj,Qk,reduceCtorEq,reduceIte,g]
theorem xk9(c:UInt8):call T 160 [.u8 c] [] 0=some ⟨.u8 (hv0 c),[],[]⟩:=by
 have hd:∀b:Fin 256,hv0 (aQ b.val)=if 48<=aQ b.val then(if aQ b.val<=57 then aQ b.val-48 else if 97<=aQ b.val then(if aQ b.val<=102 then aQ b.val-97+10 else 0)else 0)else 0:=by decide+kernel
 have F:hv0 c=if 48<=c then(if c<=57 then c-48 else if 97<=c then(if c<=102 then c-97+10 else 0)else 0)else 0:=by simpa only[UInt8.ofNat_toNat]using hd ⟨c.toNat,c.toNat_lt⟩
 rw[F,am xig]
 by_cases y:48<=c
 ·by_cases C:c<=57
  ·simp only[go_sem,Q0,Q1,Q2,Q3,Q4,Q5,Q6,Q7,Q8,Q9,Qa,Qb,Qc,Qd,Qe,Qf,Qg,Qh,Qi,Qj,Qk,reduceCtorEq,reduceIte,y,C]
  ·by_cases z:97<=c
   ·by_cases E:c<=102
    ·simp only[go_sem,Q0,Q1,Q2,Q3,Q4,Q5,Q6,Q7,Q8,Q9,Qa,Qb,Qc,Qd,Qe,Qf,Qg,Qh,Qi,Qj,Qk,reduceCtorEq,reduceIte,y,C,z,E]
    ·simp only[go_sem,Q0,Q1,Q2,Q3,Q4,Q5,Q6,Q7,Q8,Q9,Qa,Qb,Qc,Qd,Qe,Qf,Qg,Qh,Qi,Qj,Qk,reduceCtorEq,reduceIte,y,C,z,E]
   ·simp only[go_sem,Q0,Q1,Q2,Q3,Q4,Q5,Q6,Q7,Q8,Q9,Qa,Qb,Qc,Qd,Qe,Qf,Qg,Qh,Qi,Qj,Qk,reduceCtorEq,reduceIte,y,C,z]
 ·have z:¬97<=c:=fun h=>y (UInt8.le_trans (by decide) h)
  simp only[go_sem,Q0,Q1,Q2,Q3,Q4,Q5,Q6,Q7,Q8,Q9,Qa,Qb,Qc,Qd,Qe,Qf,Qg,Qh,Qi,Qj,Qk,reduceCtorEq,reduceIte,y,z]
end
section
open Pr (wsv)
theorem Gg(s:d9)(i:Nat)(h:i+1<s.length):s.drop i=s.getD i 0::s.getD (i+1) 0::s.drop (i+2):=by rw[aF (by omega),aF h,aa,ab (by omega),aa,ab h];rfl
theorem ye(s:d9)(i:Nat)(h:s.length<=i+1):ip (s.drop i)=[]:=by
 have y:(s.drop i).length<=1:=by rw[aX];omega
 generalize s.drop i=q at*
 match q,y with
 |[],_=>rfl
 |[_],_=>rfl
 |a::b::r,h=>simp at h
theorem l99(s:d9)(W:s.length<=1000000000):∀(n i:Nat)(acc:d9),s.length-i<=2*n->i<=s.length->acc.length+n<=2000000000->
 run T (.loop On) ⟨[(0,.str s),(3,.byt acc (.id 103)),(4,.int .i64 i)],[],[103]⟩=some (.x 0,⟨[(3,.byt (acc++ip (s.drop i)) (.id 103))],[],[103]⟩):=by
 intro n;induction n with
 |zero=>
  intro i acc E O Q;have:i=s.length:=by omega
  subst this;have y:=cX s.length (by omega);have C:¬((s.length+1:Nat):Int)<(s.length:Int):=by omega
  have L:¬s.length+1<s.length:=by omega
  rw[aj,bB];simp only[go_sem,Q0,Q1,Q2,Q3,Q4,Q5,Q6,Q7,Q8,Q9,Qa,Qb,Qc,Qd,Qe,Qf,Qg,Qh,Qi,Qj,Qk,reduceCtorEq,reduceIte,ip,aZ,y,C,L]
 |succ n F=>
  intro i acc E O Q;have y:=cX i (by omega)
  by_cases hi:i+1<s.length
  ·have z:((i+1:Nat):Int)<(s.length:Int):=by omega
   have i2:i<s.length:=by omega
   have C:ai.wrap ((i:Int)+2)=((i+2:Nat):Int):=wZ (by omega)
   have J:=xk9 (s.getD i 0);have I:=xk9 (s.getD (i+1) 0);have i5:acc.length+1<=140737488355328:=by omega
   have h:=F (i+2) (acc++ [hv0 (s.getD i 0)<<<4|||hv0 (s.getD (i+1) 0)]) (by omega) (by omega) (by simp only[ac,aD];omega)
   have H:∀a:UInt8,aQ (a.toNat*2^min 4 8)=a<<<4:=fun a=>by
    have:∀b:Fin 256,aQ ((aQ b.val).toNat*2^min 4 8)=aQ b.val<<<4:=by decide+kernel
    simpa only[UInt8.ofNat_toNat]using this ⟨a.toNat,a.toNat_lt⟩
   rw[Gg s i hi,ip,aj];rw[ay,cf]at h;rw[<-h];generalize hv0 (s.getD i 0)=a at*;generalize hv0 (s.getD (i+1) 0)=b at*;simp only[go_sem,Q0,Q1,Q2,Q3,Q4,Q5,Q6,Q7,Q8,Q9,Qa,Qb,Qc,Qd,Qe,Qf,Qg,Qh,Qi,Qj,Qk,reduceCtorEq,reduceIte,y,z,i2,hi,J,I,xiJ,H,i5,C]
  ·have z:¬((i+1:Nat):Int)<(s.length:Int):=by omega
   rw[ye s i (by omega),aj,aZ];simp only[go_sem,Q0,Q1,Q2,Q3,Q4,Q5,Q6,Q7,Q8,Q9,Qa,Qb,Qc,Qd,Qe,Qf,Qg,Qh,Qi,Qj,Qk,reduceCtorEq,reduceIte,y,z,hi]
theorem Aq{a:Nat}{c:UInt8}{r:d9}(h:c<48\/57<c):vlN a (c::r)=0:=by rw[vlN,if_pos h]
theorem l98(s:d9)(hs:s.length<=14):∀(n i acc:Nat),s.length-i=n->i<=s.length->acc<10^i->
 (run T (.loop uK) ⟨[(0,.str s),(3,.int .i64 acc),(4,.int .i64 i)],[],[]⟩=some (.x 0,⟨[(3,.int .i64 (vlN acc (s.drop i)))],[],[]⟩))\/
 (vlN acc (s.drop i)=0/\run T (.loop uK) ⟨[(0,.str s),(3,.int .i64 acc),(4,.int .i64 i)],[],[]⟩=some (.r,⟨[(2,.int .i64 0)],[],[]⟩)):=by
 intro n;induction n with
 |zero=>
  intro i acc W O Z;have:i=s.length:=by omega
  subst this;left;rw[aj,bB];simp only[go_sem,Q0,Q1,Q2,Q3,Q4,Q5,Q6,Q7,Q8,Q9,Qa,Qb,Qc,Qd,Qe,Qf,Qg,Qh,Qi,Qj,Qk,reduceCtorEq,reduceIte,vlN]
 |succ n L=>
  intro i acc W O Z;have hi:i<s.length:=by omega
  have z:(i:Int)<(s.length:Int):=by omega
  have I:=cX i (by omega);have C:¬(14:Int)<(s.length:Int):=by omega
  have hd:s.drop i=s.getD i 0::s.drop (i+1):=by rw[aF hi,aa,ab hi];rfl
  have Q:(10:Nat)^i<=10^14:=Nat.pow_le_pow_right (by omega) (by omega);have J:(10:Nat)^14=100000000000000:=by decide
  have hp:(10:Nat)^(i+1)=10*10^i:=by rw[Nat.pow_succ];omega
  rw[hd,aj];have F:=L (i+1);generalize E:s.getD i 0=c at*
  by_cases k1:c<48
  ·right
   refine⟨Aq (.inl k1), ?_⟩;simp only[go_sem,Q0,Q1,Q2,Q3,Q4,Q5,Q6,Q7,Q8,Q9,Qa,Qb,Qc,Qd,Qe,Qf,Qg,Qh,Qi,Qj,Qk,reduceCtorEq,reduceIte,hi,z,E,k1]
  ·by_cases k2:57<c
   ·right
    refine⟨Aq (.inr k2), ?_⟩;simp only[go_sem,Q0,Q1,Q2,Q3,Q4,Q5,Q6,Q7,Q8,Q9,Qa,Qb,Qc,Qd,Qe,Qf,Qg,Qh,Qi,Qj,Qk,reduceCtorEq,reduceIte,hi,z,E,k1,k2]
   ·have hn:¬(c<48\/57<c):=fun h=>h.elim k1 k2
    have c1:(c-48).toNat=c.toNat-48:=UInt8.toNat_sub_of_le _ _ (by rw[UInt8.not_lt]at k1;exact k1);have c2:c.toNat<=57:=by rw[UInt8.not_lt]at k2;exact UInt8.le_iff_toNat_le.1 k2
    have c3:48<=c.toNat:=by rw[UInt8.not_lt]at k1;exact UInt8.le_iff_toNat_le.1 k1
    have w1:ai.wrap (10*(acc:Int))=((10*acc:Nat):Int):=wZ (by omega)
    have H:ai.wrap (((10*acc:Nat):Int)+((c.toNat-48:Nat):Int))=((10*acc+(c.toNat-48):Nat):Int):=wZ (by omega)
    have y:=F (10*acc+(c.toNat-48)) (by omega) (by omega) (by omega);rw[vlN,if_neg hn];rcases y with y|⟨q1,y⟩
    ·left
     rw[<-y];simp only[go_sem,Q0,Q1,Q2,Q3,Q4,Q5,Q6,Q7,Q8,Q9,Qa,Qb,Qc,Qd,Qe,Qf,Qg,Qh,Qi,Qj,Qk,reduceCtorEq,reduceIte,hi,z,E,k1,k2,C,w1,c1,H,I]
    ·right
     refine⟨q1, ?_⟩;rw[<-y];simp only[go_sem,Q0,Q1,Q2,Q3,Q4,Q5,Q6,Q7,Q8,Q9,Qa,Qb,Qc,Qd,Qe,Qf,Qg,Qh,Qi,Qj,Qk,reduceCtorEq,reduceIte,hi,z,E,k1,k2,C,w1,c1,H,I]
theorem f98(s:d9)(E:s.length<=1000000000):call T 98 [.str s] [] 0=some ⟨.int .i64 (vlV s:Nat),[],[]⟩:=by
 unfold vlV;rw[am xnw]
 by_cases z:s=[]
 ·subst z
  have g:run T (.loop uK) ⟨[(0,.str []),(3,.int .i64 0),(4,.int .i64 0)],[],[]⟩=some (.x 0,⟨[(3,.int .i64 0)],[],[]⟩):=by rw[aj];simp only[go_sem,Q0,Q1,Q2,Q3,Q4,Q5,Q6,Q7,Q8,Q9,Qa,Qb,Qc,Qd,Qe,Qf,Qg,Qh,Qi,Qj,Qk,reduceCtorEq,reduceIte,au]
  simp only[go_sem,Q0,Q1,Q2,Q3,Q4,Q5,Q6,Q7,Q8,Q9,Qa,Qb,Qc,Qd,Qe,Qf,Qg,Qh,Qi,Qj,Qk,reduceCtorEq,reduceIte,g,if_true,aA]
 ·rw[if_neg z]
  by_cases C:14<s.length
  ·rw[if_pos C]
   have y:(0:Int)<(s.length:Int):=by omega
   have i2:0<s.length:=by omega
   have h:(14:Int)<(s.length:Int):=by omega
   have g:run T (.loop uK) ⟨[(0,.str s),(3,.int .i64 0),(4,.int .i64 0)],[],[]⟩=some (.r,⟨[(2,.int .i64 0)],[],[]⟩):=by
    rw[aj]
    by_cases k1:s.getD 0 0<48
    ·simp only[go_sem,Q0,Q1,Q2,Q3,Q4,Q5,Q6,Q7,Q8,Q9,Qa,Qb,Qc,Qd,Qe,Qf,Qg,Qh,Qi,Qj,Qk,reduceCtorEq,reduceIte,y,i2,h,k1]
    ·by_cases k2:57<s.getD 0 0
     ·simp only[go_sem,Q0,Q1,Q2,Q3,Q4,Q5,Q6,Q7,Q8,Q9,Qa,Qb,Qc,Qd,Qe,Qf,Qg,Qh,Qi,Qj,Qk,reduceCtorEq,reduceIte,y,i2,h,k1,k2]
     ·simp only[go_sem,Q0,Q1,Q2,Q3,Q4,Q5,Q6,Q7,Q8,Q9,Qa,Qb,Qc,Qd,Qe,Qf,Qg,Qh,Qi,Qj,Qk,reduceCtorEq,reduceIte,y,i2,h,k1,k2]
   simp only[go_sem,Q0,Q1,Q2,Q3,Q4,Q5,Q6,Q7,Q8,Q9,Qa,Qb,Qc,Qd,Qe,Qf,Qg,Qh,Qi,Qj,Qk,reduceCtorEq,reduceIte,g,aA]
  ·rw[if_neg C]
   have g:=l98 s (by omega) _ 0 0 rfl (bC _) (by decide);rw[bj,aA]at g;rcases g with g|⟨q,g⟩
   ·simp only[go_sem,Q0,Q1,Q2,Q3,Q4,Q5,Q6,Q7,Q8,Q9,Qa,Qb,Qc,Qd,Qe,Qf,Qg,Qh,Qi,Qj,Qk,reduceCtorEq,reduceIte,g]
   ·rw[q]
    simp only[go_sem,Q0,Q1,Q2,Q3,Q4,Q5,Q6,Q7,Q8,Q9,Qa,Qb,Qc,Qd,Qe,Qf,Qg,Qh,Qi,Qj,Qk,reduceCtorEq,reduceIte,g,aA]
end
section
open Pr (wsv)
theorem xl8(s:d9)(acc:List d9)(st:Nat)(y:s.length<=1000000000):
 run T (.loop DY) ⟨[(0,.str s),(3,.lst 1 (wsv acc) (.id 103)),(4,.int .i64 st),(5,.int .i64 (s.length+1:Nat))],[],[103]⟩=some (.x 0,⟨[(3,.lst 1 (wsv acc) (.id 103))],[],[103]⟩):=by
 have h:¬((s.length+1:Nat):Int)<=(s.length:Int):=by omega
 have i2:¬s.length+1<=s.length:=by omega
 rw[aj];simp only[go_sem,Q0,Q1,Q2,Q3,Q4,Q5,Q6,Q7,Q8,Q9,Qa,Qb,Qc,Qd,Qe,Qf,Qg,Qh,Qi,Qj,Qk,reduceCtorEq,reduceIte,h,i2]
theorem xhs(s:d9)(st i:Nat)(y:st<=i)(h:i<s.length):s.drop st=(s.take i).drop st++s.getD i 0::s.drop (i+1):=by
 have e:s=s.take i++s.getD i 0::s.drop (i+1):=by
  conv=>lhs;rw[<-kQ i s]
  congr 1
  rw[aF h,aa,ab h];rfl
 conv=>lhs;rw[e]
 rw[List.drop_append_of_le_length (by rw[av];omega)]
theorem xfe(s:d9)(st i:Nat)(y:st<=i)(h:i<s.length):(s.take (i+1)).drop st=(s.take i).drop st++ [s.getD i 0]:=by rw[List.take_succ_eq_append_getElem h,List.drop_append_of_le_length (by rw[av];omega),aa,ab h];rfl
theorem l97(s:d9)(hs:s.length<=1000000000):∀(n i st:Nat)(acc:List d9),s.length-i=n->st<=i->i<=s.length->acc.length+n<=2000000000->32∉(s.take i).drop st->
 run T (.loop DY) ⟨[(0,.str s),(3,.lst 1 (wsv acc) (.id 103)),(4,.int .i64 st),(5,.int .i64 i)],[],[103]⟩=some (.x 0,⟨[(3,.lst 1 (wsv (acc++dY (s.drop st))) (.id 103))],[],[103]⟩):=by
 intro n;induction n with
 |zero=>
  intro i st acc h0 O h2 h9 I;have:i=s.length:=by omega
  subst this;have Q:=cX s.length (by omega);have hv:=cH acc;have z:(acc.length+1)*16<=140737488355328:=by omega
  have g:=fun a=>xl8 s a (s.length+1) hs
  rw[ba]at I;rw[qA _ I,<-kS,aj];have Z:=g (acc++ [s.drop st]);rw[<-kS]at Z;rw[<-Z];have y:(st:Int)<=(s.length:Int):=by omega
  simp only[go_sem,Q0,Q1,Q2,Q3,Q4,Q5,Q6,Q7,Q8,Q9,Qa,Qb,Qc,Qd,Qe,Qf,Qg,Qh,Qi,Qj,Qk,reduceCtorEq,reduceIte,Q,hv,z,O,y,ba]
 |succ n ih=>
  intro i st acc h0 O h2 h9 I;have hi:i<s.length:=by omega
  have E:(i:Int)<=(s.length:Int):=by omega
  have H:i<=s.length:=by omega
  have L:¬(i:Int)=(s.length:Int):=by omega
  have h:¬i=s.length:=by omega
  have F:(i:Int)<(s.length:Int):=by omega
  have y:(st:Int)<=(i:Int):=by omega
  have Q:=cX i (by omega);have hv:=cH acc;have z:(acc.length+1)*16<=140737488355328:=by omega
  by_cases W:s.getD i 0=32
  ·have hq:=xhs s st i O hi
   rw[W]at hq
   have C:=ih (i+1) (i+1) (acc++ [(s.take i).drop st]) (by omega) (by omega) (by omega) (by simp only[ac,aD];omega) (by have:((s.take (i+1)).drop (i+1))=[]:=ct (by rw[av];omega);rw[this];simp)
   have hz:acc++dY (s.drop st)=acc++ [(s.take i).drop st]++dY (s.drop (i+1)):=by rw[hq,qB _ _ I,ay];rfl
   rw[hz,<-C,<-kS,aj];simp only[go_sem,Q0,Q1,Q2,Q3,Q4,Q5,Q6,Q7,Q8,Q9,Qa,Qb,Qc,Qd,Qe,Qf,Qg,Qh,Qi,Qj,Qk,reduceCtorEq,reduceIte,hi,E,H,L,h,F,W,Q,hv,z,O,y]
  ·have C:=ih (i+1) st acc (by omega) (by omega) (by omega) (by omega) (by
    rw[xfe s st i O hi];intro J;rcases an.1 J with J|J
    ·exact I J
    ·exact W (bX.1 J).symm)
   rw[<-C,aj];simp only[go_sem,Q0,Q1,Q2,Q3,Q4,Q5,Q6,Q7,Q8,Q9,Qa,Qb,Qc,Qd,Qe,Qf,Qg,Qh,Qi,Qj,Qk,reduceCtorEq,reduceIte,hi,E,H,L,h,F,W,Q]
theorem f97(s:d9)(h:s.length<=1000000000):call T 97 [.str s] [] 0=some ⟨.lst 1 (wsv (dY s)) (.id 60),[],[60]⟩:=by have g:=l97 s h _ 0 0 [] rfl (bc _) (bC _) (by simp only[au];omega) (by simp);rw[bj,aA,aR]at g;change run T _ ⟨[_,(3,.lst 1 [] _),_,_],_,_⟩=_ at g;rw[am xnx];simp only[go_sem,Q0,Q1,Q2,Q3,Q4,Q5,Q6,Q7,Q8,Q9,Qa,Qb,Qc,Qd,Qe,Qf,Qg,Qh,Qi,Qj,Qk,reduceCtorEq,reduceIte,g]
theorem tV(s:d9)(h:s.length<=1000000000):call T 99 [.str s] [] 0=some ⟨.byt (ip s) .no,[],[]⟩:=by have g:=l99 s h s.length 0 [] (by omega) (bC _) (by simp only[au];omega);rw[bj,aA,aR]at g;rw[am xnv];simp only[go_sem,Q0,Q1,Q2,Q3,Q4,Q5,Q6,Q7,Q8,Q9,Qa,Qb,Qc,Qd,Qe,Qf,Qg,Qh,Qi,Qj,Qk,reduceCtorEq,reduceIte,g]
end
section
open Pr (wsv)
def pY(B:d9):List Img:=(dcD B).1
theorem Cv:∀s:d9,(ip s).length<=s.length
 |[]=>by simp[ip]
 |[_]=>by simp[ip]
 |a::b::r=>by have:=Cv r;simp only[ip,ah];omega
def z7(t:Tok):t6:=[.int .i64 0,.int .i64 0,.int .i64 0,.int .i64 0,.byt [] t,.lst 2 [] t,.lst 4 [] t]
theorem eP(r:List d9)(j:Nat)(h:j<r.length+3):(wsv (r++ [[],[],[]])).getD j []=[.str (r.getD j [])]:=by
 have e:(r++ [[],[],[]]:List d9).getD j []=r.getD j []:=by
  by_cases z:j<r.length
  ·rw[aa,bi z,aa]
  ·have C:r.getD j []=[]:=by rw[aa,eH (by omega)];rfl
   rw[C,aa,bo (by omega)];have:j-r.length=0\/j-r.length=1\/j-r.length=2:=by omega
   rcases this with h|h|h<;>rw[h]<;>rfl
 have y:j<(r++ [[],[],[]]:List d9).length:=by simp;omega
 unfold wsv;rw[aa,aN,ab y];rw[aa,ab y]at e;simp only[bn,aO]at e ⊢;rw[e]
theorem cU{r:List d9}(h:∀w∈r,w.length<=1000000000)(j:Nat):(r.getD j []).length<=1000000000:=by
 by_cases y:j<r.length
 ·rw[aa,ab y];exact h _ (aU y)
 ·rw[aa,eH (by omega)];simp
theorem xmg(h w0:d9)(r:List d9)(k:Int)(hk:k=1\/k=3\/k=10\/k=11\/k=12)(hw:bZ k=w0)(Z:h.length<=1000000000)(hr:r.length<=1000000)(C:∀w∈r,w.length<=1000000000):
 ∃(X:aB)(tk:t7),tk=[138]/\run T (.loop iL) ⟨[(0,.str h),(2,.ptr 102 0),(4,.lst 1 (.cons [.str w0] (wsv r)) (.id 104)),(5,.int .i64 k)],[(102,.rc (z7 .clip))],[104]⟩=
  some (.r,⟨[(2,.ptr 102 0),(3,.bool (decide (eV ⟨k,(vlV (r.getD 0 []):Nat),0,0,[],[],[]⟩=h++ [10])))],[(102,.rc [.int .i64 k,.int .i64 (vlV (r.getD 0 []):Nat),.int .i64 0,.int .i64 0,.byt [] .clip,.lst 2 [] .clip,.lst 4 [] .clip]),(106,.rc [.int .i64 k,.int .i64 (vlV (r.getD 0 []):Nat),.int .i64 0,.int .i64 0,.byt [] .clip,.lst 2 [] .clip,.lst 4 [] .clip])],[138]⟩):=by
 refine⟨.rc [],[138],rfl, ?_⟩;have E:=f85 k;have z:=f86 k;rw[hw]at E;rw[if_neg (by omega),if_neg (by omega),if_neg (by omega),if_neg (by omega)]at z;unfold fl5 at z;unfold z7;have hv:=cH r;have hb:(r.length+3)*16<=140737488355328:=by omega
 have W:wsv r++ [[.str []],[.str []],[.str []]]=wsv (r++ [[],[],[]]):=by unfold wsv;rw[cz];rfl
 have hn:(r++ [[],[],[]]:List d9).length=r.length+3:=by simp
 have J:=eP r 0 (by omega);have O:=eP r 1 (by omega);have H:=eP r 2 (by omega);have hl:=cH (r++ [[],[],[]]);have iq:(0:Int)<((r.length+1:Nat):Int):=by omega
 have ir:(1:Int)<=((r.length+1:Nat):Int):=by omega
 have F:fg r.length (wsv r)=wsv r:=by rw[<-hv,ba]
 have i0:(0:Int)<((r.length+3:Nat):Int):=by omega
 have i1:(1:Int)<((r.length+3:Nat):Int):=by omega
 have i2:(2:Int)<((r.length+3:Nat):Int):=by omega
 have j1:1<r.length+3:=by omega
 have j2:2<r.length+3:=by omega
 have v0:=f98 (r.getD 0 []) (cU C 0);have v1:=f98 (r.getD 1 []) (cU C 1);have v2:=f98 (r.getD 2 []) (cU C 2);have b0:=tV (r.getD 0 []) (cU C 0);have b1:=tV (r.getD 1 []) (cU C 1);have kw1:ai.wrap 1=1:=rfl;have kw2:ai.wrap 2=2:=rfl;have Q:ai.wrap 3=3:=rfl;have k12:k<=12:=by omega
 have y:=f38 ⟨k,(vlV (r.getD 0 []):Nat),0,0,[],[],[]⟩;simp only[Stp.sv]at y;rw[show(dZ []:d8)=[]from rfl]at y;rw[show(cZ []:d8)=[]from rfl]at y;generalize eV ⟨k,(vlV (r.getD 0 []):Nat),0,0,[],[],[]⟩=LR at*;generalize hL:h++ [10]=L at*;have I:h.length+1<=9223372036854775807:=by omega
 rw[aj];simp only[go_sem,Q0,Q1,Q2,Q3,Q4,Q5,Q6,Q7,Q8,Q9,Qa,Qb,Qc,Qd,Qe,Qf,Qg,Qh,Qi,Qj,Qk,reduceCtorEq,reduceIte,E,ff,z,fj,hv,hb,W,hn,hl,J,O,H,iq,ir,F,i0,i1,i2,j1,j2,v0,v1,v2,N4,b0,b1,N3,kw1,kw2,Q,y,ED,hL,I,k12]
theorem xmf(h w0:d9)(r:List d9)(k:Int)(hk:k=2)(hw:bZ k=w0)(Z:h.length<=1000000000)(hr:r.length<=1000000)(C:∀w∈r,w.length<=1000000000):
 ∃(X:aB)(tk:t7),tk=[138]/\run T (.loop iL) ⟨[(0,.str h),(2,.ptr 102 0),(4,.lst 1 (.cons [.str w0] (wsv r)) (.id 104)),(5,.int .i64 k)],[(102,.rc (z7 .clip))],[104]⟩=
  some (.r,⟨[(2,.ptr 102 0),(3,.bool (decide (eV ⟨k,(vlV (r.getD 0 []):Nat),(vlV (r.getD 1 []):Nat),(vlV (r.getD 2 []):Nat),[],[],[]⟩=h++ [10])))],[(102,.rc [.int .i64 k,.int .i64 (vlV (r.getD 0 []):Nat),.int .i64 (vlV (r.getD 1 []):Nat),.int .i64 (vlV (r.getD 2 []):Nat),.byt [] .clip,.lst 2 [] .clip,.lst 4 [] .clip]),(106,.rc [.int .i64 k,.int .i64 (vlV (r.getD 0 []):Nat),.int .i64 (vlV (r.getD 1 []):Nat),.int .i64 (vlV (r.getD 2 []):Nat),.byt [] .clip,.lst 2 [] .clip,.lst 4 [] .clip])],[138]⟩):=by
 refine⟨.rc [],[138],rfl, ?_⟩;have E:=f85 k;have z:=f86 k;rw[hw]at E;rw[if_pos hk]at z;unfold fl5 at z;unfold z7;have hv:=cH r;have hb:(r.length+3)*16<=140737488355328:=by omega
 have W:wsv r++ [[.str []],[.str []],[.str []]]=wsv (r++ [[],[],[]]):=by unfold wsv;rw[cz];rfl
 have hn:(r++ [[],[],[]]:List d9).length=r.length+3:=by simp
 have J:=eP r 0 (by omega);have O:=eP r 1 (by omega);have H:=eP r 2 (by omega);have hl:=cH (r++ [[],[],[]]);have iq:(0:Int)<((r.length+1:Nat):Int):=by omega
 have ir:(1:Int)<=((r.length+1:Nat):Int):=by omega
 have F:fg r.length (wsv r)=wsv r:=by rw[<-hv,ba]
 have i0:(0:Int)<((r.length+3:Nat):Int):=by omega
 have i1:(1:Int)<((r.length+3:Nat):Int):=by omega
 have i2:(2:Int)<((r.length+3:Nat):Int):=by omega
 have j1:1<r.length+3:=by omega
 have j2:2<r.length+3:=by omega
 have v0:=f98 (r.getD 0 []) (cU C 0);have v1:=f98 (r.getD 1 []) (cU C 1);have v2:=f98 (r.getD 2 []) (cU C 2);have b0:=tV (r.getD 0 []) (cU C 0);have b1:=tV (r.getD 1 []) (cU C 1);have kw1:ai.wrap 1=1:=rfl;have kw2:ai.wrap 2=2:=rfl;have Q:ai.wrap 3=3:=rfl;have k12:k<=12:=by omega
 have y:=f38 ⟨k,(vlV (r.getD 0 []):Nat),(vlV (r.getD 1 []):Nat),(vlV (r.getD 2 []):Nat),[],[],[]⟩;simp only[Stp.sv]at y;rw[show(dZ []:d8)=[]from rfl]at y;rw[show(cZ []:d8)=[]from rfl]at y;generalize eV ⟨k,(vlV (r.getD 0 []):Nat),(vlV (r.getD 1 []):Nat),(vlV (r.getD 2 []):Nat),[],[],[]⟩=LR at*;generalize hL:h++ [10]=L at*;have I:h.length+1<=9223372036854775807:=by omega
 rw[aj];simp only[go_sem,Q0,Q1,Q2,Q3,Q4,Q5,Q6,Q7,Q8,Q9,Qa,Qb,Qc,Qd,Qe,Qf,Qg,Qh,Qi,Qj,Qk,reduceCtorEq,reduceIte,E,ff,z,fj,hv,hb,W,hn,hl,J,O,H,iq,ir,F,i0,i1,i2,j1,j2,v0,v1,v2,N4,b0,b1,N3,kw1,kw2,Q,y,ED,hL,I,k12]
theorem xme(h w0:d9)(r:List d9)(k:Int)(hk:4<=k/\k<=7)(hw:bZ k=w0)(Z:h.length<=1000000000)(hr:r.length<=1000000)(C:∀w∈r,w.length<=1000000000):
 ∃(X:aB)(tk:t7),tk=[138]/\run T (.loop iL) ⟨[(0,.str h),(2,.ptr 102 0),(4,.lst 1 (.cons [.str w0] (wsv r)) (.id 104)),(5,.int .i64 k)],[(102,.rc (z7 .clip))],[104]⟩=
  some (.r,⟨[(2,.ptr 102 0),(3,.bool (decide (eV ⟨k,0,(vlV (r.getD 0 []):Nat),0,[],[],[]⟩=h++ [10])))],[(102,.rc [.int .i64 k,.int .i64 0,.int .i64 (vlV (r.getD 0 []):Nat),.int .i64 0,.byt [] .clip,.lst 2 [] .clip,.lst 4 [] .clip]),(106,.rc [.int .i64 k,.int .i64 0,.int .i64 (vlV (r.getD 0 []):Nat),.int .i64 0,.byt [] .clip,.lst 2 [] .clip,.lst 4 [] .clip])],[138]⟩):=by
 refine⟨.rc [],[138],rfl, ?_⟩;have E:=f85 k;have z:=f86 k;rw[hw]at E;rw[if_neg (by omega),if_pos hk]at z;unfold fl5 at z;unfold z7;have hv:=cH r;have hb:(r.length+3)*16<=140737488355328:=by omega
 have W:wsv r++ [[.str []],[.str []],[.str []]]=wsv (r++ [[],[],[]]):=by unfold wsv;rw[cz];rfl
 have hn:(r++ [[],[],[]]:List d9).length=r.length+3:=by simp
 have J:=eP r 0 (by omega);have O:=eP r 1 (by omega);have H:=eP r 2 (by omega);have hl:=cH (r++ [[],[],[]]);have iq:(0:Int)<((r.length+1:Nat):Int):=by omega
 have ir:(1:Int)<=((r.length+1:Nat):Int):=by omega
 have F:fg r.length (wsv r)=wsv r:=by rw[<-hv,ba]
 have i0:(0:Int)<((r.length+3:Nat):Int):=by omega
 have i1:(1:Int)<((r.length+3:Nat):Int):=by omega
 have i2:(2:Int)<((r.length+3:Nat):Int):=by omega
 have j1:1<r.length+3:=by omega
 have j2:2<r.length+3:=by omega
 have v0:=f98 (r.getD 0 []) (cU C 0);have v1:=f98 (r.getD 1 []) (cU C 1);have v2:=f98 (r.getD 2 []) (cU C 2);have b0:=tV (r.getD 0 []) (cU C 0);have b1:=tV (r.getD 1 []) (cU C 1);have kw1:ai.wrap 1=1:=rfl;have kw2:ai.wrap 2=2:=rfl;have Q:ai.wrap 3=3:=rfl;have k12:k<=12:=by omega
 have y:=f38 ⟨k,0,(vlV (r.getD 0 []):Nat),0,[],[],[]⟩;simp only[Stp.sv]at y;rw[show(dZ []:d8)=[]from rfl]at y;rw[show(cZ []:d8)=[]from rfl]at y;generalize eV ⟨k,0,(vlV (r.getD 0 []):Nat),0,[],[],[]⟩=LR at*;generalize hL:h++ [10]=L at*;have I:h.length+1<=9223372036854775807:=by omega
 rw[aj];simp only[go_sem,Q0,Q1,Q2,Q3,Q4,Q5,Q6,Q7,Q8,Q9,Qa,Qb,Qc,Qd,Qe,Qf,Qg,Qh,Qi,Qj,Qk,reduceCtorEq,reduceIte,E,ff,z,fj,hv,hb,W,hn,hl,J,O,H,iq,ir,F,i0,i1,i2,j1,j2,v0,v1,v2,N4,b0,b1,N3,kw1,kw2,Q,y,ED,hL,I,k12]
theorem xmc(h w0:d9)(r:List d9)(k:Int)(hk:k=9)(hw:bZ k=w0)(a1:h.length<=1000000000)(hr:r.length<=1000000)(C:∀w∈r,w.length<=1000000000):
 ∃(X:aB)(tk:t7),tk=[138]/\run T (.loop iL) ⟨[(0,.str h),(2,.ptr 102 0),(4,.lst 1 (.cons [.str w0] (wsv r)) (.id 104)),(5,.int .i64 k)],[(102,.rc (z7 .clip))],[104]⟩=
  some (.r,⟨[(2,.ptr 102 0),(3,.bool (decide (eV ⟨k,(vlV (r.getD 0 []):Nat),0,0,[],[],pY (ip (r.getD 1 []))⟩=h++ [10])))],[(102,.rc [.int .i64 k,.int .i64 (vlV (r.getD 0 []):Nat),.int .i64 0,.int .i64 0,.byt [] .clip,.lst 2 [] .clip,.lst 4 (cZ (pY (ip (r.getD 1 [])))) .no]),(106,.rc [.int .i64 k,.int .i64 (vlV (r.getD 0 []):Nat),.int .i64 0,.int .i64 0,.byt [] .clip,.lst 2 [] .clip,.lst 4 (cZ (pY (ip (r.getD 1 [])))) .no])],[138]⟩):=by
 refine⟨.rc [],[138],rfl, ?_⟩;have F:=f85 k;have y:=f86 k;rw[hw]at F;rw[if_neg (by omega),if_neg (by omega),if_neg (by omega),if_pos hk]at y;unfold fl5 at y;unfold z7;have hv:=cH r;have hb:(r.length+3)*16<=140737488355328:=by omega
 have hW:wsv r++ [[.str []],[.str []],[.str []]]=wsv (r++ [[],[],[]]):=by unfold wsv;rw[cz];rfl
 have hn:(r++ [[],[],[]]:List d9).length=r.length+3:=by simp
 have O:=eP r 0 (by omega);have W:=eP r 1 (by omega);have I:=eP r 2 (by omega);have hl:=cH (r++ [[],[],[]]);have iq:(0:Int)<((r.length+1:Nat):Int):=by omega
 have ir:(1:Int)<=((r.length+1:Nat):Int):=by omega
 have H:fg r.length (wsv r)=wsv r:=by rw[<-hv,ba]
 have i0:(0:Int)<((r.length+3:Nat):Int):=by omega
 have i1:(1:Int)<((r.length+3:Nat):Int):=by omega
 have i2:(2:Int)<((r.length+3:Nat):Int):=by omega
 have j1:1<r.length+3:=by omega
 have j2:2<r.length+3:=by omega
 have v0:=f98 (r.getD 0 []) (cU C 0);have v1:=f98 (r.getD 1 []) (cU C 1);have v2:=f98 (r.getD 2 []) (cU C 2);have b0:=tV (r.getD 0 []) (cU C 0);have b1:=tV (r.getD 1 []) (cU C 1);have kw1:ai.wrap 1=1:=rfl;have kw2:ai.wrap 2=2:=rfl;have Z:ai.wrap 3=3:=rfl;have k12:k<=12:=by omega
 have Q:(ip (r.getD 1 [])).length<=1000000000:=gf (Cv _) (cU C 1);have E:=xnm (ip (r.getD 1 [])) Q;unfold pY;generalize dcD (ip (r.getD 1 []))=D at*;obtain⟨dc,de⟩:=D;simp only at E ⊢;have z:=f38 ⟨k,(vlV (r.getD 0 []):Nat),0,0,[],[],dc⟩;simp only[Stp.sv]at z;rw[show(dZ []:d8)=[]from rfl]at z;generalize eV ⟨k,(vlV (r.getD 0 []):Nat),0,0,[],[],dc⟩=LR at*;generalize hL:h++ [10]=L at*;have J:h.length+1<=9223372036854775807:=by omega
 rw[aj];simp only[go_sem,Q0,Q1,Q2,Q3,Q4,Q5,Q6,Q7,Q8,Q9,Qa,Qb,Qc,Qd,Qe,Qf,Qg,Qh,Qi,Qj,Qk,reduceCtorEq,reduceIte,F,ff,y,fj,hv,hb,hW,hn,hl,O,W,I,iq,ir,H,i0,i1,i2,j1,j2,v0,v1,v2,N4,b0,b1,N3,kw1,kw2,Z,z,ED,hL,J,k12,E,xiS]
end
section
open Pr (wsv)
theorem Rg(r:List d9)(i:Nat)(h:i+1<r.length):prM (r.drop i)=⟨vlV (r.getD i []),ip (r.getD (i+1) [])⟩::prM (r.drop (i+2)):=by rw[aF (by omega),aF h,prM,aa,ab (by omega),aa,ab h];rfl
theorem sd(r:List d9)(i:Nat)(h:r.length<=i+1):prM (r.drop i)=[]:=by
 have y:(r.drop i).length<=1:=by rw[aX];omega
 generalize r.drop i=q at*
 match q,y with
 |[],_=>rfl
 |[_],_=>rfl
 |a::b::r,h=>simp at h
theorem xmb(h b:d9)(r:List d9)(k:Int)(hr:r.length<=1000000)(Q:∀w∈r,w.length<=1000000000):∀(n i:Nat)(acc:List Mk)(t:Tok)(tk:t7),r.length-i<=2*n->i<=r.length+1->acc.length+n<=2000000->
 ((t= .clip/\tk=[138])\/(t= .id 200/\tk=[138,200]))->
 ∃(H:Int)(C:Tok)(tk':t7),((C= .clip/\tk'=[138])\/(C= .id 200/\tk'=[138,200]))/\
 run T (.loop yU) ⟨[(0,.str h),(2,.ptr 102 0),(4,.lst 1 (wsv (r++ [[],[],[]])) (.id 138)),(6,.ptr 106 0),(11,.bool false),(12,.int .i64 i)],[(102,.rc (z7 .clip)),(106,.rc [.int .i64 k,.int .i64 0,.int .i64 0,.int .i64 0,.byt b .no,.lst 2 (dZ acc) t,.lst 4 [] .clip])],tk⟩=
  some (.x 2,⟨[(0,.str h),(2,.ptr 102 0),(4,.lst 1 (wsv (r++ [[],[],[]])) (.id 138)),(6,.ptr 106 0),(11,.bool false),(12,.int .i64 H)],[(102,.rc (z7 .clip)),(106,.rc [.int .i64 k,.int .i64 0,.int .i64 0,.int .i64 0,.byt b .no,.lst 2 (dZ (acc++prM (r.drop i))) C,.lst 4 [] .clip])],tk'⟩):=by
 have O:=cH (r++ [[],[],[]]);have hn:(r++ [[],[],[]]:List d9).length=r.length+3:=by simp
 have F:ai.wrap (((r.length+3:Nat):Int)-3)=(r.length:Int):=wZ (by omega)
 unfold z7;intro n;induction n with
 |zero=>
  intro i acc t tk h0 h1 h9 y;have E:=cX i (by omega);have c1:¬((i+1:Nat):Int)<(r.length:Int):=by omega
  have c2:¬i+1<r.length:=by omega
  refine⟨i,t,tk,y, ?_⟩;rw[sd r i (by omega),aZ,aj]
  rcases y with⟨rfl,rfl⟩|⟨rfl,rfl⟩<;>
   simp only[go_sem,Q0,Q1,Q2,Q3,Q4,Q5,Q6,Q7,Q8,Q9,Qa,Qb,Qc,Qd,Qe,Qf,Qg,Qh,Qi,Qj,Qk,reduceCtorEq,reduceIte,E,O,hn,F,c1,c2]
 |succ n W=>
  intro i acc t tk h0 h1 h9 y;have E:=cX i (by omega)
  by_cases c2:i+1<r.length
  ·have c1:((i+1:Nat):Int)<(r.length:Int):=by omega
   have e2:ai.wrap ((i:Int)+2)=((i+2:Nat):Int):=wZ (by omega)
   have Z:(i:Int)<((r.length+3:Nat):Int):=by omega
   have i2:((i+1:Nat):Int)<((r.length+3:Nat):Int):=by omega
   have i3:i<r.length+3:=by omega
   have i4:i+1<r.length+3:=by omega
   have I:=eP r i (by omega);have L:=eP r (i+1) (by omega);have v0:=f98 (r.getD i []) (cU Q i);have b0:=tV (r.getD (i+1) []) (cU Q (i+1));have hv:=cS acc;have hb:(acc.length+1)*32<=140737488355328:=by omega
   obtain⟨H,C,tk',J,z⟩:=W (i+2) (acc++ [⟨vlV (r.getD i []),ip (r.getD (i+1) [])⟩]) (.id 200) [138,200] (by omega) (by omega) (by simp only[ac,aD];omega) (.inr ⟨rfl,rfl⟩);refine⟨H,C,tk',J, ?_⟩;rw[Rg r i c2];rw[ay,cf,nY]at z;rw[<-z,aj];simp only[Mk.sv]
   rcases y with⟨rfl,rfl⟩|⟨rfl,rfl⟩<;>
    simp only[go_sem,Q0,Q1,Q2,Q3,Q4,Q5,Q6,Q7,Q8,Q9,Qa,Qb,Qc,Qd,Qe,Qf,Qg,Qh,Qi,Qj,Qk,reduceCtorEq,reduceIte,E,e2,O,hn,F,c1,c2,Z,i2,i3,i4,I,L,v0,N4,b0,N3,hv,hb]
  ·have c1:¬((i+1:Nat):Int)<(r.length:Int):=by omega
   refine⟨i,t,tk,y, ?_⟩;rw[sd r i (by omega),aZ,aj]
   rcases y with⟨rfl,rfl⟩|⟨rfl,rfl⟩<;>
    simp only[go_sem,Q0,Q1,Q2,Q3,Q4,Q5,Q6,Q7,Q8,Q9,Qa,Qb,Qc,Qd,Qe,Qf,Qg,Qh,Qi,Qj,Qk,reduceCtorEq,reduceIte,E,O,hn,F,c1,c2]
theorem xmd(h w0:d9)(r:List d9)(k:Int)(hk:k=8)(hw:bZ k=w0)(a1:h.length<=1000000000)(hr:r.length<=1000000)(C:∀w∈r,w.length<=1000000000):
 ∃(t:Tok)(tk:t7),((t= .clip/\tk=[138])\/(t= .id 200/\tk=[138,200]))/\run T (.loop iL) ⟨[(0,.str h),(2,.ptr 102 0),(4,.lst 1 (.cons [.str w0] (wsv r)) (.id 104)),(5,.int .i64 k)],[(102,.rc (z7 .clip))],[104]⟩=
  some (.r,⟨[(2,.ptr 102 0),(3,.bool (decide (eV ⟨k,0,0,0,ip (r.getD 0 []),prM (r.drop 1),[]⟩=h++ [10])))],[(102,.rc [.int .i64 k,.int .i64 0,.int .i64 0,.int .i64 0,.byt (ip (r.getD 0 [])) .no,.lst 2 (dZ (prM (r.drop 1))) t,.lst 4 [] .clip]),(106,.rc [.int .i64 k,.int .i64 0,.int .i64 0,.int .i64 0,.byt (ip (r.getD 0 [])) .no,.lst 2 (dZ (prM (r.drop 1))) t,.lst 4 [] .clip])],tk⟩):=by
 have E:=f85 k;have y:=f86 k;rw[hw]at E;rw[if_neg (by omega),if_neg (by omega),if_pos hk]at y;unfold fl5 at y;unfold z7;have hv:=cH r;have hb:(r.length+3)*16<=140737488355328:=by omega
 have hW:wsv r++ [[.str []],[.str []],[.str []]]=wsv (r++ [[],[],[]]):=by unfold wsv;rw[cz];rfl
 have hn:(r++ [[],[],[]]:List d9).length=r.length+3:=by simp
 have Q:=eP r 0 (by omega);have W:=eP r 1 (by omega);have J:=eP r 2 (by omega);have hl:=cH (r++ [[],[],[]]);have iq:(0:Int)<((r.length+1:Nat):Int):=by omega
 have ir:(1:Int)<=((r.length+1:Nat):Int):=by omega
 have I:fg r.length (wsv r)=wsv r:=by rw[<-hv,ba]
 have i0:(0:Int)<((r.length+3:Nat):Int):=by omega
 have i1:(1:Int)<((r.length+3:Nat):Int):=by omega
 have i2:(2:Int)<((r.length+3:Nat):Int):=by omega
 have j1:1<r.length+3:=by omega
 have j2:2<r.length+3:=by omega
 have v0:=f98 (r.getD 0 []) (cU C 0);have v1:=f98 (r.getD 1 []) (cU C 1);have v2:=f98 (r.getD 2 []) (cU C 2);have b0:=tV (r.getD 0 []) (cU C 0);have b1:=tV (r.getD 1 []) (cU C 1);have kw1:ai.wrap 1=1:=rfl;have kw2:ai.wrap 2=2:=rfl;have Z:ai.wrap 3=3:=rfl;have k12:k<=12:=by omega
 obtain⟨i',t',tk',F,H⟩:=xmb h (ip (r.getD 0 [])) r k hr C r.length 1 [] .clip [138] (by omega) (by omega) (by simp only[au];omega) (.inl ⟨rfl,rfl⟩);rw[aR,show((1:Nat):Int)=1 from rfl]at H;rw[show(dZ []:d8)=[]from rfl]at H;unfold z7 at H;refine⟨t',tk',F, ?_⟩;have z:=f38 ⟨k,0,0,0,ip (r.getD 0 []),prM (r.drop 1),[]⟩;simp only[Stp.sv]at z;rw[show(cZ []:d8)=[]from rfl]at z;generalize eV ⟨k,0,0,0,ip (r.getD 0 []),prM (r.drop 1),[]⟩=LR at*;generalize hL:h++ [10]=L at*;have O:h.length+1<=9223372036854775807:=by omega
 rw[aj];rcases F with⟨rfl,rfl⟩|⟨rfl,rfl⟩<;>
 simp only[go_sem,Q0,Q1,Q2,Q3,Q4,Q5,Q6,Q7,Q8,Q9,Qa,Qb,Qc,Qd,Qe,Qf,Qg,Qh,Qi,Qj,Qk,reduceCtorEq,reduceIte,E,ff,y,fj,hv,hb,hW,hn,hl,Q,W,J,iq,ir,I,i0,i1,i2,j1,j2,v0,v1,v2,N4,b0,b1,N3,kw1,kw2,Z,z,ED,hL,O,k12,H]
end
section
open Pr (wsv)
theorem cP(w:d9):1<=aM w/\aM w<=13/\(aM w<=12->bZ (aM w)=w):=by
 unfold aM
 by_cases L:w=bZ 1
 ·rw[if_pos L];exact⟨by decide,by decide,fun _=>L.symm⟩
 rw[if_neg L]
 by_cases I:w=bZ 2
 ·rw[if_pos I];exact⟨by decide,by decide,fun _=>I.symm⟩
 rw[if_neg I]
 by_cases T:w=bZ 3
 ·rw[if_pos T];exact⟨by decide,by decide,fun _=>T.symm⟩
 rw[if_neg T]
 by_cases J:w=bZ 4
 ·rw[if_pos J];exact⟨by decide,by decide,fun _=>J.symm⟩
 rw[if_neg J]
 by_cases F:w=bZ 5
 ·rw[if_pos F];exact⟨by decide,by decide,fun _=>F.symm⟩
 rw[if_neg F]
 by_cases H:w=bZ 6
 ·rw[if_pos H];exact⟨by decide,by decide,fun _=>H.symm⟩
 rw[if_neg H]
 by_cases Q:w=bZ 7
 ·rw[if_pos Q];exact⟨by decide,by decide,fun _=>Q.symm⟩
 rw[if_neg Q]
 by_cases E:w=bZ 8
 ·rw[if_pos E];exact⟨by decide,by decide,fun _=>E.symm⟩
 rw[if_neg E]
 by_cases O:w=bZ 9
 ·rw[if_pos O];exact⟨by decide,by decide,fun _=>O.symm⟩
 rw[if_neg O]
 by_cases C:w=bZ 10
 ·rw[if_pos C];exact⟨by decide,by decide,fun _=>C.symm⟩
 rw[if_neg C]
 by_cases z:w=bZ 11
 ·rw[if_pos z];exact⟨by decide,by decide,fun _=>z.symm⟩
 rw[if_neg z]
 by_cases y:w=bZ 12
 ·rw[if_pos y];exact⟨by decide,by decide,fun _=>y.symm⟩
 rw[if_neg y];exact⟨by decide,by decide,fun h=>absurd h (by decide)⟩
theorem pO(w:d9)(k:Nat)(z:1<=k)(y:(k:Int)<aM w):bZ k≠w:=by intro e;have:=cP w;have h:=dC (k:Int) (by omega) (by omega);rw[e]at h;omega
theorem xma(h w0:d9)(r:List d9)(J:r.length<=1000000)(k:Nat)(H:1<=k)(F:(k:Int)<aM w0):
 run T (.loop iL) ⟨[(0,.str h),(2,.ptr 102 0),(4,.lst 1 (.cons [.str w0] (wsv r)) (.id 104)),(5,.int .i64 k)],[(102,.rc (z7 .clip))],[104]⟩=
 run T (.loop iL) ⟨[(0,.str h),(2,.ptr 102 0),(4,.lst 1 (.cons [.str w0] (wsv r)) (.id 104)),(5,.int .i64 (k+1:Nat))],[(102,.rc (z7 .clip))],[104]⟩:=by
 have L:=cP w0;have y:=f85 k;have C:=pO w0 k H F;have hv:=cH r;have E:(0:Int)<((r.length+1:Nat):Int):=by omega
 have k12:(k:Int)<=12:=by omega
 have z:=cX k (by omega);unfold z7;generalize bZ (k:Int)=I at*;rw[aj];simp only[go_sem,Q0,Q1,Q2,Q3,Q4,Q5,Q6,Q7,Q8,Q9,Qa,Qb,Qc,Qd,Qe,Qf,Qg,Qh,Qi,Qj,Qk,reduceCtorEq,reduceIte,y,ff,hv,E,k12,C,z]
theorem xkT(y w0:d9)(r:List d9)(z:r.length<=1000000):∀(k:Nat),1<=k->(k:Int)<=aM w0->
 run T (.loop iL) ⟨[(0,.str y),(2,.ptr 102 0),(4,.lst 1 (.cons [.str w0] (wsv r)) (.id 104)),(5,.int .i64 1)],[(102,.rc (z7 .clip))],[104]⟩=
 run T (.loop iL) ⟨[(0,.str y),(2,.ptr 102 0),(4,.lst 1 (.cons [.str w0] (wsv r)) (.id 104)),(5,.int .i64 k)],[(102,.rc (z7 .clip))],[104]⟩
 |0,h,_=>by omega
 |1,_,_=>rfl
 |k+2,_,h2=>by rw[xkT y w0 r z (k+1) (by omega) (by omega),xma y w0 r z (k+1) (by omega) (by omega)]
def rfS(h:d9):Stp×Bool:=if aM ((dY h).getD 0 [])<=12 then(rfX pY (dY h),decide (eV (rfX pY (dY h))=h++ [10]))else(st0,false)
theorem fY:∀s:d9,(dY s).length<=s.length+1
 |[]=>by simp[dY]
 |c::r=>by
  have:=fY r;rw[dY];split
  ·simp only[ah];omega
  ·split
   ·simp
   ·rename_i h;rw[h]at this;simp only[ah]at*;omega
theorem dH:∀(s:d9)(w:d9),w∈dY s->w.length<=s.length
 |[],w,h=>by simp[dY]at h;subst h;simp
 |c::r,w,h=>by
  have y:=dH r;rw[dY]at h;split at h
  ·rcases al.1 h with rfl|h
   ·simp
   ·have:=y w h;simp only[ah];omega
  ·split at h
   ·simp at h;subst h;simp
   ·rename_i q C z
    rcases al.1 h with rfl|h
    ·have:=y q (by rw[z];exact aq);simp only[ah];omega
    ·have:=y w (by rw[z];exact af _ h);simp only[ah];omega
theorem f43(a7:∀s:d9,s.length<=1000000000->call T 97 [.str s] [] 0=some ⟨.lst 1 (wsv (dY s)) (.id 60),[],[60]⟩)(y:d9)(hl:y.length<=900000):call T 43 [.str y] [] 0=some ⟨.tup [.agg (rfS y).1.sv,.bool (rfS y).2],[],[]⟩:=by
 have z:=a7 y (by omega);have E:=fY y;have F:=dH y;have a6:=AD y;unfold rfS;cases hs:dY y with
 |nil=>exact absurd hs a6
 |cons w0 r=>
  rw[hs]at z E F;simp only[ah]at E;have O:∀w∈r,w.length<=1000000000:=fun w H=>by have:=F w (af _ H);omega
  have hk:=cP w0;change call T 97 _ _ _=some ⟨.lst 1 ([.str w0]::wsv r) (.id 60),_,_⟩at z;have hu:=fun k=>xkT y w0 r (by omega) k
  rw[dE]
  have hz:(aM w0<=12/\bZ (aM w0)=w0)\/aM w0=13:=by
   by_cases h:aM w0<=12
   ·exact .inl ⟨h,hk.2.2 h⟩
   ·exact .inr (by omega)
  obtain⟨kn,a1⟩:∃kn:Nat,(kn:Int)=aM w0:=⟨(aM w0).toNat,by omega⟩;have C:=hu kn (by omega) (by omega);rw[a1]at C;rcases hz with⟨Z,H⟩|h13
  ·rw[if_pos Z]
   have L:(w0::r).getD 0 []=w0:=rfl;have J:(w0::r).drop 1=r:=rfl
   by_cases I:aM w0=2
   ·obtain⟨X,tk,_,g⟩:=xmf y w0 r (aM w0) I H (by omega) (by omega) O
    rw[<-C]at g;have er:rfX pY (w0::r)=⟨aM w0,(vlV (r.getD 0 []):Nat),(vlV (r.getD 1 []):Nat),(vlV (r.getD 2 []):Nat),[],[],[]⟩:=by unfold rfX;rw[L,J];simp only;rw[if_pos I]
    rw[er,am N1];unfold z7 at g;simp only[Stp.sv];rw[show(dZ []:d8)=[]from rfl];rw[show(cZ []:d8)=[]from rfl];simp only[go_sem,Q0,Q1,Q2,Q3,Q4,Q5,Q6,Q7,Q8,Q9,Qa,Qb,Qc,Qd,Qe,Qf,Qg,Qh,Qi,Qj,Qk,reduceCtorEq,reduceIte,z,N5,g]
   by_cases Q:4<=aM w0/\aM w0<=7
   ·obtain⟨X,tk,_,g⟩:=xme y w0 r (aM w0) Q H (by omega) (by omega) O
    rw[<-C]at g;have er:rfX pY (w0::r)=⟨aM w0,0,(vlV (r.getD 0 []):Nat),0,[],[],[]⟩:=by unfold rfX;rw[L,J];simp only;rw[if_neg I,if_pos Q]
    rw[er,am N1];unfold z7 at g;simp only[Stp.sv];rw[show(dZ []:d8)=[]from rfl];rw[show(cZ []:d8)=[]from rfl];simp only[go_sem,Q0,Q1,Q2,Q3,Q4,Q5,Q6,Q7,Q8,Q9,Qa,Qb,Qc,Qd,Qe,Qf,Qg,Qh,Qi,Qj,Qk,reduceCtorEq,reduceIte,z,N5,g]
   by_cases W:aM w0=8
   ·obtain⟨t,tk,ht,g⟩:=xmd y w0 r (aM w0) W H (by omega) (by omega) O
    rw[<-C]at g;have er:rfX pY (w0::r)=⟨aM w0,0,0,0,ip (r.getD 0 []),prM (r.drop 1),[]⟩:=by unfold rfX;rw[L,J];simp only;rw[if_neg I,if_neg Q,if_pos W]
    rw[er,am N1];unfold z7 at g;simp only[Stp.sv];rw[show(cZ []:d8)=[]from rfl]
    rcases ht with⟨rfl,rfl⟩|⟨rfl,rfl⟩<;>
     simp only[go_sem,Q0,Q1,Q2,Q3,Q4,Q5,Q6,Q7,Q8,Q9,Qa,Qb,Qc,Qd,Qe,Qf,Qg,Qh,Qi,Qj,Qk,reduceCtorEq,reduceIte,z,N5,g]
   by_cases cE:aM w0=9
   ·obtain⟨X,tk,_,g⟩:=xmc y w0 r (aM w0) cE H (by omega) (by omega) O
    rw[<-C]at g;have er:rfX pY (w0::r)=⟨aM w0,(vlV (r.getD 0 []):Nat),0,0,[],[],pY (ip (r.getD 1 []))⟩:=by unfold rfX;rw[L,J];simp only;rw[if_neg I,if_neg Q,if_neg W,if_pos cE]
    rw[er,am N1];unfold z7 at g;simp only[Stp.sv];rw[show(dZ []:d8)=[]from rfl];simp only[go_sem,Q0,Q1,Q2,Q3,Q4,Q5,Q6,Q7,Q8,Q9,Qa,Qb,Qc,Qd,Qe,Qf,Qg,Qh,Qi,Qj,Qk,reduceCtorEq,reduceIte,z,N5,g]
   have cA:aM w0=1\/aM w0=3\/aM w0=10\/aM w0=11\/aM w0=12:=by omega
   obtain⟨X,tk,_,g⟩:=xmg y w0 r (aM w0) cA H (by omega) (by omega) O;rw[<-C]at g;have er:rfX pY (w0::r)=⟨aM w0,(vlV (r.getD 0 []):Nat),0,0,[],[],[]⟩:=by unfold rfX;rw[L,J];simp only;rw[if_neg I,if_neg Q,if_neg W,if_neg cE]
   rw[er,am N1];unfold z7 at g;simp only[Stp.sv];rw[show(dZ []:d8)=[]from rfl];rw[show(cZ []:d8)=[]from rfl];simp only[go_sem,Q0,Q1,Q2,Q3,Q4,Q5,Q6,Q7,Q8,Q9,Qa,Qb,Qc,Qd,Qe,Qf,Qg,Qh,Qi,Qj,Qk,reduceCtorEq,reduceIte,z,N5,g]
  ·rw[if_neg (by omega)]
   have g:run T (.loop iL) ⟨[(0,.str y),(2,.ptr 102 0),(4,.lst 1 (.cons [.str w0] (wsv r)) (.id 104)),(5,.int .i64 (aM w0))],[(102,.rc (z7 .clip))],[104]⟩=some (.x 0,⟨[(2,.ptr 102 0)],[(102,.rc (z7 .clip))],[104]⟩):=by rw[h13,aj];unfold z7;simp only[go_sem,Q0,Q1,Q2,Q3,Q4,Q5,Q6,Q7,Q8,Q9,Qa,Qb,Qc,Qd,Qe,Qf,Qg,Qh,Qi,Qj,Qk,reduceCtorEq,reduceIte]
   rw[<-C]at g;rw[am N1];unfold z7 at g;simp only[Stp.sv,st0];rw[show(dZ []:d8)=[]from rfl];rw[show(cZ []:d8)=[]from rfl];simp only[go_sem,Q0,Q1,Q2,Q3,Q4,Q5,Q6,Q7,Q8,Q9,Qa,Qb,Qc,Qd,Qe,Qf,Qg,Qh,Qi,Qj,Qk,reduceCtorEq,reduceIte,z,N5,g]
end
section
open Pr (wsv)
def okC(c:List Img):Prop:=chE c=0
theorem hdD:∀c,okC c->pY (bK c)=c:=fun c h=>by have:=(NS (c:=c) h).2;unfold pY;rw[this]
theorem Ch{x:Stp}{a:d9}(h:eV x=a++ [10]):Wrt okC x/\ln bK x=a:=by
 unfold eV at h;split at h
 ·rename_i y
  exact⟨(bM x).1 y,List.append_cancel_right h⟩
 ·simp at h
theorem xbF(a:d9):rd okC bK a=if(rfS a).2=true then some (rfS a).1 else none:=by
 cases hb:(rfS a).2 with
 |true=>
  rw[if_pos rfl];unfold rfS at hb ⊢;split at hb
  ·rename_i h
   rw[if_pos h];obtain⟨J,I⟩:=Ch (of_decide_eq_true hb);have:=Om hdD J;rw[I]at this;exact this
  ·cases hb
 |false=>
  rw[if_neg (by simp)];apply AJ;intro y z C;have E:=yy hdD z;rw[C]at E
  have F:aM ((dY a).getD 0 [])=y.kind:=by rw[<-C,yw];exact dC _ z.k1 z.k12
  unfold rfS at hb;rw[if_pos (by rw[F];exact z.k12),E]at hb
  have H:eV y=a++ [10]:=by unfold eV;rw[if_pos ((bM y).2 z),C]
  rw[H]at hb;simp at hb
theorem tZ:∀t:d9,(cut t).1.length<=t.length
 |[]=>by simp[cut]
 |c::r=>by
  have:=tZ r;rw[cut];split
  ·simp
  ·simp only[ah];omega
theorem xmt(h:d9)(J:h.length<=900000)(acc:List Stp)(t:Tok)(n a:Int):∀(q e:Nat),h.length-e=q->e<=h.length->
 run T (.loop OU) ⟨[(0,.str h),(5,.lst 7 (dO acc) (.id 105)),(6,.int .i64 n),(7,.int .i64 a),(8,.int .i64 e)],[],[105]⟩=
  some (.x 2,⟨[(0,.str h),(5,.lst 7 (dO acc) (.id 105)),(6,.int .i64 n),(7,.int .i64 a),(8,.int .i64 (e+(cut (h.drop e)).1.length:Nat))],[],[105]⟩):=by
 intro q;induction q with
 |zero=>
  intro e E I;have:e=h.length:=by omega
  subst this;rw[aj,bB];simp only[go_sem,Q0,Q1,Q2,Q3,Q4,Q5,Q6,Q7,Q8,Q9,Qa,Qb,Qc,Qd,Qe,Qf,Qg,Qh,Qi,Qj,Qk,reduceCtorEq,reduceIte,cut,au,bW]
 |succ q H=>
  intro e E I;have hi:e<h.length:=by omega
  have y:(e:Int)<(h.length:Int):=by omega
  have F:=cX e (by omega);have C:=H (e+1) (by omega) (by omega);have hd:h.drop e=h.getD e 0::h.drop (e+1):=by rw[aF hi,aa,ab hi];rfl
  rw[hd,cut,aj]
  by_cases z:h.getD e 0=10
  ·rw[if_pos z]
   simp only[go_sem,Q0,Q1,Q2,Q3,Q4,Q5,Q6,Q7,Q8,Q9,Qa,Qb,Qc,Qd,Qe,Qf,Qg,Qh,Qi,Qj,Qk,reduceCtorEq,reduceIte,hi,y,z,au,bW]
  ·rw[if_neg z]
   rw[show e+(h.getD e 0::(cut (h.drop (e+1))).1,(cut (h.drop (e+1))).2).1.length=e+1+(cut (h.drop (e+1))).1.length from by simp only[ah];omega,<-C];simp only[go_sem,Q0,Q1,Q2,Q3,Q4,Q5,Q6,Q7,Q8,Q9,Qa,Qb,Qc,Qd,Qe,Qf,Qg,Qh,Qi,Qj,Qk,reduceCtorEq,reduceIte,hi,y,z,F]
theorem wF:∀t:d9,t.take (cut t).1.length=(cut t).1
 |[]=>by simp[cut]
 |c::r=>by
  have:=wF r;rw[cut];split
  ·simp
  ·simp only[ah,List.take_succ_cons,this]
theorem mB:∀{t a:d9},cut t=(a,none)->a.length=t.length
 |[],a,h=>by cases h;rfl
 |c::t,a,h=>by
  rw[cut]at h;split at h
  ·cases h
  ·have z:=congrArg cI h
   have y:=congrArg Prod.snd h;simp only at z y;have:=mB (t:=t) (a:=(cut t).1) (by rw[<-y]);rw[<-z];simp only[ah];omega
end
section
open Pr (wsv)
def H97:Prop:=∀s:d9,s.length<=1000000000->call T 97 [.str s] [] 0=some ⟨.lst 1 (wsv (dY s)) (.id 60),[],[60]⟩
theorem l17(b4:H97)(h:d9)(hl:h.length<=900000):∀(f a:Nat)(acc:List Stp)(n:Nat),h.length-a<=f->a<=h.length->acc.length+f<=2000000->n+f<=2000000->
 ∃y:Stp,run T (.loop zj) ⟨[(0,.str h),(5,.lst 7 (dO acc) (.id 105)),(6,.int .i64 n),(7,.int .i64 a)],[],[105]⟩=
  if(prT okC bK f (h.drop a)).2=true then some (.x 0,⟨[(5,.lst 7 (dO (acc++(prT okC bK f (h.drop a)).1)) (.id 105)),(6,.int .i64 (n+(prT okC bK f (h.drop a)).1.length:Nat))],[],[105]⟩)
  else some (.r,⟨[(2,.lst 7 [] .clip),(3,.int .i64 (n+(prT okC bK f (h.drop a)).1.length:Nat)),(4,.int .i64 1)],[(109,.rc y.sv)],[105]⟩):=by
 intro f;induction f with
 |zero=>
  intro a acc n h0 h1 h2 h3;have:a=h.length:=by omega
  subst this;refine⟨st0, ?_⟩;rw[aj,bB];simp only[go_sem,Q0,Q1,Q2,Q3,Q4,Q5,Q6,Q7,Q8,Q9,Qa,Qb,Qc,Qd,Qe,Qf,Qg,Qh,Qi,Qj,Qk,reduceCtorEq,reduceIte,prT,aZ,au,bW]
 |succ f ih=>
  intro a acc n h0 h1 h2 h3
  by_cases ha:a=h.length
  ·subst ha
   refine⟨st0, ?_⟩;rw[aj,bB,prT,if_pos rfl];simp only[go_sem,Q0,Q1,Q2,Q3,Q4,Q5,Q6,Q7,Q8,Q9,Qa,Qb,Qc,Qd,Qe,Qf,Qg,Qh,Qi,Qj,Qk,reduceCtorEq,reduceIte,aZ,au,bW]
  ·have hi:a<h.length:=by omega
   have W:(a:Int)<(h.length:Int):=by omega
   have b1:¬h.drop a=[]:=fun e=>by have:=congrArg mq e;rw[aX,au]at this;omega
   have L:=xmt h hl acc (.id 105) (n:Int) (a:Int) _ a rfl (by omega);have a6:=wF (h.drop a);have a1:=tZ (h.drop a);have z:=xbF (cut (h.drop a)).1;have F:=f43 b4 (cut (h.drop a)).1 (by rw[aX]at a1;omega);rw[aX]at a1;have hv:=co acc;have hb:(acc.length+1)*104<=140737488355328:=by omega
   have en:=cX n (by omega);rw[prT,if_neg b1]
   have E:(h.take (a+(cut (h.drop a)).1.length)).drop a=(cut (h.drop a)).1:=by rw[List.drop_take,Nat.add_sub_cancel_left,a6]
   have s1:a<=a+(cut (h.drop a)).1.length:=by omega
   have s2:a+(cut (h.drop a)).1.length<=h.length:=by omega
   have O:(a:Int)<=((a+(cut (h.drop a)).1.length:Nat):Int):=by omega
   have H:((a+(cut (h.drop a)).1.length:Nat):Int)<=(h.length:Int):=by omega
   cases hc:cut (h.drop a)with
   |mk w o=>
   have hw:(cut (h.drop a)).1=w:=by rw[hc]
   rw[hw]at z F E s1 s2 O H L a1 a6;generalize rfS w=R at*;obtain⟨x,b⟩:=R;simp only at z F;generalize hE:a+w.length=e at*;have ee:=cX e (by omega);cases o with
   |none=>
    have I:=mB hc;rw[aX]at I;have he:e=h.length:=by omega
    subst he;have J:=E;rw[ba]at J;refine⟨x, ?_⟩;simp only[az,if_false,au,bW];obtain⟨k,m,nn,t,B,M,C⟩:=x;simp only[Stp.sv]at*;rw[aj];cases b with
    |false=>simp only[go_sem,Q0,Q1,Q2,Q3,Q4,Q5,Q6,Q7,Q8,Q9,Qa,Qb,Qc,Qd,Qe,Qf,Qg,Qh,Qi,Qj,Qk,reduceCtorEq,reduceIte,hi,W,L,s1,s2,O,H,E,J,F,Zs]
    |true=>simp only[go_sem,Q0,Q1,Q2,Q3,Q4,Q5,Q6,Q7,Q8,Q9,Qa,Qb,Qc,Qd,Qe,Qf,Qg,Qh,Qi,Qj,Qk,reduceCtorEq,reduceIte,hi,W,L,s1,s2,O,H,E,J,F,Zs]
   |some r=>
    have a7:=ng hc;have a8:=zK hc;rw[aX]at a8;have I:(h.drop a).length=w.length+1+r.length:=by rw[a7];simp only[ac,ah];omega
    rw[aX]at I;have he:¬e=h.length:=by omega
    have b3:¬(e:Int)=(h.length:Int):=by omega
    have b2:h.drop (e+1)=r:=by rw[<-hE,eU,<-List.drop_drop,a7,show w.length+1=(w++ [10]).length from by simp,show w++10::r=(w++ [10])++r from by simp,List.drop_left]
    cases b with
    |false=>rw[if_neg (by simp)]at z;refine⟨x, ?_⟩;simp only[z,az,if_false,au,bW];obtain⟨k,m,nn,t,B,M,C⟩:=x;simp only[Stp.sv]at*;rw[aj];simp only[go_sem,Q0,Q1,Q2,Q3,Q4,Q5,Q6,Q7,Q8,Q9,Qa,Qb,Qc,Qd,Qe,Qf,Qg,Qh,Qi,Qj,Qk,reduceCtorEq,reduceIte,hi,W,L,s1,s2,O,H,E,F,Zs]
    |true=>rw[if_pos rfl]at z;obtain⟨y,Z⟩:=ih (e+1) (acc++ [x]) (n+1) (by omega) (by omega) (by simp only[ac,aD];omega) (by omega);refine⟨y, ?_⟩;rw[b2]at Z;simp only[z,ah];generalize prT okC bK f r=Q at*;obtain⟨q1,q2⟩:=Q;simp only at Z ⊢;rw[ay,cf,<-bS]at Z;rw[show n+(q1.length+1)=n+1+q1.length from by omega,<-Z];obtain⟨k,m,nn,t,B,M,C⟩:=x;simp only[Stp.sv]at*;rw[aj];simp only[go_sem,Q0,Q1,Q2,Q3,Q4,Q5,Q6,Q7,Q8,Q9,Qa,Qb,Qc,Qd,Qe,Qf,Qg,Qh,Qi,Qj,Qk,reduceCtorEq,reduceIte,hi,W,L,s1,s2,O,H,E,F,Zs,he,b3,hv,hb,en,ee]
theorem f17(z:H97)(h:d9)(E:h.length<=900000):call T 17 [.str h] [] 0=
 some ⟨if(prT okC bK h.length h).2=true then .tup [.lst 7 (dO (prT okC bK h.length h).1) .no,.int .i64 ((prT okC bK h.length h).1.length:Nat),.int .i64 0]
  else .tup [.lst 7 [] .no,.int .i64 ((prT okC bK h.length h).1.length:Nat),.int .i64 1],[],[]⟩:=by
 obtain⟨y,g⟩:=l17 z h E h.length 0 [] 0 (by omega) (by omega) (by simp only[au];omega) (by omega);rw[bj,aA,aR,cd]at g;rw[show dO []=[]from rfl]at g;generalize prT okC bK h.length h=Q at*;obtain⟨I,F⟩:=Q;obtain⟨k,m,H,t,B,M,C⟩:=y;simp only[Stp.sv]at*;rw[am xn3];cases F with
 |false=>simp only[az,if_false]at g ⊢;simp only[go_sem,Q0,Q1,Q2,Q3,Q4,Q5,Q6,Q7,Q8,Q9,Qa,Qb,Qc,Qd,Qe,Qf,Qg,Qh,Qi,Qj,Qk,reduceCtorEq,reduceIte,g]
 |true=>simp only[if_true]at g ⊢;simp only[go_sem,Q0,Q1,Q2,Q3,Q4,Q5,Q6,Q7,Q8,Q9,Qa,Qb,Qc,Qd,Qe,Qf,Qg,Qh,Qi,Qj,Qk,reduceCtorEq,reduceIte,g]
end
end Go.Proofs.YtmhhnklkcmpdkaaGreatDoor
