/- Contracts. No condition. -/
import Derived.Test.YtmhhnklkcmpdkaaGreatDoorTjPA
open Int renaming natCast_zero -> aA, tmod_eq_emod_of_nonneg -> fv
open Go.IntKind renaming i64 -> ai
open List renaming append_assoc -> ay, append_nil -> aZ, cons_append -> br, drop_eq_getElem_cons -> aF, drop_length -> bB, drop_zero -> bj, getD_eq_getElem?_getD -> aa, getElem?_eq_getElem -> ab, getElem_mem -> aU, length -> mq, length_append -> ac, length_cons -> ah, length_eq_zero_iff -> bx, length_map -> aC, length_nil -> au, length_set -> cW, length_singleton -> aD, length_take -> av, map_nil -> cV, mem_cons -> al, mem_cons_of_mem -> af, mem_cons_self -> aq, nil_append -> aR, singleton_append -> cf, take_length -> ba, take_of_length_le -> bh
open Nat renaming add_zero -> bW, zero_add -> cd, zero_le -> bC
open Option renaming getD_none -> fB, getD_some -> aO, isSome_none -> eh, isSome_some -> eT
open UInt8 renaming ofInt -> dQ, ofNat -> aQ
set_option maxRecDepth 100000
set_option maxHeartbeats 16000000
set_option linter.unusedSimpArgs false
set_option linter.unusedVariables false
namespace Go.Proofs.YtmhhnklkcmpdkaaGreatDoor
open Go.Sy
open UInt8 renaming reduceLT -> Q0, reduceLE -> Q1
open Int renaming reduceToNat -> Q2, reduceLE -> Q3, reduceLT -> Q4, reduceEq -> Q5, reduceNe -> Q6, reduceNeg -> Q7, reduceAdd -> Q8, reduceSub -> Q9, reduceMul -> Qa
open Nat renaming reducePow -> Qb, reduceDiv -> Qc, reduceMod -> Qd, reduceAdd -> Qe, reduceSub -> Qf, reduceMul -> Qg, reduceLT -> Qh, reduceLeDiff -> Qi, reduceEqDiff -> Qj, reduceBEq -> Qk
section
open Pr (wsv)
theorem xk3(a:d9)(c:UInt8):call T 227 [.str a,.u8 c] [] 0=some ⟨.int .i64 (Lib.indexByte a c),[],[]⟩:=by rw[am xhX];simp only[go_sem,Q0,Q1,Q2,Q3,Q4,Q5,Q6,Q7,Q8,Q9,Qa,Qb,Qc,Qd,Qe,Qf,Qg,Qh,Qi,Qj,Qk,reduceCtorEq,reduceIte,f218,xiD]
theorem tP(d c:UInt8)(r:d9):Lib.indexByte (d::r) c=if d=c then 0 else if Lib.indexByte r c= -1 then-1 else Lib.indexByte r c+1:=by
 rw[Lib.indexByte]
 by_cases h:d=c
 ·rw[if_pos h,if_pos (beq_iff_eq.2 h)]
 ·rw[if_neg h,if_neg (fun e=>h (beq_iff_eq.1 e))]
  by_cases y:Lib.indexByte r c= -1
  ·rw[if_pos y,if_pos (beq_iff_eq.2 y)]
  ·rw[if_neg y,if_neg (fun e=>y (beq_iff_eq.1 e))]
theorem ND:∀(s:d9)(c:UInt8),c∉s->Lib.indexByte s c= -1
 |[],c,_=>rfl
 |d::r,c,h=>by
  have y:¬d=c:=fun e=>h (by rw[e];exact aq)
  rw[tP,if_neg y,ND r c (fun z=>h (af _ z)),if_pos rfl]
theorem NE:∀(w r:d9)(c:UInt8),c∉w->Lib.indexByte (w++c::r) c=(w.length:Nat)
 |[],r,c,_=>by rw[aR,tP,if_pos rfl];rfl
 |d::w,r,c,h=>by
  have z:¬d=c:=fun e=>h (by rw[e];exact aq)
  have C:=NE w r c (fun y=>h (af _ y));rw[br,tP,if_neg z,C,if_neg (by omega),ah];omega
theorem NR:∀(s:d9)(c:UInt8),c∈s->∃w r,s=w++c::r/\c∉w
 |d::t,c,h=>by
  by_cases e:d=c
  ·exact⟨[],t,by rw[e];rfl,by simp⟩
  ·rcases al.1 h with h|h
   ·exact absurd h.symm e
   ·obtain⟨w,r,C,z⟩:=NR t c h
    exact⟨d::w,r,by rw[C];rfl,fun y=>by
     rcases al.1 y with y|y
     ·exact e y.symm
     ·exact z y⟩
theorem wG:∀{t:d9},10∉t->cut t=(t,none)
 |[],_=>rfl
 |c::t,h=>by
  have y:¬c=10:=fun e=>h (by rw[e];exact aq)
  rw[cut,if_neg y,wG (t:=t) (fun z=>h (af _ z))]
theorem f39(t:d9)(H:t.length<=1000000000):call T 39 [.str t,.str [10]] [] 0=some ⟨.tup [.str (cut t).1,.str ((cut t).2.getD []),.bool (cut t).2.isSome],[],[]⟩:=by
 have g:=xnb t 10
 have I:call T 90 [.str t,.str [10]] [] 0=some ⟨.tup [.str (cut t).1,.str ((cut t).2.getD []),.bool (cut t).2.isSome],[],[]⟩:=by
  rw[am xnC]
  by_cases h:(10:UInt8)∈t
  ·obtain⟨w,r,rfl,y⟩:=NR t 10 h
   rw[NE w r 10 y]at g;rw[ua w r y];simp only[ac,ah]at H;have z:(0:Int)<=((w.length:Nat):Int):=by omega
   have i2:ai.wrap ((w.length:Int)+1)=((w.length+1:Nat):Int):=wZ (by omega)
   have i3:w.length<=(w++10::r).length:=by simp
   have i4:w.length+1<=(w++10::r).length:=by simp
   have E:(w++10::r).take w.length=w:=by simp
   have C:(w++10::r).drop (w.length+1)=r:=by rw[show w.length+1=(w++ [10]).length from by simp,show w++10::r=(w++ [10])++r from by simp,List.drop_left]
   generalize w++10::r=t at*;have i5:((w.length+1:Nat):Int)<=(t.length:Int):=by omega
   have F:((w.length:Nat):Int)<=(t.length:Int):=by omega
   simp only[go_sem,Q0,Q1,Q2,Q3,Q4,Q5,Q6,Q7,Q8,Q9,Qa,Qb,Qc,Qd,Qe,Qf,Qg,Qh,Qi,Qj,Qk,reduceCtorEq,reduceIte,g,ZK,z,i2,i3,i4,i5,F,E,C,ba,aO,eT]
  ·rw[ND t 10 h]at g
   rw[wG h];simp only[go_sem,Q0,Q1,Q2,Q3,Q4,Q5,Q6,Q7,Q8,Q9,Qa,Qb,Qc,Qd,Qe,Qf,Qg,Qh,Qi,Qj,Qk,reduceCtorEq,reduceIte,g,ZK,fB,eh]
 rw[am xnU];simp only[go_sem,Q0,Q1,Q2,Q3,Q4,Q5,Q6,Q7,Q8,Q9,Qa,Qb,Qc,Qd,Qe,Qf,Qg,Qh,Qi,Qj,Qk,reduceCtorEq,reduceIte,I,xoc]
def SA:d9:=[48,49,50,51,52,53,54,55,56,57,97,98,99,100,101,102]
theorem SB:∀b:Fin 256,Lib.indexByte SA (aQ b.val)=if hv (aQ b.val)=16 then-1 else((hv (aQ b.val)).toNat:Int):=by decide+kernel
theorem xeb(c:UInt8):Lib.indexByte SA c=if hv c=16 then-1 else((hv c).toNat:Int):=by simpa using SB ⟨c.toNat,c.toNat_lt⟩
theorem O5(c:UInt8):hv c=16\/(hv c).toNat<16:=by
 have:∀b:Fin 256,hv (aQ b.val)=16\/(hv (aQ b.val)).toNat<16:=by decide+kernel
 simpa using this ⟨c.toNat,c.toNat_lt⟩
theorem SL:∀x y:Fin 16,dQ (b9 BinOp.or ai (ai.wrap ((x.val:Int)*2^min 4 64)) (y.val:Int))=aQ x.val<<<4|||aQ y.val:=by decide+kernel
theorem xeg(a b:UInt8)(y:a.toNat<16)(h:b.toNat<16):dQ (b9 BinOp.or ai (ai.wrap ((a.toNat:Int)*2^min 4 64)) (b.toNat:Int))=a<<<4|||b:=by have:=SL ⟨a.toNat,y⟩ ⟨b.toNat,h⟩;simpa only[UInt8.ofNat_toNat]using this
theorem xhq(s:d9)(i:Nat)(h:i+1<s.length):s.drop i=s.getD i 0::s.getD (i+1) 0::s.drop (i+2):=by rw[aF (by omega),aF h,aa,ab (by omega),aa,ab h];rfl
theorem xmy(s:d9)(hs:s.length<=1000000000):∀(n i:Nat)(acc:d9),i+2*n=s.length->acc.length+n<=1000000000->
 run T (.loop tC) ⟨[(0,.str s),(4,.byt acc (.id 104)),(5,.int .i64 i)],[],[104]⟩=
  match rf (s.drop i)with
  |none=>some (.r,⟨[(2,.byt [] .clip),(3,.bool false)],[],[104]⟩)
  |some l=>some (.x 0,⟨[(4,.byt (acc++l) (.id 104))],[],[104]⟩):=by
 intro n;induction n with
 |zero=>
  intro i acc hi ha;have:i=s.length:=by omega
  subst this;rw[aj,bB];simp only[go_sem,Q0,Q1,Q2,Q3,Q4,Q5,Q6,Q7,Q8,Q9,Qa,Qb,Qc,Qd,Qe,Qf,Qg,Qh,Qi,Qj,Qk,reduceCtorEq,reduceIte,rf,aZ]
 |succ n ih=>
  intro i acc h0 ha;have hi:i+1<s.length:=by omega
  have C:=xk3 SA (s.getD i 0);have z:=xk3 SA (s.getD (i+1) 0);rw[xeb]at C z;unfold SA at C z;have I:(i:Int)<(s.length:Int):=by omega
  have i2:i<s.length:=by omega
  have H:=cX i (by omega);have J:ai.wrap ((i:Int)+2)=((i+2:Nat):Int):=wZ (by omega)
  have i5:acc.length+1<=140737488355328:=by omega
  have W:=fun c=>ih (i+2) (acc++ [c]) (by omega) (by simp only[ac,aD];omega)
  have hm:¬(-1:Int)≥0:=by decide
  rw[xhq s i hi,rf,aj];generalize rf (s.drop (i+2))=Q at*;generalize L:s.getD i 0=a at*;generalize F:s.getD (i+1) 0=b at*;rcases O5 a with E|E
  ·rw[if_pos E]at C
   rw[if_pos (.inl E)];rcases O5 b with y|y
   ·rw[if_pos y]at z
    simp only[go_sem,Q0,Q1,Q2,Q3,Q4,Q5,Q6,Q7,Q8,Q9,Qa,Qb,Qc,Qd,Qe,Qf,Qg,Qh,Qi,Qj,Qk,reduceCtorEq,reduceIte,L,F,I,i2,hi,H,J,C,z,yk,i5]
   ·rw[if_neg (fun e=>by rw[e]at y;exact absurd y (by decide))]at z
    simp only[go_sem,Q0,Q1,Q2,Q3,Q4,Q5,Q6,Q7,Q8,Q9,Qa,Qb,Qc,Qd,Qe,Qf,Qg,Qh,Qi,Qj,Qk,reduceCtorEq,reduceIte,L,F,I,i2,hi,H,J,C,z,yk,i5]
  ·have n1:¬hv a=16:=fun e=>by rw[e]at E;exact absurd E (by decide)
   have O:¬(((hv a).toNat:Nat):Int)<0:=by omega
   rw[if_neg n1]at C;rcases O5 b with y|y
   ·rw[if_pos y]at z
    rw[if_pos (.inr y)];simp only[go_sem,Q0,Q1,Q2,Q3,Q4,Q5,Q6,Q7,Q8,Q9,Qa,Qb,Qc,Qd,Qe,Qf,Qg,Qh,Qi,Qj,Qk,reduceCtorEq,reduceIte,L,F,I,i2,hi,H,J,C,z,yk,i5,O]
   ·have n2:¬hv b=16:=fun e=>by rw[e]at y;exact absurd y (by decide)
    have Z:¬(((hv b).toNat:Nat):Int)<0:=by omega
    rw[if_neg n2]at z;rw[if_neg (fun e=>e.elim n1 n2)];have hb:=xeg (hv a) (hv b) E y;have h:=W (hv a<<<4|||hv b);cases Q with
    |none=>simp only at h ⊢;rw[<-h];simp only[go_sem,Q0,Q1,Q2,Q3,Q4,Q5,Q6,Q7,Q8,Q9,Qa,Qb,Qc,Qd,Qe,Qf,Qg,Qh,Qi,Qj,Qk,reduceCtorEq,reduceIte,L,F,I,i2,hi,H,J,C,z,yk,i5,O,Z,hb]
    |some l=>simp only at h ⊢;rw[ay,cf]at h;rw[<-h];simp only[go_sem,Q0,Q1,Q2,Q3,Q4,Q5,Q6,Q7,Q8,Q9,Qa,Qb,Qc,Qd,Qe,Qf,Qg,Qh,Qi,Qj,Qk,reduceCtorEq,reduceIte,L,F,I,i2,hi,H,J,C,z,yk,i5,O,Z,hb]
theorem vE:∀(s:d9),s.length % 2=1->rf s=none
 |[],h=>by simp at h
 |[_],_=>rfl
 |a::b::r,h=>by have:=vE r (by simp only[ah]at h;omega);rw[rf,this];split<;>rfl
theorem xeG(s:d9)(H:s.length<=1000000000):call T 158 [.str s] [] 0=some ⟨.tup [.byt ((nu s).getD []) .no,.bool (nu s).isSome],[],[]⟩:=by
 unfold nu;rw[am xii]
 by_cases h:s=[45]
 ·subst h
  simp only[go_sem,Q0,Q1,Q2,Q3,Q4,Q5,Q6,Q7,Q8,Q9,Qa,Qb,Qc,Qd,Qe,Qf,Qg,Qh,Qi,Qj,Qk,reduceCtorEq,reduceIte,aO,eT]
 ·rw[if_neg h]
  have y:Int.tmod (s.length:Int) 2=((s.length % 2:Nat):Int):=by rw[fv (by omega)];omega
  have C:Int.tdiv (s.length:Int) 2=((s.length/2:Nat):Int):=by rw[Int.tdiv_eq_ediv_of_nonneg (by omega)];omega
  have w1:ai.wrap ((s.length % 2:Nat):Int)=((s.length % 2:Nat):Int):=by rw[w64 (by omega) (by omega)]
  have z:ai.wrap ((s.length/2:Nat):Int)=((s.length/2:Nat):Int):=by rw[w64 (by omega) (by omega)]
  by_cases I:s.length % 2=1
  ·rw[vE s I]
   have m3:¬((s.length % 2:Nat):Int)=0:=by omega
   simp only[go_sem,Q0,Q1,Q2,Q3,Q4,Q5,Q6,Q7,Q8,Q9,Qa,Qb,Qc,Qd,Qe,Qf,Qg,Qh,Qi,Qj,Qk,reduceCtorEq,reduceIte,h,y,w1,m3,fB,eh]
  ·have m3:((s.length % 2:Nat):Int)=0:=by omega
   have E:((s.length/2:Nat):Int)<=140737488355328:=by omega
   have F:s.length/2<=140737488355328:=by omega
   have i8:(0:Int)<=((s.length/2:Nat):Int):=by omega
   have i9:((s.length/2:Nat):Int)<=9223372036854775807:=by omega
   have g:=xmy s H (s.length/2) 0 [] (by omega) (by simp only[au];omega);rw[bj,aA]at g;cases hQ:rf s with
   |none=>rw[hQ]at g;simp only at g;simp only[go_sem,Q0,Q1,Q2,Q3,Q4,Q5,Q6,Q7,Q8,Q9,Qa,Qb,Qc,Qd,Qe,Qf,Qg,Qh,Qi,Qj,Qk,reduceCtorEq,reduceIte,h,y,C,w1,z,m3,E,F,i8,i9,g,fB,eh]
   |some l=>rw[hQ]at g;simp only[aR]at g;simp only[go_sem,Q0,Q1,Q2,Q3,Q4,Q5,Q6,Q7,Q8,Q9,Qa,Qb,Qc,Qd,Qe,Qf,Qg,Qh,Qi,Qj,Qk,reduceCtorEq,reduceIte,h,y,C,w1,z,m3,E,F,i8,i9,g,aO,eT]
end
theorem xez(l:d9)(h:l.length<=1000000000):call T 95 [.byt l .no,.byt l .no] [] 0=some ⟨.bool true,[],[]⟩:=by have g:=f95 l l (by omega);rw[decide_eq_true rfl]at g;exact g
theorem f96(x:Img)(h:x.pay.length<=1000000000):call T 96 [.agg x.sv,.agg x.sv] [] 0=some ⟨.bool true,[],[]⟩:=by have g:=xez x.pay h;obtain⟨y,C,z,p⟩:=x;simp only[Img.sv]at*;rw[am xny];simp only[go_sem,Q0,Q1,Q2,Q3,Q4,Q5,Q6,Q7,Q8,Q9,Qa,Qb,Qc,Qd,Qe,Qf,Qg,Qh,Qi,Qj,Qk,reduceCtorEq,reduceIte,g,xeK]
theorem l42(l:List Img)(O:l.length<=1000000)(z:∀x∈l,x.pay.length<=1000000000):∀(n i:Nat),l.length-i=n->i<=l.length->run T (.loop OJ) ⟨[(0,.lst 4 (cZ l) .no),(1,.lst 4 (cZ l) .no),(5,.int .i64 i)],[],[]⟩=some (.x 0,⟨[],[],[]⟩):=by
 intro n;induction n with
 |zero=>
  intro i C I;have:i=l.length:=by omega
  subst this;have hv:=cg l;rw[aj];simp only[go_sem,Q0,Q1,Q2,Q3,Q4,Q5,Q6,Q7,Q8,Q9,Qa,Qb,Qc,Qd,Qe,Qf,Qg,Qh,Qi,Qj,Qk,reduceCtorEq,reduceIte,hv]
 |succ n F=>
  intro i C I;have hi:i<l.length:=by omega
  have E:=cX i (by omega);have h:=F (i+1) (by omega) (by omega);have hv:=cg l;have y:=fH l i hi;have H:l.getD i im0∈l:=by rw[aa,ab hi];exact aU hi
  have g:=f96 (l.getD i im0) (z _ H);rw[<-h,aj];generalize l.getD i im0=x at*;obtain⟨L,J,Q,p⟩:=x;simp only[Img.sv]at*;simp only[go_sem,Q0,Q1,Q2,Q3,Q4,Q5,Q6,Q7,Q8,Q9,Qa,Qb,Qc,Qd,Qe,Qf,Qg,Qh,Qi,Qj,Qk,reduceCtorEq,reduceIte,hi,hv,y,g,xob,E]
theorem f42(l:List Img)(y:l.length<=1000000)(h:∀x∈l,x.pay.length<=1000000000):call T 42 [.lst 4 (cZ l) .no,.lst 4 (cZ l) .no] [] 0=some ⟨.bool true,[],[]⟩:=by have g:=l42 l y h _ 0 rfl (bC _);rw[aA]at g;have hv:=cg l;rw[am xnS];simp only[go_sem,Q0,Q1,Q2,Q3,Q4,Q5,Q6,Q7,Q8,Q9,Qa,Qb,Qc,Qd,Qe,Qf,Qg,Qh,Qi,Qj,Qk,reduceCtorEq,reduceIte,hv,g]
theorem l41(B:d9)(l:List Mk)(L:l.length<=1000000)(C:∀x∈l,x.sig.length<=1000000000):∀(n i:Nat),l.length-i=n->i<=l.length->
 run T (.loop ON) ⟨[(2,.ptr 102 0),(3,.ptr 103 0),(5,.int .i64 i)],[(102,.rc [.byt B .no,.lst 2 (dZ l) .no]),(103,.rc [.byt B .no,.lst 2 (dZ l) .no])],[]⟩=
  some (.x 0,⟨[],[(102,.rc [.byt B .no,.lst 2 (dZ l) .no]),(103,.rc [.byt B .no,.lst 2 (dZ l) .no])],[]⟩):=by
 intro n;induction n with
 |zero=>
  intro i E J;have:i=l.length:=by omega
  subst this;have hv:=cS l;rw[aj];simp only[go_sem,Q0,Q1,Q2,Q3,Q4,Q5,Q6,Q7,Q8,Q9,Qa,Qb,Qc,Qd,Qe,Qf,Qg,Qh,Qi,Qj,Qk,reduceCtorEq,reduceIte,hv]
 |succ n H=>
  intro i E J;have hi:i<l.length:=by omega
  have h:(i:Int)<(l.length:Int):=by omega
  have F:=cX i (by omega);have y:=H (i+1) (by omega) (by omega);have hv:=cS l;have z:=mV l i hi;have I:l.getD i mk0∈l:=by rw[aa,ab hi];exact aU hi
  have g:=xez (l.getD i mk0).sig (C _ I);rw[<-y,aj];generalize l.getD i mk0=x at*;obtain⟨a,sg⟩:=x;simp only[Mk.sv]at*;simp only[go_sem,Q0,Q1,Q2,Q3,Q4,Q5,Q6,Q7,Q8,Q9,Qa,Qb,Qc,Qd,Qe,Qf,Qg,Qh,Qi,Qj,Qk,reduceCtorEq,reduceIte,hi,h,hv,z,g,xeK,F]
theorem f41(B:d9)(h:B.length<=1000000000)(l:List Mk)(z:l.length<=1000000)(y:∀x∈l,x.sig.length<=1000000000):call T 41 [.agg [.byt B .no,.lst 2 (dZ l) .no],.agg [.byt B .no,.lst 2 (dZ l) .no]] [] 0=some ⟨.bool true,[],[]⟩:=by have g:=l41 B l z y _ 0 rfl (bC _);rw[aA]at g;have hv:=cS l;have C:=xez B h;rw[am xnT];simp only[go_sem,Q0,Q1,Q2,Q3,Q4,Q5,Q6,Q7,Q8,Q9,Qa,Qb,Qc,Qd,Qe,Qf,Qg,Qh,Qi,Qj,Qk,reduceCtorEq,reduceIte,hv,g,C,xeK]
structure PA(x:Stp):Prop where
 b:x.body.length<=1000000000
 m:x.marks.length<=1000000
 mm:∀y∈x.marks,y.sig.length<=1000000000
 c:x.chain.length<=1000000
 ch:∀y∈x.chain,y.pay.length<=1000000000
theorem l13(l:List Stp)(hl:l.length<=1000000)(z:∀x∈l,PA x):∀(n i:Nat),l.length-i=n->i<=l.length->run T (.loop OW) ⟨[(0,.lst 7 (dO l) .no),(1,.lst 7 (dO l) .no),(5,.int .i64 i)],[],[]⟩=some (.x 0,⟨[],[],[]⟩):=by
 intro n;induction n with
 |zero=>
  intro i E h1;have:i=l.length:=by omega
  subst this;have hv:=co l;rw[aj];simp only[go_sem,Q0,Q1,Q2,Q3,Q4,Q5,Q6,Q7,Q8,Q9,Qa,Qb,Qc,Qd,Qe,Qf,Qg,Qh,Qi,Qj,Qk,reduceCtorEq,reduceIte,hv]
 |succ n I=>
  intro i E h1;have hi:i<l.length:=by omega
  have H:=cX i (by omega);have h:=I (i+1) (by omega) (by omega);have hv:=co l;have y:=mN l i hi;have J:l.getD i st0∈l:=by rw[aa,ab hi];exact aU hi
  obtain⟨W,Q,O,Z,F⟩:=z _ J;have g1:=f41 (l.getD i st0).body W (l.getD i st0).marks Q O;have L:=f42 (l.getD i st0).chain Z F;rw[<-h,aj];generalize l.getD i st0=x at*;obtain⟨k,m,nn,t,B,M,C⟩:=x;simp only[Stp.sv]at*;simp only[go_sem,Q0,Q1,Q2,Q3,Q4,Q5,Q6,Q7,Q8,Q9,Qa,Qb,Qc,Qd,Qe,Qf,Qg,Qh,Qi,Qj,Qk,reduceCtorEq,reduceIte,hi,hv,y,g1,xog,L,xof,H]
theorem f13(l:List Stp)(y:l.length<=1000000)(h:∀x∈l,PA x):call T 13 [.lst 7 (dO l) .no,.lst 7 (dO l) .no] [] 0=some ⟨.bool true,[],[]⟩:=by have g:=l13 l y h _ 0 rfl (bC _);rw[aA]at g;have hv:=co l;rw[am xn7];simp only[go_sem,Q0,Q1,Q2,Q3,Q4,Q5,Q6,Q7,Q8,Q9,Qa,Qb,Qc,Qd,Qe,Qf,Qg,Qh,Qi,Qj,Qk,reduceCtorEq,reduceIte,hv,g]
theorem f28(b:d9)(n:Nat):call T 28 [.byt b .no,.int .i64 n] [] 0=some ⟨.byt (b.take n) .no,[],[]⟩:=by
 rw[am xn1]
 by_cases h:n<b.length
 ·have y:(n:Int)<(b.length:Int):=by omega
  have z:n<=b.length:=by omega
  have C:(n:Int)<=(b.length:Int):=by omega
  simp only[go_sem,Q0,Q1,Q2,Q3,Q4,Q5,Q6,Q7,Q8,Q9,Qa,Qb,Qc,Qd,Qe,Qf,Qg,Qh,Qi,Qj,Qk,reduceCtorEq,reduceIte,y,h,z,C]
 ·have y:¬(n:Int)<(b.length:Int):=by omega
  rw[bh (by omega)];simp only[go_sem,Q0,Q1,Q2,Q3,Q4,Q5,Q6,Q7,Q8,Q9,Qa,Qb,Qc,Qd,Qe,Qf,Qg,Qh,Qi,Qj,Qk,reduceCtorEq,reduceIte,y,h]
def mf(x:Stp):Stp:= {x with body:=x.body.take 60,marks:=x.marks.take 6,chain:=x.chain.take 10}
theorem ES(A:List Stp)(x y:Stp)(r:List Stp):(dO (A++x::r)).set A.length y.sv=dO (A++y::r):=by simp[dO]
theorem l8:∀(r A:List Stp),A.length+r.length<=6->
 run T (.loop xA) ⟨[(3,.psl 112 7 0 (A.length+r.length) none),(4,.int .i64 A.length)],[(112,.arr 7 (dO (A++r)))],[]⟩=
  some (.x 0,⟨[(3,.psl 112 7 0 (A.length+r.length) none)],[(112,.arr 7 (dO (A++r.map mf)))],[]⟩)
 |[],A,h=>by rw[aj];simp only[go_sem,Q0,Q1,Q2,Q3,Q4,Q5,Q6,Q7,Q8,Q9,Qa,Qb,Qc,Qd,Qe,Qf,Qg,Qh,Qi,Qj,Qk,reduceCtorEq,reduceIte,cV,au,bW]
 |x::r,A,h=>by
  simp only[ah]at h;have ih:=l8 r (A++ [mf x]) (by simp only[ac,aD];omega);have hL:(A++ [mf x]).length+r.length=A.length+(x::r).length:=by simp only[ac,ah,au];omega
  have hA:(A++ [mf x]).length=A.length+1:=by simp
  rw[hL,hA,ay,ay,cf,cf]at ih;have hm:(x::r).map mf=mf x::r.map mf:=rfl;rw[hm,<-ih,<-ES A x (mf x) r];generalize hN:A.length+(x::r).length=N at*;have H:A.length<N:=by rw[<-hN];simp only[ah];omega
  have z:(dO (A++x::r)).length=N:=by rw[co,ac,hN]
  have Q:(dO (A++x::r)).getD A.length []=x.sv:=by rw[mN _ _ (by rw[ac,ah];omega)];simp[aa]
  generalize dO (A++x::r)=rows at*;have hi:A.length<rows.length:=by omega
  have Z:∀v,(rows.set A.length v).getD A.length []=v:=fun v=>by rw[aa,List.getElem?_set_self hi];rfl
  have g:=f28 x.body 60;rw[show((60:Nat):Int)=60 from rfl]at g;have F:(A.length:Int)<(N:Int):=by omega
  have W:=cX A.length (by omega);have I:=cS x.marks;have J:=cg x.chain;have tm:(dZ x.marks).take 6=dZ (x.marks.take 6):=by simp[dZ,List.map_take]
  have tc:(cZ x.chain).take 10=cZ (x.chain.take 10):=by simp[cZ,List.map_take]
  clear ih hm;obtain⟨k,m,n,t,B,M,C⟩:=x;unfold mf;simp only[Stp.sv]at*;rw[aj]
  by_cases hM:6<M.length
  ·have E:(6:Int)<(M.length:Int):=by omega
   have O:(6:Int)<=(M.length:Int):=by omega
   by_cases hC:10<C.length
   ·have y:(10:Int)<(C.length:Int):=by omega
    have L:(10:Int)<=(C.length:Int):=by omega
    simp only[go_sem,Q0,Q1,Q2,Q3,Q4,Q5,Q6,Q7,Q8,Q9,Qa,Qb,Qc,Qd,Qe,Qf,Qg,Qh,Qi,Qj,Qk,reduceCtorEq,reduceIte,F,hi,H,z,Q,g,Zw,W,I,J,E,O,y,L,Z,cW,List.set_set,tm,tc]
   ·have y:¬(10:Int)<(C.length:Int):=by omega
    rw[bh (show C.length<=10 by omega)];simp only[go_sem,Q0,Q1,Q2,Q3,Q4,Q5,Q6,Q7,Q8,Q9,Qa,Qb,Qc,Qd,Qe,Qf,Qg,Qh,Qi,Qj,Qk,reduceCtorEq,reduceIte,F,hi,H,z,Q,g,Zw,W,I,J,E,O,y,Z,cW,List.set_set,tm]
  ·have E:¬(6:Int)<(M.length:Int):=by omega
   rw[bh (show M.length<=6 by omega)]
   by_cases hC:10<C.length
   ·have y:(10:Int)<(C.length:Int):=by omega
    have L:(10:Int)<=(C.length:Int):=by omega
    simp only[go_sem,Q0,Q1,Q2,Q3,Q4,Q5,Q6,Q7,Q8,Q9,Qa,Qb,Qc,Qd,Qe,Qf,Qg,Qh,Qi,Qj,Qk,reduceCtorEq,reduceIte,F,hi,H,z,Q,g,Zw,W,I,J,E,y,L,Z,cW,List.set_set,tc]
   ·have y:¬(10:Int)<(C.length:Int):=by omega
    rw[bh (show C.length<=10 by omega)];simp only[go_sem,Q0,Q1,Q2,Q3,Q4,Q5,Q6,Q7,Q8,Q9,Qa,Qb,Qc,Qd,Qe,Qf,Qg,Qh,Qi,Qj,Qk,reduceCtorEq,reduceIte,F,hi,H,z,Q,g,Zw,W,I,J,E,y,Z,cW,List.set_set]
theorem f8(l:List Stp):call T 8 [.lst 7 (dO l) .no] [] 0=some ⟨.lst 7 (dO ((l.take 6).map mf)) .no,[],[]⟩:=by
 have O:=co l
 have H:∀q:List Stp,q.length<=6->q≠ []->run T (.loop xA) ⟨[(3,.psl 112 7 0 q.length none),(4,.int .i64 0)],[(112,.arr 7 (dO q))],[]⟩=some (.x 0,⟨[(3,.psl 112 7 0 q.length none)],[(112,.arr 7 (dO (q.map mf)))],[]⟩):=fun q h _=>by have:=l8 q [] (by simp only[au];omega);simp only[au,cd,aR,aA]at this;exact this
 by_cases W:6<l.length
 ·have z:(6:Int)<(l.length:Int):=by omega
  have I:(6:Int)<=(l.length:Int):=by omega
  have Q:(dO l).take 6=dO (l.take 6):=by simp[dO,List.map_take]
  have y:(l.take 6).length=6:=by rw[av];omega
  have g:=H (l.take 6) (by omega) (fun e=>by rw[e]at y;simp at y);have hv:=co (l.take 6);have C:¬dO (l.take 6)=[]:=fun e=>by have:=congrArg mq e;rw[hv,y]at this;simp at this
  rw[y]at g hv;have L:6*104<=140737488355328:=by decide
  have F:=co ((l.take 6).map mf);rw[aC,y]at F;have E:(dO ((l.take 6).map mf)).take 6=dO ((l.take 6).map mf):=bh (by omega);generalize l.take 6=q at*;rw[am T_8];simp only[go_sem,Q0,Q1,Q2,Q3,Q4,Q5,Q6,Q7,Q8,Q9,Qa,Qb,Qc,Qd,Qe,Qf,Qg,Qh,Qi,Qj,Qk,reduceCtorEq,reduceIte,O,z,I,Q,hv,C,L,g,F,E]
 ·have z:¬(6:Int)<(l.length:Int):=by omega
  rw[bh (show l.length<=6 by omega),am T_8]
  by_cases J:l=[]
  ·subst J
   have g:run T (.loop xA) ⟨[(3,.lst 7 [] .clip),(4,.int .i64 0)],[],[]⟩=some (.x 0,⟨[(3,.lst 7 [] .clip)],[],[]⟩):=by rw[aj];simp only[go_sem,Q0,Q1,Q2,Q3,Q4,Q5,Q6,Q7,Q8,Q9,Qa,Qb,Qc,Qd,Qe,Qf,Qg,Qh,Qi,Qj,Qk,reduceCtorEq,reduceIte]
   rw[show dO []=[]from rfl]at*;simp only[go_sem,Q0,Q1,Q2,Q3,Q4,Q5,Q6,Q7,Q8,Q9,Qa,Qb,Qc,Qd,Qe,Qf,Qg,Qh,Qi,Qj,Qk,reduceCtorEq,reduceIte,au,z,g];rfl
  ·have g:=H l (by omega) J
   have C:¬dO l=[]:=fun e=>J (by have:=congrArg mq e;rw[O]at this;exact bx.1 (by simpa using this))
   have L:l.length*104<=140737488355328:=by omega
   have F:=co (l.map mf);rw[aC]at F;have E:(dO (l.map mf)).take l.length=dO (l.map mf):=bh (by omega);simp only[go_sem,Q0,Q1,Q2,Q3,Q4,Q5,Q6,Q7,Q8,Q9,Qa,Qb,Qc,Qd,Qe,Qf,Qg,Qh,Qi,Qj,Qk,reduceCtorEq,reduceIte,O,z,C,L,g,F,E]
end Go.Proofs.YtmhhnklkcmpdkaaGreatDoor
