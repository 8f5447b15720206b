/- What the functions come to. No condition. -/
import Derived.Test.YtkggincjigbelaaGreatDoorTcD
open Int renaming natCast_zero -> aB, tmod_eq_emod_of_nonneg -> gE
open Go.IntKind renaming i64 -> af
open List renaming append_assoc -> av, append_nil -> aZ, cons_append -> aS, drop_eq_getElem_cons -> bq, drop_eq_nil_of_le -> bO, drop_take -> Dv, drop_zero -> bj, flatMap_cons -> dl, flatMap_nil -> eI, foldl_nil -> Du, getD_eq_getElem?_getD -> aa, length_append -> ac, length_drop -> aQ, length_take -> ax, map_append -> cE, map_cons -> aC, map_nil -> bH, nil_append -> aF, range -> bD
open Nat renaming le_refl -> aH, mod_eq_of_lt -> cx, zero_add -> cg
open UInt8 renaming ofNat -> fM
set_option maxRecDepth 100000
set_option maxHeartbeats 16000000
set_option linter.unusedSimpArgs false
set_option linter.unusedVariables false
namespace Go.Proofs.YtkggincjigbelaaGreatDoor
open Go.Sy
open UInt8 renaming reduceLT -> Q0, reduceLE -> Q1
open Int renaming reduceToNat -> Q2, reduceLE -> Q3, reduceLT -> Q4, reduceEq -> Q5, reduceNe -> Q6, reduceNeg -> Q7, reduceAdd -> Q8, reduceSub -> Q9, reduceMul -> Qa
open Nat renaming reducePow -> Qb, reduceDiv -> Qc, reduceMod -> Qd, reduceAdd -> Qe, reduceSub -> Qf, reduceMul -> Qg, reduceLT -> Qh, reduceLeDiff -> Qi, reduceEqDiff -> Qj, reduceBEq -> Qk
theorem xc2(leaf:Nat)(h:leaf<=255):call T 131 [.int .i64 leaf] [] 0=some ⟨.bool true,[],[]⟩:=by
 have h1:(0:Int)<=(leaf:Int):=by omega
 have h2:(leaf:Int)<=255:=by omega
 rw[aj xgU];simp only[go_sem,Q0,Q1,Q2,Q3,Q4,Q5,Q6,Q7,Q8,Q9,Qa,Qb,Qc,Qd,Qe,Qf,Qg,Qh,Qi,Qj,Qk,reduceCtorEq,reduceIte,h1,h2]
theorem xcZ(leaf c p:Nat)(x:List UInt8)(hx:x.length<=1000000):call T 184 [.int .i64 leaf,.int .i64 c,.int .i64 p,.byt x .no] [] 0=some ⟨.byt (oK leaf c p x) .no,[],[]⟩:=by have g:=a183 1 [ub leaf,ub c,ub p] x (by simp) (by omega);have hl:=gA 1 [[ub leaf,ub c,ub p],x];unfold ub at g hl;rw[aj xgt];simp only[go_sem,Q0,Q1,Q2,Q3,Q4,Q5,Q6,Q7,Q8,Q9,Qa,Qb,Qc,Qd,Qe,Qf,Qg,Qh,Qi,Qj,Qk,reduceCtorEq,reduceIte,g,Dq,hl,c32,oK,h16,ub]
theorem xjb(leaf:Nat)(x:List UInt8)(hx:x.length<=1000000):call T 147 [.int .i64 leaf,.byt x .no] [] 0=some ⟨.byt (tn leaf x) .no,[],[]⟩:=by have g:=a183 2 [ub leaf] x (by simp) (by omega);have hl:=gA 2 [[ub leaf],x];unfold ub at g hl;rw[aj xgH];simp only[go_sem,Q0,Q1,Q2,Q3,Q4,Q5,Q6,Q7,Q8,Q9,Qa,Qb,Qc,Qd,Qe,Qf,Qg,Qh,Qi,Qj,Qk,reduceCtorEq,reduceIte,g,Dq,hl,c32,tn,h16,ub]
theorem xlu(leaf:Nat)(x:List UInt8)(hx:x.length<=1000000):call T 180 [.int .i64 leaf,.byt x .no] [] 0=some ⟨.byt (tn leaf x) .no,[],[]⟩:=by have g:=xjq 2 [ub leaf] x (by simp) (by omega);have hl:=gA 2 [[ub leaf],x];unfold ub at g hl;rw[aj xgv];simp only[go_sem,Q0,Q1,Q2,Q3,Q4,Q5,Q6,Q7,Q8,Q9,Qa,Qb,Qc,Qd,Qe,Qf,Qg,Qh,Qi,Qj,Qk,reduceCtorEq,reduceIte,g,Dp,hl,c32,tn,h16,ub]
theorem xjg(seed:List UInt8)(leaf c:Nat)(hs:seed.length<=64):call T 134 [.byt seed .no,.int .i64 leaf,.int .i64 c] [] 0=some ⟨.byt (eZ seed leaf c) .no,[],[]⟩:=by have g:=xjf seed kT [ub leaf,ub c] 16 (by decide) (by decide) hs (by decide) (by simp);unfold kT ub at g;rw[c16]at g;rw[aj xgR];simp only[go_sem,Q0,Q1,Q2,Q3,Q4,Q5,Q6,Q7,Q8,Q9,Qa,Qb,Qc,Qd,Qe,Qf,Qg,Qh,Qi,Qj,Qk,reduceCtorEq,reduceIte,g,X5,eZ,kT,ub]
theorem xjd(seed:List UInt8)(leaf c:Nat)(hs:seed.length<=64):call T 144 [.byt seed .no,.int .i64 leaf,.int .i64 c] [] 0=some ⟨.byt (eZ seed leaf c) .no,[],[]⟩:=by have g:=xjc seed kT [ub leaf,ub c] 16 (by decide) (by decide) hs (by decide) (by simp);unfold kT ub at g;rw[c16]at g;rw[aj xgK];simp only[go_sem,Q0,Q1,Q2,Q3,Q4,Q5,Q6,Q7,Q8,Q9,Qa,Qb,Qc,Qd,Qe,Qf,Qg,Qh,Qi,Qj,Qk,reduceCtorEq,reduceIte,g,X2,eZ,kT,ub]
theorem xkH(leaf c to:Nat)(ht:to<=15):∀(n p:Nat)(x:List UInt8),p+n=to->x.length<=1000000->
 run T (.loop xw) ⟨[(0,.int .i64 leaf),(1,.int .i64 c),(3,.int .i64 to),(4,.byt x .no),(11,.int .i64 p)],[],[]⟩=
 some (.x 0,⟨[(4,.byt (ec leaf c p n x) .no)],[],[]⟩):=by
 intro n;induction n with
 |zero=>
  intro p x h0 hx;have hp:p=to:=by omega
  subst hp;rw[ah];simp only[go_sem,Q0,Q1,Q2,Q3,Q4,Q5,Q6,Q7,Q8,Q9,Qa,Qb,Qc,Qd,Qe,Qf,Qg,Qh,Qi,Qj,Qk,reduceCtorEq,reduceIte,ec]
 |succ n ih=>
  intro p x h0 hx;have ih':=ih (p+1) (oK leaf c p x) (by omega) (by rw[oK,dC];omega);have hlt:(p:Int)<(to:Int):=by omega
  have e1:=cR p (by omega);have g:=xjq 1 [ub leaf,ub c,ub p] x (by simp) (by omega);have hl:=gA 1 [[ub leaf,ub c,ub p],x];unfold oK h16 at ih';unfold ub at g hl ih';rw[ah];simp only[go_sem,Q0,Q1,Q2,Q3,Q4,Q5,Q6,Q7,Q8,Q9,Qa,Qb,Qc,Qd,Qe,Qf,Qg,Qh,Qi,Qj,Qk,reduceCtorEq,reduceIte,hlt,e1,g,Dp,hl,c32,ih',ec,oK,h16,ub]
theorem xje(leaf c p n to:Nat)(x:List UInt8)(h:p+n=to)(ht:to<=15)(hx:x.length<=1000000):
 call T 143 [.int .i64 leaf,.int .i64 c,.int .i64 p,.int .i64 to,.byt x .no] [] 0=some ⟨.byt (ec leaf c p n x) .no,[],[]⟩:=by
 have g:=xkH leaf c to ht n p x h hx;rw[aj xgL];simp only[go_sem,Q0,Q1,Q2,Q3,Q4,Q5,Q6,Q7,Q8,Q9,Qa,Qb,Qc,Qd,Qe,Qf,Qg,Qh,Qi,Qj,Qk,reduceCtorEq,reduceIte,g]
def dgs(l:List Nat):List (List SV):=l.map fun(d:Nat)=> [.int .i64 (d:Int)]
theorem jc(l:List Nat):(dgs l).length=l.length:=by simp[dgs]
theorem rF(l:List Nat)(i:Nat)(h:i<l.length):(dgs l).getD i []=[.int .i64 ((l.getD i 0:Nat):Int)]:=by simp[dgs,aa,h]
theorem nL(a b:List Nat):dgs (a++b)=dgs a++dgs b:=by simp[dgs]
theorem MF(b:UInt8):(fM (b.toNat/2^min 4 8)).toNat=hi4 b:=by
 have e:(2:Nat)^min 4 8=16:=by decide
 have:=b.toNat_lt;unfold hi4;rw[e,UInt8.toNat_ofNat',cx (by omega)]
theorem MA(b:UInt8):(b&&&15).toNat=lo4 b:=by unfold lo4;rw[UInt8.toNat_and];exact Nat.and_two_pow_sub_one_eq_mod b.toNat 4
theorem Ba(M:List UInt8)(i:Nat)(h:i<M.length):dg (M.drop i)=hi4 (M.getD i 0)::lo4 (M.getD i 0)::dg (M.drop (i+1)):=by rw[de M i h];rfl
def smF(s:Nat)(l:List UInt8):Nat:=l.foldl (fun s b=>s+((15-hi4 b)+(15-lo4 b))) s
theorem tz(s:Nat)(M:List UInt8)(i:Nat)(h:i<M.length):smF s (M.drop i)=smF (s+((15-hi4 (M.getD i 0))+(15-lo4 (M.getD i 0)))) (M.drop (i+1)):=by rw[de M i h];rfl
theorem ME(b:UInt8):hi4 b<=15:=by have:=b.toNat_lt;unfold hi4;omega
theorem Mz(b:UInt8):lo4 b<=15:=by unfold lo4;omega
theorem xkJ(M:List UInt8)(hM:M.length=16):∀(n i:Nat)(acc:List Nat)(s:Nat),16-i=n->i<=16->acc.length=2*i->s<=30*i->
 run T (.loop qW) ⟨[(3,.lst 1 (dgs acc) (.id 103)),(4,.int .i64 s),(12,.byt M .no),(13,.int .i64 16),(14,.int .i64 i)],[],[103]⟩=
 some (.x 0,⟨[(3,.lst 1 (dgs (acc++dg (M.drop i))) (.id 103)),(4,.int .i64 (smF s (M.drop i)))],[],[103]⟩):=by
 intro n;induction n with
 |zero=>
  intro i acc s h0 h1 ha hs;have hi:i=16:=by omega
  subst hi;have hd:M.drop 16=[]:=bO (by omega);rw[hd,ah];simp only[c16,go_sem,Q0,Q1,Q2,Q3,Q4,Q5,Q6,Q7,Q8,Q9,Qa,Qb,Qc,Qd,Qe,Qf,Qg,Qh,Qi,Qj,Qk,reduceCtorEq,reduceIte,dg,smF,eI,aZ,Du]
 |succ n ih=>
  intro i acc s h0 h1 ha hs;have hi:i<16:=by omega
  have hiI:(i:Int)<16:=by omega
  have e1:=cR i (by omega);have hh:=ME (M.getD i 0);have hl:=Mz (M.getD i 0);have ih':=ih (i+1) (acc++ [hi4 (M.getD i 0)]++ [lo4 (M.getD i 0)]) (s+((15-hi4 (M.getD i 0))+(15-lo4 (M.getD i 0)))) (by omega) (by omega) (by simp;omega) (by omega);have a1:=MF (M.getD i 0);have a2:=MA (M.getD i 0);rw[Ba M i (by omega),tz s M i (by omega)];generalize hc:M.getD i 0=z at*;generalize hi4 z=x at*;generalize lo4 z=y at*;have hdl:=jc acc;have w1:af.wrap (15-(x:Int))=((15-x:Nat):Int):=wZ (by omega)
  have w2:af.wrap (15-(y:Int))=((15-y:Nat):Int):=wZ (by omega)
  have w3:af.wrap ((s:Int)+((15-x:Nat):Int))=((s+(15-x):Nat):Int):=wZ (by omega)
  have w5:af.wrap (((s+(15-x):Nat):Int)+((15-y:Nat):Int))=((s+((15-x)+(15-y)):Nat):Int):=wZ (by omega)
  have k1:af.wrap 1=1:=rfl;have k2:af.wrap 2=2:=rfl;have c1:(acc.length+1)*8<=140737488355328:=by omega
  have c2:(acc.length+1+1)*8<=140737488355328:=by omega
  simp only[nL,dgs,cE,aC,bH,av,aS,aF]at ih' hdl ⊢;rw[ah];simp only[go_sem,Q0,Q1,Q2,Q3,Q4,Q5,Q6,Q7,Q8,Q9,Qa,Qb,Qc,Qd,Qe,Qf,Qg,Qh,Qi,Qj,Qk,reduceCtorEq,reduceIte,hi,hiI,hM,hc,e1,a1,a2];rw[ah];simp (config:= {decide:=true}) only[go_sem,Q0,Q1,Q2,Q3,Q4,Q5,Q6,Q7,Q8,Q9,Qa,Qb,Qc,Qd,Qe,Qf,Qg,Qh,Qi,Qj,Qk,reduceCtorEq,reduceIte,w1,w3,k1,c1,hdl];rw[ah];simp (config:= {decide:=true}) only[go_sem,Q0,Q1,Q2,Q3,Q4,Q5,Q6,Q7,Q8,Q9,Qa,Qb,Qc,Qd,Qe,Qf,Qg,Qh,Qi,Qj,Qk,reduceCtorEq,reduceIte,w2,w5,k2,c1,c2,hdl];rw[ah];simp (config:= {decide:=true}) only[go_sem,Q0,Q1,Q2,Q3,Q4,Q5,Q6,Q7,Q8,Q9,Qa,Qb,Qc,Qd,Qe,Qf,Qg,Qh,Qi,Qj,Qk,reduceCtorEq,reduceIte,e1,c1,c2,ih',aS,aF]
theorem xjh(msg:List UInt8)(hm:msg.length<=100000000):call T 132 [.byt msg .no] [] 0=some ⟨.lst 1 (dgs (gg msg)) .no,[],[]⟩:=by
 have g1:=xls 4 msg (by omega);rw[<-A3]at g1;have hl:=dC 4 [msg];have hh:=gA 4 [msg];have e32:((32:Nat):Int)=32:=rfl;have g2:=xkJ (h16 4 [msg]) hl 16 0 [] 0 rfl (by omega) rfl (by omega);have hs:=M2 (h16 4 [msg]) 0;have es:smF 0 (h16 4 [msg])=sm (h16 4 [msg]):=rfl;rw[hl]at hs;change sm (h16 4 [msg])<=0+30*16 at hs;have hdl:=xT (h16 4 [msg]);rw[hl]at hdl;have hdd:=jc (dg (h16 4 [msg]));unfold gg;have e0:dgs []=[]:=rfl;simp only[aB,bj,aF,es,nL,e0]at g2 ⊢;have hu:(hsh 4 [msg]).take 16=h16 4 [msg]:=rfl;generalize hsm:sm (h16 4 [msg])=q at*;generalize dg (h16 4 [msg])=ds at*
 have q1:(q:Int).fdiv (2^min 8 64)=((q/256:Nat):Int):=by rw[show(2:Int)^min 8 64=256 from by decide,Int.fdiv_eq_ediv_of_nonneg _ (by decide)];omega
 have q2:(q:Int).fdiv (2^min 4 64)=((q/16:Nat):Int):=by rw[show(2:Int)^min 4 64=16 from by decide,Int.fdiv_eq_ediv_of_nonneg _ (by decide)];omega
 have q3:∀r:Nat,r<1000->bS .and .i64 (r:Int) 15=((r % 16:Nat):Int):=fun r hr=>by
  have e1:(BitVec.ofNat 64 r&&&BitVec.ofNat 64 15).toNat=r % 16:=by rw[BitVec.toNat_and,BitVec.toNat_ofNat,BitVec.toNat_ofNat,cx (by omega)];exact Nat.and_two_pow_sub_one_eq_mod r 4
  unfold bS;rw[show(15:Int)=((15:Nat):Int)from rfl];simp only[BitVec.ofInt_natCast];show af.wrap (((BitVec.ofNat 64 r&&&BitVec.ofNat 64 15).toNat:Nat):Int)=_;rw[e1];exact w64 (by omega) (by omega)
 have q4:=q3 q (by omega);have q5:=q3 (q/16) (by omega);have c3:(2*16+3)*8<=140737488355328:=by decide
 have e16:((16:Nat):Int)=16:=rfl;rw[aj xgT];simp only[go_sem,Q0,Q1,Q2,Q3,Q4,Q5,Q6,Q7,Q8,Q9,Qa,Qb,Qc,Qd,Qe,Qf,Qg,Qh,Qi,Qj,Qk,reduceCtorEq,reduceIte,g1,Dq,hh,e32,hu,hl,e16,g2];simp only[go_sem,Q0,Q1,Q2,Q3,Q4,Q5,Q6,Q7,Q8,Q9,Qa,Qb,Qc,Qd,Qe,Qf,Qg,Qh,Qi,Qj,Qk,reduceCtorEq,reduceIte,q1,q2,q4,q5,hdd,hdl,c3,dgs,aC,bH]
 trace_state
def qm(c:Nat)(f:Nat->List UInt8):List UInt8:=((bD 35).drop c).flatMap f
theorem iv(f:Nat->List UInt8):qm 0 f=cat 35 f:=by unfold qm cat;rw[bj]
theorem jT(f:Nat->List UInt8):qm 35 f=[]:=by unfold qm;rw[bO (by rw[List.length_range];exact aH _)];rfl
theorem iw(c:Nat)(h:c<35)(f:Nat->List UInt8):qm c f=f c++qm (c+1) f:=by unfold qm;rw[bq (by rw[List.length_range];exact h),List.getElem_range,dl]
theorem xlH(seed:List UInt8)(leaf c:Nat)(hs:seed.length<=64):call T 133 [.int .i64 c,.ptr 0 0,.ptr 1 0] [.rc [.byt seed .no],.rc [.int .i64 leaf]] 0=some ⟨.byt (eZ seed leaf c) .no,[(0,.rc [.byt seed .no]),(1,.rc [.int .i64 leaf])],[]⟩:=by have g:=xjg seed leaf c hs;rw[aj xgS];simp only[go_sem,Q0,Q1,Q2,Q3,Q4,Q5,Q6,Q7,Q8,Q9,Qa,Qb,Qc,Qd,Qe,Qf,Qg,Qh,Qi,Qj,Qk,reduceCtorEq,reduceIte,g,X7]
theorem xlq(seed:List UInt8)(leaf c:Nat)(hs:seed.length<=64):call T 187 [.int .i64 c,.ptr 0 0,.ptr 1 0] [.rc [.byt seed .no],.rc [.int .i64 leaf]] 0=some ⟨.byt (eZ seed leaf c) .no,[(0,.rc [.byt seed .no]),(1,.rc [.int .i64 leaf])],[]⟩:=by have g:=xjg seed leaf c hs;rw[aj xgq];simp only[go_sem,Q0,Q1,Q2,Q3,Q4,Q5,Q6,Q7,Q8,Q9,Qa,Qb,Qc,Qd,Qe,Qf,Qg,Qh,Qi,Qj,Qk,reduceCtorEq,reduceIte,g,X7]
theorem xlG(c:Int):call T 136 [.int .i64 c] [] 0=some ⟨.int .i64 0,[],[]⟩:=by rw[aj xgQ];simp only[go_sem,Q0,Q1,Q2,Q3,Q4,Q5,Q6,Q7,Q8,Q9,Qa,Qb,Qc,Qd,Qe,Qf,Qg,Qh,Qi,Qj,Qk,reduceCtorEq,reduceIte]
theorem xlp(c:Int):call T 188 [.int .i64 c] [] 0=some ⟨.int .i64 0,[],[]⟩:=by rw[aj xgp];simp only[go_sem,Q0,Q1,Q2,Q3,Q4,Q5,Q6,Q7,Q8,Q9,Qa,Qb,Qc,Qd,Qe,Qf,Qg,Qh,Qi,Qj,Qk,reduceCtorEq,reduceIte]
theorem f189(c:Int):call T 189 [.int .i64 c] [] 0=some ⟨.int .i64 15,[],[]⟩:=by rw[aj xgo];simp only[go_sem,Q0,Q1,Q2,Q3,Q4,Q5,Q6,Q7,Q8,Q9,Qa,Qb,Qc,Qd,Qe,Qf,Qg,Qh,Qi,Qj,Qk,reduceCtorEq,reduceIte]
theorem xlB(c:Int):call T 149 [.int .i64 c] [] 0=some ⟨.int .i64 15,[],[]⟩:=by rw[aj xgF];simp only[go_sem,Q0,Q1,Q2,Q3,Q4,Q5,Q6,Q7,Q8,Q9,Qa,Qb,Qc,Qd,Qe,Qf,Qg,Qh,Qi,Qj,Qk,reduceCtorEq,reduceIte]
theorem xlF(D:List Nat)(c:Nat)(h:c<D.length):call T 137 [.int .i64 c,.ptr 0 0] [.rc [.lst 1 (dgs D) .no]] 0=some ⟨.int .i64 ((D.getD c 0:Nat):Int),[(0,.rc [.lst 1 (dgs D) .no])],[]⟩:=by have hl:=jc D;have hg:=rF D c h;rw[aj xgP];simp only[go_sem,Q0,Q1,Q2,Q3,Q4,Q5,Q6,Q7,Q8,Q9,Qa,Qb,Qc,Qd,Qe,Qf,Qg,Qh,Qi,Qj,Qk,reduceCtorEq,reduceIte,hl,h,hg]
theorem xlC(D:List Nat)(c:Nat)(h:c<D.length):call T 148 [.int .i64 c,.ptr 0 0] [.rc [.lst 1 (dgs D) .no]] 0=some ⟨.int .i64 ((D.getD c 0:Nat):Int),[(0,.rc [.lst 1 (dgs D) .no])],[]⟩:=by have hl:=jc D;have hg:=rF D c h;rw[aj xgG];simp only[go_sem,Q0,Q1,Q2,Q3,Q4,Q5,Q6,Q7,Q8,Q9,Qa,Qb,Qc,Qd,Qe,Qf,Qg,Qh,Qi,Qj,Qk,reduceCtorEq,reduceIte,hl,h,hg]
theorem xlD(g:List UInt8)(c:Nat)(h:c<35)(hl:g.length=560):call T 146 [.int .i64 c,.ptr 0 0] [.rc [.byt g .no]] 0=some ⟨.byt ((g.drop (16*c)).take 16) .no,[(0,.rc [.byt g .no])],[]⟩:=by
 have e1:af.wrap ((c:Int)*16)=((16*c:Nat):Int):=wZ (by omega)
 have e0:=cR c (by omega);have e2:af.wrap (((c+1:Nat):Int)*16)=((16*c+16:Nat):Int):=wZ (by omega)
 have h1:16*c<=16*c+16:=by omega
 have h2:16*c+16<=560:=by omega
 have h3:(g.take (16*c+16)).drop (16*c)=(g.drop (16*c)).take 16:=by rw[Dv];congr 1;omega
 rw[aj xgI];simp only[go_sem,Q0,Q1,Q2,Q3,Q4,Q5,Q6,Q7,Q8,Q9,Qa,Qb,Qc,Qd,Qe,Qf,Qg,Qh,Qi,Qj,Qk,reduceCtorEq,reduceIte,e0,e1,e2,hl,h1,h2,h3]
theorem xfC(leaf c:Nat)(seed:List UInt8)(D:List Nat)(hs:seed.length<=64)(hD:D.length=35)(hd:∀c,c<35->D.getD c 0<=15)(hc:c<35)(acc:List UInt8):∀(n p:Nat)(x:List UInt8),p+n=D.getD c 0->x.length<=1000000->
 run T (.loop ls) ⟨[(0,.int .i64 leaf),(1,.fn 133 [] [.ptr 0 0,.ptr 1 0]),(2,.fn 136 [] []),(3,.fn 137 [] [.ptr 2 0]),(9,.byt acc (.id 109)),(10,.int .i64 c),(11,.byt x .no),(12,.int .i64 p),(13,.int .i64 c)],[(0,.rc [.byt seed .no]),(1,.rc [.int .i64 leaf]),(2,.rc [.lst 1 (dgs D) .no])],[109]⟩=
 some (.x 2,⟨[(0,.int .i64 leaf),(1,.fn 133 [] [.ptr 0 0,.ptr 1 0]),(2,.fn 136 [] []),(3,.fn 137 [] [.ptr 2 0]),(9,.byt acc (.id 109)),(11,.byt (ec leaf c p n x) .no),(13,.int .i64 c)],[(0,.rc [.byt seed .no]),(1,.rc [.int .i64 leaf]),(2,.rc [.lst 1 (dgs D) .no])],[109]⟩):=by
 have gt:=xlF D c (by omega);intro n;induction n with
 |zero=>
  intro p x h0 hx;have hp:p=D.getD c 0:=by omega
  have e15:((15:Nat):Int)=15:=rfl;rw[ah];simp only[hp,e15,go_sem,Q0,Q1,Q2,Q3,Q4,Q5,Q6,Q7,Q8,Q9,Qa,Qb,Qc,Qd,Qe,Qf,Qg,Qh,Qi,Qj,Qk,reduceCtorEq,reduceIte,gt,X6,ec]
 |succ n ih=>
  intro p x h0 hx;have ih':=ih (p+1) (oK leaf c p x) (by omega) (by rw[oK,dC];omega);have hlt:(p:Int)<((D.getD c 0:Nat):Int):=by omega
  have hdc:=hd c hc;have hDl:c<D.length:=by omega
  have e1:=cR p (by omega);have g:=xcZ leaf c p x hx;rw[ah];simp only[go_sem,Q0,Q1,Q2,Q3,Q4,Q5,Q6,Q7,Q8,Q9,Qa,Qb,Qc,Qd,Qe,Qf,Qg,Qh,Qi,Qj,Qk,reduceCtorEq,reduceIte,gt,X6,hlt,e1,g,NO,ih',ec]
theorem xfy(leaf:Nat)(seed:List UInt8)(D:List Nat)(hs:seed.length<=64)(hD:D.length=35)(hd:∀c,c<35->D.getD c 0<=15)(F:Nat->List UInt8)(hF:∀c,c<35->F c=ec leaf c (0) (D.getD c 0-0) (eZ seed leaf c)):∀(n c:Nat)(acc:List UInt8),35-c=n->c<=35->acc.length=16*c->
 run T (.loop hJ) ⟨[(0,.int .i64 leaf),(1,.fn 133 [] [.ptr 0 0,.ptr 1 0]),(2,.fn 136 [] []),(3,.fn 137 [] [.ptr 2 0]),(9,.byt acc (.id 109)),(13,.int .i64 c)],[(0,.rc [.byt seed .no]),(1,.rc [.int .i64 leaf]),(2,.rc [.lst 1 (dgs D) .no])],[109]⟩=
 some (.x 0,⟨[(9,.byt (acc++qm c F) (.id 109))],[(0,.rc [.byt seed .no]),(1,.rc [.int .i64 leaf]),(2,.rc [.lst 1 (dgs D) .no])],[109]⟩):=by
 intro n;induction n with
 |zero=>
  intro c acc h0 h1 ha;have hi:c=35:=by omega
  subst hi;rw[jT,ah];simp only[c35,go_sem,Q0,Q1,Q2,Q3,Q4,Q5,Q6,Q7,Q8,Q9,Qa,Qb,Qc,Qd,Qe,Qf,Qg,Qh,Qi,Qj,Qk,reduceCtorEq,reduceIte,aZ]
 |succ n ih=>
  intro c acc h0 h1 ha;have hc:c<35:=by omega
  have hcI:(c:Int)<35:=by omega
  have e1:=cR c (by omega);have hdc:=hd c hc;have hDl:c<D.length:=by omega
  have hsl:=ei leaf c (D.getD c 0-0) (0) (eZ seed leaf c) (dU seed leaf c);rw[<-hF c hc]at hsl;have ih':=ih (c+1) (acc++F c) (by omega) (by omega) (by rw[ac,hsl];omega);have g1:=xfC leaf c seed D hs hD hd hc acc (D.getD c 0-0) (0) (eZ seed leaf c) (by omega) (by have hq:(eZ seed leaf c).length=16:=(dU seed leaf c);omega);have gs:=xlH seed leaf c hs;have gf:=xlG c;rw[<-hF c hc]at g1;rw[iw c hc];rw[av]at ih';generalize hst:F c=y at*;have c1:acc.length+y.length<=140737488355328:=by omega
  try simp only[aB]at g1
  rw[ah];simp only[go_sem,Q0,Q1,Q2,Q3,Q4,Q5,Q6,Q7,Q8,Q9,Qa,Qb,Qc,Qd,Qe,Qf,Qg,Qh,Qi,Qj,Qk,reduceCtorEq,reduceIte,hcI,e1,gs,gf,xhA,xhz,g1,c1,ih']
theorem xfR(leaf:Nat)(seed:List UInt8)(D:List Nat)(X:List UInt8)(hg:run T (.loop hJ) ⟨[(0,.int .i64 leaf),(1,.fn 133 [] [.ptr 0 0,.ptr 1 0]),(2,.fn 136 [] []),(3,.fn 137 [] [.ptr 2 0]),(9,.byt [] (.id 109)),(13,.int .i64 0)],[(0,.rc [.byt seed .no]),(1,.rc [.int .i64 leaf]),(2,.rc [.lst 1 (dgs D) .no])],[109]⟩=some (.x 0,⟨[(9,.byt X (.id 109))],[(0,.rc [.byt seed .no]),(1,.rc [.int .i64 leaf]),(2,.rc [.lst 1 (dgs D) .no])],[109]⟩)):
 call T 135 [.int .i64 leaf,.fn 133 [] [.ptr 0 0,.ptr 1 0],.fn 136 [] [],.fn 137 [] [.ptr 2 0]] [.rc [.byt seed .no],.rc [.int .i64 leaf],.rc [.lst 1 (dgs D) .no]] 0=some ⟨.byt X .no,[(0,.rc [.byt seed .no]),(1,.rc [.int .i64 leaf]),(2,.rc [.lst 1 (dgs D) .no])],[]⟩:=by
 rw[aj NN];simp only[go_sem,Q0,Q1,Q2,Q3,Q4,Q5,Q6,Q7,Q8,Q9,Qa,Qb,Qc,Qd,Qe,Qf,Qg,Qh,Qi,Qj,Qk,reduceCtorEq,reduceIte,hg]
theorem xf5(leaf:Nat)(seed:List UInt8)(D:List Nat)(hs:seed.length<=64)(hD:D.length=35)(hd:∀c,c<35->D.getD c 0<=15)(F:Nat->List UInt8)(hF:∀c,c<35->F c=ec leaf c (0) (D.getD c 0-0) (eZ seed leaf c)):call T 135 [.int .i64 leaf,.fn 133 [] [.ptr 0 0,.ptr 1 0],.fn 136 [] [],.fn 137 [] [.ptr 2 0]] [.rc [.byt seed .no],.rc [.int .i64 leaf],.rc [.lst 1 (dgs D) .no]] 0=
 some ⟨.byt (cat 35 F) .no,[(0,.rc [.byt seed .no]),(1,.rc [.int .i64 leaf]),(2,.rc [.lst 1 (dgs D) .no])],[]⟩:=by
 have hq:=xfy leaf seed D hs hD hd F hF 35 0 [] rfl (by omega) rfl;rw[iv]at hq;exact xfR leaf seed D (cat 35 F) hq
theorem xfE(leaf c:Nat)(seed:List UInt8)(hs:seed.length<=64)(hc:c<35)(acc:List UInt8):∀(n p:Nat)(x:List UInt8),p+n=15->x.length<=1000000->
 run T (.loop ls) ⟨[(0,.int .i64 leaf),(1,.fn 187 [] [.ptr 0 0,.ptr 1 0]),(2,.fn 188 [] []),(3,.fn 189 [] []),(9,.byt acc (.id 109)),(10,.int .i64 c),(11,.byt x .no),(12,.int .i64 p),(13,.int .i64 c)],[(0,.rc [.byt seed .no]),(1,.rc [.int .i64 leaf])],[109]⟩=
 some (.x 2,⟨[(0,.int .i64 leaf),(1,.fn 187 [] [.ptr 0 0,.ptr 1 0]),(2,.fn 188 [] []),(3,.fn 189 [] []),(9,.byt acc (.id 109)),(11,.byt (ec leaf c p n x) .no),(13,.int .i64 c)],[(0,.rc [.byt seed .no]),(1,.rc [.int .i64 leaf])],[109]⟩):=by
 have gt:=f189 c;intro n;induction n with
 |zero=>
  intro p x h0 hx;have hp:p=15:=by omega
  have e15:((15:Nat):Int)=15:=rfl;rw[ah];simp only[hp,e15,go_sem,Q0,Q1,Q2,Q3,Q4,Q5,Q6,Q7,Q8,Q9,Qa,Qb,Qc,Qd,Qe,Qf,Qg,Qh,Qi,Qj,Qk,reduceCtorEq,reduceIte,gt,XV,ec]
 |succ n ih=>
  intro p x h0 hx;have ih':=ih (p+1) (oK leaf c p x) (by omega) (by rw[oK,dC];omega);have hlt:(p:Int)<15:=by omega
  have e1:=cR p (by omega);have g:=xcZ leaf c p x hx;rw[ah];simp only[go_sem,Q0,Q1,Q2,Q3,Q4,Q5,Q6,Q7,Q8,Q9,Qa,Qb,Qc,Qd,Qe,Qf,Qg,Qh,Qi,Qj,Qk,reduceCtorEq,reduceIte,gt,XV,hlt,e1,g,NO,ih',ec]
theorem xfA(leaf:Nat)(seed:List UInt8)(hs:seed.length<=64)(F:Nat->List UInt8)(hF:∀c,c<35->F c=ec leaf c (0) (15-0) (eZ seed leaf c)):∀(n c:Nat)(acc:List UInt8),35-c=n->c<=35->acc.length=16*c->
 run T (.loop hJ) ⟨[(0,.int .i64 leaf),(1,.fn 187 [] [.ptr 0 0,.ptr 1 0]),(2,.fn 188 [] []),(3,.fn 189 [] []),(9,.byt acc (.id 109)),(13,.int .i64 c)],[(0,.rc [.byt seed .no]),(1,.rc [.int .i64 leaf])],[109]⟩=
 some (.x 0,⟨[(9,.byt (acc++qm c F) (.id 109))],[(0,.rc [.byt seed .no]),(1,.rc [.int .i64 leaf])],[109]⟩):=by
 intro n;induction n with
 |zero=>
  intro c acc h0 h1 ha;have hi:c=35:=by omega
  subst hi;rw[jT,ah];simp only[c35,go_sem,Q0,Q1,Q2,Q3,Q4,Q5,Q6,Q7,Q8,Q9,Qa,Qb,Qc,Qd,Qe,Qf,Qg,Qh,Qi,Qj,Qk,reduceCtorEq,reduceIte,aZ]
 |succ n ih=>
  intro c acc h0 h1 ha;have hc:c<35:=by omega
  have hcI:(c:Int)<35:=by omega
  have e1:=cR c (by omega);have hsl:=ei leaf c (15-0) (0) (eZ seed leaf c) (dU seed leaf c);rw[<-hF c hc]at hsl;have ih':=ih (c+1) (acc++F c) (by omega) (by omega) (by rw[ac,hsl];omega);have g1:=xfE leaf c seed hs hc acc (15-0) (0) (eZ seed leaf c) (by omega) (by have hq:(eZ seed leaf c).length=16:=(dU seed leaf c);omega);have gs:=xlq seed leaf c hs;have gf:=xlp c;rw[<-hF c hc]at g1;rw[iw c hc];rw[av]at ih';generalize hst:F c=y at*;have c1:acc.length+y.length<=140737488355328:=by omega
  try simp only[aB]at g1
  rw[ah];simp only[go_sem,Q0,Q1,Q2,Q3,Q4,Q5,Q6,Q7,Q8,Q9,Qa,Qb,Qc,Qd,Qe,Qf,Qg,Qh,Qi,Qj,Qk,reduceCtorEq,reduceIte,hcI,e1,gs,gf,xhp,xho,g1,c1,ih']
theorem xfT(leaf:Nat)(seed:List UInt8)(X:List UInt8)(hg:run T (.loop hJ) ⟨[(0,.int .i64 leaf),(1,.fn 187 [] [.ptr 0 0,.ptr 1 0]),(2,.fn 188 [] []),(3,.fn 189 [] []),(9,.byt [] (.id 109)),(13,.int .i64 0)],[(0,.rc [.byt seed .no]),(1,.rc [.int .i64 leaf])],[109]⟩=some (.x 0,⟨[(9,.byt X (.id 109))],[(0,.rc [.byt seed .no]),(1,.rc [.int .i64 leaf])],[109]⟩)):
 call T 135 [.int .i64 leaf,.fn 187 [] [.ptr 0 0,.ptr 1 0],.fn 188 [] [],.fn 189 [] []] [.rc [.byt seed .no],.rc [.int .i64 leaf]] 0=some ⟨.byt X .no,[(0,.rc [.byt seed .no]),(1,.rc [.int .i64 leaf])],[]⟩:=by
 rw[aj NN];simp only[go_sem,Q0,Q1,Q2,Q3,Q4,Q5,Q6,Q7,Q8,Q9,Qa,Qb,Qc,Qd,Qe,Qf,Qg,Qh,Qi,Qj,Qk,reduceCtorEq,reduceIte,hg]
theorem xf7(leaf:Nat)(seed:List UInt8)(hs:seed.length<=64)(F:Nat->List UInt8)(hF:∀c,c<35->F c=ec leaf c (0) (15-0) (eZ seed leaf c)):call T 135 [.int .i64 leaf,.fn 187 [] [.ptr 0 0,.ptr 1 0],.fn 188 [] [],.fn 189 [] []] [.rc [.byt seed .no],.rc [.int .i64 leaf]] 0=
 some ⟨.byt (cat 35 F) .no,[(0,.rc [.byt seed .no]),(1,.rc [.int .i64 leaf])],[]⟩:=by
 have hq:=xfA leaf seed hs F hF 35 0 [] rfl (by omega) rfl;rw[iv]at hq;exact xfT leaf seed (cat 35 F) hq
theorem xfD(leaf c:Nat)(g:List UInt8)(D:List Nat)(hs:g.length=560)(hD:D.length=35)(hd:∀c,c<35->D.getD c 0<=15)(hc:c<35)(acc:List UInt8):∀(n p:Nat)(x:List UInt8),p+n=15->x.length<=1000000->
 run T (.loop ls) ⟨[(0,.int .i64 leaf),(1,.fn 146 [] [.ptr 0 0]),(2,.fn 148 [] [.ptr 1 0]),(3,.fn 149 [] []),(9,.byt acc (.id 109)),(10,.int .i64 c),(11,.byt x .no),(12,.int .i64 p),(13,.int .i64 c)],[(0,.rc [.byt g .no]),(1,.rc [.lst 1 (dgs D) .no])],[109]⟩=
 some (.x 2,⟨[(0,.int .i64 leaf),(1,.fn 146 [] [.ptr 0 0]),(2,.fn 148 [] [.ptr 1 0]),(3,.fn 149 [] []),(9,.byt acc (.id 109)),(11,.byt (ec leaf c p n x) .no),(13,.int .i64 c)],[(0,.rc [.byt g .no]),(1,.rc [.lst 1 (dgs D) .no])],[109]⟩):=by
 have gt:=xlB c;intro n;induction n with
 |zero=>
  intro p x h0 hx;have hp:p=15:=by omega
  have e15:((15:Nat):Int)=15:=rfl;rw[ah];simp only[hp,e15,go_sem,Q0,Q1,Q2,Q3,Q4,Q5,Q6,Q7,Q8,Q9,Qa,Qb,Qc,Qd,Qe,Qf,Qg,Qh,Qi,Qj,Qk,reduceCtorEq,reduceIte,gt,X0,ec]
 |succ n ih=>
  intro p x h0 hx;have ih':=ih (p+1) (oK leaf c p x) (by omega) (by rw[oK,dC];omega);have hlt:(p:Int)<15:=by omega
  have hdc:=hd c hc;have hDl:c<D.length:=by omega
  have e1:=cR p (by omega);have g:=xcZ leaf c p x hx;rw[ah];simp only[go_sem,Q0,Q1,Q2,Q3,Q4,Q5,Q6,Q7,Q8,Q9,Qa,Qb,Qc,Qd,Qe,Qf,Qg,Qh,Qi,Qj,Qk,reduceCtorEq,reduceIte,gt,X0,hlt,e1,g,NO,ih',ec]
theorem xfz(leaf:Nat)(g:List UInt8)(D:List Nat)(hs:g.length=560)(hD:D.length=35)(hd:∀c,c<35->D.getD c 0<=15)(F:Nat->List UInt8)(hF:∀c,c<35->F c=ec leaf c (D.getD c 0) (15-D.getD c 0) ((g.drop (16*c)).take 16)):∀(n c:Nat)(acc:List UInt8),35-c=n->c<=35->acc.length=16*c->
 run T (.loop hJ) ⟨[(0,.int .i64 leaf),(1,.fn 146 [] [.ptr 0 0]),(2,.fn 148 [] [.ptr 1 0]),(3,.fn 149 [] []),(9,.byt acc (.id 109)),(13,.int .i64 c)],[(0,.rc [.byt g .no]),(1,.rc [.lst 1 (dgs D) .no])],[109]⟩=
 some (.x 0,⟨[(9,.byt (acc++qm c F) (.id 109))],[(0,.rc [.byt g .no]),(1,.rc [.lst 1 (dgs D) .no])],[109]⟩):=by
 intro n;induction n with
 |zero=>
  intro c acc h0 h1 ha;have hi:c=35:=by omega
  subst hi;rw[jT,ah];simp only[c35,go_sem,Q0,Q1,Q2,Q3,Q4,Q5,Q6,Q7,Q8,Q9,Qa,Qb,Qc,Qd,Qe,Qf,Qg,Qh,Qi,Qj,Qk,reduceCtorEq,reduceIte,aZ]
 |succ n ih=>
  intro c acc h0 h1 ha;have hc:c<35:=by omega
  have hcI:(c:Int)<35:=by omega
  have e1:=cR c (by omega);have hdc:=hd c hc;have hDl:c<D.length:=by omega
  have hsl:=ei leaf c (15-D.getD c 0) (D.getD c 0) ((g.drop (16*c)).take 16) (by rw[ax,aQ];omega);rw[<-hF c hc]at hsl;have ih':=ih (c+1) (acc++F c) (by omega) (by omega) (by rw[ac,hsl];omega);have g1:=xfD leaf c g D hs hD hd hc acc (15-D.getD c 0) (D.getD c 0) ((g.drop (16*c)).take 16) (by omega) (by have hq:((g.drop (16*c)).take 16).length=16:=(by rw[ax,aQ];omega);omega);have gs:=xlD g c hc hs;have gf:=xlC D c (by omega);rw[<-hF c hc]at g1;rw[iw c hc];rw[av]at ih';generalize hst:F c=y at*;have c1:acc.length+y.length<=140737488355328:=by omega
  try simp only[aB]at g1
  rw[ah];simp only[go_sem,Q0,Q1,Q2,Q3,Q4,Q5,Q6,Q7,Q8,Q9,Qa,Qb,Qc,Qd,Qe,Qf,Qg,Qh,Qi,Qj,Qk,reduceCtorEq,reduceIte,hcI,e1,gs,gf,xhx,xhw,g1,c1,ih']
theorem xfS(leaf:Nat)(g:List UInt8)(D:List Nat)(X:List UInt8)(hg:run T (.loop hJ) ⟨[(0,.int .i64 leaf),(1,.fn 146 [] [.ptr 0 0]),(2,.fn 148 [] [.ptr 1 0]),(3,.fn 149 [] []),(9,.byt [] (.id 109)),(13,.int .i64 0)],[(0,.rc [.byt g .no]),(1,.rc [.lst 1 (dgs D) .no])],[109]⟩=some (.x 0,⟨[(9,.byt X (.id 109))],[(0,.rc [.byt g .no]),(1,.rc [.lst 1 (dgs D) .no])],[109]⟩)):
 call T 135 [.int .i64 leaf,.fn 146 [] [.ptr 0 0],.fn 148 [] [.ptr 1 0],.fn 149 [] []] [.rc [.byt g .no],.rc [.lst 1 (dgs D) .no]] 0=some ⟨.byt X .no,[(0,.rc [.byt g .no]),(1,.rc [.lst 1 (dgs D) .no])],[]⟩:=by
 rw[aj NN];simp only[go_sem,Q0,Q1,Q2,Q3,Q4,Q5,Q6,Q7,Q8,Q9,Qa,Qb,Qc,Qd,Qe,Qf,Qg,Qh,Qi,Qj,Qk,reduceCtorEq,reduceIte,hg]
theorem xf6(leaf:Nat)(g:List UInt8)(D:List Nat)(hs:g.length=560)(hD:D.length=35)(hd:∀c,c<35->D.getD c 0<=15)(F:Nat->List UInt8)(hF:∀c,c<35->F c=ec leaf c (D.getD c 0) (15-D.getD c 0) ((g.drop (16*c)).take 16)):call T 135 [.int .i64 leaf,.fn 146 [] [.ptr 0 0],.fn 148 [] [.ptr 1 0],.fn 149 [] []] [.rc [.byt g .no],.rc [.lst 1 (dgs D) .no]] 0=
 some ⟨.byt (cat 35 F) .no,[(0,.rc [.byt g .no]),(1,.rc [.lst 1 (dgs D) .no])],[]⟩:=by
 have hq:=xfz leaf g D hs hD hd F hF 35 0 [] rfl (by omega) rfl;rw[iv]at hq;exact xfS leaf g D (cat 35 F) hq
theorem f87(seed:List UInt8)(leaf:Nat)(msg:List UInt8)(hs:seed.length<=64)(hl:leaf<=255)(hm:msg.length<=100000000):call T 87 [.byt seed .no,.int .i64 leaf,.byt msg .no] [] 0=some ⟨.byt (jH seed leaf msg) .no,[],[]⟩:=by have g1:=xc2 leaf hl;have g2:=xjh msg hm;have g3:=xf5 leaf seed (gg msg) hs (lj msg) (lk msg) (fun c=>ec leaf c 0 ((gg msg).getD c 0) (eZ seed leaf c)) (fun c _=>by rw[Nat.sub_zero]);have e:(cat 35 fun c=>ec leaf c 0 ((gg msg).getD c 0) (eZ seed leaf c))=jH seed leaf msg:=rfl;rw[e]at g3;generalize jH seed leaf msg=X at*;rw[aj xmg];simp only[go_sem,Q0,Q1,Q2,Q3,Q4,Q5,Q6,Q7,Q8,Q9,Qa,Qb,Qc,Qd,Qe,Qf,Qg,Qh,Qi,Qj,Qk,reduceCtorEq,reduceIte,g1,g2,g3,NW,X8,NV]
theorem xc1(seed:List UInt8)(leaf:Nat)(hs:seed.length<=64)(hl:leaf<=255):call T 141 [.byt seed .no,.int .i64 leaf] [] 0=some ⟨.byt (pubL seed leaf) .no,[],[]⟩:=by have g1:=xc2 leaf hl;have g3:=xf7 leaf seed hs (fun c=>ec leaf c 0 15 (eZ seed leaf c)) (fun c _=>rfl);have hc:=kp (fun c=>ec leaf c 0 15 (eZ seed leaf c)) 35 (fun c _=>ei _ _ _ _ _ (dU _ _ _));have g4:=xjb leaf (cat 35 fun c=>ec leaf c 0 15 (eZ seed leaf c)) (by rw[hc];decide);unfold pubL;generalize (cat 35 fun c=>ec leaf c 0 15 (eZ seed leaf c))=X at*;generalize tn leaf X=Y at*;rw[aj xgN];simp only[go_sem,Q0,Q1,Q2,Q3,Q4,Q5,Q6,Q7,Q8,Q9,Qa,Qb,Qc,Qd,Qe,Qf,Qg,Qh,Qi,Qj,Qk,reduceCtorEq,reduceIte,g1,g3,g4,NW,NV,X1]
theorem f94(leaf:Nat)(msg g:List UInt8)(hl:leaf<=255)(hg:g.length=560)(hm:msg.length<=100000000):call T 94 [.int .i64 leaf,.byt msg .no,.byt g .no] [] 0=some ⟨.tup [.byt (tN leaf msg g) .no,.bool true],[],[]⟩:=by
 have g1:=xc2 leaf hl;have g2:=xjh msg hm;have g3:=xf6 leaf g (gg msg) hg (lj msg) (lk msg) (fun c=>ec leaf c ((gg msg).getD c 0) (15-(gg msg).getD c 0) ((g.drop (16*c)).take 16)) (fun c _=>rfl);have hc:=kp (fun c=>ec leaf c ((gg msg).getD c 0) (15-(gg msg).getD c 0) ((g.drop (16*c)).take 16)) 35 (fun c hc=>ei _ _ _ _ _ (by rw[ax,aQ];omega));have g4:=xjb leaf _ (show(cat 35 fun c=>ec leaf c ((gg msg).getD c 0) (15-(gg msg).getD c 0) ((g.drop (16*c)).take 16)).length<=1000000 by rw[hc];decide);have e560:((560:Nat):Int)=560:=rfl;unfold tN;generalize (cat 35 fun c=>ec leaf c ((gg msg).getD c 0) (15-(gg msg).getD c 0) ((g.drop (16*c)).take 16))=X at*;generalize tn leaf X=Y at*;rw[aj xmc];simp only[go_sem,Q0,Q1,Q2,Q3,Q4,Q5,Q6,Q7,Q8,Q9,Qa,Qb,Qc,Qd,Qe,Qf,Qg,Qh,Qi,Qj,Qk,reduceCtorEq,reduceIte,g1,g2,hg,e560,g3,g4,NW,X8,NV,X1]
 trace_state
theorem xkI(M:List UInt8)(hM:M.length=16):∀(n i:Nat)(acc:List Nat)(s:Nat),16-i=n->i<=16->acc.length=2*i->s<=30*i->
 run T (.loop xx) ⟨[(3,.byt M .no),(4,.lst 1 (dgs acc) (.id 104)),(5,.int .i64 s),(6,.int .i64 i)],[],[104]⟩=
 some (.x 0,⟨[(4,.lst 1 (dgs (acc++dg (M.drop i))) (.id 104)),(5,.int .i64 (smF s (M.drop i)))],[],[104]⟩):=by
 intro n;induction n with
 |zero=>
  intro i acc s h0 h1 ha hs;have hi:i=16:=by omega
  subst hi;have hd:M.drop 16=[]:=bO (by omega);rw[hd,ah];simp only[c16,go_sem,Q0,Q1,Q2,Q3,Q4,Q5,Q6,Q7,Q8,Q9,Qa,Qb,Qc,Qd,Qe,Qf,Qg,Qh,Qi,Qj,Qk,reduceCtorEq,reduceIte,dg,smF,eI,aZ,Du]
 |succ n ih=>
  intro i acc s h0 h1 ha hs;have hi:i<16:=by omega
  have hiI:(i:Int)<16:=by omega
  have e1:=cR i (by omega);have hh:=ME (M.getD i 0);have hl:=Mz (M.getD i 0);have ih':=ih (i+1) (acc++ [hi4 (M.getD i 0),lo4 (M.getD i 0)]) (s+((15-hi4 (M.getD i 0))+(15-lo4 (M.getD i 0)))) (by omega) (by omega) (by simp;omega) (by omega);have a1:=MF (M.getD i 0);have a2:=MA (M.getD i 0);have hda:=Ba M i (by omega);have hsa:=tz s M i (by omega);generalize hc:M.getD i 0=z at*;have hdl:=jc acc;have w1:af.wrap (30-((hi4 z:Nat):Int))=((30-hi4 z:Nat):Int):=wZ (by omega)
  have w2:af.wrap (((30-hi4 z:Nat):Int)-((lo4 z:Nat):Int))=(((15-hi4 z)+(15-lo4 z):Nat):Int):=wZ (by omega)
  have w3:af.wrap ((s:Int)+(((15-hi4 z)+(15-lo4 z):Nat):Int))=((s+((15-hi4 z)+(15-lo4 z)):Nat):Int):=wZ (by omega)
  have c1:(acc.length+2)*8<=140737488355328:=by omega
  have hap:acc++dg (M.drop i)=acc++ [hi4 z,lo4 z]++dg (M.drop (i+1)):=by rw[hda,av];rfl
  rw[hap,hsa];simp only[nL,dgs,cE,aC,bH,av,aS,aF]at ih' hdl ⊢;rw[ah];simp only[go_sem,Q0,Q1,Q2,Q3,Q4,Q5,Q6,Q7,Q8,Q9,Qa,Qb,Qc,Qd,Qe,Qf,Qg,Qh,Qi,Qj,Qk,reduceCtorEq,reduceIte,hi,hiI,hM,hc,e1,a1,a2,w1,w2,w3,c1,hdl,ih',av,aS,aF]
theorem xlE(msg:List UInt8)(hm:msg.length<=100000000):call T 142 [.byt msg .no] [] 0=some ⟨.lst 1 (dgs (gg msg)) .no,[],[]⟩:=by
 have g1:=xlo 4 msg (by omega);rw[<-A3]at g1;have hl:=dC 4 [msg];have hh:=gA 4 [msg];have e32:((32:Nat):Int)=32:=rfl;have g2:=xkI (h16 4 [msg]) hl 16 0 [] 0 rfl (by omega) rfl (by omega);have hs:=M2 (h16 4 [msg]) 0;have es:smF 0 (h16 4 [msg])=sm (h16 4 [msg]):=rfl;rw[hl]at hs;change sm (h16 4 [msg])<=0+30*16 at hs;have hdl:=xT (h16 4 [msg]);rw[hl]at hdl;have hdd:=jc (dg (h16 4 [msg]));unfold gg;have e0:dgs []=[]:=rfl;simp only[aB,bj,aF,es,nL,e0]at g2 ⊢;have hu:(hsh 4 [msg]).take 16=h16 4 [msg]:=rfl;generalize hsm:sm (h16 4 [msg])=q at*;generalize dg (h16 4 [msg])=ds at*
 have q1:af.wrap ((q:Int).tdiv 256)=((q/256:Nat):Int):=by rw[Int.tdiv_eq_ediv_of_nonneg (by omega),w64 (by omega) (by omega)];omega
 have q2:af.wrap ((q:Int).tdiv 16)=((q/16:Nat):Int):=by rw[Int.tdiv_eq_ediv_of_nonneg (by omega),w64 (by omega) (by omega)];omega
 have q3:((q/16:Nat):Int).tmod 16=((q/16 % 16:Nat):Int):=by rw[gE (by omega)];omega
 have q4:(q:Int).tmod 16=((q % 16:Nat):Int):=by rw[gE (by omega)];omega
 have c3:(2*16+3)*8<=140737488355328:=by decide
 have e16:((16:Nat):Int)=16:=rfl;rw[aj xgM];simp only[go_sem,Q0,Q1,Q2,Q3,Q4,Q5,Q6,Q7,Q8,Q9,Qa,Qb,Qc,Qd,Qe,Qf,Qg,Qh,Qi,Qj,Qk,reduceCtorEq,reduceIte,g1,Dp,hh,e32,hu,hl,e16,g2];simp only[go_sem,Q0,Q1,Q2,Q3,Q4,Q5,Q6,Q7,Q8,Q9,Qa,Qb,Qc,Qd,Qe,Qf,Qg,Qh,Qi,Qj,Qk,reduceCtorEq,reduceIte,q1,q2,q3,q4,hdd,hdl,c3,dgs,aC,bH]
 trace_state
theorem xkM(seed:List UInt8)(leaf:Nat)(hs:seed.length<=64)(F:Nat->List UInt8)(hF:∀c,c<35->F c=ec leaf c 0 15 (eZ seed leaf c)):∀(n c:Nat)(acc:List UInt8),35-c=n->c<=35->acc.length=16*c->
 run T (.loop sG) ⟨[(0,.byt seed .no),(1,.int .i64 leaf),(5,.byt acc (.id 105)),(6,.int .i64 c)],[],[105]⟩=
 some (.x 0,⟨[(1,.int .i64 leaf),(5,.byt (acc++qm c F) (.id 105))],[],[105]⟩):=by
 intro n;induction n with
 |zero=>
  intro c acc h0 h1 ha;have hi:c=35:=by omega
  subst hi;rw[jT,ah];simp only[c35,go_sem,Q0,Q1,Q2,Q3,Q4,Q5,Q6,Q7,Q8,Q9,Qa,Qb,Qc,Qd,Qe,Qf,Qg,Qh,Qi,Qj,Qk,reduceCtorEq,reduceIte,aZ]
 |succ n ih=>
  intro c acc h0 h1 ha;have hc:c<35:=by omega
  have hcI:(c:Int)<35:=by omega
  have e1:=cR c (by omega);have hsl:=ei leaf c 15 0 (eZ seed leaf c) (dU seed leaf c);have gs:=xjd seed leaf c hs;have g1:=xje leaf c 0 15 15 (eZ seed leaf c) rfl (by omega) (by rw[dU];decide);rw[<-hF c hc]at hsl g1;rw[c0,c15]at g1;have ih':=ih (c+1) (acc++F c) (by omega) (by omega) (by rw[ac,hsl];omega);rw[iw c hc];rw[av]at ih';generalize hst:F c=y at*;have c1:acc.length+y.length<=140737488355328:=by omega
  rw[ah];simp only[go_sem,Q0,Q1,Q2,Q3,Q4,Q5,Q6,Q7,Q8,Q9,Qa,Qb,Qc,Qd,Qe,Qf,Qg,Qh,Qi,Qj,Qk,reduceCtorEq,reduceIte,hcI,e1,gs,g1,X3,X4,c1,ih']
theorem xkT(seed X Y:List UInt8)(leaf:Nat)(hl:leaf<=255)(hq:run T (.loop sG) ⟨[(0,.byt seed .no),(1,.int .i64 leaf),(5,.byt [] (.id 105)),(6,.int .i64 0)],[],[105]⟩=some (.x 0,⟨[(1,.int .i64 leaf),(5,.byt X (.id 105))],[],[105]⟩))
 (g4:call T 180 [.int .i64 leaf,.byt X .no] [] 0=some ⟨.byt Y .no,[],[]⟩):call T 125 [.byt seed .no,.int .i64 leaf] [] 0=some ⟨.byt Y .no,[],[]⟩:=by
 have h1:¬(leaf:Int)<0:=by omega
 have h2:¬(255:Int)<leaf:=by omega
 rw[aj xgZ];simp only[go_sem,Q0,Q1,Q2,Q3,Q4,Q5,Q6,Q7,Q8,Q9,Qa,Qb,Qc,Qd,Qe,Qf,Qg,Qh,Qi,Qj,Qk,reduceCtorEq,reduceIte,h1,h2,hq,g4,xhr]
theorem xkS(seed:List UInt8)(leaf:Nat)(hs:seed.length<=64)(hl:leaf<=255)(F:Nat->List UInt8)(hF:∀c,c<35->F c=ec leaf c 0 15 (eZ seed leaf c)):call T 125 [.byt seed .no,.int .i64 leaf] [] 0=some ⟨.byt (tn leaf (cat 35 F)) .no,[],[]⟩:=by have hq:=xkM seed leaf hs F hF 35 0 [] rfl (by omega) rfl;have hc:=kp F 35 (fun c hc=>by rw[hF c hc];exact ei _ _ _ _ _ (dU _ _ _));rw[iv]at hq;exact xkT seed (cat 35 F) _ leaf hl hq (xlu leaf (cat 35 F) (by rw[hc];decide))
theorem f125(seed:List UInt8)(leaf:Nat)(hs:seed.length<=64)(hl:leaf<=255):call T 125 [.byt seed .no,.int .i64 leaf] [] 0=some ⟨.byt (pubL seed leaf) .no,[],[]⟩:=
 xkS seed leaf hs hl (fun c=>ec leaf c 0 15 (eZ seed leaf c)) (fun c _=>rfl)
theorem l91(seed:List UInt8)(leaf:Nat)(D:List Nat)(hs:seed.length<=64)(hD:D.length=35)(hd:∀c,c<35->D.getD c 0<=15)(F:Nat->List UInt8)(hF:∀c,c<35->F c=ec leaf c 0 (D.getD c 0) (eZ seed leaf c)):∀(n c:Nat)(acc:List UInt8),35-c=n->c<=35->acc.length=16*c->
 run T (.loop C3) ⟨[(0,.byt seed .no),(1,.int .i64 leaf),(7,.lst 1 (dgs D) .no),(8,.byt acc (.id 108)),(9,.int .i64 c)],[],[108]⟩=
 some (.x 0,⟨[(8,.byt (acc++qm c F) (.id 108))],[],[108]⟩):=by
 intro n;induction n with
 |zero=>
  intro c acc h0 h1 ha;have hi:c=35:=by omega
  subst hi;rw[jT,ah];simp only[c35,go_sem,Q0,Q1,Q2,Q3,Q4,Q5,Q6,Q7,Q8,Q9,Qa,Qb,Qc,Qd,Qe,Qf,Qg,Qh,Qi,Qj,Qk,reduceCtorEq,reduceIte,aZ]
 |succ n ih=>
  intro c acc h0 h1 ha;have hc:c<35:=by omega
  have hcI:(c:Int)<35:=by omega
  have e1:=cR c (by omega);have hdl:=jc D;have hdg:=rF D c (by omega);have hsl:=ei leaf c (D.getD c 0) 0 (eZ seed leaf c) (dU seed leaf c);have gs:=xjd seed leaf c hs;have g1:=xje leaf c 0 (D.getD c 0) (D.getD c 0) (eZ seed leaf c) (cg _) (hd c hc) (by rw[dU];decide);rw[<-hF c hc]at hsl g1;rw[c0]at g1;have ih':=ih (c+1) (acc++F c) (by omega) (by omega) (by rw[ac,hsl];omega);rw[iw c hc];rw[av]at ih';generalize hst:F c=y at*;have c1:acc.length+y.length<=140737488355328:=by omega
  rw[ah];simp only[go_sem,Q0,Q1,Q2,Q3,Q4,Q5,Q6,Q7,Q8,Q9,Qa,Qb,Qc,Qd,Qe,Qf,Qg,Qh,Qi,Qj,Qk,reduceCtorEq,reduceIte,hcI,hc,hdl,hD,hdg,e1,gs,g1,X3,X4,c1,ih']
theorem h91(seed msg X:List UInt8)(D:List Nat)(leaf:Nat)(hl:leaf<=255)(g2:call T 142 [.byt msg .no] [] 0=some ⟨.lst 1 (dgs D) .no,[],[]⟩)(hq:run T (.loop C3) ⟨[(0,.byt seed .no),(1,.int .i64 leaf),(7,.lst 1 (dgs D) .no),(8,.byt [] (.id 108)),(9,.int .i64 0)],[],[108]⟩=some (.x 0,⟨[(8,.byt X (.id 108))],[],[108]⟩)):
 call T 91 [.byt seed .no,.int .i64 leaf,.byt msg .no] [] 0=some ⟨.byt X .no,[],[]⟩:=by
 have h1:¬(leaf:Int)<0:=by omega
 have h2:¬(255:Int)<leaf:=by omega
 rw[aj xme];simp only[go_sem,Q0,Q1,Q2,Q3,Q4,Q5,Q6,Q7,Q8,Q9,Qa,Qb,Qc,Qd,Qe,Qf,Qg,Qh,Qi,Qj,Qk,reduceCtorEq,reduceIte,h1,h2,hq,g2,xhy]
theorem k91(seed:List UInt8)(leaf:Nat)(msg:List UInt8)(hs:seed.length<=64)(hl:leaf<=255)(hm:msg.length<=100000000)(F:Nat->List UInt8)(hF:∀c,c<35->F c=ec leaf c 0 ((gg msg).getD c 0) (eZ seed leaf c)):
 call T 91 [.byt seed .no,.int .i64 leaf,.byt msg .no] [] 0=some ⟨.byt (cat 35 F) .no,[],[]⟩:=by
 have hq:=l91 seed leaf (gg msg) hs (lj msg) (lk msg) F hF 35 0 [] rfl (by omega) rfl;rw[iv]at hq;exact h91 seed msg (cat 35 F) (gg msg) leaf hl (xlE msg hm) hq
theorem f91(seed:List UInt8)(leaf:Nat)(msg:List UInt8)(hs:seed.length<=64)(hl:leaf<=255)(hm:msg.length<=100000000):call T 91 [.byt seed .no,.int .i64 leaf,.byt msg .no] [] 0=some ⟨.byt (jH seed leaf msg) .no,[],[]⟩:=
 k91 seed leaf msg hs hl hm (fun c=>ec leaf c 0 ((gg msg).getD c 0) (eZ seed leaf c)) (fun c _=>rfl)
end Go.Proofs.YtkggincjigbelaaGreatDoor
