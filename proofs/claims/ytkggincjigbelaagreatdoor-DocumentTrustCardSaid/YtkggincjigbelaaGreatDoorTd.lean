/- What the functions come to. No condition. -/
import Derived.Test.YtkggincjigbelaaGreatDoorTc
open Int renaming fdiv_eq_ediv_of_nonneg -> m4, natCast_zero -> aJ
open Go.IntKind renaming i64 -> af
open List renaming append_assoc -> aY, append_nil -> br, cons_append -> bo, drop_eq_getElem_cons -> c9, drop_eq_nil_of_le -> bH, drop_take -> xM, drop_zero -> bK, flatMap_cons -> dw, flatMap_nil -> fM, getD_eq_getElem?_getD -> aa, length_append -> ai, length_drop -> aS, length_take -> ax, map_append -> c7, map_cons -> aD, map_nil -> b8, nil_append -> aQ, range -> bw
open Nat renaming le_refl -> aP, mod_eq_of_lt -> cr
open UInt8 renaming ofNat -> cK
set_option maxRecDepth 100000
set_option maxHeartbeats 16000000
set_option linter.unusedSimpArgs false
set_option linter.unusedVariables false
namespace Go.Proofs.YtkggincjigbelaaGreatDoor
open Go.Sy
open UInt8 renaming reduceLT -> Q0, reduceLE -> Q1
open Int renaming reduceToNat -> Q2, reduceLE -> Q3, reduceLT -> Q4, reduceEq -> Q5, reduceNe -> Q6, reduceNeg -> Q7, reduceAdd -> Q8, reduceSub -> Q9, reduceMul -> Qa
open Nat renaming reducePow -> Qb, reduceDiv -> Qc, reduceMod -> Qd, reduceAdd -> Qe, reduceSub -> Qf, reduceMul -> Qg, reduceLT -> Qh, reduceLeDiff -> Qi, reduceEqDiff -> Qj, reduceBEq -> Qk
theorem RU(leaf:Nat)(h:leaf<=255):call T 131 [.int .i64 leaf] [] 0=some ⟨.bool true,[],[]⟩:=by
 have h1:(0:Int)<=(leaf:Int):=by omega
 have h2:(leaf:Int)<=255:=by omega
 rw[ao Vr];simp only[go_sem,Q0,Q1,Q2,Q3,Q4,Q5,Q6,Q7,Q8,Q9,Qa,Qb,Qc,Qd,Qe,Qf,Qg,Qh,Qi,Qj,Qk,reduceCtorEq,reduceIte,h1,h2]
theorem RR(leaf c p:Nat)(x:List UInt8)(hx:x.length<=1000000):call T 184 [.int .i64 leaf,.int .i64 c,.int .i64 p,.byt x .no] [] 0=some ⟨.byt (mJ leaf c p x) .no,[],[]⟩:=by have g:=a183 1 [ub leaf,ub c,ub p] x (by simp) (by omega);have hl:=gE 1 [[ub leaf,ub c,ub p],x];unfold ub at g hl;rw[ao U7];simp only[go_sem,Q0,Q1,Q2,Q3,Q4,Q5,Q6,Q7,Q8,Q9,Qa,Qb,Qc,Qd,Qe,Qf,Qg,Qh,Qi,Qj,Qk,reduceCtorEq,reduceIte,g,xK,hl,c32,mJ,h16,ub]
theorem Xp(leaf:Nat)(x:List UInt8)(hx:x.length<=1000000):call T 147 [.int .i64 leaf,.byt x .no] [] 0=some ⟨.byt (pF leaf x) .no,[],[]⟩:=by have g:=a183 2 [ub leaf] x (by simp) (by omega);have hl:=gE 2 [[ub leaf],x];unfold ub at g hl;rw[ao Vf];simp only[go_sem,Q0,Q1,Q2,Q3,Q4,Q5,Q6,Q7,Q8,Q9,Qa,Qb,Qc,Qd,Qe,Qf,Qg,Qh,Qi,Qj,Qk,reduceCtorEq,reduceIte,g,xK,hl,c32,pF,h16,ub]
theorem Y0(leaf:Nat)(x:List UInt8)(hx:x.length<=1000000):call T 180 [.int .i64 leaf,.byt x .no] [] 0=some ⟨.byt (pF leaf x) .no,[],[]⟩:=by have g:=Xz 2 [ub leaf] x (by simp) (by omega);have hl:=gE 2 [[ub leaf],x];unfold ub at g hl;rw[ao U8];simp only[go_sem,Q0,Q1,Q2,Q3,Q4,Q5,Q6,Q7,Q8,Q9,Qa,Qb,Qc,Qd,Qe,Qf,Qg,Qh,Qi,Qj,Qk,reduceCtorEq,reduceIte,g,Fe,hl,c32,pF,h16,ub]
theorem Xs(seed:List UInt8)(leaf c:Nat)(hs:seed.length<=64):call T 134 [.byt seed .no,.int .i64 leaf,.int .i64 c] [] 0=some ⟨.byt (fB seed leaf c) .no,[],[]⟩:=by have g:=Xr seed jP [ub leaf,ub c] 16 (by decide) (by decide) hs (by decide) (by simp);unfold jP ub at g;rw[c16]at g;rw[ao Vo];simp only[go_sem,Q0,Q1,Q2,Q3,Q4,Q5,Q6,Q7,Q8,Q9,Qa,Qb,Qc,Qd,Qe,Qf,Qg,Qh,Qi,Qj,Qk,reduceCtorEq,reduceIte,g,Nj,fB,jP,ub]
theorem Y6(seed:List UInt8)(leaf c:Nat)(hs:seed.length<=64):call T 144 [.byt seed .no,.int .i64 leaf,.int .i64 c] [] 0=some ⟨.byt (fB seed leaf c) .no,[],[]⟩:=by have g:=Xq seed jP [ub leaf,ub c] 16 (by decide) (by decide) hs (by decide) (by simp);unfold jP ub at g;rw[c16]at g;rw[ao Vi];simp only[go_sem,Q0,Q1,Q2,Q3,Q4,Q5,Q6,Q7,Q8,Q9,Qa,Qb,Qc,Qd,Qe,Qf,Qg,Qh,Qi,Qj,Qk,reduceCtorEq,reduceIte,g,Ni,fB,jP,ub]
theorem Yw(leaf c to:Nat)(ht:to<=15):∀(n p:Nat)(x:List UInt8),p+n=to->x.length<=1000000->
 run T (.loop sI) ⟨[(0,.int .i64 leaf),(1,.int .i64 c),(3,.int .i64 to),(4,.byt x .no),(11,.int .i64 p)],[],[]⟩=
 some (.x 0,⟨[(4,.byt (dX leaf c p n x) .no)],[],[]⟩):=by
 intro n;induction n with
 |zero=>
  intro p x h0 hx;have hp:p=to:=by omega
  subst hp;rw[aq];simp only[go_sem,Q0,Q1,Q2,Q3,Q4,Q5,Q6,Q7,Q8,Q9,Qa,Qb,Qc,Qd,Qe,Qf,Qg,Qh,Qi,Qj,Qk,reduceCtorEq,reduceIte,dX]
 |succ n ih=>
  intro p x h0 hx;have ih':=ih (p+1) (mJ leaf c p x) (by omega) (by rw[mJ,dt];omega);have hlt:(p:Int)<(to:Int):=by omega
  have e1:=dF p (by omega);have g:=Xz 1 [ub leaf,ub c,ub p] x (by simp) (by omega);have hl:=gE 1 [[ub leaf,ub c,ub p],x];unfold mJ h16 at ih';unfold ub at g hl ih';rw[aq];simp only[go_sem,Q0,Q1,Q2,Q3,Q4,Q5,Q6,Q7,Q8,Q9,Qa,Qb,Qc,Qd,Qe,Qf,Qg,Qh,Qi,Qj,Qk,reduceCtorEq,reduceIte,hlt,e1,g,Fe,hl,c32,ih',dX,mJ,h16,ub]
theorem Y7(leaf c p n to:Nat)(x:List UInt8)(h:p+n=to)(ht:to<=15)(hx:x.length<=1000000):
 call T 143 [.int .i64 leaf,.int .i64 c,.int .i64 p,.int .i64 to,.byt x .no] [] 0=some ⟨.byt (dX leaf c p n x) .no,[],[]⟩:=by
 have g:=Yw leaf c to ht n p x h hx;rw[ao Vj];simp only[go_sem,Q0,Q1,Q2,Q3,Q4,Q5,Q6,Q7,Q8,Q9,Qa,Qb,Qc,Qd,Qe,Qf,Qg,Qh,Qi,Qj,Qk,reduceCtorEq,reduceIte,g]
def dgs(l:List Nat):List (List SV):=l.map fun(d:Nat)=> [.int .i64 (d:Int)]
theorem l4(l:List Nat):(dgs l).length=l.length:=by simp[dgs]
theorem u4(l:List Nat)(i:Nat)(h:i<l.length):(dgs l).getD i []=[.int .i64 ((l.getD i 0:Nat):Int)]:=by simp[dgs,aa,h]
theorem u5(a b:List Nat):dgs (a++b)=dgs a++dgs b:=by simp[dgs]
theorem Rc(b:UInt8):(cK (b.toNat/2^min 4 8)).toNat=hi4 b:=by
 have e:(2:Nat)^min 4 8=16:=by decide
 have:=b.toNat_lt;unfold hi4;rw[e,UInt8.toNat_ofNat',cr (by omega)]
theorem QY(b:UInt8):(b&&&15).toNat=lo4 b:=by unfold lo4;rw[UInt8.toNat_and];exact Nat.and_two_pow_sub_one_eq_mod b.toNat 4
theorem HH(M:List UInt8)(i:Nat)(h:i<M.length):dg (M.drop i)=hi4 (M.getD i 0)::lo4 (M.getD i 0)::dg (M.drop (i+1)):=by rw[ej M i h];rfl
def smF(s:Nat)(l:List UInt8):Nat:=l.foldl (fun s b=>s+((15-hi4 b)+(15-lo4 b))) s
theorem yg(s:Nat)(M:List UInt8)(i:Nat)(h:i<M.length):smF s (M.drop i)=smF (s+((15-hi4 (M.getD i 0))+(15-lo4 (M.getD i 0)))) (M.drop (i+1)):=by rw[ej M i h];rfl
theorem Rb(b:UInt8):hi4 b<=15:=by have:=b.toNat_lt;unfold hi4;omega
theorem QX(b:UInt8):lo4 b<=15:=by unfold lo4;omega
theorem Yx(M:List UInt8)(hM:M.length=16):∀(n i:Nat)(acc:List Nat)(s:Nat),16-i=n->i<=16->acc.length=2*i->s<=30*i->
 run T (.loop oi) ⟨[(3,.lst 1 (dgs acc) (.id 103)),(4,.int .i64 s),(12,.byt M .no),(13,.int .i64 16),(14,.int .i64 i)],[],[103]⟩=
 some (.x 0,⟨[(3,.lst 1 (dgs (acc++dg (M.drop i))) (.id 103)),(4,.int .i64 (smF s (M.drop i)))],[],[103]⟩):=by
 intro n;induction n with
 |zero=>
  intro i acc s h0 h1 ha hs;have hi:i=16:=by omega
  subst hi;have hd:M.drop 16=[]:=bH (by omega);rw[hd,aq];simp only[c16,go_sem,Q0,Q1,Q2,Q3,Q4,Q5,Q6,Q7,Q8,Q9,Qa,Qb,Qc,Qd,Qe,Qf,Qg,Qh,Qi,Qj,Qk,reduceCtorEq,reduceIte,dg,smF,fM,br,List.foldl_nil]
 |succ n ih=>
  intro i acc s h0 h1 ha hs;have hi:i<16:=by omega
  have hiI:(i:Int)<16:=by omega
  have e1:=dF i (by omega);have hh:=Rb (M.getD i 0);have hl:=QX (M.getD i 0);have ih':=ih (i+1) (acc++ [hi4 (M.getD i 0)]++ [lo4 (M.getD i 0)]) (s+((15-hi4 (M.getD i 0))+(15-lo4 (M.getD i 0)))) (by omega) (by omega) (by simp;omega) (by omega);have a1:=Rc (M.getD i 0);have a2:=QY (M.getD i 0);rw[HH M i (by omega),yg s M i (by omega)];generalize hc:M.getD i 0=z at*;generalize hi4 z=x at*;generalize lo4 z=y at*;have hdl:=l4 acc;have w1:af.wrap (15-(x:Int))=((15-x:Nat):Int):=wZ (by omega)
  have w2:af.wrap (15-(y:Int))=((15-y:Nat):Int):=wZ (by omega)
  have w3:af.wrap ((s:Int)+((15-x:Nat):Int))=((s+(15-x):Nat):Int):=wZ (by omega)
  have w5:af.wrap (((s+(15-x):Nat):Int)+((15-y:Nat):Int))=((s+((15-x)+(15-y)):Nat):Int):=wZ (by omega)
  have k1:af.wrap 1=1:=rfl;have k2:af.wrap 2=2:=rfl;have c1:(acc.length+1)*8<=140737488355328:=by omega
  have c2:(acc.length+1+1)*8<=140737488355328:=by omega
  simp only[u5,dgs,c7,aD,b8,aY,bo,aQ]at ih' hdl ⊢;rw[aq];simp only[go_sem,Q0,Q1,Q2,Q3,Q4,Q5,Q6,Q7,Q8,Q9,Qa,Qb,Qc,Qd,Qe,Qf,Qg,Qh,Qi,Qj,Qk,reduceCtorEq,reduceIte,hi,hiI,hM,hc,e1,a1,a2];rw[aq];simp (config:= {decide:=true}) only[go_sem,Q0,Q1,Q2,Q3,Q4,Q5,Q6,Q7,Q8,Q9,Qa,Qb,Qc,Qd,Qe,Qf,Qg,Qh,Qi,Qj,Qk,reduceCtorEq,reduceIte,w1,w3,k1,c1,hdl];rw[aq];simp (config:= {decide:=true}) only[go_sem,Q0,Q1,Q2,Q3,Q4,Q5,Q6,Q7,Q8,Q9,Qa,Qb,Qc,Qd,Qe,Qf,Qg,Qh,Qi,Qj,Qk,reduceCtorEq,reduceIte,w2,w5,k2,c1,c2,hdl];rw[aq];simp (config:= {decide:=true}) only[go_sem,Q0,Q1,Q2,Q3,Q4,Q5,Q6,Q7,Q8,Q9,Qa,Qb,Qc,Qd,Qe,Qf,Qg,Qh,Qi,Qj,Qk,reduceCtorEq,reduceIte,e1,c1,c2,ih',bo,aQ]
theorem Xt(msg:List UInt8)(hm:msg.length<=100000000):call T 132 [.byt msg .no] [] 0=some ⟨.lst 1 (dgs (gM msg)) .no,[],[]⟩:=by
 have g1:=YZ 4 msg (by omega);rw[<-Hf]at g1;have hl:=dt 4 [msg];have hh:=gE 4 [msg];have e32:((32:Nat):Int)=32:=rfl;have g2:=Yx (h16 4 [msg]) hl 16 0 [] 0 rfl (by omega) rfl (by omega);have hs:=Ih (h16 4 [msg]) 0;have es:smF 0 (h16 4 [msg])=sm (h16 4 [msg]):=rfl;rw[hl]at hs;change sm (h16 4 [msg])<=0+30*16 at hs;have hdl:=Eg (h16 4 [msg]);rw[hl]at hdl;have hdd:=l4 (dg (h16 4 [msg]));unfold gM;have e0:dgs []=[]:=rfl;simp only[aJ,bK,aQ,es,u5,e0]at g2 ⊢;have hu:(hsh 4 [msg]).take 16=h16 4 [msg]:=rfl;generalize hsm:sm (h16 4 [msg])=q at*;generalize dg (h16 4 [msg])=ds at*
 have q1:(q:Int).fdiv (2^min 8 64)=((q/256:Nat):Int):=by rw[show(2:Int)^min 8 64=256 from by decide,m4 _ (by decide)];omega
 have q2:(q:Int).fdiv (2^min 4 64)=((q/16:Nat):Int):=by rw[show(2:Int)^min 4 64=16 from by decide,m4 _ (by decide)];omega
 have q3:∀r:Nat,r<1000->bD .and .i64 (r:Int) 15=((r % 16:Nat):Int):=fun r hr=>by
  have e1:(BitVec.ofNat 64 r&&&BitVec.ofNat 64 15).toNat=r % 16:=by rw[BitVec.toNat_and,BitVec.toNat_ofNat,BitVec.toNat_ofNat,cr (by omega)];exact Nat.and_two_pow_sub_one_eq_mod r 4
  unfold bD;rw[show(15:Int)=((15:Nat):Int)from rfl];simp only[BitVec.ofInt_natCast];show af.wrap (((BitVec.ofNat 64 r&&&BitVec.ofNat 64 15).toNat:Nat):Int)=_;rw[e1];exact w64 (by omega) (by omega)
 have q4:=q3 q (by omega);have q5:=q3 (q/16) (by omega);have c3:(2*16+3)*8<=140737488355328:=by decide
 have e16:((16:Nat):Int)=16:=rfl;rw[ao Vq];simp only[go_sem,Q0,Q1,Q2,Q3,Q4,Q5,Q6,Q7,Q8,Q9,Qa,Qb,Qc,Qd,Qe,Qf,Qg,Qh,Qi,Qj,Qk,reduceCtorEq,reduceIte,g1,xK,hh,e32,hu,hl,e16,g2];simp only[go_sem,Q0,Q1,Q2,Q3,Q4,Q5,Q6,Q7,Q8,Q9,Qa,Qb,Qc,Qd,Qe,Qf,Qg,Qh,Qi,Qj,Qk,reduceCtorEq,reduceIte,q1,q2,q4,q5,hdd,hdl,c3,dgs,aD,b8]
 trace_state
def oC(c:Nat)(f:Nat->List UInt8):List UInt8:=((bw 35).drop c).flatMap f
theorem jc(f:Nat->List UInt8):oC 0 f=cat 35 f:=by unfold oC cat;rw[bK]
theorem j6(f:Nat->List UInt8):oC 35 f=[]:=by unfold oC;rw[bH (by rw[List.length_range];exact aP _)];rfl
theorem jd(c:Nat)(h:c<35)(f:Nat->List UInt8):oC c f=f c++oC (c+1) f:=by unfold oC;rw[c9 (by rw[List.length_range];exact h),List.getElem_range,dw]
theorem Za(seed:List UInt8)(leaf c:Nat)(hs:seed.length<=64):call T 133 [.int .i64 c,.ptr 0 0,.ptr 1 0] [.rc [.byt seed .no],.rc [.int .i64 leaf]] 0=some ⟨.byt (fB seed leaf c) .no,[(0,.rc [.byt seed .no]),(1,.rc [.int .i64 leaf])],[]⟩:=by have g:=Xs seed leaf c hs;rw[ao Vp];simp only[go_sem,Q0,Q1,Q2,Q3,Q4,Q5,Q6,Q7,Q8,Q9,Qa,Qb,Qc,Qd,Qe,Qf,Qg,Qh,Qi,Qj,Qk,reduceCtorEq,reduceIte,g,Nl]
theorem YX(seed:List UInt8)(leaf c:Nat)(hs:seed.length<=64):call T 187 [.int .i64 c,.ptr 0 0,.ptr 1 0] [.rc [.byt seed .no],.rc [.int .i64 leaf]] 0=some ⟨.byt (fB seed leaf c) .no,[(0,.rc [.byt seed .no]),(1,.rc [.int .i64 leaf])],[]⟩:=by have g:=Xs seed leaf c hs;rw[ao U4];simp only[go_sem,Q0,Q1,Q2,Q3,Q4,Q5,Q6,Q7,Q8,Q9,Qa,Qb,Qc,Qd,Qe,Qf,Qg,Qh,Qi,Qj,Qk,reduceCtorEq,reduceIte,g,Nl]
theorem Y9(c:Int):call T 136 [.int .i64 c] [] 0=some ⟨.int .i64 0,[],[]⟩:=by rw[ao Vn];simp only[go_sem,Q0,Q1,Q2,Q3,Q4,Q5,Q6,Q7,Q8,Q9,Qa,Qb,Qc,Qd,Qe,Qf,Qg,Qh,Qi,Qj,Qk,reduceCtorEq,reduceIte]
theorem YW(c:Int):call T 188 [.int .i64 c] [] 0=some ⟨.int .i64 0,[],[]⟩:=by rw[ao U3];simp only[go_sem,Q0,Q1,Q2,Q3,Q4,Q5,Q6,Q7,Q8,Q9,Qa,Qb,Qc,Qd,Qe,Qf,Qg,Qh,Qi,Qj,Qk,reduceCtorEq,reduceIte]
theorem f189(c:Int):call T 189 [.int .i64 c] [] 0=some ⟨.int .i64 15,[],[]⟩:=by rw[ao U2];simp only[go_sem,Q0,Q1,Q2,Q3,Q4,Q5,Q6,Q7,Q8,Q9,Qa,Qb,Qc,Qd,Qe,Qf,Qg,Qh,Qi,Qj,Qk,reduceCtorEq,reduceIte]
theorem Y3(c:Int):call T 149 [.int .i64 c] [] 0=some ⟨.int .i64 15,[],[]⟩:=by rw[ao Vd];simp only[go_sem,Q0,Q1,Q2,Q3,Q4,Q5,Q6,Q7,Q8,Q9,Qa,Qb,Qc,Qd,Qe,Qf,Qg,Qh,Qi,Qj,Qk,reduceCtorEq,reduceIte]
theorem Y8(D:List Nat)(c:Nat)(h:c<D.length):call T 137 [.int .i64 c,.ptr 0 0] [.rc [.lst 1 (dgs D) .no]] 0=some ⟨.int .i64 ((D.getD c 0:Nat):Int),[(0,.rc [.lst 1 (dgs D) .no])],[]⟩:=by have hl:=l4 D;have hg:=u4 D c h;rw[ao Vm];simp only[go_sem,Q0,Q1,Q2,Q3,Q4,Q5,Q6,Q7,Q8,Q9,Qa,Qb,Qc,Qd,Qe,Qf,Qg,Qh,Qi,Qj,Qk,reduceCtorEq,reduceIte,hl,h,hg]
theorem Y4(D:List Nat)(c:Nat)(h:c<D.length):call T 148 [.int .i64 c,.ptr 0 0] [.rc [.lst 1 (dgs D) .no]] 0=some ⟨.int .i64 ((D.getD c 0:Nat):Int),[(0,.rc [.lst 1 (dgs D) .no])],[]⟩:=by have hl:=l4 D;have hg:=u4 D c h;rw[ao Ve];simp only[go_sem,Q0,Q1,Q2,Q3,Q4,Q5,Q6,Q7,Q8,Q9,Qa,Qb,Qc,Qd,Qe,Qf,Qg,Qh,Qi,Qj,Qk,reduceCtorEq,reduceIte,hl,h,hg]
theorem Y5(g:List UInt8)(c:Nat)(h:c<35)(hl:g.length=560):call T 146 [.int .i64 c,.ptr 0 0] [.rc [.byt g .no]] 0=some ⟨.byt ((g.drop (16*c)).take 16) .no,[(0,.rc [.byt g .no])],[]⟩:=by
 have e1:af.wrap ((c:Int)*16)=((16*c:Nat):Int):=wZ (by omega)
 have e0:=dF c (by omega);have e2:af.wrap (((c+1:Nat):Int)*16)=((16*c+16:Nat):Int):=wZ (by omega)
 have h1:16*c<=16*c+16:=by omega
 have h2:16*c+16<=560:=by omega
 have h3:(g.take (16*c+16)).drop (16*c)=(g.drop (16*c)).take 16:=by rw[xM];congr 1;omega
 rw[ao Vg];simp only[go_sem,Q0,Q1,Q2,Q3,Q4,Q5,Q6,Q7,Q8,Q9,Qa,Qb,Qc,Qd,Qe,Qf,Qg,Qh,Qi,Qj,Qk,reduceCtorEq,reduceIte,e0,e1,e2,hl,h1,h2,h3]
theorem Ui(leaf c:Nat)(seed:List UInt8)(D:List Nat)(hs:seed.length<=64)(hD:D.length=35)(hd:∀c,c<35->D.getD c 0<=15)(hc:c<35)(acc:List UInt8):∀(n p:Nat)(x:List UInt8),p+n=D.getD c 0->x.length<=1000000->
 run T (.loop kb) ⟨[(0,.int .i64 leaf),(1,.fn 133 [] [.ptr 0 0,.ptr 1 0]),(2,.fn 136 [] []),(3,.fn 137 [] [.ptr 2 0]),(9,.byt acc (.id 109)),(10,.int .i64 c),(11,.byt x .no),(12,.int .i64 p),(13,.int .i64 c)],[(0,.rc [.byt seed .no]),(1,.rc [.int .i64 leaf]),(2,.rc [.lst 1 (dgs D) .no])],[109]⟩=
 some (.x 2,⟨[(0,.int .i64 leaf),(1,.fn 133 [] [.ptr 0 0,.ptr 1 0]),(2,.fn 136 [] []),(3,.fn 137 [] [.ptr 2 0]),(9,.byt acc (.id 109)),(11,.byt (dX leaf c p n x) .no),(13,.int .i64 c)],[(0,.rc [.byt seed .no]),(1,.rc [.int .i64 leaf]),(2,.rc [.lst 1 (dgs D) .no])],[109]⟩):=by
 have gt:=Y8 D c (by omega);intro n;induction n with
 |zero=>
  intro p x h0 hx;have hp:p=D.getD c 0:=by omega
  have e15:((15:Nat):Int)=15:=rfl;rw[aq];simp only[hp,e15,go_sem,Q0,Q1,Q2,Q3,Q4,Q5,Q6,Q7,Q8,Q9,Qa,Qb,Qc,Qd,Qe,Qf,Qg,Qh,Qi,Qj,Qk,reduceCtorEq,reduceIte,gt,Nk,dX]
 |succ n ih=>
  intro p x h0 hx;have ih':=ih (p+1) (mJ leaf c p x) (by omega) (by rw[mJ,dt];omega);have hlt:(p:Int)<((D.getD c 0:Nat):Int):=by omega
  have hdc:=hd c hc;have hDl:c<D.length:=by omega
  have e1:=dF p (by omega);have g:=RR leaf c p x hx;rw[aq];simp only[go_sem,Q0,Q1,Q2,Q3,Q4,Q5,Q6,Q7,Q8,Q9,Qa,Qb,Qc,Qd,Qe,Qf,Qg,Qh,Qi,Qj,Qk,reduceCtorEq,reduceIte,gt,Nk,hlt,e1,g,Ff,ih',dX]
theorem Ue(leaf:Nat)(seed:List UInt8)(D:List Nat)(hs:seed.length<=64)(hD:D.length=35)(hd:∀c,c<35->D.getD c 0<=15)(F:Nat->List UInt8)(hF:∀c,c<35->F c=dX leaf c (0) (D.getD c 0-0) (fB seed leaf c)):∀(n c:Nat)(acc:List UInt8),35-c=n->c<=35->acc.length=16*c->
 run T (.loop gx) ⟨[(0,.int .i64 leaf),(1,.fn 133 [] [.ptr 0 0,.ptr 1 0]),(2,.fn 136 [] []),(3,.fn 137 [] [.ptr 2 0]),(9,.byt acc (.id 109)),(13,.int .i64 c)],[(0,.rc [.byt seed .no]),(1,.rc [.int .i64 leaf]),(2,.rc [.lst 1 (dgs D) .no])],[109]⟩=
 some (.x 0,⟨[(9,.byt (acc++oC c F) (.id 109))],[(0,.rc [.byt seed .no]),(1,.rc [.int .i64 leaf]),(2,.rc [.lst 1 (dgs D) .no])],[109]⟩):=by
 intro n;induction n with
 |zero=>
  intro c acc h0 h1 ha;have hi:c=35:=by omega
  subst hi;rw[j6,aq];simp only[c35,go_sem,Q0,Q1,Q2,Q3,Q4,Q5,Q6,Q7,Q8,Q9,Qa,Qb,Qc,Qd,Qe,Qf,Qg,Qh,Qi,Qj,Qk,reduceCtorEq,reduceIte,br]
 |succ n ih=>
  intro c acc h0 h1 ha;have hc:c<35:=by omega
  have hcI:(c:Int)<35:=by omega
  have e1:=dF c (by omega);have hdc:=hd c hc;have hDl:c<D.length:=by omega
  have hsl:=ee leaf c (D.getD c 0-0) (0) (fB seed leaf c) (eg seed leaf c);rw[<-hF c hc]at hsl;have ih':=ih (c+1) (acc++F c) (by omega) (by omega) (by rw[ai,hsl];omega);have g1:=Ui leaf c seed D hs hD hd hc acc (D.getD c 0-0) (0) (fB seed leaf c) (by omega) (by have hq:(fB seed leaf c).length=16:=(eg seed leaf c);omega);have gs:=Za seed leaf c hs;have gf:=Y9 c;rw[<-hF c hc]at g1;rw[jd c hc];rw[aY]at ih';generalize hst:F c=y at*;have c1:acc.length+y.length<=140737488355328:=by omega
  try simp only[aJ]at g1
  rw[aq];simp only[go_sem,Q0,Q1,Q2,Q3,Q4,Q5,Q6,Q7,Q8,Q9,Qa,Qb,Qc,Qd,Qe,Qf,Qg,Qh,Qi,Qj,Qk,reduceCtorEq,reduceIte,hcI,e1,gs,gf,VT,VS,g1,c1,ih']
theorem Uw(leaf:Nat)(seed:List UInt8)(D:List Nat)(X:List UInt8)(hg:run T (.loop gx) ⟨[(0,.int .i64 leaf),(1,.fn 133 [] [.ptr 0 0,.ptr 1 0]),(2,.fn 136 [] []),(3,.fn 137 [] [.ptr 2 0]),(9,.byt [] (.id 109)),(13,.int .i64 0)],[(0,.rc [.byt seed .no]),(1,.rc [.int .i64 leaf]),(2,.rc [.lst 1 (dgs D) .no])],[109]⟩=some (.x 0,⟨[(9,.byt X (.id 109))],[(0,.rc [.byt seed .no]),(1,.rc [.int .i64 leaf]),(2,.rc [.lst 1 (dgs D) .no])],[109]⟩)):
 call T 135 [.int .i64 leaf,.fn 133 [] [.ptr 0 0,.ptr 1 0],.fn 136 [] [],.fn 137 [] [.ptr 2 0]] [.rc [.byt seed .no],.rc [.int .i64 leaf],.rc [.lst 1 (dgs D) .no]] 0=some ⟨.byt X .no,[(0,.rc [.byt seed .no]),(1,.rc [.int .i64 leaf]),(2,.rc [.lst 1 (dgs D) .no])],[]⟩:=by
 rw[ao Fc];simp only[go_sem,Q0,Q1,Q2,Q3,Q4,Q5,Q6,Q7,Q8,Q9,Qa,Qb,Qc,Qd,Qe,Qf,Qg,Qh,Qi,Qj,Qk,reduceCtorEq,reduceIte,hg]
theorem UH(leaf:Nat)(seed:List UInt8)(D:List Nat)(hs:seed.length<=64)(hD:D.length=35)(hd:∀c,c<35->D.getD c 0<=15)(F:Nat->List UInt8)(hF:∀c,c<35->F c=dX leaf c (0) (D.getD c 0-0) (fB seed leaf c)):call T 135 [.int .i64 leaf,.fn 133 [] [.ptr 0 0,.ptr 1 0],.fn 136 [] [],.fn 137 [] [.ptr 2 0]] [.rc [.byt seed .no],.rc [.int .i64 leaf],.rc [.lst 1 (dgs D) .no]] 0=
 some ⟨.byt (cat 35 F) .no,[(0,.rc [.byt seed .no]),(1,.rc [.int .i64 leaf]),(2,.rc [.lst 1 (dgs D) .no])],[]⟩:=by
 have hq:=Ue leaf seed D hs hD hd F hF 35 0 [] rfl (by omega) rfl;rw[jc]at hq;exact Uw leaf seed D (cat 35 F) hq
theorem Uk(leaf c:Nat)(seed:List UInt8)(hs:seed.length<=64)(hc:c<35)(acc:List UInt8):∀(n p:Nat)(x:List UInt8),p+n=15->x.length<=1000000->
 run T (.loop kb) ⟨[(0,.int .i64 leaf),(1,.fn 187 [] [.ptr 0 0,.ptr 1 0]),(2,.fn 188 [] []),(3,.fn 189 [] []),(9,.byt acc (.id 109)),(10,.int .i64 c),(11,.byt x .no),(12,.int .i64 p),(13,.int .i64 c)],[(0,.rc [.byt seed .no]),(1,.rc [.int .i64 leaf])],[109]⟩=
 some (.x 2,⟨[(0,.int .i64 leaf),(1,.fn 187 [] [.ptr 0 0,.ptr 1 0]),(2,.fn 188 [] []),(3,.fn 189 [] []),(9,.byt acc (.id 109)),(11,.byt (dX leaf c p n x) .no),(13,.int .i64 c)],[(0,.rc [.byt seed .no]),(1,.rc [.int .i64 leaf])],[109]⟩):=by
 have gt:=f189 c;intro n;induction n with
 |zero=>
  intro p x h0 hx;have hp:p=15:=by omega
  have e15:((15:Nat):Int)=15:=rfl;rw[aq];simp only[hp,e15,go_sem,Q0,Q1,Q2,Q3,Q4,Q5,Q6,Q7,Q8,Q9,Qa,Qb,Qc,Qd,Qe,Qf,Qg,Qh,Qi,Qj,Qk,reduceCtorEq,reduceIte,gt,Nb,dX]
 |succ n ih=>
  intro p x h0 hx;have ih':=ih (p+1) (mJ leaf c p x) (by omega) (by rw[mJ,dt];omega);have hlt:(p:Int)<15:=by omega
  have e1:=dF p (by omega);have g:=RR leaf c p x hx;rw[aq];simp only[go_sem,Q0,Q1,Q2,Q3,Q4,Q5,Q6,Q7,Q8,Q9,Qa,Qb,Qc,Qd,Qe,Qf,Qg,Qh,Qi,Qj,Qk,reduceCtorEq,reduceIte,gt,Nb,hlt,e1,g,Ff,ih',dX]
theorem Ug(leaf:Nat)(seed:List UInt8)(hs:seed.length<=64)(F:Nat->List UInt8)(hF:∀c,c<35->F c=dX leaf c (0) (15-0) (fB seed leaf c)):∀(n c:Nat)(acc:List UInt8),35-c=n->c<=35->acc.length=16*c->
 run T (.loop gx) ⟨[(0,.int .i64 leaf),(1,.fn 187 [] [.ptr 0 0,.ptr 1 0]),(2,.fn 188 [] []),(3,.fn 189 [] []),(9,.byt acc (.id 109)),(13,.int .i64 c)],[(0,.rc [.byt seed .no]),(1,.rc [.int .i64 leaf])],[109]⟩=
 some (.x 0,⟨[(9,.byt (acc++oC c F) (.id 109))],[(0,.rc [.byt seed .no]),(1,.rc [.int .i64 leaf])],[109]⟩):=by
 intro n;induction n with
 |zero=>
  intro c acc h0 h1 ha;have hi:c=35:=by omega
  subst hi;rw[j6,aq];simp only[c35,go_sem,Q0,Q1,Q2,Q3,Q4,Q5,Q6,Q7,Q8,Q9,Qa,Qb,Qc,Qd,Qe,Qf,Qg,Qh,Qi,Qj,Qk,reduceCtorEq,reduceIte,br]
 |succ n ih=>
  intro c acc h0 h1 ha;have hc:c<35:=by omega
  have hcI:(c:Int)<35:=by omega
  have e1:=dF c (by omega);have hsl:=ee leaf c (15-0) (0) (fB seed leaf c) (eg seed leaf c);rw[<-hF c hc]at hsl;have ih':=ih (c+1) (acc++F c) (by omega) (by omega) (by rw[ai,hsl];omega);have g1:=Uk leaf c seed hs hc acc (15-0) (0) (fB seed leaf c) (by omega) (by have hq:(fB seed leaf c).length=16:=(eg seed leaf c);omega);have gs:=YX seed leaf c hs;have gf:=YW c;rw[<-hF c hc]at g1;rw[jd c hc];rw[aY]at ih';generalize hst:F c=y at*;have c1:acc.length+y.length<=140737488355328:=by omega
  try simp only[aJ]at g1
  rw[aq];simp only[go_sem,Q0,Q1,Q2,Q3,Q4,Q5,Q6,Q7,Q8,Q9,Qa,Qb,Qc,Qd,Qe,Qf,Qg,Qh,Qi,Qj,Qk,reduceCtorEq,reduceIte,hcI,e1,gs,gf,VJ,VI,g1,c1,ih']
theorem Uy(leaf:Nat)(seed:List UInt8)(X:List UInt8)(hg:run T (.loop gx) ⟨[(0,.int .i64 leaf),(1,.fn 187 [] [.ptr 0 0,.ptr 1 0]),(2,.fn 188 [] []),(3,.fn 189 [] []),(9,.byt [] (.id 109)),(13,.int .i64 0)],[(0,.rc [.byt seed .no]),(1,.rc [.int .i64 leaf])],[109]⟩=some (.x 0,⟨[(9,.byt X (.id 109))],[(0,.rc [.byt seed .no]),(1,.rc [.int .i64 leaf])],[109]⟩)):
 call T 135 [.int .i64 leaf,.fn 187 [] [.ptr 0 0,.ptr 1 0],.fn 188 [] [],.fn 189 [] []] [.rc [.byt seed .no],.rc [.int .i64 leaf]] 0=some ⟨.byt X .no,[(0,.rc [.byt seed .no]),(1,.rc [.int .i64 leaf])],[]⟩:=by
 rw[ao Fc];simp only[go_sem,Q0,Q1,Q2,Q3,Q4,Q5,Q6,Q7,Q8,Q9,Qa,Qb,Qc,Qd,Qe,Qf,Qg,Qh,Qi,Qj,Qk,reduceCtorEq,reduceIte,hg]
theorem UJ(leaf:Nat)(seed:List UInt8)(hs:seed.length<=64)(F:Nat->List UInt8)(hF:∀c,c<35->F c=dX leaf c (0) (15-0) (fB seed leaf c)):call T 135 [.int .i64 leaf,.fn 187 [] [.ptr 0 0,.ptr 1 0],.fn 188 [] [],.fn 189 [] []] [.rc [.byt seed .no],.rc [.int .i64 leaf]] 0=
 some ⟨.byt (cat 35 F) .no,[(0,.rc [.byt seed .no]),(1,.rc [.int .i64 leaf])],[]⟩:=by
 have hq:=Ug leaf seed hs F hF 35 0 [] rfl (by omega) rfl;rw[jc]at hq;exact Uy leaf seed (cat 35 F) hq
theorem Uj(leaf c:Nat)(g:List UInt8)(D:List Nat)(hs:g.length=560)(hD:D.length=35)(hd:∀c,c<35->D.getD c 0<=15)(hc:c<35)(acc:List UInt8):∀(n p:Nat)(x:List UInt8),p+n=15->x.length<=1000000->
 run T (.loop kb) ⟨[(0,.int .i64 leaf),(1,.fn 146 [] [.ptr 0 0]),(2,.fn 148 [] [.ptr 1 0]),(3,.fn 149 [] []),(9,.byt acc (.id 109)),(10,.int .i64 c),(11,.byt x .no),(12,.int .i64 p),(13,.int .i64 c)],[(0,.rc [.byt g .no]),(1,.rc [.lst 1 (dgs D) .no])],[109]⟩=
 some (.x 2,⟨[(0,.int .i64 leaf),(1,.fn 146 [] [.ptr 0 0]),(2,.fn 148 [] [.ptr 1 0]),(3,.fn 149 [] []),(9,.byt acc (.id 109)),(11,.byt (dX leaf c p n x) .no),(13,.int .i64 c)],[(0,.rc [.byt g .no]),(1,.rc [.lst 1 (dgs D) .no])],[109]⟩):=by
 have gt:=Y3 c;intro n;induction n with
 |zero=>
  intro p x h0 hx;have hp:p=15:=by omega
  have e15:((15:Nat):Int)=15:=rfl;rw[aq];simp only[hp,e15,go_sem,Q0,Q1,Q2,Q3,Q4,Q5,Q6,Q7,Q8,Q9,Qa,Qb,Qc,Qd,Qe,Qf,Qg,Qh,Qi,Qj,Qk,reduceCtorEq,reduceIte,gt,Ng,dX]
 |succ n ih=>
  intro p x h0 hx;have ih':=ih (p+1) (mJ leaf c p x) (by omega) (by rw[mJ,dt];omega);have hlt:(p:Int)<15:=by omega
  have hdc:=hd c hc;have hDl:c<D.length:=by omega
  have e1:=dF p (by omega);have g:=RR leaf c p x hx;rw[aq];simp only[go_sem,Q0,Q1,Q2,Q3,Q4,Q5,Q6,Q7,Q8,Q9,Qa,Qb,Qc,Qd,Qe,Qf,Qg,Qh,Qi,Qj,Qk,reduceCtorEq,reduceIte,gt,Ng,hlt,e1,g,Ff,ih',dX]
theorem Uf(leaf:Nat)(g:List UInt8)(D:List Nat)(hs:g.length=560)(hD:D.length=35)(hd:∀c,c<35->D.getD c 0<=15)(F:Nat->List UInt8)(hF:∀c,c<35->F c=dX leaf c (D.getD c 0) (15-D.getD c 0) ((g.drop (16*c)).take 16)):∀(n c:Nat)(acc:List UInt8),35-c=n->c<=35->acc.length=16*c->
 run T (.loop gx) ⟨[(0,.int .i64 leaf),(1,.fn 146 [] [.ptr 0 0]),(2,.fn 148 [] [.ptr 1 0]),(3,.fn 149 [] []),(9,.byt acc (.id 109)),(13,.int .i64 c)],[(0,.rc [.byt g .no]),(1,.rc [.lst 1 (dgs D) .no])],[109]⟩=
 some (.x 0,⟨[(9,.byt (acc++oC c F) (.id 109))],[(0,.rc [.byt g .no]),(1,.rc [.lst 1 (dgs D) .no])],[109]⟩):=by
 intro n;induction n with
 |zero=>
  intro c acc h0 h1 ha;have hi:c=35:=by omega
  subst hi;rw[j6,aq];simp only[c35,go_sem,Q0,Q1,Q2,Q3,Q4,Q5,Q6,Q7,Q8,Q9,Qa,Qb,Qc,Qd,Qe,Qf,Qg,Qh,Qi,Qj,Qk,reduceCtorEq,reduceIte,br]
 |succ n ih=>
  intro c acc h0 h1 ha;have hc:c<35:=by omega
  have hcI:(c:Int)<35:=by omega
  have e1:=dF c (by omega);have hdc:=hd c hc;have hDl:c<D.length:=by omega
  have hsl:=ee leaf c (15-D.getD c 0) (D.getD c 0) ((g.drop (16*c)).take 16) (by rw[ax,aS];omega);rw[<-hF c hc]at hsl;have ih':=ih (c+1) (acc++F c) (by omega) (by omega) (by rw[ai,hsl];omega);have g1:=Uj leaf c g D hs hD hd hc acc (15-D.getD c 0) (D.getD c 0) ((g.drop (16*c)).take 16) (by omega) (by have hq:((g.drop (16*c)).take 16).length=16:=(by rw[ax,aS];omega);omega);have gs:=Y5 g c hc hs;have gf:=Y4 D c (by omega);rw[<-hF c hc]at g1;rw[jd c hc];rw[aY]at ih';generalize hst:F c=y at*;have c1:acc.length+y.length<=140737488355328:=by omega
  try simp only[aJ]at g1
  rw[aq];simp only[go_sem,Q0,Q1,Q2,Q3,Q4,Q5,Q6,Q7,Q8,Q9,Qa,Qb,Qc,Qd,Qe,Qf,Qg,Qh,Qi,Qj,Qk,reduceCtorEq,reduceIte,hcI,e1,gs,gf,VP,VO,g1,c1,ih']
theorem Ux(leaf:Nat)(g:List UInt8)(D:List Nat)(X:List UInt8)(hg:run T (.loop gx) ⟨[(0,.int .i64 leaf),(1,.fn 146 [] [.ptr 0 0]),(2,.fn 148 [] [.ptr 1 0]),(3,.fn 149 [] []),(9,.byt [] (.id 109)),(13,.int .i64 0)],[(0,.rc [.byt g .no]),(1,.rc [.lst 1 (dgs D) .no])],[109]⟩=some (.x 0,⟨[(9,.byt X (.id 109))],[(0,.rc [.byt g .no]),(1,.rc [.lst 1 (dgs D) .no])],[109]⟩)):
 call T 135 [.int .i64 leaf,.fn 146 [] [.ptr 0 0],.fn 148 [] [.ptr 1 0],.fn 149 [] []] [.rc [.byt g .no],.rc [.lst 1 (dgs D) .no]] 0=some ⟨.byt X .no,[(0,.rc [.byt g .no]),(1,.rc [.lst 1 (dgs D) .no])],[]⟩:=by
 rw[ao Fc];simp only[go_sem,Q0,Q1,Q2,Q3,Q4,Q5,Q6,Q7,Q8,Q9,Qa,Qb,Qc,Qd,Qe,Qf,Qg,Qh,Qi,Qj,Qk,reduceCtorEq,reduceIte,hg]
theorem UI(leaf:Nat)(g:List UInt8)(D:List Nat)(hs:g.length=560)(hD:D.length=35)(hd:∀c,c<35->D.getD c 0<=15)(F:Nat->List UInt8)(hF:∀c,c<35->F c=dX leaf c (D.getD c 0) (15-D.getD c 0) ((g.drop (16*c)).take 16)):call T 135 [.int .i64 leaf,.fn 146 [] [.ptr 0 0],.fn 148 [] [.ptr 1 0],.fn 149 [] []] [.rc [.byt g .no],.rc [.lst 1 (dgs D) .no]] 0=
 some ⟨.byt (cat 35 F) .no,[(0,.rc [.byt g .no]),(1,.rc [.lst 1 (dgs D) .no])],[]⟩:=by
 have hq:=Uf leaf g D hs hD hd F hF 35 0 [] rfl (by omega) rfl;rw[jc]at hq;exact Ux leaf g D (cat 35 F) hq
theorem f87(seed:List UInt8)(leaf:Nat)(msg:List UInt8)(hs:seed.length<=64)(hl:leaf<=255)(hm:msg.length<=100000000):call T 87 [.byt seed .no,.int .i64 leaf,.byt msg .no] [] 0=some ⟨.byt (lz seed leaf msg) .no,[],[]⟩:=by have g1:=RU leaf hl;have g2:=Xt msg hm;have g3:=UH leaf seed (gM msg) hs (mA msg) (mB msg) (fun c=>dX leaf c 0 ((gM msg).getD c 0) (fB seed leaf c)) (fun c _=>by rw[Nat.sub_zero]);have e:(cat 35 fun c=>dX leaf c 0 ((gM msg).getD c 0) (fB seed leaf c))=lz seed leaf msg:=rfl;rw[e]at g3;generalize lz seed leaf msg=X at*;rw[ao Zw];simp only[go_sem,Q0,Q1,Q2,Q3,Q4,Q5,Q6,Q7,Q8,Q9,Qa,Qb,Qc,Qd,Qe,Qf,Qg,Qh,Qi,Qj,Qk,reduceCtorEq,reduceIte,g1,g2,g3,Fp,Nm,Fo]
theorem RT(seed:List UInt8)(leaf:Nat)(hs:seed.length<=64)(hl:leaf<=255):call T 141 [.byt seed .no,.int .i64 leaf] [] 0=some ⟨.byt (pubL seed leaf) .no,[],[]⟩:=by have g1:=RU leaf hl;have g3:=UJ leaf seed hs (fun c=>dX leaf c 0 15 (fB seed leaf c)) (fun c _=>rfl);have hc:=jq (fun c=>dX leaf c 0 15 (fB seed leaf c)) 35 (fun c _=>ee _ _ _ _ _ (eg _ _ _));have g4:=Xp leaf (cat 35 fun c=>dX leaf c 0 15 (fB seed leaf c)) (by rw[hc];decide);unfold pubL;generalize (cat 35 fun c=>dX leaf c 0 15 (fB seed leaf c))=X at*;generalize pF leaf X=Y at*;rw[ao Vk];simp only[go_sem,Q0,Q1,Q2,Q3,Q4,Q5,Q6,Q7,Q8,Q9,Qa,Qb,Qc,Qd,Qe,Qf,Qg,Qh,Qi,Qj,Qk,reduceCtorEq,reduceIte,g1,g3,g4,Fp,Fo,Nh]
theorem f94(leaf:Nat)(msg g:List UInt8)(hl:leaf<=255)(hg:g.length=560)(hm:msg.length<=100000000):call T 94 [.int .i64 leaf,.byt msg .no,.byt g .no] [] 0=some ⟨.tup [.byt (pU leaf msg g) .no,.bool true],[],[]⟩:=by
 have g1:=RU leaf hl;have g2:=Xt msg hm;have g3:=UI leaf g (gM msg) hg (mA msg) (mB msg) (fun c=>dX leaf c ((gM msg).getD c 0) (15-(gM msg).getD c 0) ((g.drop (16*c)).take 16)) (fun c _=>rfl);have hc:=jq (fun c=>dX leaf c ((gM msg).getD c 0) (15-(gM msg).getD c 0) ((g.drop (16*c)).take 16)) 35 (fun c hc=>ee _ _ _ _ _ (by rw[ax,aS];omega));have g4:=Xp leaf _ (show(cat 35 fun c=>dX leaf c ((gM msg).getD c 0) (15-(gM msg).getD c 0) ((g.drop (16*c)).take 16)).length<=1000000 by rw[hc];decide);have e560:((560:Nat):Int)=560:=rfl;unfold pU;generalize (cat 35 fun c=>dX leaf c ((gM msg).getD c 0) (15-(gM msg).getD c 0) ((g.drop (16*c)).take 16))=X at*;generalize pF leaf X=Y at*;rw[ao Zt];simp only[go_sem,Q0,Q1,Q2,Q3,Q4,Q5,Q6,Q7,Q8,Q9,Qa,Qb,Qc,Qd,Qe,Qf,Qg,Qh,Qi,Qj,Qk,reduceCtorEq,reduceIte,g1,g2,hg,e560,g3,g4,Fp,Nm,Fo,Nh]
 trace_state
theorem Yy(seed:List UInt8)(leaf:Nat)(hs:seed.length<=64)(F:Nat->List UInt8)(hF:∀c,c<35->F c=dX leaf c 0 15 (fB seed leaf c)):∀(n c:Nat)(acc:List UInt8),35-c=n->c<=35->acc.length=16*c->
 run T (.loop o6) ⟨[(0,.byt seed .no),(1,.int .i64 leaf),(5,.byt acc (.id 105)),(6,.int .i64 c)],[],[105]⟩=
 some (.x 0,⟨[(1,.int .i64 leaf),(5,.byt (acc++oC c F) (.id 105))],[],[105]⟩):=by
 intro n;induction n with
 |zero=>
  intro c acc h0 h1 ha;have hi:c=35:=by omega
  subst hi;rw[j6,aq];simp only[c35,go_sem,Q0,Q1,Q2,Q3,Q4,Q5,Q6,Q7,Q8,Q9,Qa,Qb,Qc,Qd,Qe,Qf,Qg,Qh,Qi,Qj,Qk,reduceCtorEq,reduceIte,br]
 |succ n ih=>
  intro c acc h0 h1 ha;have hc:c<35:=by omega
  have hcI:(c:Int)<35:=by omega
  have e1:=dF c (by omega);have hsl:=ee leaf c 15 0 (fB seed leaf c) (eg seed leaf c);have gs:=Y6 seed leaf c hs;have g1:=Y7 leaf c 0 15 15 (fB seed leaf c) rfl (by omega) (by rw[eg];decide);rw[<-hF c hc]at hsl g1;rw[c0,c15]at g1;have ih':=ih (c+1) (acc++F c) (by omega) (by omega) (by rw[ai,hsl];omega);rw[jd c hc];rw[aY]at ih';generalize hst:F c=y at*;have c1:acc.length+y.length<=140737488355328:=by omega
  rw[aq];simp only[go_sem,Q0,Q1,Q2,Q3,Q4,Q5,Q6,Q7,Q8,Q9,Qa,Qb,Qc,Qd,Qe,Qf,Qg,Qh,Qi,Qj,Qk,reduceCtorEq,reduceIte,hcI,e1,gs,g1,VQ,VR,c1,ih']
theorem YC(seed X Y:List UInt8)(leaf:Nat)(hl:leaf<=255)(hq:run T (.loop o6) ⟨[(0,.byt seed .no),(1,.int .i64 leaf),(5,.byt [] (.id 105)),(6,.int .i64 0)],[],[105]⟩=some (.x 0,⟨[(1,.int .i64 leaf),(5,.byt X (.id 105))],[],[105]⟩))
 (g4:call T 180 [.int .i64 leaf,.byt X .no] [] 0=some ⟨.byt Y .no,[],[]⟩):call T 125 [.byt seed .no,.int .i64 leaf] [] 0=some ⟨.byt Y .no,[],[]⟩:=by
 have h1:¬(leaf:Int)<0:=by omega
 have h2:¬(255:Int)<leaf:=by omega
 rw[ao Vs];simp only[go_sem,Q0,Q1,Q2,Q3,Q4,Q5,Q6,Q7,Q8,Q9,Qa,Qb,Qc,Qd,Qe,Qf,Qg,Qh,Qi,Qj,Qk,reduceCtorEq,reduceIte,h1,h2,hq,g4,VL]
theorem YB(seed:List UInt8)(leaf:Nat)(hs:seed.length<=64)(hl:leaf<=255)(F:Nat->List UInt8)(hF:∀c,c<35->F c=dX leaf c 0 15 (fB seed leaf c)):call T 125 [.byt seed .no,.int .i64 leaf] [] 0=some ⟨.byt (pF leaf (cat 35 F)) .no,[],[]⟩:=by have hq:=Yy seed leaf hs F hF 35 0 [] rfl (by omega) rfl;have hc:=jq F 35 (fun c hc=>by rw[hF c hc];exact ee _ _ _ _ _ (eg _ _ _));rw[jc]at hq;exact YC seed (cat 35 F) _ leaf hl hq (Y0 leaf (cat 35 F) (by rw[hc];decide))
theorem f125(seed:List UInt8)(leaf:Nat)(hs:seed.length<=64)(hl:leaf<=255):call T 125 [.byt seed .no,.int .i64 leaf] [] 0=some ⟨.byt (pubL seed leaf) .no,[],[]⟩:=
 YB seed leaf hs hl (fun c=>dX leaf c 0 15 (fB seed leaf c)) (fun c _=>rfl)
end Go.Proofs.YtkggincjigbelaaGreatDoor
