/- What the functions come to. No condition. -/
import Derived.Test.YtkggincjigbelaaGreatDoorTaD
open Int renaming natCast_zero -> aB, tmod_eq_emod_of_nonneg -> gE
open Go.IntKind renaming i64 -> af, u32 -> cK, u64 -> aI, wrap_u64 -> bQ
open List renaming append_assoc -> av, append_nil -> aZ, cons_append -> aS, drop_length -> bP, drop_take -> Dv, drop_zero -> bj, flatMap_cons -> dl, flatMap_nil -> eI, flatten_cons -> cT, getD_eq_getElem?_getD -> aa, getElem?_drop -> br, getElem?_eq_getElem -> ab, getElem?_map -> aO, length_append -> ac, length_cons -> ai, length_drop -> aQ, length_nil -> aw, length_replicate -> cj, length_singleton -> aV, length_take -> ax, map_cons -> aC, map_nil -> bH, nil_append -> aF, replicate -> aD, singleton_append -> dA, take -> kG, take_length -> bY, take_of_length_le -> bf
open Nat renaming add_zero -> fN, le_refl -> aH, mul_one -> fH
open UInt8 renaming ofInt -> co
set_option maxRecDepth 100000
set_option maxHeartbeats 16000000
set_option linter.unusedSimpArgs false
set_option linter.unusedVariables false
namespace Go.Proofs.YtkggincjigbelaaGreatDoor
open Go.Sy
open UInt8 renaming reduceLT -> Q0, reduceLE -> Q1
open Int renaming reduceToNat -> Q2, reduceLE -> Q3, reduceLT -> Q4, reduceEq -> Q5, reduceNe -> Q6, reduceNeg -> Q7, reduceAdd -> Q8, reduceSub -> Q9, reduceMul -> Qa
open Nat renaming reducePow -> Qb, reduceDiv -> Qc, reduceMod -> Qd, reduceAdd -> Qe, reduceSub -> Qf, reduceMul -> Qg, reduceLT -> Qh, reduceLeDiff -> Qi, reduceEqDiff -> Qj, reduceBEq -> Qk
def rr(x:Int)(n:Nat):Int:=bS .or .u32 (x.fdiv (2^n)) (cK.wrap (x*2^(32-n)))
theorem oZ(k:IntKind)(x y:Int):bS .or k x y=bS .or k y x:=by simp only[bS,BitVec.or_comm]
theorem uw(x:Int)(n:Nat)(h:n<=32):call T 120 [.int .u32 x,.int .u64 n] [] 0=some ⟨.int .u32 (rr x n),[],[]⟩:=by
 rw[aj xg3];have e:aI.wrap (32-(n:Int))=((32-n:Nat):Int):=by rw[bQ];omega
 have e2:min n 32=n:=by omega
 have e3:min (32-n) 32=32-n:=by omega
 have e4:(0:Int)<=((32-n:Nat):Int):=by omega
 simp only[go_sem,Q0,Q1,Q2,Q3,Q4,Q5,Q6,Q7,Q8,Q9,Qa,Qb,Qc,Qd,Qe,Qf,Qg,Qh,Qi,Qj,Qk,reduceCtorEq,reduceIte,e,e2,e3,e4,rr]
theorem uv(x k:Int)(n:Nat)(h:n<=32)(hk:bS .and .u64 (aI.wrap k) 31=((32-n:Nat):Int)):call T 167 [.int .u32 x,.int .i64 k] [] 0=some ⟨.int .u32 (rr x n),[],[]⟩:=by
 rw[aj xgz];have e:aI.wrap (32-((32-n:Nat):Int))=(n:Int):=by rw[bQ];omega
 have e2:min n 32=n:=by omega
 have e3:min (32-n) 32=32-n:=by omega
 simp only[go_sem,Q0,Q1,Q2,Q3,Q4,Q5,Q6,Q7,Q8,Q9,Qa,Qb,Qc,Qd,Qe,Qf,Qg,Qh,Qi,Qj,Qk,reduceCtorEq,reduceIte,hk,e,e2,e3,rr,oZ]
theorem m24:min 24 32=24:=rfl
theorem m16:min 16 32=16:=rfl
theorem m8:min 8 32=8:=rfl
theorem m3:min 3 32=3:=rfl
theorem m10:min 10 32=10:=rfl
def wd(B:List UInt8)(t:Nat):Int:=
 bS .or .u32 (bS .or .u32 (bS .or .u32 (cK.wrap (((B.getD (4*t) 0).toNat:Int)*2^24)) (cK.wrap (((B.getD (4*t+1) 0).toNat:Int)*2^16)))
  (cK.wrap (((B.getD (4*t+2) 0).toNat:Int)*2^8))) ((B.getD (4*t+3) 0).toNat:Int)
theorem xly(B:List UInt8)(t:Nat)(h:4*t+3<B.length)(hl:B.length<=1000000000000):call T 166 [.byt B .no,.int .i64 t] [] 0=some ⟨.int .u32 (wd B t),[],[]⟩:=by
 rw[aj xgA];have e0:af.wrap (4*(t:Int))=((4*t:Nat):Int):=wZ (by omega)
 have e1:af.wrap (((4*t:Nat):Int)+1)=((4*t+1:Nat):Int):=wZ (by omega)
 have e2:af.wrap (((4*t:Nat):Int)+2)=((4*t+2:Nat):Int):=wZ (by omega)
 have e3:af.wrap (((4*t:Nat):Int)+3)=((4*t+3:Nat):Int):=wZ (by omega)
 have h0:4*t<B.length:=by omega
 have h1:4*t+1<B.length:=by omega
 have h2:4*t+2<B.length:=by omega
 simp only[go_sem,Q0,Q1,Q2,Q3,Q4,Q5,Q6,Q7,Q8,Q9,Qa,Qb,Qc,Qd,Qe,Qf,Qg,Qh,Qi,Qj,Qk,reduceCtorEq,reduceIte,e0,e1,e2,e3,h,h0,h1,h2,wd,m24,m16,m8]
theorem xlL(B:List UInt8)(t:Nat)(h:4*t+3<B.length)(hl:B.length<=1000000000000):call T 119 [.byt B .no,.int .i64 t] [] 0=some ⟨.int .u32 (wd B t),[],[]⟩:=by
 rw[aj xg4];have e0:af.wrap (4*(t:Int))=((4*t:Nat):Int):=wZ (by omega)
 have e1:af.wrap (((4*t:Nat):Int)+1)=((4*t+1:Nat):Int):=wZ (by omega)
 have e2:af.wrap (((4*t:Nat):Int)+2)=((4*t+2:Nat):Int):=wZ (by omega)
 have e3:af.wrap (((4*t:Nat):Int)+3)=((4*t+3:Nat):Int):=wZ (by omega)
 have h0:4*t<B.length:=by omega
 have h1:4*t+1<B.length:=by omega
 have h2:4*t+2<B.length:=by omega
 simp only[go_sem,Q0,Q1,Q2,Q3,Q4,Q5,Q6,Q7,Q8,Q9,Qa,Qb,Qc,Qd,Qe,Qf,Qg,Qh,Qi,Qj,Qk,reduceCtorEq,reduceIte,e0,e1,e2,e3,h,h0,h1,h2,wd,m24,m16,m8]
def nw(B:List UInt8)(L:List Int)(t:Nat):Int:=
 if t<16 then wd B t else
  let x:=L.getD (t-15) 0
  let y:=L.getD (t-2) 0
  cK.wrap (cK.wrap (cK.wrap (bS .xor .u32 (bS .xor .u32 (rr y 17) (rr y 19)) (y.fdiv (2^10))+L.getD (t-7) 0)+
   bS .xor .u32 (bS .xor .u32 (rr x 7) (rr x 18)) (x.fdiv (2^3)))+L.getD (t-16) 0)
def Wl(B:List UInt8):Nat->List Int
 |0=>aD 64 0
 |t+1=>(Wl B t).set t (nw B (Wl B t) t)
theorem sR(B:List UInt8)(t:Nat):(Wl B t).length=64:=by
 induction t with
 |zero=>simp[Wl]
 |succ n ih=>simp[Wl,ih]
def ws(L:List Int):List (List SV):=L.map fun x=> [.int .u32 x]
theorem eW(L:List Int):(ws L).length=L.length:=by simp[ws]
theorem cS(L:List Int)(i:Nat)(h:i<L.length):(ws L).getD i []=[.int .u32 (L.getD i 0)]:=by simp[ws,aa,aO,ab h]
theorem sd(L:List Int)(i:Nat)(x:Int):(ws L).set i [.int .u32 x]=ws (L.set i x):=by unfold ws;rw[List.map_set]
theorem FO(n:Nat):aD n [SV.int .u32 0]=ws (aD n 0):=by unfold ws;rw[List.map_replicate]
theorem xfJ(B:List UInt8)(O:aE)(hB:B.length=64):∀(n t:Nat),64-t=n->t<=64->
 run T (.loop rf) ⟨[(0,.ptr 0 0),(1,.byt B .no),(4,.ptr 104 0),(17,.int .i64 t)],[(0,O),(104,.arr 1 (ws (Wl B t)))],[]⟩=
 some (.x 0,⟨[(0,.ptr 0 0),(4,.ptr 104 0)],[(0,O),(104,.arr 1 (ws (Wl B 64)))],[]⟩):=by
 intro n;induction n with
 |zero=>
  intro t h0 h1;have hi:t=64:=by omega
  subst hi;rw[ah];simp only[c64,go_sem,Q0,Q1,Q2,Q3,Q4,Q5,Q6,Q7,Q8,Q9,Qa,Qb,Qc,Qd,Qe,Qf,Qg,Qh,Qi,Qj,Qk,reduceCtorEq,reduceIte]
 |succ n ih=>
  intro t h0 h1;have ih':=ih (t+1) (by omega) (by omega);have e1:=cR t (by omega);have hlt:(t:Int)<64:=by omega
  have hl:=sR B t;have hw:=eW (Wl B t);have hn:t<64:=by omega
  have hs:Wl B (t+1)=(Wl B t).set t (nw B (Wl B t) t):=rfl;rw[ah]
  by_cases h16:t<16
  ·have g:=xly B t (by omega) (by omega)
   have h16':(t:Int)<16:=by omega
   have hx:nw B (Wl B t) t=wd B t:=by unfold nw;rw[if_pos h16]
   rw[hs,hx]at ih';simp only[go_sem,Q0,Q1,Q2,Q3,Q4,Q5,Q6,Q7,Q8,Q9,Qa,Qb,Qc,Qd,Qe,Qf,Qg,Qh,Qi,Qj,Qk,reduceCtorEq,reduceIte,hlt,h16',e1,g,hl,hw,xhu,hn,sd,ih']
  ·have h16':¬(t:Int)<16:=by omega
   have a15:af.wrap ((t:Int)-15)=((t-15:Nat):Int):=wZ (by omega)
   have a2:af.wrap ((t:Int)-2)=((t-2:Nat):Int):=wZ (by omega)
   have a7:af.wrap ((t:Int)-7)=((t-7:Nat):Int):=wZ (by omega)
   have a16:af.wrap ((t:Int)-16)=((t-16:Nat):Int):=wZ (by omega)
   have b15:t-15<64:=by omega
   have b2:t-2<64:=by omega
   have b7:t-7<64:=by omega
   have b16:t-16<64:=by omega
   have d15:=cS (Wl B t) (t-15) (by omega);have d2:=cS (Wl B t) (t-2) (by omega);have d7:=cS (Wl B t) (t-7) (by omega);have d16:=cS (Wl B t) (t-16) (by omega);have r7:=fun x=>uv x (-7) 7 (by omega) (by decide)
   have r18:=fun x=>uv x (-18) 18 (by omega) (by decide)
   have r17:=fun x=>uv x (-17) 17 (by omega) (by decide)
   have r19:=fun x=>uv x (-19) 19 (by omega) (by decide)
   rw[hs]at ih';unfold nw at ih';rw[if_neg h16]at ih';simp only[go_sem,Q0,Q1,Q2,Q3,Q4,Q5,Q6,Q7,Q8,Q9,Qa,Qb,Qc,Qd,Qe,Qf,Qg,Qh,Qi,Qj,Qk,reduceCtorEq,reduceIte,hlt,h16',e1,hl,hw,XZ,hn,a15,a2,a7,a16,b15,b2,b7,b16,d15,d2,d7,d16,r7,r18,r17,r19,sd,m3,m10,ih']
def Kl:List Int:=io.map fun| .int _ x=>x|_=>0
theorem yP:Kl.length=64:=rfl
theorem lR:io.length=64:=rfl
theorem xcU:io=Kl.map (SV.int .u32):=rfl
theorem xco{t:Nat}(h:t<64):(1<=(List.drop (t*1) io).length)=True:=by refine eq_true ?_;rw[aQ,lR];omega
theorem xcp{t:Nat}(h:t<64):(List.map SV.data (List.drop (t*1) io)).getD 0 SV.undef= .int .u32 (Kl.getD t 0):=by
 rw[xcU,aa,aO,br,aO,fH,fN,aa,
  ab (show t<Kl.length from h)]
 rfl
def rnd(k w:Int)(s:List Int):List Int:=
 let a:=s.getD 0 0
 let e:=s.getD 4 0
 let t1:=cK.wrap (cK.wrap (cK.wrap (cK.wrap (s.getD 7 0+bS .xor .u32 (bS .xor .u32 (rr e 6) (rr e 11)) (rr e 25))+
  bS .xor .u32 (bS .and .u32 e (s.getD 5 0)) (bS .and .u32 (bS .xor .u32 (if cK.signed=true then-1 else cK.max) e) (s.getD 6 0)))+k)+w)
 let t2:=cK.wrap (bS .xor .u32 (bS .xor .u32 (rr a 2) (rr a 13)) (rr a 22)+
  bS .xor .u32 (bS .xor .u32 (bS .and .u32 a (s.getD 1 0)) (bS .and .u32 a (s.getD 2 0))) (bS .and .u32 (s.getD 1 0) (s.getD 2 0)))
 [cK.wrap (t1+t2),a,s.getD 1 0,s.getD 2 0,cK.wrap (s.getD 3 0+t1),e,s.getD 5 0,s.getD 6 0]
theorem ws8(a b c d e f g h:Int):ws [a,b,c,d,e,f,g,h]=[[.int .u32 a],[.int .u32 b],[.int .u32 c],[.int .u32 d],[.int .u32 e],[.int .u32 f],[.int .u32 g],[.int .u32 h]]:=rfl
def rounds(W:List Int)(h:List Int):Nat->List Int
 |0=>h
 |t+1=>rnd (Kl.getD t 0) (W.getD t 0) (rounds W h t)
theorem gv(W h:List Int)(hh:h.length=8)(t:Nat):(rounds W h t).length=8:=by
 cases t<;>simp[rounds,rnd,hh]
theorem n6(x:Int):call T 167 [.int .u32 x,.int .i64 (-6)] [] 0=some ⟨.int .u32 (rr x 6),[],[]⟩:=uv x (-6) 6 (by omega) (by decide)
theorem n11(x:Int):call T 167 [.int .u32 x,.int .i64 (-11)] [] 0=some ⟨.int .u32 (rr x 11),[],[]⟩:=uv x (-11) 11 (by omega) (by decide)
theorem n25(x:Int):call T 167 [.int .u32 x,.int .i64 (-25)] [] 0=some ⟨.int .u32 (rr x 25),[],[]⟩:=uv x (-25) 25 (by omega) (by decide)
theorem n2(x:Int):call T 167 [.int .u32 x,.int .i64 (-2)] [] 0=some ⟨.int .u32 (rr x 2),[],[]⟩:=uv x (-2) 2 (by omega) (by decide)
theorem n13(x:Int):call T 167 [.int .u32 x,.int .i64 (-13)] [] 0=some ⟨.int .u32 (rr x 13),[],[]⟩:=uv x (-13) 13 (by omega) (by decide)
theorem n22(x:Int):call T 167 [.int .u32 x,.int .i64 (-22)] [] 0=some ⟨.int .u32 (rr x 22),[],[]⟩:=uv x (-22) 22 (by omega) (by decide)
theorem xfI(W h:List Int)(O:aE)(hW:W.length=64)(hh:h.length=8):∀(n t:Nat),64-t=n->t<=64->
 run T (.loop re) ⟨[(0,.ptr 0 0),(4,.ptr 104 0),(10,.ptr 110 0),(70,.int .i64 t)],[(0,O),(104,.arr 1 (ws W)),(110,.arr 1 (ws (rounds W h t)))],[]⟩=
 some (.x 2,⟨[(0,.ptr 0 0),(10,.ptr 110 0)],[(0,O),(104,.arr 1 (ws W)),(110,.arr 1 (ws (rounds W h 64)))],[]⟩):=by
 intro n;induction n with
 |zero=>
  intro t h0 h1;have hi:t=64:=by omega
  subst hi;rw[ah];simp only[c64,go_sem,Q0,Q1,Q2,Q3,Q4,Q5,Q6,Q7,Q8,Q9,Qa,Qb,Qc,Qd,Qe,Qf,Qg,Qh,Qi,Qj,Qk,reduceCtorEq,reduceIte]
 |succ n ih=>
  intro t h0 h1;have ih':=ih (t+1) (by omega) (by omega);have e1:=cR t (by omega);have hlt:(t:Int)<64:=by omega
  have hn:t<64:=by omega
  have hl:=gv W h hh t;have hw:=eW (rounds W h t);have hw2:=eW W;have hs:rounds W h (t+1)=rnd (Kl.getD t 0) (W.getD t 0) (rounds W h t):=rfl;rw[hs]at ih';simp only[rnd,ws8]at ih';generalize rounds W h t=s at*;have d0:=cS s 0 (by omega);have d1:=cS s 1 (by omega);have d2:=cS s 2 (by omega);have d3:=cS s 3 (by omega);have d4:=cS s 4 (by omega);have d5:=cS s 5 (by omega);have d6:=cS s 6 (by omega);have d7:=cS s 7 (by omega);have dW:=cS W t (by omega);have dK:=cS Kl t (by rw[yP];exact hn);rw[ah];simp only[go_sem,Q0,Q1,Q2,Q3,Q4,Q5,Q6,Q7,Q8,Q9,Qa,Qb,Qc,Qd,Qe,Qf,Qg,Qh,Qi,Qj,Qk,reduceCtorEq,reduceIte,hlt,e1,hl,hw,hw2,hW,XZ,hn,d0,d1,d2,d3,d4,d5,d6,d7,dW,dK,n6,n11,n25,n2,n13,n22,c8,c64,lR,xco hn,xcp hn,ih']
def wt:List Int->List Int->List Int
 |x::l,y::r=>cK.wrap (x+y)::wt l r
 |_,_=> []
theorem xfH(h s:List Int)(P:aE)(hh:h.length=8)(hs:s.length=8):
 run T (.loop ra) ⟨[(0,.ptr 0 0),(10,.ptr 110 0),(152,.int .i64 0)],[(0,.arr 1 (ws h)),(104,P),(110,.arr 1 (ws s))],[]⟩=
 some (.x 4,⟨[],[(0,.arr 1 (ws (wt h s))),(104,P),(110,.arr 1 (ws s))],[]⟩):=by
 match h,hh with
 |[a0,a1,a2,a3,a4,a5,a6,a7],_=>match s,hs with
  |[b0,b1,b2,b3,b4,b5,b6,b7],_=>
   have k1:af.wrap 1=1:=rfl;have k2:af.wrap 2=2:=rfl;have k3:af.wrap 3=3:=rfl;have k4:af.wrap 4=4:=rfl;have k5:af.wrap 5=5:=rfl;have k6:af.wrap 6=6:=rfl;have k7:af.wrap 7=7:=rfl;have k8:af.wrap 8=8:=rfl;simp only[ws8,wt]
   iterate 9
    rw[ah];simp only[go_sem,Q0,Q1,Q2,Q3,Q4,Q5,Q6,Q7,Q8,Q9,Qa,Qb,Qc,Qd,Qe,Qf,Qg,Qh,Qi,Qj,Qk,reduceCtorEq,reduceIte,ai,aw,c8,k1,k2,k3,k4,k5,k6,k7,k8]
def comp(h:List Int)(B:List UInt8):List Int:=wt h (rounds (Wl B 64) h 64)
theorem FN(h s:List Int)(hs:h.length<=s.length):(wt h s).length=h.length:=by
 induction h generalizing s with
 |nil=>simp[wt]
 |cons x l ih=>
  cases s with
  |nil=>simp at hs
  |cons y r=>simp only[wt,ai];rw[ih r (by simpa using hs)]
theorem oD(h:List Int)(B:List UInt8)(hh:h.length=8):(comp h B).length=8:=by unfold comp;rw[FN _ _ (by rw[gv _ _ hh,hh];exact aH 8),hh]
theorem xlV(h:List Int)(B:List UInt8)(hh:h.length=8)(hB:B.length=64):call T 107 [.ptr 0 0,.byt B .no] [.arr 1 (ws h)] 0=some ⟨.tup [],[(0,.arr 1 (ws (comp h B)))],[]⟩:=by
 have g1:=xfJ B (.arr 1 (ws h)) hB _ 0 rfl (by omega);have g2:=xfI (Wl B 64) h (.arr 1 (ws h)) (sR B 64) hh _ 0 rfl (by omega);have g3:=xfH h (rounds (Wl B 64) h 64) (.arr 1 (ws (Wl B 64))) hh (gv _ _ hh 64);have hw:Wl B 0=aD 64 0:=rfl;have hr:rounds (Wl B 64) h 0=h:=rfl;rw[hw,<-FO]at g1;rw[hr]at g2;simp only[aB]at g1 g2;rw[aj xhf]
 match h,hh with
 |[a0,a1,a2,a3,a4,a5,a6,a7],_=>simp only[ws8]at g1 g2 g3;simp only[go_sem,Q0,Q1,Q2,Q3,Q4,Q5,Q6,Q7,Q8,Q9,Qa,Qb,Qc,Qd,Qe,Qf,Qg,Qh,Qi,Qj,Qk,reduceCtorEq,reduceIte,ws8,g1,g2,g3,comp,cT,List.flatten_nil,aC,bH,aS,aF,SV.data,List.take_succ_cons,List.take_zero,ai,aw]
def zn(n:Nat):Nat:=(120-n % 64) % 64
theorem xfL(B:List UInt8):∀(n:Nat)(acc:List UInt8),zn acc.length=n->acc.length+n<=100000000000000->
 run T (.loop xQ) ⟨[(0,.byt B .no),(3,.byt acc (.id 103))],[],[103]⟩=
 some (.x 0,⟨[(0,.byt B .no),(3,.byt (acc++aD n 0) (.id 103))],[],[103]⟩):=by
 intro n;induction n with
 |zero=>
  intro acc h0 h1;have hm:acc.length % 64=56:=by unfold zn at h0;omega
  have hi:(acc.length:Int).tmod 64=56:=by rw[gE (by omega)];omega
  rw[ah];simp only[go_sem,Q0,Q1,Q2,Q3,Q4,Q5,Q6,Q7,Q8,Q9,Qa,Qb,Qc,Qd,Qe,Qf,Qg,Qh,Qi,Qj,Qk,reduceCtorEq,reduceIte,hi,List.replicate_zero,aZ]
 |succ n ih=>
  intro acc h0 h1;have hm:acc.length % 64≠56:=by unfold zn at h0;omega
  have hi:¬(acc.length:Int).tmod 64=56:=by rw[gE (by omega)];omega
  have ih':=ih (acc++ [0]) (by unfold zn at*;rw[ac,aV];omega) (by rw[ac,aV];omega);have hc:acc.length+1<=140737488355328:=by omega
  rw[av,dA,<-List.replicate_succ]at ih';rw[ah];simp only[go_sem,Q0,Q1,Q2,Q3,Q4,Q5,Q6,Q7,Q8,Q9,Qa,Qb,Qc,Qd,Qe,Qf,Qg,Qh,Qi,Qj,Qk,reduceCtorEq,reduceIte,hi,hc,ih']
def fW(v:Int)(s:Nat):UInt8:=co (v.fdiv (2^s))
def be:Nat->Int->List UInt8
 |0,_=> []
 |k+1,v=>fW v (8*k)::be k v
theorem dQ(n:Nat)(v:Int):(be n v).length=n:=by induction n with
 |zero=>rfl
 |succ n ih=>simp[be,ih]
theorem xfK(v:Int):∀(k:Nat)(acc:List UInt8),k<=8->acc.length+k<=100000000000000->
 run T (.loop rh) ⟨[(3,.byt acc (.id 103)),(4,.int .u64 v),(5,.int .i64 (8*(k:Int)-8))],[],[103]⟩=
 some (.x 2,⟨[(3,.byt (acc++be k v) (.id 103))],[],[103]⟩):=by
 intro k;induction k with
 |zero=>
  intro acc hk h;rw[ah];have hg:¬(0:Int)<=8*((0:Nat):Int)-8:=by omega
  simp only[go_sem,Q0,Q1,Q2,Q3,Q4,Q5,Q6,Q7,Q8,Q9,Qa,Qb,Qc,Qd,Qe,Qf,Qg,Qh,Qi,Qj,Qk,reduceCtorEq,reduceIte,hg,be,aZ]
 |succ k ih=>
  intro acc hk h;have ih':=ih (acc++ [fW v (8*k)]) (by omega) (by rw[ac,aV];omega);have c1:acc.length+1<=140737488355328:=by omega
  have hg:(0:Int)<=8*((k+1:Nat):Int)-8:=by omega
  have he:aI.wrap (8*((k+1:Nat):Int)-8)=((8*k:Nat):Int):=by rw[bQ];omega
  have hs:af.wrap (8*((k+1:Nat):Int)-8-8)=8*(k:Int)-8:=wZ (by omega)
  have hm:min (8*k) 64=8*k:=by omega
  rw[av,dA]at ih';rw[ah];unfold fW at ih';simp only[go_sem,Q0,Q1,Q2,Q3,Q4,Q5,Q6,Q7,Q8,Q9,Qa,Qb,Qc,Qd,Qe,Qf,Qg,Qh,Qi,Qj,Qk,reduceCtorEq,reduceIte,c1,hg,he,hs,hm,be,fW,ih']
def gy(B:List UInt8):List UInt8:=B++128::(aD (zn (B.length+1)) 0++be 8 (aI.wrap (aI.wrap B.length*8)))
theorem oc(B:List UInt8):(gy B).length=B.length+1+zn (B.length+1)+8:=by simp only[gy,ac,ai,cj,dQ];omega
theorem tS(B:List UInt8):(gy B).length % 64=0:=by rw[oc];unfold zn;omega
theorem xlX(B:List UInt8)(h:B.length<=10000000000000):call T 104 [.byt B .no] [] 0=some ⟨.byt (gy B) .no,[],[]⟩:=by
 have hz:zn (B.length+1)<64:=by unfold zn;omega
 have g1:=xfL B _ (B++ [128]) rfl (by simp;omega);have g2:=xfK (aI.wrap (aI.wrap B.length*8)) 8 (B++128::aD (zn (B.length+1)) 0) (by omega) (by simp;omega);have e8:8*((8:Nat):Int)-8=56:=rfl;rw[e8]at g2;rw[aj xhh];have e:af.wrap ((B.length:Int)+72)=((B.length+72:Nat):Int):=wZ (by omega)
 have c2:((B.length+72:Nat):Int)<=140737488355328:=by omega
 have c3:B.length<=140737488355328:=by omega
 have c4:B.length+1<=140737488355328:=by omega
 simp only[go_sem,Q0,Q1,Q2,Q3,Q4,Q5,Q6,Q7,Q8,Q9,Qa,Qb,Qc,Qd,Qe,Qf,Qg,Qh,Qi,Qj,Qk,reduceCtorEq,reduceIte,e,g1,g2,c2,c3,c4,gy]
theorem xfG(B:List UInt8):∀(n:Nat)(acc:List UInt8),zn acc.length=n->acc.length+n<=100000000000000->
 run T (.loop xK) ⟨[(0,.byt B .no),(3,.byt acc (.id 103))],[],[103]⟩=
 some (.x 0,⟨[(0,.byt B .no),(3,.byt (acc++aD n 0) (.id 103))],[],[103]⟩):=by
 intro n;induction n with
 |zero=>
  intro acc h0 h1;have hm:acc.length % 64=56:=by unfold zn at h0;omega
  have hi:(acc.length:Int).tmod 64=56:=by rw[gE (by omega)];omega
  rw[ah];simp only[go_sem,Q0,Q1,Q2,Q3,Q4,Q5,Q6,Q7,Q8,Q9,Qa,Qb,Qc,Qd,Qe,Qf,Qg,Qh,Qi,Qj,Qk,reduceCtorEq,reduceIte,hi,List.replicate_zero,aZ]
 |succ n ih=>
  intro acc h0 h1;have hm:acc.length % 64≠56:=by unfold zn at h0;omega
  have hi:¬(acc.length:Int).tmod 64=56:=by rw[gE (by omega)];omega
  have ih':=ih (acc++ [0]) (by unfold zn at*;rw[ac,aV];omega) (by rw[ac,aV];omega);have hc:acc.length+1<=140737488355328:=by omega
  rw[av,dA,<-List.replicate_succ]at ih';rw[ah];simp only[go_sem,Q0,Q1,Q2,Q3,Q4,Q5,Q6,Q7,Q8,Q9,Qa,Qb,Qc,Qd,Qe,Qf,Qg,Qh,Qi,Qj,Qk,reduceCtorEq,reduceIte,hi,hc,ih']
theorem xfF(v:Int):∀(k:Nat)(acc:List UInt8),k<=8->acc.length+k<=100000000000000->
 run T (.loop qY) ⟨[(3,.byt acc (.id 103)),(4,.int .u64 v),(5,.int .i64 ((k:Int)-1))],[],[103]⟩=
 some (.x 2,⟨[(3,.byt (acc++be k v) (.id 103))],[],[103]⟩):=by
 intro k;induction k with
 |zero=>
  intro acc hk h;rw[ah];have hg:¬(0:Int)<=((0:Nat):Int)-1:=by omega
  simp only[go_sem,Q0,Q1,Q2,Q3,Q4,Q5,Q6,Q7,Q8,Q9,Qa,Qb,Qc,Qd,Qe,Qf,Qg,Qh,Qi,Qj,Qk,reduceCtorEq,reduceIte,hg,be,aZ]
 |succ k ih=>
  intro acc hk h;have ih':=ih (acc++ [fW v (8*k)]) (by omega) (by rw[ac,aV];omega);have c1:acc.length+1<=140737488355328:=by omega
  have hg:(0:Int)<=((k+1:Nat):Int)-1:=by omega
  have he:aI.wrap (((k+1:Nat):Int)-1)=(k:Int):=by rw[bQ];omega
  have he2:aI.wrap (8*(k:Int))=((8*k:Nat):Int):=by rw[bQ];omega
  have hs:af.wrap (((k+1:Nat):Int)-1-1)=(k:Int)-1:=wZ (by omega)
  have hm:min (8*k) 64=8*k:=by omega
  rw[av,dA]at ih';rw[ah];unfold fW at ih';simp only[go_sem,Q0,Q1,Q2,Q3,Q4,Q5,Q6,Q7,Q8,Q9,Qa,Qb,Qc,Qd,Qe,Qf,Qg,Qh,Qi,Qj,Qk,reduceCtorEq,reduceIte,c1,hg,he,he2,hs,hm,be,fW,ih']
theorem xlM(B:List UInt8)(h:B.length<=10000000000000):call T 118 [.byt B .no] [] 0=some ⟨.byt (gy B) .no,[],[]⟩:=by
 have hz:zn (B.length+1)<64:=by unfold zn;omega
 have g1:=xfG B _ (B++ [128]) rfl (by simp;omega);have g2:=xfF (aI.wrap (aI.wrap B.length*8)) 8 (B++128::aD (zn (B.length+1)) 0) (by omega) (by simp;omega);have e8:((8:Nat):Int)-1=7:=rfl;rw[e8]at g2;rw[aj xg5];have c3:B.length<=140737488355328:=by omega
 have c4:B.length+1<=140737488355328:=by omega
 simp only[go_sem,Q0,Q1,Q2,Q3,Q4,Q5,Q6,Q7,Q8,Q9,Qa,Qb,Qc,Qd,Qe,Qf,Qg,Qh,Qi,Qj,Qk,reduceCtorEq,reduceIte,g1,g2,c3,c4,gy]
def w4(x:Int):List UInt8:=[fW x 24,fW x 16,fW x 8,co x]
def sp(h:List Int):List UInt8:=h.flatMap w4
theorem ZW(h:List Int):(sp h).length=4*h.length:=by
 induction h with
 |nil=>rfl
 |cons x l ih=>simp only[sp,dl,ac,w4,ai,aw]at*;omega
theorem d0(h:List Int)(i:Nat)(hi:i<h.length):h.drop i=h.getD i 0::h.drop (i+1):=qj h i hi
theorem xkQ(h:List Int)(hh:h.length<=1000000000000):∀(n i:Nat)(acc:List UInt8),h.length-i=n->i<=h.length->acc.length=4*i->
 run T (.loop xP) ⟨[(3,.byt acc (.id 103)),(10,.lst 1 (ws h) .no),(11,.int .i64 h.length),(12,.int .i64 i)],[],[103]⟩=
 some (.x 0,⟨[(3,.byt (acc++sp (h.drop i)) (.id 103))],[],[103]⟩):=by
 intro n;induction n with
 |zero=>
  intro i acc h0 h1 ha;have hi:i=h.length:=by omega
  subst hi;rw[ah];simp only[go_sem,Q0,Q1,Q2,Q3,Q4,Q5,Q6,Q7,Q8,Q9,Qa,Qb,Qc,Qd,Qe,Qf,Qg,Qh,Qi,Qj,Qk,reduceCtorEq,reduceIte,bP,sp,eI,aZ]
 |succ n ih=>
  intro i acc h0 h1 ha;have hi:i<h.length:=by omega
  have e1:=cR i (by omega);have ih':=ih (i+1) (acc++w4 (h.getD i 0)) (by omega) (by omega) (by simp[w4];omega);have hg:=cS h i hi;have hl:=eW h;have c1:acc.length+4<=140737488355328:=by omega
  rw[ah];rw[av]at ih';simp only[w4,fW]at ih';simp only[go_sem,Q0,Q1,Q2,Q3,Q4,Q5,Q6,Q7,Q8,Q9,Qa,Qb,Qc,Qd,Qe,Qf,Qg,Qh,Qi,Qj,Qk,reduceCtorEq,reduceIte,hi,hg,hl,e1,c1,m24,m16,m8,ih',d0 h i hi,sp,dl,w4,fW]
theorem xlW(h:List Int)(hh:h.length<=1000000000000):call T 106 [.lst 1 (ws h) .no] [] 0=some ⟨.byt (sp h) .no,[],[]⟩:=by
 have g:=xkQ h hh _ 0 [] rfl (by omega) rfl;have hl:=eW h;rw[aj xhg];have e:af.wrap (4*(h.length:Int))=((4*h.length:Nat):Int):=wZ (by omega)
 have c2:((4*h.length:Nat):Int)<=140737488355328:=by omega
 simp only[aB,bj,aF]at g;simp only[go_sem,Q0,Q1,Q2,Q3,Q4,Q5,Q6,Q7,Q8,Q9,Qa,Qb,Qc,Qd,Qe,Qf,Qg,Qh,Qi,Qj,Qk,reduceCtorEq,reduceIte,e,hl,c2,g]
theorem xkN(h:List Int)(hh:h.length<=1000000000000):∀(n i:Nat)(acc:List UInt8),h.length-i=n->i<=h.length->acc.length=4*i->
 run T (.loop xI) ⟨[(0,.lst 1 (ws h) .no),(3,.byt acc (.id 103)),(4,.int .i64 i)],[],[103]⟩=
 some (.x 0,⟨[(3,.byt (acc++sp (h.drop i)) (.id 103))],[],[103]⟩):=by
 intro n;induction n with
 |zero=>
  intro i acc h0 h1 ha;have hi:i=h.length:=by omega
  have hl:=eW h;subst hi;rw[ah];simp only[go_sem,Q0,Q1,Q2,Q3,Q4,Q5,Q6,Q7,Q8,Q9,Qa,Qb,Qc,Qd,Qe,Qf,Qg,Qh,Qi,Qj,Qk,reduceCtorEq,reduceIte,hl,bP,sp,eI,aZ]
 |succ n ih=>
  intro i acc h0 h1 ha;have hi:i<h.length:=by omega
  have e1:=cR i (by omega);have ih':=ih (i+1) (acc++w4 (h.getD i 0)) (by omega) (by omega) (by simp[w4];omega);have hg:=cS h i hi;have hl:=eW h;have c1:acc.length+4<=140737488355328:=by omega
  rw[ah];rw[av]at ih';simp only[w4,fW]at ih';simp only[go_sem,Q0,Q1,Q2,Q3,Q4,Q5,Q6,Q7,Q8,Q9,Qa,Qb,Qc,Qd,Qe,Qf,Qg,Qh,Qi,Qj,Qk,reduceCtorEq,reduceIte,hi,hg,hl,e1,c1,m24,m16,m8,ih',d0 h i hi,sp,dl,w4,fW]
theorem xlK(h:List Int)(hh:h.length<=1000000000000):call T 121 [.lst 1 (ws h) .no] [] 0=some ⟨.byt (sp h) .no,[],[]⟩:=by have g:=xkN h hh _ 0 [] rfl (by omega) rfl;have hl:=eW h;rw[aj xg2];simp only[aB,bj,aF]at g;simp only[go_sem,Q0,Q1,Q2,Q3,Q4,Q5,Q6,Q7,Q8,Q9,Qa,Qb,Qc,Qd,Qe,Qf,Qg,Qh,Qi,Qj,Qk,reduceCtorEq,reduceIte,hl,g]
def eF(h:List Int)(X:List UInt8):Nat->List Int
 |0=>h
 |n+1=>eF (comp h (X.take 64)) (X.drop 64) n
theorem kE(n:Nat):∀(h:List Int)(X:List UInt8),h.length=8->(eF h X n).length=8:=by
 induction n with
 |zero=>intro h X hh;exact hh
 |succ n ih=>intro h X hh;exact ih _ _ (oD h _ hh)
def H0:List Int:=[1779033703,3144134277,1013904242,2773480762,1359893119,2600822924,528734635,1541459225]
def sha(B:List UInt8):List UInt8:=sp (eF H0 (gy B) ((gy B).length/64))
theorem i9(B:List UInt8):(sha B).length=32:=by unfold sha;rw[ZW,kE _ _ _ rfl]
theorem l64:∀(n:Nat)(h:List Int)(X:List UInt8),h.length=8->X.length=64*n->X.length<=1000000000000->
 run T (.loop wY) ⟨[(7,.ptr 107 0),(8,.byt X .no)],[(107,.arr 1 (ws h))],[]⟩=
 some (.x 3,⟨[(7,.ptr 107 0)],[(107,.arr 1 (ws (eF h X n)))],[]⟩):=by
 intro n;induction n with
 |zero=>
  intro h X hh hX hl;rw[ah];have h0:¬(0:Int)<X.length:=by omega
  simp only[go_sem,Q0,Q1,Q2,Q3,Q4,Q5,Q6,Q7,Q8,Q9,Qa,Qb,Qc,Qd,Qe,Qf,Qg,Qh,Qi,Qj,Qk,reduceCtorEq,reduceIte,h0,eF]
 |succ n ih=>
  intro h X hh hX hl;have ih':=ih (comp h (X.take 64)) (X.drop 64) (oD h _ hh) (by rw[aQ];omega) (by rw[aQ];omega);have g:=xlV h (X.take 64) hh (by rw[ax];omega);have h1:(0:Int)<X.length:=by omega
  have h2:(64:Int)<=X.length:=by omega
  have h3:64<=X.length:=by omega
  rw[ah];simp only[go_sem,Q0,Q1,Q2,Q3,Q4,Q5,Q6,Q7,Q8,Q9,Qa,Qb,Qc,Qd,Qe,Qf,Qg,Qh,Qi,Qj,Qk,reduceCtorEq,reduceIte,h1,h2,h3,g,xhK,bY,ih',eF]
theorem f64(B:List UInt8)(hB:B.length<=100000000000):call T 64 [.int .i64 1,.byt B .no] [] 0=some ⟨.byt (sha B) .no,[],[]⟩:=by
 have g0:=xlX B (by omega);have hl:=oc B;have hz:zn (B.length+1)<64:=by unfold zn;omega
 have hm:=tS B;have g1:=l64 ((gy B).length/64) H0 (gy B) rfl (by omega) (by omega);have hb:=kE ((gy B).length/64) H0 (gy B) rfl;have g2:=xlW (eF H0 (gy B) ((gy B).length/64)) (by omega);have hw:=eW (eF H0 (gy B) ((gy B).length/64));have hH:ws H0=[[.int .u32 1779033703],[.int .u32 3144134277],[.int .u32 1013904242],[.int .u32 2773480762],[.int .u32 1359893119],[.int .u32 2600822924],[.int .u32 528734635],[.int .u32 1541459225]]:=rfl;rw[hH]at g1;rw[aj xmu];unfold sha;generalize eF H0 (gy B) ((gy B).length/64)=b at*;have ht:kG 8 (ws b)=ws b:=bf (by rw[hw,hb];exact aH 8);simp only[go_sem,Q0,Q1,Q2,Q3,Q4,Q5,Q6,Q7,Q8,Q9,Qa,Qb,Qc,Qd,Qe,Qf,Qg,Qh,Qi,Qj,Qk,reduceCtorEq,reduceIte,g0,g1,g2,xhM,xhL,hw,hb,c8,ht]
theorem xlN:call T 117 [] [] 0=some ⟨.agg io,[],[]⟩:=by rw[aj xg6];simp only[go_sem,Q0,Q1,Q2,Q3,Q4,Q5,Q6,Q7,Q8,Q9,Qa,Qb,Qc,Qd,Qe,Qf,Qg,Qh,Qi,Qj,Qk,reduceCtorEq,reduceIte];rfl
def bk(X:List UInt8)(a:Nat):List UInt8:=List.drop a (kG (a+64) X)
theorem MO(X:List UInt8)(a:Nat)(h:a+64<=X.length):(bk X a).length=64:=by unfold bk;rw[aQ,ax];omega
theorem xgg(X:List UInt8)(a:Nat):bk X a=(X.drop a).take 64:=by unfold bk;rw[Dv];congr 1;omega
theorem rq7(x:Int):call T 120 [.int .u32 x,.int .u64 7] [] 0=some ⟨.int .u32 (rr x 7),[],[]⟩:=uw x 7 (by omega)
theorem xj8(x:Int):call T 120 [.int .u32 x,.int .u64 18] [] 0=some ⟨.int .u32 (rr x 18),[],[]⟩:=uw x 18 (by omega)
theorem xj9(x:Int):call T 120 [.int .u32 x,.int .u64 17] [] 0=some ⟨.int .u32 (rr x 17),[],[]⟩:=uw x 17 (by omega)
theorem xj7(x:Int):call T 120 [.int .u32 x,.int .u64 19] [] 0=some ⟨.int .u32 (rr x 19),[],[]⟩:=uw x 19 (by omega)
theorem rq6(x:Int):call T 120 [.int .u32 x,.int .u64 6] [] 0=some ⟨.int .u32 (rr x 6),[],[]⟩:=uw x 6 (by omega)
theorem xkb(x:Int):call T 120 [.int .u32 x,.int .u64 11] [] 0=some ⟨.int .u32 (rr x 11),[],[]⟩:=uw x 11 (by omega)
theorem xj5(x:Int):call T 120 [.int .u32 x,.int .u64 25] [] 0=some ⟨.int .u32 (rr x 25),[],[]⟩:=uw x 25 (by omega)
theorem rq2(x:Int):call T 120 [.int .u32 x,.int .u64 2] [] 0=some ⟨.int .u32 (rr x 2),[],[]⟩:=uw x 2 (by omega)
theorem xka(x:Int):call T 120 [.int .u32 x,.int .u64 13] [] 0=some ⟨.int .u32 (rr x 13),[],[]⟩:=uw x 13 (by omega)
theorem xj6(x:Int):call T 120 [.int .u32 x,.int .u64 22] [] 0=some ⟨.int .u32 (rr x 22),[],[]⟩:=uw x 22 (by omega)
theorem xks(X:List UInt8)(a:Nat)(h:List Int)(ha:a+64<=X.length)(hX:X.length<=1000000000000):∀(n t:Nat),64-t=n->t<=64->
 run T (.loop wW) ⟨[(3,.ptr 103 0),(4,.psl 119 1 0 8 (some 8)),(5,.byt X .no),(6,.int .i64 a),(7,.ptr 107 0),(8,.int .i64 t)],[(103,.arr 1 (ws Kl)),(107,.arr 1 (ws (Wl (bk X a) t))),(119,.arr 1 (ws h))],[]⟩=
 some (.x 2,⟨[(3,.ptr 103 0),(4,.psl 119 1 0 8 (some 8)),(5,.byt X .no),(6,.int .i64 a),(7,.ptr 107 0)],[(103,.arr 1 (ws Kl)),(107,.arr 1 (ws (Wl (bk X a) 64))),(119,.arr 1 (ws h))],[]⟩):=by
 intro n;induction n with
 |zero=>
  intro t h0 h1;have hi:t=64:=by omega
  subst hi;rw[ah];simp only[c64,go_sem,Q0,Q1,Q2,Q3,Q4,Q5,Q6,Q7,Q8,Q9,Qa,Qb,Qc,Qd,Qe,Qf,Qg,Qh,Qi,Qj,Qk,reduceCtorEq,reduceIte]
 |succ n ih=>
  intro t h0 h1;have ih':=ih (t+1) (by omega) (by omega);have e1:=cR t (by omega);have hlt:(t:Int)<64:=by omega
  have hl:=sR (bk X a) t;have hw:=eW (Wl (bk X a) t);have hn:t<64:=by omega
  have hs:Wl (bk X a) (t+1)=(Wl (bk X a) t).set t (nw (bk X a) (Wl (bk X a) t) t):=rfl;have a1:af.wrap ((a:Int)+64)=((a+64:Nat):Int):=wZ (by omega)
  have a3:a<=a+64:=by omega
  rw[ah]
  by_cases h16:t<16
  ·have g:=xlL (bk X a) t (by rw[MO X a ha];omega) (by rw[MO X a ha];omega)
   have h16':(t:Int)<16:=by omega
   have hx:nw (bk X a) (Wl (bk X a) t) t=wd (bk X a) t:=by unfold nw;rw[if_pos h16]
   rw[hs,hx]at ih';generalize hb:Wl (bk X a) t=L at*;generalize hc:wd (bk X a) t=z at*;unfold bk at g;simp only[go_sem,Q0,Q1,Q2,Q3,Q4,Q5,Q6,Q7,Q8,Q9,Qa,Qb,Qc,Qd,Qe,Qf,Qg,Qh,Qi,Qj,Qk,reduceCtorEq,reduceIte,hlt,h16',e1,a1,ha,a3,g,hl,hw,xhD,hn,sd,ih']
  ·have h16':¬(t:Int)<16:=by omega
   have a15:af.wrap ((t:Int)-15)=((t-15:Nat):Int):=wZ (by omega)
   have a2:af.wrap ((t:Int)-2)=((t-2:Nat):Int):=wZ (by omega)
   have a7:af.wrap ((t:Int)-7)=((t-7:Nat):Int):=wZ (by omega)
   have a16:af.wrap ((t:Int)-16)=((t-16:Nat):Int):=wZ (by omega)
   have b15:t-15<64:=by omega
   have b2:t-2<64:=by omega
   have b7:t-7<64:=by omega
   have b16:t-16<64:=by omega
   rw[hs]at ih';unfold nw at ih';rw[if_neg h16]at ih';generalize hb:Wl (bk X a) t=L at*;have d15:=cS L (t-15) (by omega);have d2:=cS L (t-2) (by omega);have d7:=cS L (t-7) (by omega);have d16:=cS L (t-16) (by omega);simp only[go_sem,Q0,Q1,Q2,Q3,Q4,Q5,Q6,Q7,Q8,Q9,Qa,Qb,Qc,Qd,Qe,Qf,Qg,Qh,Qi,Qj,Qk,reduceCtorEq,reduceIte,hlt,h16',e1,hl,hw,X9,hn,a15,a2,a7,a16,b15,b2,b7,b16,d15,d2,d7,d16,rq7,xj8,xj9,xj7,sd,m3,m10,ih']
theorem xkr(X:List UInt8)(a:Nat)(W h:List Int)(O:aE)(hW:W.length=64)(hh:h.length=8):∀(n t:Nat)(q:Tok),64-t=n->t<=64->
 run T (.loop wV) ⟨[(3,.ptr 103 0),(4,.psl 119 1 0 8 (some 8)),(5,.byt X .no),(6,.int .i64 a),(7,.ptr 107 0),(11,.lst 1 (ws (rounds W h t)) q),(12,.int .i64 t)],[(103,.arr 1 (ws Kl)),(107,.arr 1 (ws W)),(119,O)],[194]⟩=
 some (.x 4,⟨[(3,.ptr 103 0),(4,.psl 119 1 0 8 (some 8)),(5,.byt X .no),(6,.int .i64 a),(11,.lst 1 (ws (rounds W h 64)) (if t=64 then q else .clip))],[(103,.arr 1 (ws Kl)),(107,.arr 1 (ws W)),(119,O)],[194]⟩):=by
 intro n;induction n with
 |zero=>
  intro t q h0 h1;have hi:t=64:=by omega
  subst hi;rw[ah];simp only[c64,go_sem,Q0,Q1,Q2,Q3,Q4,Q5,Q6,Q7,Q8,Q9,Qa,Qb,Qc,Qd,Qe,Qf,Qg,Qh,Qi,Qj,Qk,reduceCtorEq,reduceIte]
 |succ n ih=>
  intro t q h0 h1;have ih':=ih (t+1) .clip (by omega) (by omega);have e1:=cR t (by omega);have hlt:(t:Int)<64:=by omega
  have hn:t<64:=by omega
  have hn2:t≠64:=by omega
  have hl:=gv W h hh t;have hw:=eW (rounds W h t);have hw2:=eW W;have hw3:=eW Kl;have hk:=yP;have hs:rounds W h (t+1)=rnd (Kl.getD t 0) (W.getD t 0) (rounds W h t):=rfl;rw[hs]at ih';simp only[rnd,ws8]at ih';rw[ite_self]at ih';generalize rounds W h t=s at*;have d0:=cS s 0 (by omega);have d1:=cS s 1 (by omega);have d2:=cS s 2 (by omega);have d3:=cS s 3 (by omega);have d4:=cS s 4 (by omega);have d5:=cS s 5 (by omega);have d6:=cS s 6 (by omega);have d7:=cS s 7 (by omega);have dW:=cS W t (by omega);have dK:=cS Kl t (by rw[yP];exact hn);rw[ah];simp only[go_sem,Q0,Q1,Q2,Q3,Q4,Q5,Q6,Q7,Q8,Q9,Qa,Qb,Qc,Qd,Qe,Qf,Qg,Qh,Qi,Qj,Qk,reduceCtorEq,reduceIte,hlt,e1,hl,hw,hw2,hw3,hk,hW,X9,hn,hn2,d0,d1,d2,d3,d4,d5,d6,d7,dW,dK,rq6,xkb,xj5,rq2,xka,xj6,c8,c64,ih']
theorem xkq(X:List UInt8)(a:Nat)(h s:List Int)(P Q:aE)(hh:h.length=8)(hs:s.length=8):
 run T (.loop wS) ⟨[(3,.ptr 103 0),(4,.psl 119 1 0 8 (some 8)),(5,.byt X .no),(6,.int .i64 a),(11,.lst 1 (ws s) .clip),(17,.int .i64 0)],[(103,P),(107,Q),(119,.arr 1 (ws h))],[194]⟩=
 some (.x 6,⟨[(3,.ptr 103 0),(4,.psl 119 1 0 8 (some 8)),(5,.byt X .no),(6,.int .i64 a)],[(103,P),(107,Q),(119,.arr 1 (ws (wt h s)))],[194]⟩):=by
 match h,hh with
 |[a0,a1,a2,a3,a4,a5,a6,a7],_=>match s,hs with
  |[b0,b1,b2,b3,b4,b5,b6,b7],_=>
   have k1:af.wrap 1=1:=rfl;have k2:af.wrap 2=2:=rfl;have k3:af.wrap 3=3:=rfl;have k4:af.wrap 4=4:=rfl;have k5:af.wrap 5=5:=rfl;have k6:af.wrap 6=6:=rfl;have k7:af.wrap 7=7:=rfl;have k8:af.wrap 8=8:=rfl;simp only[ws8,wt]
   iterate 9
    rw[ah];simp only[go_sem,Q0,Q1,Q2,Q3,Q4,Q5,Q6,Q7,Q8,Q9,Qa,Qb,Qc,Qd,Qe,Qf,Qg,Qh,Qi,Qj,Qk,reduceCtorEq,reduceIte,ai,aw,c8,k1,k2,k3,k4,k5,k6,k7,k8]
theorem l73(X:List UInt8)(hX:X.length<=1000000000000):∀(n a:Nat)(h:List Int),h.length=8->X.length=a+64*n->
 run T (.loop wQ) ⟨[(3,.ptr 103 0),(4,.psl 119 1 0 8 (some 8)),(5,.byt X .no),(6,.int .i64 a)],[(103,.arr 1 (ws Kl)),(119,.arr 1 (ws h))],[]⟩=
 some (.x 0,⟨[(4,.psl 119 1 0 8 (some 8))],[(103,.arr 1 (ws Kl)),(119,.arr 1 (ws (eF h (X.drop a) n)))],[]⟩):=by
 intro n;induction n with
 |zero=>
  intro a h hh hl;rw[ah];have h0:¬(a:Int)<X.length:=by omega
  simp only[go_sem,Q0,Q1,Q2,Q3,Q4,Q5,Q6,Q7,Q8,Q9,Qa,Qb,Qc,Qd,Qe,Qf,Qg,Qh,Qi,Qj,Qk,reduceCtorEq,reduceIte,h0,eF]
 |succ n ih=>
  intro a h hh hl;have ih':=ih (a+64) (comp h (bk X a)) (oD h _ hh) (by omega);have h0:(a:Int)<X.length:=by omega
  have a1:af.wrap ((a:Int)+64)=((a+64:Nat):Int):=wZ (by omega)
  have g1:=xks X a h (by omega) hX _ 0 rfl (by omega);have g2:=xkr X a (Wl (bk X a) 64) h (.arr 1 (ws h)) (sR _ 64) hh _ 0 (.id 194) rfl (by omega);have g3:=xkq X a h (rounds (Wl (bk X a) 64) h 64) (.arr 1 (ws Kl)) (.arr 1 (ws (Wl (bk X a) 64))) hh (gv _ _ hh 64);have hw:Wl (bk X a) 0=aD 64 0:=rfl;have hr:rounds (Wl (bk X a) 64) h 0=h:=rfl;have hz:¬(0:Nat)=64:=by omega
  have hwl:=eW h;rw[hw,<-FO]at g1;rw[hr,if_neg hz]at g2;simp only[aB]at g1 g2
  have hbl:eF h (X.drop a) (n+1)=eF (comp h (bk X a)) (X.drop (a+64)) n:=by rw[eF,xgg,List.drop_drop]
  rw[hbl,ah];unfold comp at ih' ⊢;have ht:kG 8 (ws h)=ws h:=bf (by rw[hwl,hh];exact aH 8);simp only[go_sem,Q0,Q1,Q2,Q3,Q4,Q5,Q6,Q7,Q8,Q9,Qa,Qb,Qc,Qd,Qe,Qf,Qg,Qh,Qi,Qj,Qk,reduceCtorEq,reduceIte,h0,a1,g1,g2,g3,hwl,hh,ht,ih']
  trace_state
attribute [-go_sem] i5
theorem f73(B:List UInt8)(hB:B.length<=100000000000):call T 73 [.byt B .no] [] 0=some ⟨.byt (sha B) .no,[],[]⟩:=by
 have g1:=xlN;have g0:=xlM B (by omega);have ck:i5 1 64 (List.map SV.data io)=ws Kl:=rfl;have i3:io.all SV.isData=true:=rfl;have i4:=lR;have pg:SV.purgeL 103 104 io=io:=rfl;have i1:SV.idsL io=[]:=rfl;have i2:SV.toksL io=[]:=rfl;have hl:=oc B;have hz:zn (B.length+1)<64:=by unfold zn;omega
 have hm:=tS B;have g3:=l73 (gy B) (by omega) ((gy B).length/64) 0 H0 rfl (by omega);have hb:=kE ((gy B).length/64) H0 (gy B) rfl;have g2:=xlK (eF H0 (gy B) ((gy B).length/64)) (by omega);have hw:=eW (eF H0 (gy B) ((gy B).length/64));have hH:ws H0=[[.int .u32 1779033703],[.int .u32 3144134277],[.int .u32 1013904242],[.int .u32 2773480762],[.int .u32 1359893119],[.int .u32 2600822924],[.int .u32 528734635],[.int .u32 1541459225]]:=rfl;rw[hH]at g3;simp only[aB,bj]at g3;unfold sha;generalize eF H0 (gy B) ((gy B).length/64)=b at*;have ht:kG 8 (ws b)=ws b:=bf (by rw[hw,hb];exact aH 8);rw[aj xmo];simp only[go_sem,Q0,Q1,Q2,Q3,Q4,Q5,Q6,Q7,Q8,Q9,Qa,Qb,Qc,Qd,Qe,Qf,Qg,Qh,Qi,Qj,Qk,reduceCtorEq,reduceIte,g1,g0,xhE,xhF,i1,i2,List.isEmpty,ck,i3,i4,pg,g2,g3,xhC,hw,hb,c8,ht]
attribute [go_sem] i5
theorem l40(v:Int):∀(k:Nat)(acc:List UInt8),k<=8->acc.length+k<=100000000000000->
 run T (.loop Nf) ⟨[(2,.int .i64 v),(7,.byt acc (.id 107)),(8,.int .i64 ((k:Int)-1))],[],[107]⟩=
 some (.x 0,⟨[(7,.byt (acc++be k (aI.wrap v)) (.id 107))],[],[107]⟩):=by
 intro k;induction k with
 |zero=>
  intro acc hk h;rw[ah];have hg:¬(0:Int)<=((0:Nat):Int)-1:=by omega
  simp only[go_sem,Q0,Q1,Q2,Q3,Q4,Q5,Q6,Q7,Q8,Q9,Qa,Qb,Qc,Qd,Qe,Qf,Qg,Qh,Qi,Qj,Qk,reduceCtorEq,reduceIte,hg,be,aZ]
 |succ k ih=>
  intro acc hk h;have ih':=ih (acc++ [fW (aI.wrap v) (8*k)]) (by omega) (by rw[ac,aV];omega);have c1:acc.length+1<=140737488355328:=by omega
  have hg:(0:Int)<=((k+1:Nat):Int)-1:=by omega
  have he:aI.wrap (((k+1:Nat):Int)-1)=(k:Int):=by rw[bQ];omega
  have he2:af.wrap (8*(((k+1:Nat):Int)-1))=((8*k:Nat):Int):=wZ (by omega)
  have he3:aI.wrap (((8*k:Nat):Int))=((8*k:Nat):Int):=by rw[bQ];omega
  have he4:aI.wrap (8*(k:Int))=((8*k:Nat):Int):=by rw[bQ];omega
  have hs:af.wrap (((k+1:Nat):Int)-1-1)=(k:Int)-1:=wZ (by omega)
  have hm:min (8*k) 64=8*k:=by omega
  rw[av,dA]at ih';rw[ah];unfold fW at ih';simp only[go_sem,Q0,Q1,Q2,Q3,Q4,Q5,Q6,Q7,Q8,Q9,Qa,Qb,Qc,Qd,Qe,Qf,Qg,Qh,Qi,Qj,Qk,reduceCtorEq,reduceIte,c1,hg,he,he2,he3,he4,hs,hm,be,fW,ih']
theorem f40(B:List UInt8)(k:Nat)(v:Int)(h1:1<=k)(h8:k<=8)(hB:B.length<=10000000000000):
 call T 40 [.byt B .no,.int .i64 k,.int .i64 v] [] 0=some ⟨.byt (B++be k (aI.wrap v)) (.id 60),[],[60]⟩:=by
 have g:=l40 v k B h8 (by omega);have c1:¬(k:Int)<1:=by omega
 have c2:¬(8:Int)<k:=by omega
 have c3:af.wrap ((k:Int)-1)=(k:Int)-1:=w64 (by omega) (by omega);have c4:B.length<=140737488355328:=by omega
 rw[aj xmH];simp only[go_sem,Q0,Q1,Q2,Q3,Q4,Q5,Q6,Q7,Q8,Q9,Qa,Qb,Qc,Qd,Qe,Qf,Qg,Qh,Qi,Qj,Qk,reduceCtorEq,reduceIte,c1,c2,c3,c4,g]
theorem l45(v:Int):∀(k:Nat)(acc:List UInt8),k<=8->acc.length+k<=100000000000000->
 run T (.loop M9) ⟨[(2,.int .i64 v),(7,.byt acc (.id 107)),(8,.int .i64 ((k:Int)-1))],[],[107]⟩=
 some (.x 0,⟨[(7,.byt (acc++be k (aI.wrap v)) (.id 107))],[],[107]⟩):=by
 intro k;induction k with
 |zero=>
  intro acc hk h;rw[ah];have hg:¬(0:Int)<=((0:Nat):Int)-1:=by omega
  simp only[go_sem,Q0,Q1,Q2,Q3,Q4,Q5,Q6,Q7,Q8,Q9,Qa,Qb,Qc,Qd,Qe,Qf,Qg,Qh,Qi,Qj,Qk,reduceCtorEq,reduceIte,hg,be,aZ]
 |succ k ih=>
  intro acc hk h;have ih':=ih (acc++ [fW (aI.wrap v) (8*k)]) (by omega) (by rw[ac,aV];omega);have c1:acc.length+1<=140737488355328:=by omega
  have hg:(0:Int)<=((k+1:Nat):Int)-1:=by omega
  have he:aI.wrap (((k+1:Nat):Int)-1)=(k:Int):=by rw[bQ];omega
  have he4:aI.wrap (8*(k:Int))=((8*k:Nat):Int):=by rw[bQ];omega
  have hs:af.wrap (((k+1:Nat):Int)-1-1)=(k:Int)-1:=wZ (by omega)
  have hm:min (8*k) 64=8*k:=by omega
  rw[av,dA]at ih';rw[ah];unfold fW at ih';simp only[go_sem,Q0,Q1,Q2,Q3,Q4,Q5,Q6,Q7,Q8,Q9,Qa,Qb,Qc,Qd,Qe,Qf,Qg,Qh,Qi,Qj,Qk,reduceCtorEq,reduceIte,c1,hg,he,he4,hs,hm,be,fW,ih']
theorem f45(B:List UInt8)(k:Nat)(v:Int)(h1:1<=k)(h8:k<=8)(hB:B.length<=10000000000000):
 call T 45 [.byt B .no,.int .i64 k,.int .i64 v] [] 0=some ⟨.byt (B++be k (aI.wrap v)) (.id 60),[],[60]⟩:=by
 have g:=l45 v k B h8 (by omega);have c1:¬(k:Int)<1:=by omega
 have c2:¬(8:Int)<k:=by omega
 have c3:af.wrap ((k:Int)-1)=(k:Int)-1:=w64 (by omega) (by omega);have c4:B.length<=140737488355328:=by omega
 rw[aj xmC];simp only[go_sem,Q0,Q1,Q2,Q3,Q4,Q5,Q6,Q7,Q8,Q9,Qa,Qb,Qc,Qd,Qe,Qf,Qg,Qh,Qi,Qj,Qk,reduceCtorEq,reduceIte,c1,c2,c3,c4,g]
def jv(B X:List UInt8):List UInt8:=B++be 2 (aI.wrap (X.take 65535).length)++X.take 65535
theorem f82(B X:List UInt8)(hB:B.length<=1000000000000)(hX:X.length<=1000000000000):call T 82 [.byt B .no,.byt X .no] [] 0=some ⟨.byt (jv B X) (.id 60),[],[60]⟩:=by
 have g:=f45 B 2 (X.take 65535).length (by omega) (by omega) (by omega);rw[c2]at g;rw[aj xmh];have hl:(X.take 65535).length<=65535:=by rw[ax];omega
 have c4:(B++be 2 (aI.wrap (X.take 65535).length)).length+(X.take 65535).length<=140737488355328:=by rw[ac,dQ];omega
 by_cases h:(65535:Int)<X.length
 ·have h3:(65535:Int)<=X.length:=by omega
  have h4:65535<=X.length:=by omega
  simp only[ac]at c4;simp only[go_sem,Q0,Q1,Q2,Q3,Q4,Q5,Q6,Q7,Q8,Q9,Qa,Qb,Qc,Qd,Qe,Qf,Qg,Qh,Qi,Qj,Qk,reduceCtorEq,reduceIte,h,h3,h4,g,xdg,jv,c4,av]
 ·have ht:X.take 65535=X:=bf (by omega)
  rw[ht]at g c4;simp only[ac]at c4;simp only[go_sem,Q0,Q1,Q2,Q3,Q4,Q5,Q6,Q7,Q8,Q9,Qa,Qb,Qc,Qd,Qe,Qf,Qg,Qh,Qi,Qj,Qk,reduceCtorEq,reduceIte,h,g,xdg,jv,ht,c4,av]
theorem f72(B X:List UInt8)(hB:B.length<=1000000000000)(hX:X.length<=1000000000000):call T 72 [.byt B .no,.byt X .no] [] 0=some ⟨.byt (jv B X) (.id 60),[],[60]⟩:=by
 have g:=f40 B 2 (X.take 65535).length (by omega) (by omega) (by omega);rw[c2]at g;rw[aj xmp];have hl:(X.take 65535).length<=65535:=by rw[ax];omega
 have c4:(B++be 2 (aI.wrap (X.take 65535).length)).length+(X.take 65535).length<=140737488355328:=by rw[ac,dQ];omega
 simp only[ac]at c4
 by_cases h:(65535:Int)<X.length
 ·have h3:min (X.length:Int) 65535=65535:=by omega
  have h4:(65535:Int)<=X.length:=by omega
  have h5:65535<=X.length:=by omega
  simp only[go_sem,Q0,Q1,Q2,Q3,Q4,Q5,Q6,Q7,Q8,Q9,Qa,Qb,Qc,Qd,Qe,Qf,Qg,Qh,Qi,Qj,Qk,reduceCtorEq,reduceIte,h,h4,h5,g,nV,jv,c4,av]
 ·have h3:min (X.length:Int) 65535=X.length:=by omega
  have ht:X.take 65535=X:=bf (by omega);have ht2:X.take X.length=X:=bY;rw[ht]at g c4;simp only[go_sem,Q0,Q1,Q2,Q3,Q4,Q5,Q6,Q7,Q8,Q9,Qa,Qb,Qc,Qd,Qe,Qf,Qg,Qh,Qi,Qj,Qk,reduceCtorEq,reduceIte,h,ht2,g,nV,jv,ht,c4,av]
def frame(t:Int)(X:List UInt8):List UInt8:=co t::(w4 (X.length:Int)++X)
theorem xll(t:Int)(X:List UInt8)(hX:X.length<=1000000000):call T 204 [.int .i64 t,.lst 1 [[.byt X .no]] .no] [] 0=some ⟨.byt (frame t X) .no,[],[]⟩:=by
 have k1:af.wrap 1=1:=rfl;have e1:cK.wrap (X.length:Int)=X.length:=by rw[IntKind.wrap_u32];omega
 have c4:1+4+X.length<=140737488355328:=by omega
 have c5:5+X.length<=140737488355328:=by omega
 rw[aj XH];simp only[go_sem,Q0,Q1,Q2,Q3,Q4,Q5,Q6,Q7,Q8,Q9,Qa,Qb,Qc,Qd,Qe,Qf,Qg,Qh,Qi,Qj,Qk,reduceCtorEq,reduceIte,ai,aw,c1,k1];rw[ah];simp only[go_sem,Q0,Q1,Q2,Q3,Q4,Q5,Q6,Q7,Q8,Q9,Qa,Qb,Qc,Qd,Qe,Qf,Qg,Qh,Qi,Qj,Qk,reduceCtorEq,reduceIte,ai,aw,c1,k1,e1,m24,m16,m8,c4,c5];rw[ah];simp only[go_sem,Q0,Q1,Q2,Q3,Q4,Q5,Q6,Q7,Q8,Q9,Qa,Qb,Qc,Qd,Qe,Qf,Qg,Qh,Qi,Qj,Qk,reduceCtorEq,reduceIte,ai,aw,c1,k1,e1,m24,m16,m8,c4,c5,frame,w4,fW]
 trace_state
theorem xlk(t:Int)(X:List UInt8)(hX:X.length<=1000000000):call T 206 [.int .i64 t,.lst 1 [[.byt X .no]] .no] [] 0=some ⟨.byt (frame t X) .no,[],[]⟩:=by
 have k1:af.wrap 1=1:=rfl;have c4:1+4+X.length<=140737488355328:=by omega
 have c5:5+X.length<=140737488355328:=by omega
 have m24':min 24 64=24:=rfl;have m16':min 16 64=16:=rfl;have m8':min 8 64=8:=rfl;rw[aj XG];simp only[go_sem,Q0,Q1,Q2,Q3,Q4,Q5,Q6,Q7,Q8,Q9,Qa,Qb,Qc,Qd,Qe,Qf,Qg,Qh,Qi,Qj,Qk,reduceCtorEq,reduceIte,ai,aw,c1,k1];rw[ah];simp only[go_sem,Q0,Q1,Q2,Q3,Q4,Q5,Q6,Q7,Q8,Q9,Qa,Qb,Qc,Qd,Qe,Qf,Qg,Qh,Qi,Qj,Qk,reduceCtorEq,reduceIte,ai,aw,c1,k1,m24',m16',m8',c4,c5];rw[ah];simp only[go_sem,Q0,Q1,Q2,Q3,Q4,Q5,Q6,Q7,Q8,Q9,Qa,Qb,Qc,Qd,Qe,Qf,Qg,Qh,Qi,Qj,Qk,reduceCtorEq,reduceIte,ai,aw,c1,k1,m24',m16',m8',c4,c5,frame,w4,fW]
theorem p6(t:Int)(X:List UInt8):(frame t X).length=X.length+5:=by simp[frame,w4]
def vS(t:Int)(X:List UInt8):List UInt8:=sha (frame t X)
theorem xls(t:Int)(X:List UInt8)(hX:X.length<=1000000000):call T 183 [.int .i64 t,.lst 1 [[.byt X .no]] .no] [] 0=some ⟨.byt (vS t X) .no,[],[]⟩:=by have g1:=xll t X hX;have g2:=f64 (frame t X) (by rw[p6];omega);rw[aj XJ];simp only[go_sem,Q0,Q1,Q2,Q3,Q4,Q5,Q6,Q7,Q8,Q9,Qa,Qb,Qc,Qd,Qe,Qf,Qg,Qh,Qi,Qj,Qk,reduceCtorEq,reduceIte,g1,g2,XT,Rg,vS]
theorem xlo(t:Int)(X:List UInt8)(hX:X.length<=1000000000):call T 190 [.int .i64 t,.lst 1 [[.byt X .no]] .no] [] 0=some ⟨.byt (vS t X) .no,[],[]⟩:=by have g1:=xlk t X hX;have g2:=f73 (frame t X) (by rw[p6];omega);rw[aj XI];simp only[go_sem,Q0,Q1,Q2,Q3,Q4,Q5,Q6,Q7,Q8,Q9,Qa,Qb,Qc,Qd,Qe,Qf,Qg,Qh,Qi,Qj,Qk,reduceCtorEq,reduceIte,g1,g2,XS,XR,vS]
end Go.Proofs.YtkggincjigbelaaGreatDoor
