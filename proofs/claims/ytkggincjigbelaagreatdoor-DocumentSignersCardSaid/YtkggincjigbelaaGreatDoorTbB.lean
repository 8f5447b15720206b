/- What the functions come to. No condition. -/
import Derived.Test.YtkggincjigbelaaGreatDoorTaB
open Int renaming natCast_zero -> aw, tmod_eq_emod_of_nonneg -> ey
open Go.IntKind renaming i64 -> af, u32 -> cQ, u64 -> aN, wrap_u64 -> bH
open List renaming append_assoc -> ay, append_nil -> bg, cons_append -> aU, drop -> gJ, drop_length -> bG, drop_take -> fd, drop_zero -> bj, flatMap_cons -> dU, flatMap_nil -> eZ, flatten_cons -> c9, getD_eq_getElem?_getD -> aa, getElem?_drop -> bw, getElem?_eq_getElem -> ab, getElem?_map -> aQ, length_append -> ac, length_cons -> aj, length_drop -> aI, length_nil -> aq, length_replicate -> dI, length_singleton -> aW, length_take -> ax, map_cons -> aC, map_nil -> bp, nil_append -> az, replicate -> aE, singleton_append -> dd, take -> fv, take_length -> cK, take_of_length_le -> aO
open Nat renaming add_zero -> eY, le_refl -> aH, mul_one -> cX
open UInt8 renaming ofInt -> bK
set_option maxRecDepth 100000
set_option maxHeartbeats 16000000
set_option linter.unusedSimpArgs false
set_option linter.unusedVariables false
namespace Go.Proofs.YtkggincjigbelaaGreatDoor
open Go.Sy
open UInt8 renaming reduceLT -> Q0, reduceLE -> Q1
open Int renaming reduceToNat -> Q2, reduceLE -> Q3, reduceLT -> Q4, reduceEq -> Q5, reduceNe -> Q6, reduceNeg -> Q7, reduceAdd -> Q8, reduceSub -> Q9, reduceMul -> Qa
open Nat renaming reducePow -> Qb, reduceDiv -> Qc, reduceMod -> Qd, reduceAdd -> Qe, reduceSub -> Qf, reduceMul -> Qg, reduceLT -> Qh, reduceLeDiff -> Qi, reduceEqDiff -> Qj, reduceBEq -> Qk
def rr(x:Int)(n:Nat):Int:=bP .or .u32 (x.fdiv (2^n)) (cQ.wrap (x*2^(32-n)))
theorem qw(k:IntKind)(x y:Int):bP .or k x y=bP .or k y x:=by simp only[bP,BitVec.or_comm]
theorem vU(x:Int)(n:Nat)(h:n<=32):call T 120 [.int .u32 x,.int .u64 n] [] 0=some ⟨.int .u32 (rr x n),[],[]⟩:=by
 rw[ah xjv];have e:aN.wrap (32-(n:Int))=((32-n:Nat):Int):=by rw[bH];omega
 have e2:min n 32=n:=by omega
 have e3:min (32-n) 32=32-n:=by omega
 have e4:(0:Int)<=((32-n:Nat):Int):=by omega
 simp only[go_sem,Q0,Q1,Q2,Q3,Q4,Q5,Q6,Q7,Q8,Q9,Qa,Qb,Qc,Qd,Qe,Qf,Qg,Qh,Qi,Qj,Qk,reduceCtorEq,reduceIte,e,e2,e3,e4,rr]
theorem vT(x k:Int)(n:Nat)(h:n<=32)(hk:bP .and .u64 (aN.wrap k) 31=((32-n:Nat):Int)):call T 167 [.int .u32 x,.int .i64 k] [] 0=some ⟨.int .u32 (rr x n),[],[]⟩:=by
 rw[ah xi1];have e:aN.wrap (32-((32-n:Nat):Int))=(n:Int):=by rw[bH];omega
 have e2:min n 32=n:=by omega
 have e3:min (32-n) 32=32-n:=by omega
 simp only[go_sem,Q0,Q1,Q2,Q3,Q4,Q5,Q6,Q7,Q8,Q9,Qa,Qb,Qc,Qd,Qe,Qf,Qg,Qh,Qi,Qj,Qk,reduceCtorEq,reduceIte,hk,e,e2,e3,rr,qw]
theorem m24:min 24 32=24:=rfl
theorem m16:min 16 32=16:=rfl
theorem m8:min 8 32=8:=rfl
theorem m3:min 3 32=3:=rfl
theorem m10:min 10 32=10:=rfl
def wd(B:List UInt8)(t:Nat):Int:=
 bP .or .u32 (bP .or .u32 (bP .or .u32 (cQ.wrap (((B.getD (4*t) 0).toNat:Int)*2^24)) (cQ.wrap (((B.getD (4*t+1) 0).toNat:Int)*2^16)))
  (cQ.wrap (((B.getD (4*t+2) 0).toNat:Int)*2^8))) ((B.getD (4*t+3) 0).toNat:Int)
theorem xoC(B:List UInt8)(t:Nat)(h:4*t+3<B.length)(hl:B.length<=1000000000000):call T 166 [.byt B .no,.int .i64 t] [] 0=some ⟨.int .u32 (wd B t),[],[]⟩:=by
 rw[ah xi2];have e0:af.wrap (4*(t:Int))=((4*t:Nat):Int):=wZ (by omega)
 have e1:af.wrap (((4*t:Nat):Int)+1)=((4*t+1:Nat):Int):=wZ (by omega)
 have e2:af.wrap (((4*t:Nat):Int)+2)=((4*t+2:Nat):Int):=wZ (by omega)
 have e3:af.wrap (((4*t:Nat):Int)+3)=((4*t+3:Nat):Int):=wZ (by omega)
 have h0:4*t<B.length:=by omega
 have h1:4*t+1<B.length:=by omega
 have h2:4*t+2<B.length:=by omega
 simp only[go_sem,Q0,Q1,Q2,Q3,Q4,Q5,Q6,Q7,Q8,Q9,Qa,Qb,Qc,Qd,Qe,Qf,Qg,Qh,Qi,Qj,Qk,reduceCtorEq,reduceIte,e0,e1,e2,e3,h,h0,h1,h2,wd,m24,m16,m8]
theorem xoO(B:List UInt8)(t:Nat)(h:4*t+3<B.length)(hl:B.length<=1000000000000):call T 119 [.byt B .no,.int .i64 t] [] 0=some ⟨.int .u32 (wd B t),[],[]⟩:=by
 rw[ah xjw];have e0:af.wrap (4*(t:Int))=((4*t:Nat):Int):=wZ (by omega)
 have e1:af.wrap (((4*t:Nat):Int)+1)=((4*t+1:Nat):Int):=wZ (by omega)
 have e2:af.wrap (((4*t:Nat):Int)+2)=((4*t+2:Nat):Int):=wZ (by omega)
 have e3:af.wrap (((4*t:Nat):Int)+3)=((4*t+3:Nat):Int):=wZ (by omega)
 have h0:4*t<B.length:=by omega
 have h1:4*t+1<B.length:=by omega
 have h2:4*t+2<B.length:=by omega
 simp only[go_sem,Q0,Q1,Q2,Q3,Q4,Q5,Q6,Q7,Q8,Q9,Qa,Qb,Qc,Qd,Qe,Qf,Qg,Qh,Qi,Qj,Qk,reduceCtorEq,reduceIte,e0,e1,e2,e3,h,h0,h1,h2,wd,m24,m16,m8]
def nw(B:List UInt8)(L:List Int)(t:Nat):Int:=
 if t<16 then wd B t else
  let x:=L.getD (t-15) 0
  let y:=L.getD (t-2) 0
  cQ.wrap (cQ.wrap (cQ.wrap (bP .xor .u32 (bP .xor .u32 (rr y 17) (rr y 19)) (y.fdiv (2^10))+L.getD (t-7) 0)+
   bP .xor .u32 (bP .xor .u32 (rr x 7) (rr x 18)) (x.fdiv (2^3)))+L.getD (t-16) 0)
def Wl(B:List UInt8):Nat->List Int
 |0=>aE 64 0
 |t+1=>(Wl B t).set t (nw B (Wl B t) t)
theorem uz(B:List UInt8)(t:Nat):(Wl B t).length=64:=by
 induction t with
 |zero=>simp[Wl]
 |succ n ih=>simp[Wl,ih]
def ws(L:List Int):List (List SV):=L.map fun x=> [.int .u32 x]
theorem fq(L:List Int):(ws L).length=L.length:=by simp[ws]
theorem cY(L:List Int)(i:Nat)(h:i<L.length):(ws L).getD i []=[.int .u32 (L.getD i 0)]:=by simp[ws,aa,aQ,ab h]
theorem tR(L:List Int)(i:Nat)(x:Int):(ws L).set i [.int .u32 x]=ws (L.set i x):=by unfold ws;rw[List.map_set]
theorem Gz(n:Nat):aE n [SV.int .u32 0]=ws (aE n 0):=by unfold ws;rw[List.map_replicate]
theorem xid(B:List UInt8)(O:aF)(hB:B.length=64):∀(n t:Nat),64-t=n->t<=64->
 run T (.loop sU) ⟨[(0,.ptr 0 0),(1,.byt B .no),(4,.ptr 104 0),(17,.int .i64 t)],[(0,O),(104,.arr 1 (ws (Wl B t)))],[]⟩=
 some (.x 0,⟨[(0,.ptr 0 0),(4,.ptr 104 0)],[(0,O),(104,.arr 1 (ws (Wl B 64)))],[]⟩):=by
 intro n;induction n with
 |zero=>
  intro t h0 h1;have hi:t=64:=by omega
  subst hi;rw[ai];simp only[c64,go_sem,Q0,Q1,Q2,Q3,Q4,Q5,Q6,Q7,Q8,Q9,Qa,Qb,Qc,Qd,Qe,Qf,Qg,Qh,Qi,Qj,Qk,reduceCtorEq,reduceIte]
 |succ n ih=>
  intro t h0 h1;have ih':=ih (t+1) (by omega) (by omega);have e1:=cA t (by omega);have hlt:(t:Int)<64:=by omega
  have hl:=uz B t;have hw:=fq (Wl B t);have hn:t<64:=by omega
  have hs:Wl B (t+1)=(Wl B t).set t (nw B (Wl B t) t):=rfl;rw[ai]
  by_cases h16:t<16
  ·have g:=xoC B t (by omega) (by omega)
   have h16':(t:Int)<16:=by omega
   have hx:nw B (Wl B t) t=wd B t:=by unfold nw;rw[if_pos h16]
   rw[hs,hx]at ih';simp only[go_sem,Q0,Q1,Q2,Q3,Q4,Q5,Q6,Q7,Q8,Q9,Qa,Qb,Qc,Qd,Qe,Qf,Qg,Qh,Qi,Qj,Qk,reduceCtorEq,reduceIte,hlt,h16',e1,g,hl,hw,xjT,hn,tR,ih']
  ·have h16':¬(t:Int)<16:=by omega
   have a15:af.wrap ((t:Int)-15)=((t-15:Nat):Int):=wZ (by omega)
   have a2:af.wrap ((t:Int)-2)=((t-2:Nat):Int):=wZ (by omega)
   have a7:af.wrap ((t:Int)-7)=((t-7:Nat):Int):=wZ (by omega)
   have a16:af.wrap ((t:Int)-16)=((t-16:Nat):Int):=wZ (by omega)
   have b15:t-15<64:=by omega
   have b2:t-2<64:=by omega
   have b7:t-7<64:=by omega
   have b16:t-16<64:=by omega
   have d15:=cY (Wl B t) (t-15) (by omega);have d2:=cY (Wl B t) (t-2) (by omega);have d7:=cY (Wl B t) (t-7) (by omega);have d16:=cY (Wl B t) (t-16) (by omega);have r7:=fun x=>vT x (-7) 7 (by omega) (by decide)
   have r18:=fun x=>vT x (-18) 18 (by omega) (by decide)
   have r17:=fun x=>vT x (-17) 17 (by omega) (by decide)
   have r19:=fun x=>vT x (-19) 19 (by omega) (by decide)
   rw[hs]at ih';unfold nw at ih';rw[if_neg h16]at ih';simp only[go_sem,Q0,Q1,Q2,Q3,Q4,Q5,Q6,Q7,Q8,Q9,Qa,Qb,Qc,Qd,Qe,Qf,Qg,Qh,Qi,Qj,Qk,reduceCtorEq,reduceIte,hlt,h16',e1,hl,hw,xad,hn,a15,a2,a7,a16,b15,b2,b7,b16,d15,d2,d7,d16,r7,r18,r17,r19,tR,m3,m10,ih']
def Kl:List Int:=iZ.map fun| .int _ x=>x|_=>0
theorem Ah:Kl.length=64:=rfl
theorem mL:iZ.length=64:=rfl
theorem xe4:iZ=Kl.map (SV.int .u32):=rfl
theorem xeA{t:Nat}(h:t<64):(1<=(gJ (t*1) iZ).length)=True:=by refine eq_true ?_;rw[aI,mL];omega
theorem xeB{t:Nat}(h:t<64):(List.map SV.data (gJ (t*1) iZ)).getD 0 SV.undef= .int .u32 (Kl.getD t 0):=by
 rw[xe4,aa,aQ,bw,aQ,cX,eY,aa,
  ab (show t<Kl.length from h)]
 rfl
def rnd(k w:Int)(s:List Int):List Int:=
 let a:=s.getD 0 0
 let e:=s.getD 4 0
 let t1:=cQ.wrap (cQ.wrap (cQ.wrap (cQ.wrap (s.getD 7 0+bP .xor .u32 (bP .xor .u32 (rr e 6) (rr e 11)) (rr e 25))+
  bP .xor .u32 (bP .and .u32 e (s.getD 5 0)) (bP .and .u32 (bP .xor .u32 (if cQ.signed=true then-1 else cQ.max) e) (s.getD 6 0)))+k)+w)
 let t2:=cQ.wrap (bP .xor .u32 (bP .xor .u32 (rr a 2) (rr a 13)) (rr a 22)+
  bP .xor .u32 (bP .xor .u32 (bP .and .u32 a (s.getD 1 0)) (bP .and .u32 a (s.getD 2 0))) (bP .and .u32 (s.getD 1 0) (s.getD 2 0)))
 [cQ.wrap (t1+t2),a,s.getD 1 0,s.getD 2 0,cQ.wrap (s.getD 3 0+t1),e,s.getD 5 0,s.getD 6 0]
theorem ws8(a b c d e f g h:Int):ws [a,b,c,d,e,f,g,h]=[[.int .u32 a],[.int .u32 b],[.int .u32 c],[.int .u32 d],[.int .u32 e],[.int .u32 f],[.int .u32 g],[.int .u32 h]]:=rfl
def rounds(W:List Int)(h:List Int):Nat->List Int
 |0=>h
 |t+1=>rnd (Kl.getD t 0) (W.getD t 0) (rounds W h t)
theorem ig(W h:List Int)(hh:h.length=8)(t:Nat):(rounds W h t).length=8:=by
 cases t<;>simp[rounds,rnd,hh]
theorem n6(x:Int):call T 167 [.int .u32 x,.int .i64 (-6)] [] 0=some ⟨.int .u32 (rr x 6),[],[]⟩:=vT x (-6) 6 (by omega) (by decide)
theorem n11(x:Int):call T 167 [.int .u32 x,.int .i64 (-11)] [] 0=some ⟨.int .u32 (rr x 11),[],[]⟩:=vT x (-11) 11 (by omega) (by decide)
theorem n25(x:Int):call T 167 [.int .u32 x,.int .i64 (-25)] [] 0=some ⟨.int .u32 (rr x 25),[],[]⟩:=vT x (-25) 25 (by omega) (by decide)
theorem n2(x:Int):call T 167 [.int .u32 x,.int .i64 (-2)] [] 0=some ⟨.int .u32 (rr x 2),[],[]⟩:=vT x (-2) 2 (by omega) (by decide)
theorem n13(x:Int):call T 167 [.int .u32 x,.int .i64 (-13)] [] 0=some ⟨.int .u32 (rr x 13),[],[]⟩:=vT x (-13) 13 (by omega) (by decide)
theorem n22(x:Int):call T 167 [.int .u32 x,.int .i64 (-22)] [] 0=some ⟨.int .u32 (rr x 22),[],[]⟩:=vT x (-22) 22 (by omega) (by decide)
theorem xic(W h:List Int)(O:aF)(hW:W.length=64)(hh:h.length=8):∀(n t:Nat),64-t=n->t<=64->
 run T (.loop sT) ⟨[(0,.ptr 0 0),(4,.ptr 104 0),(10,.ptr 110 0),(70,.int .i64 t)],[(0,O),(104,.arr 1 (ws W)),(110,.arr 1 (ws (rounds W h t)))],[]⟩=
 some (.x 2,⟨[(0,.ptr 0 0),(10,.ptr 110 0)],[(0,O),(104,.arr 1 (ws W)),(110,.arr 1 (ws (rounds W h 64)))],[]⟩):=by
 intro n;induction n with
 |zero=>
  intro t h0 h1;have hi:t=64:=by omega
  subst hi;rw[ai];simp only[c64,go_sem,Q0,Q1,Q2,Q3,Q4,Q5,Q6,Q7,Q8,Q9,Qa,Qb,Qc,Qd,Qe,Qf,Qg,Qh,Qi,Qj,Qk,reduceCtorEq,reduceIte]
 |succ n ih=>
  intro t h0 h1;have ih':=ih (t+1) (by omega) (by omega);have e1:=cA t (by omega);have hlt:(t:Int)<64:=by omega
  have hn:t<64:=by omega
  have hl:=ig W h hh t;have hw:=fq (rounds W h t);have hw2:=fq W;have hs:rounds W h (t+1)=rnd (Kl.getD t 0) (W.getD t 0) (rounds W h t):=rfl;rw[hs]at ih';simp only[rnd,ws8]at ih';generalize rounds W h t=s at*;have d0:=cY s 0 (by omega);have d1:=cY s 1 (by omega);have d2:=cY s 2 (by omega);have d3:=cY s 3 (by omega);have d4:=cY s 4 (by omega);have d5:=cY s 5 (by omega);have d6:=cY s 6 (by omega);have d7:=cY s 7 (by omega);have dW:=cY W t (by omega);have dK:=cY Kl t (by rw[Ah];exact hn);rw[ai];simp only[go_sem,Q0,Q1,Q2,Q3,Q4,Q5,Q6,Q7,Q8,Q9,Qa,Qb,Qc,Qd,Qe,Qf,Qg,Qh,Qi,Qj,Qk,reduceCtorEq,reduceIte,hlt,e1,hl,hw,hw2,hW,xad,hn,d0,d1,d2,d3,d4,d5,d6,d7,dW,dK,n6,n11,n25,n2,n13,n22,c8,c64,mL,xeA hn,xeB hn,ih']
def x0:List Int->List Int->List Int
 |x::l,y::r=>cQ.wrap (x+y)::x0 l r
 |_,_=> []
theorem xib(h s:List Int)(P:aF)(hh:h.length=8)(hs:s.length=8):
 run T (.loop sS) ⟨[(0,.ptr 0 0),(10,.ptr 110 0),(152,.int .i64 0)],[(0,.arr 1 (ws h)),(104,P),(110,.arr 1 (ws s))],[]⟩=
 some (.x 4,⟨[],[(0,.arr 1 (ws (x0 h s))),(104,P),(110,.arr 1 (ws s))],[]⟩):=by
 match h,hh with
 |[a0,a1,a2,a3,a4,a5,a6,a7],_=>match s,hs with
  |[b0,b1,b2,b3,b4,b5,b6,b7],_=>
   have k1:af.wrap 1=1:=rfl;have k2:af.wrap 2=2:=rfl;have k3:af.wrap 3=3:=rfl;have k4:af.wrap 4=4:=rfl;have k5:af.wrap 5=5:=rfl;have k6:af.wrap 6=6:=rfl;have k7:af.wrap 7=7:=rfl;have k8:af.wrap 8=8:=rfl;simp only[ws8,x0]
   iterate 9
    rw[ai];simp only[go_sem,Q0,Q1,Q2,Q3,Q4,Q5,Q6,Q7,Q8,Q9,Qa,Qb,Qc,Qd,Qe,Qf,Qg,Qh,Qi,Qj,Qk,reduceCtorEq,reduceIte,aj,aq,c8,k1,k2,k3,k4,k5,k6,k7,k8]
def comp(h:List Int)(B:List UInt8):List Int:=x0 h (rounds (Wl B 64) h 64)
theorem Gy(h s:List Int)(hs:h.length<=s.length):(x0 h s).length=h.length:=by
 induction h generalizing s with
 |nil=>simp[x0]
 |cons x l ih=>
  cases s with
  |nil=>simp at hs
  |cons y r=>simp only[x0,aj];rw[ih r (by simpa using hs)]
theorem pP(h:List Int)(B:List UInt8)(hh:h.length=8):(comp h B).length=8:=by unfold comp;rw[Gy _ _ (by rw[ig _ _ hh,hh];exact aH 8),hh]
theorem xoV(h:List Int)(B:List UInt8)(hh:h.length=8)(hB:B.length=64):call T 107 [.ptr 0 0,.byt B .no] [.arr 1 (ws h)] 0=some ⟨.tup [],[(0,.arr 1 (ws (comp h B)))],[]⟩:=by
 have g1:=xid B (.arr 1 (ws h)) hB _ 0 rfl (by omega);have g2:=xic (Wl B 64) h (.arr 1 (ws h)) (uz B 64) hh _ 0 rfl (by omega);have g3:=xib h (rounds (Wl B 64) h 64) (.arr 1 (ws (Wl B 64))) hh (ig _ _ hh 64);have hw:Wl B 0=aE 64 0:=rfl;have hr:rounds (Wl B 64) h 0=h:=rfl;rw[hw,<-Gz]at g1;rw[hr]at g2;simp only[aw]at g1 g2;rw[ah xjF]
 match h,hh with
 |[a0,a1,a2,a3,a4,a5,a6,a7],_=>simp only[ws8]at g1 g2 g3;simp only[go_sem,Q0,Q1,Q2,Q3,Q4,Q5,Q6,Q7,Q8,Q9,Qa,Qb,Qc,Qd,Qe,Qf,Qg,Qh,Qi,Qj,Qk,reduceCtorEq,reduceIte,ws8,g1,g2,g3,comp,c9,List.flatten_nil,aC,bp,aU,az,SV.data,List.take_succ_cons,List.take_zero,aj,aq]
def zn(n:Nat):Nat:=(120-n % 64) % 64
theorem xif(B:List UInt8):∀(n:Nat)(acc:List UInt8),zn acc.length=n->acc.length+n<=100000000000000->
 run T (.loop zg) ⟨[(0,.byt B .no),(3,.byt acc (.id 103))],[],[103]⟩=
 some (.x 0,⟨[(0,.byt B .no),(3,.byt (acc++aE n 0) (.id 103))],[],[103]⟩):=by
 intro n;induction n with
 |zero=>
  intro acc h0 h1;have hm:acc.length % 64=56:=by unfold zn at h0;omega
  have hi:(acc.length:Int).tmod 64=56:=by rw[ey (by omega)];omega
  rw[ai];simp only[go_sem,Q0,Q1,Q2,Q3,Q4,Q5,Q6,Q7,Q8,Q9,Qa,Qb,Qc,Qd,Qe,Qf,Qg,Qh,Qi,Qj,Qk,reduceCtorEq,reduceIte,hi,List.replicate_zero,bg]
 |succ n ih=>
  intro acc h0 h1;have hm:acc.length % 64≠56:=by unfold zn at h0;omega
  have hi:¬(acc.length:Int).tmod 64=56:=by rw[ey (by omega)];omega
  have ih':=ih (acc++ [0]) (by unfold zn at*;rw[ac,aW];omega) (by rw[ac,aW];omega);have hc:acc.length+1<=140737488355328:=by omega
  rw[ay,dd,<-List.replicate_succ]at ih';rw[ai];simp only[go_sem,Q0,Q1,Q2,Q3,Q4,Q5,Q6,Q7,Q8,Q9,Qa,Qb,Qc,Qd,Qe,Qf,Qg,Qh,Qi,Qj,Qk,reduceCtorEq,reduceIte,hi,hc,ih']
def gF(v:Int)(s:Nat):UInt8:=bK (v.fdiv (2^s))
def be:Nat->Int->List UInt8
 |0,_=> []
 |k+1,v=>gF v (8*k)::be k v
theorem hZ(n:Nat)(v:Int):(be n v).length=n:=by induction n with
 |zero=>rfl
 |succ n ih=>simp[be,ih]
theorem xie(v:Int):∀(k:Nat)(acc:List UInt8),k<=8->acc.length+k<=100000000000000->
 run T (.loop sW) ⟨[(3,.byt acc (.id 103)),(4,.int .u64 v),(5,.int .i64 (8*(k:Int)-8))],[],[103]⟩=
 some (.x 2,⟨[(3,.byt (acc++be k v) (.id 103))],[],[103]⟩):=by
 intro k;induction k with
 |zero=>
  intro acc hk h;rw[ai];have hg:¬(0:Int)<=8*((0:Nat):Int)-8:=by omega
  simp only[go_sem,Q0,Q1,Q2,Q3,Q4,Q5,Q6,Q7,Q8,Q9,Qa,Qb,Qc,Qd,Qe,Qf,Qg,Qh,Qi,Qj,Qk,reduceCtorEq,reduceIte,hg,be,bg]
 |succ k ih=>
  intro acc hk h;have ih':=ih (acc++ [gF v (8*k)]) (by omega) (by rw[ac,aW];omega);have c1:acc.length+1<=140737488355328:=by omega
  have hg:(0:Int)<=8*((k+1:Nat):Int)-8:=by omega
  have he:aN.wrap (8*((k+1:Nat):Int)-8)=((8*k:Nat):Int):=by rw[bH];omega
  have hs:af.wrap (8*((k+1:Nat):Int)-8-8)=8*(k:Int)-8:=wZ (by omega)
  have hm:min (8*k) 64=8*k:=by omega
  rw[ay,dd]at ih';rw[ai];unfold gF at ih';simp only[go_sem,Q0,Q1,Q2,Q3,Q4,Q5,Q6,Q7,Q8,Q9,Qa,Qb,Qc,Qd,Qe,Qf,Qg,Qh,Qi,Qj,Qk,reduceCtorEq,reduceIte,c1,hg,he,hs,hm,be,gF,ih']
def ij(B:List UInt8):List UInt8:=B++128::(aE (zn (B.length+1)) 0++be 8 (aN.wrap (aN.wrap B.length*8)))
theorem pw(B:List UInt8):(ij B).length=B.length+1+zn (B.length+1)+8:=by simp only[ij,ac,aj,dI,hZ];omega
theorem vt(B:List UInt8):(ij B).length % 64=0:=by rw[pw];unfold zn;omega
theorem xoX(B:List UInt8)(h:B.length<=10000000000000):call T 104 [.byt B .no] [] 0=some ⟨.byt (ij B) .no,[],[]⟩:=by
 have hz:zn (B.length+1)<64:=by unfold zn;omega
 have g1:=xif B _ (B++ [128]) rfl (by simp;omega);have g2:=xie (aN.wrap (aN.wrap B.length*8)) 8 (B++128::aE (zn (B.length+1)) 0) (by omega) (by simp;omega);have e8:8*((8:Nat):Int)-8=56:=rfl;rw[e8]at g2;rw[ah xjH];have e:af.wrap ((B.length:Int)+72)=((B.length+72:Nat):Int):=wZ (by omega)
 have c2:((B.length+72:Nat):Int)<=140737488355328:=by omega
 have c3:B.length<=140737488355328:=by omega
 have c4:B.length+1<=140737488355328:=by omega
 simp only[go_sem,Q0,Q1,Q2,Q3,Q4,Q5,Q6,Q7,Q8,Q9,Qa,Qb,Qc,Qd,Qe,Qf,Qg,Qh,Qi,Qj,Qk,reduceCtorEq,reduceIte,e,g1,g2,c2,c3,c4,ij]
theorem xia(B:List UInt8):∀(n:Nat)(acc:List UInt8),zn acc.length=n->acc.length+n<=100000000000000->
 run T (.loop za) ⟨[(0,.byt B .no),(3,.byt acc (.id 103))],[],[103]⟩=
 some (.x 0,⟨[(0,.byt B .no),(3,.byt (acc++aE n 0) (.id 103))],[],[103]⟩):=by
 intro n;induction n with
 |zero=>
  intro acc h0 h1;have hm:acc.length % 64=56:=by unfold zn at h0;omega
  have hi:(acc.length:Int).tmod 64=56:=by rw[ey (by omega)];omega
  rw[ai];simp only[go_sem,Q0,Q1,Q2,Q3,Q4,Q5,Q6,Q7,Q8,Q9,Qa,Qb,Qc,Qd,Qe,Qf,Qg,Qh,Qi,Qj,Qk,reduceCtorEq,reduceIte,hi,List.replicate_zero,bg]
 |succ n ih=>
  intro acc h0 h1;have hm:acc.length % 64≠56:=by unfold zn at h0;omega
  have hi:¬(acc.length:Int).tmod 64=56:=by rw[ey (by omega)];omega
  have ih':=ih (acc++ [0]) (by unfold zn at*;rw[ac,aW];omega) (by rw[ac,aW];omega);have hc:acc.length+1<=140737488355328:=by omega
  rw[ay,dd,<-List.replicate_succ]at ih';rw[ai];simp only[go_sem,Q0,Q1,Q2,Q3,Q4,Q5,Q6,Q7,Q8,Q9,Qa,Qb,Qc,Qd,Qe,Qf,Qg,Qh,Qi,Qj,Qk,reduceCtorEq,reduceIte,hi,hc,ih']
theorem xh9(v:Int):∀(k:Nat)(acc:List UInt8),k<=8->acc.length+k<=100000000000000->
 run T (.loop sQ) ⟨[(3,.byt acc (.id 103)),(4,.int .u64 v),(5,.int .i64 ((k:Int)-1))],[],[103]⟩=
 some (.x 2,⟨[(3,.byt (acc++be k v) (.id 103))],[],[103]⟩):=by
 intro k;induction k with
 |zero=>
  intro acc hk h;rw[ai];have hg:¬(0:Int)<=((0:Nat):Int)-1:=by omega
  simp only[go_sem,Q0,Q1,Q2,Q3,Q4,Q5,Q6,Q7,Q8,Q9,Qa,Qb,Qc,Qd,Qe,Qf,Qg,Qh,Qi,Qj,Qk,reduceCtorEq,reduceIte,hg,be,bg]
 |succ k ih=>
  intro acc hk h;have ih':=ih (acc++ [gF v (8*k)]) (by omega) (by rw[ac,aW];omega);have c1:acc.length+1<=140737488355328:=by omega
  have hg:(0:Int)<=((k+1:Nat):Int)-1:=by omega
  have he:aN.wrap (((k+1:Nat):Int)-1)=(k:Int):=by rw[bH];omega
  have he2:aN.wrap (8*(k:Int))=((8*k:Nat):Int):=by rw[bH];omega
  have hs:af.wrap (((k+1:Nat):Int)-1-1)=(k:Int)-1:=wZ (by omega)
  have hm:min (8*k) 64=8*k:=by omega
  rw[ay,dd]at ih';rw[ai];unfold gF at ih';simp only[go_sem,Q0,Q1,Q2,Q3,Q4,Q5,Q6,Q7,Q8,Q9,Qa,Qb,Qc,Qd,Qe,Qf,Qg,Qh,Qi,Qj,Qk,reduceCtorEq,reduceIte,c1,hg,he,he2,hs,hm,be,gF,ih']
theorem xoP(B:List UInt8)(h:B.length<=10000000000000):call T 118 [.byt B .no] [] 0=some ⟨.byt (ij B) .no,[],[]⟩:=by
 have hz:zn (B.length+1)<64:=by unfold zn;omega
 have g1:=xia B _ (B++ [128]) rfl (by simp;omega);have g2:=xh9 (aN.wrap (aN.wrap B.length*8)) 8 (B++128::aE (zn (B.length+1)) 0) (by omega) (by simp;omega);have e8:((8:Nat):Int)-1=7:=rfl;rw[e8]at g2;rw[ah xjx];have c3:B.length<=140737488355328:=by omega
 have c4:B.length+1<=140737488355328:=by omega
 simp only[go_sem,Q0,Q1,Q2,Q3,Q4,Q5,Q6,Q7,Q8,Q9,Qa,Qb,Qc,Qd,Qe,Qf,Qg,Qh,Qi,Qj,Qk,reduceCtorEq,reduceIte,g1,g2,c3,c4,ij]
def w4(x:Int):List UInt8:=[gF x 24,gF x 16,gF x 8,bK x]
def sp(h:List Int):List UInt8:=h.flatMap w4
theorem xca(h:List Int):(sp h).length=4*h.length:=by
 induction h with
 |nil=>rfl
 |cons x l ih=>simp only[sp,dU,ac,w4,aj,aq]at*;omega
theorem d0(h:List Int)(i:Nat)(hi:i<h.length):h.drop i=h.getD i 0::h.drop (i+1):=mP h i hi
theorem xnU(h:List Int)(hh:h.length<=1000000000000):∀(n i:Nat)(acc:List UInt8),h.length-i=n->i<=h.length->acc.length=4*i->
 run T (.loop zf) ⟨[(3,.byt acc (.id 103)),(10,.lst 1 (ws h) .no),(11,.int .i64 h.length),(12,.int .i64 i)],[],[103]⟩=
 some (.x 0,⟨[(3,.byt (acc++sp (h.drop i)) (.id 103))],[],[103]⟩):=by
 intro n;induction n with
 |zero=>
  intro i acc h0 h1 ha;have hi:i=h.length:=by omega
  subst hi;rw[ai];simp only[go_sem,Q0,Q1,Q2,Q3,Q4,Q5,Q6,Q7,Q8,Q9,Qa,Qb,Qc,Qd,Qe,Qf,Qg,Qh,Qi,Qj,Qk,reduceCtorEq,reduceIte,bG,sp,eZ,bg]
 |succ n ih=>
  intro i acc h0 h1 ha;have hi:i<h.length:=by omega
  have e1:=cA i (by omega);have ih':=ih (i+1) (acc++w4 (h.getD i 0)) (by omega) (by omega) (by simp[w4];omega);have hg:=cY h i hi;have hl:=fq h;have c1:acc.length+4<=140737488355328:=by omega
  rw[ai];rw[ay]at ih';simp only[w4,gF]at ih';simp only[go_sem,Q0,Q1,Q2,Q3,Q4,Q5,Q6,Q7,Q8,Q9,Qa,Qb,Qc,Qd,Qe,Qf,Qg,Qh,Qi,Qj,Qk,reduceCtorEq,reduceIte,hi,hg,hl,e1,c1,m24,m16,m8,ih',d0 h i hi,sp,dU,w4,gF]
theorem xoW(h:List Int)(hh:h.length<=1000000000000):call T 106 [.lst 1 (ws h) .no] [] 0=some ⟨.byt (sp h) .no,[],[]⟩:=by
 have g:=xnU h hh _ 0 [] rfl (by omega) rfl;have hl:=fq h;rw[ah xjG];have e:af.wrap (4*(h.length:Int))=((4*h.length:Nat):Int):=wZ (by omega)
 have c2:((4*h.length:Nat):Int)<=140737488355328:=by omega
 simp only[aw,bj,az]at g;simp only[go_sem,Q0,Q1,Q2,Q3,Q4,Q5,Q6,Q7,Q8,Q9,Qa,Qb,Qc,Qd,Qe,Qf,Qg,Qh,Qi,Qj,Qk,reduceCtorEq,reduceIte,e,hl,c2,g]
theorem xnS(h:List Int)(hh:h.length<=1000000000000):∀(n i:Nat)(acc:List UInt8),h.length-i=n->i<=h.length->acc.length=4*i->
 run T (.loop y8) ⟨[(0,.lst 1 (ws h) .no),(3,.byt acc (.id 103)),(4,.int .i64 i)],[],[103]⟩=
 some (.x 0,⟨[(3,.byt (acc++sp (h.drop i)) (.id 103))],[],[103]⟩):=by
 intro n;induction n with
 |zero=>
  intro i acc h0 h1 ha;have hi:i=h.length:=by omega
  have hl:=fq h;subst hi;rw[ai];simp only[go_sem,Q0,Q1,Q2,Q3,Q4,Q5,Q6,Q7,Q8,Q9,Qa,Qb,Qc,Qd,Qe,Qf,Qg,Qh,Qi,Qj,Qk,reduceCtorEq,reduceIte,hl,bG,sp,eZ,bg]
 |succ n ih=>
  intro i acc h0 h1 ha;have hi:i<h.length:=by omega
  have e1:=cA i (by omega);have ih':=ih (i+1) (acc++w4 (h.getD i 0)) (by omega) (by omega) (by simp[w4];omega);have hg:=cY h i hi;have hl:=fq h;have c1:acc.length+4<=140737488355328:=by omega
  rw[ai];rw[ay]at ih';simp only[w4,gF]at ih';simp only[go_sem,Q0,Q1,Q2,Q3,Q4,Q5,Q6,Q7,Q8,Q9,Qa,Qb,Qc,Qd,Qe,Qf,Qg,Qh,Qi,Qj,Qk,reduceCtorEq,reduceIte,hi,hg,hl,e1,c1,m24,m16,m8,ih',d0 h i hi,sp,dU,w4,gF]
theorem xoN(h:List Int)(hh:h.length<=1000000000000):call T 121 [.lst 1 (ws h) .no] [] 0=some ⟨.byt (sp h) .no,[],[]⟩:=by have g:=xnS h hh _ 0 [] rfl (by omega) rfl;have hl:=fq h;rw[ah xju];simp only[aw,bj,az]at g;simp only[go_sem,Q0,Q1,Q2,Q3,Q4,Q5,Q6,Q7,Q8,Q9,Qa,Qb,Qc,Qd,Qe,Qf,Qg,Qh,Qi,Qj,Qk,reduceCtorEq,reduceIte,hl,g]
def eT(h:List Int)(X:List UInt8):Nat->List Int
 |0=>h
 |n+1=>eT (comp h (X.take 64)) (X.drop 64) n
theorem lv(n:Nat):∀(h:List Int)(X:List UInt8),h.length=8->(eT h X n).length=8:=by
 induction n with
 |zero=>intro h X hh;exact hh
 |succ n ih=>intro h X hh;exact ih _ _ (pP h _ hh)
def H0:List Int:=[1779033703,3144134277,1013904242,2773480762,1359893119,2600822924,528734635,1541459225]
def sha(B:List UInt8):List UInt8:=sp (eT H0 (ij B) ((ij B).length/64))
theorem md(B:List UInt8):(sha B).length=32:=by unfold sha;rw[xca,lv _ _ _ rfl]
theorem l64:∀(n:Nat)(h:List Int)(X:List UInt8),h.length=8->X.length=64*n->X.length<=1000000000000->
 run T (.loop yA) ⟨[(7,.ptr 107 0),(8,.byt X .no)],[(107,.arr 1 (ws h))],[]⟩=
 some (.x 3,⟨[(7,.ptr 107 0)],[(107,.arr 1 (ws (eT h X n)))],[]⟩):=by
 intro n;induction n with
 |zero=>
  intro h X hh hX hl;rw[ai];have h0:¬(0:Int)<X.length:=by omega
  simp only[go_sem,Q0,Q1,Q2,Q3,Q4,Q5,Q6,Q7,Q8,Q9,Qa,Qb,Qc,Qd,Qe,Qf,Qg,Qh,Qi,Qj,Qk,reduceCtorEq,reduceIte,h0,eT]
 |succ n ih=>
  intro h X hh hX hl;have ih':=ih (comp h (X.take 64)) (X.drop 64) (pP h _ hh) (by rw[aI];omega) (by rw[aI];omega);have g:=xoV h (X.take 64) hh (by rw[ax];omega);have h1:(0:Int)<X.length:=by omega
  have h2:(64:Int)<=X.length:=by omega
  have h3:64<=X.length:=by omega
  rw[ai];simp only[go_sem,Q0,Q1,Q2,Q3,Q4,Q5,Q6,Q7,Q8,Q9,Qa,Qb,Qc,Qd,Qe,Qf,Qg,Qh,Qi,Qj,Qk,reduceCtorEq,reduceIte,h1,h2,h3,g,xj7,cK,ih',eT]
theorem f64(B:List UInt8)(hB:B.length<=100000000000):call T 64 [.int .i64 1,.byt B .no] [] 0=some ⟨.byt (sha B) .no,[],[]⟩:=by
 have g0:=xoX B (by omega);have hl:=pw B;have hz:zn (B.length+1)<64:=by unfold zn;omega
 have hm:=vt B;have g1:=l64 ((ij B).length/64) H0 (ij B) rfl (by omega) (by omega);have hb:=lv ((ij B).length/64) H0 (ij B) rfl;have g2:=xoW (eT H0 (ij B) ((ij B).length/64)) (by omega);have hw:=fq (eT H0 (ij B) ((ij B).length/64));have hH:ws H0=[[.int .u32 1779033703],[.int .u32 3144134277],[.int .u32 1013904242],[.int .u32 2773480762],[.int .u32 1359893119],[.int .u32 2600822924],[.int .u32 528734635],[.int .u32 1541459225]]:=rfl;rw[hH]at g1;rw[ah xps];unfold sha;generalize eT H0 (ij B) ((ij B).length/64)=b at*;have ht:fv 8 (ws b)=ws b:=aO (by rw[hw,hb];exact aH 8);simp only[go_sem,Q0,Q1,Q2,Q3,Q4,Q5,Q6,Q7,Q8,Q9,Qa,Qb,Qc,Qd,Qe,Qf,Qg,Qh,Qi,Qj,Qk,reduceCtorEq,reduceIte,g0,g1,g2,xj9,xj8,hw,hb,c8,ht]
theorem xoQ:call T 117 [] [] 0=some ⟨.agg iZ,[],[]⟩:=by rw[ah xjy];simp only[go_sem,Q0,Q1,Q2,Q3,Q4,Q5,Q6,Q7,Q8,Q9,Qa,Qb,Qc,Qd,Qe,Qf,Qg,Qh,Qi,Qj,Qk,reduceCtorEq,reduceIte];rfl
def bk(X:List UInt8)(a:Nat):List UInt8:=gJ a (fv (a+64) X)
theorem N7(X:List UInt8)(a:Nat)(h:a+64<=X.length):(bk X a).length=64:=by unfold bk;rw[aI,ax];omega
theorem xiH(X:List UInt8)(a:Nat):bk X a=(X.drop a).take 64:=by unfold bk;rw[fd];congr 1;omega
theorem rq7(x:Int):call T 120 [.int .u32 x,.int .u64 7] [] 0=some ⟨.int .u32 (rr x 7),[],[]⟩:=vU x 7 (by omega)
theorem xm5(x:Int):call T 120 [.int .u32 x,.int .u64 18] [] 0=some ⟨.int .u32 (rr x 18),[],[]⟩:=vU x 18 (by omega)
theorem xm6(x:Int):call T 120 [.int .u32 x,.int .u64 17] [] 0=some ⟨.int .u32 (rr x 17),[],[]⟩:=vU x 17 (by omega)
theorem xm4(x:Int):call T 120 [.int .u32 x,.int .u64 19] [] 0=some ⟨.int .u32 (rr x 19),[],[]⟩:=vU x 19 (by omega)
theorem rq6(x:Int):call T 120 [.int .u32 x,.int .u64 6] [] 0=some ⟨.int .u32 (rr x 6),[],[]⟩:=vU x 6 (by omega)
theorem xm8(x:Int):call T 120 [.int .u32 x,.int .u64 11] [] 0=some ⟨.int .u32 (rr x 11),[],[]⟩:=vU x 11 (by omega)
theorem xm2(x:Int):call T 120 [.int .u32 x,.int .u64 25] [] 0=some ⟨.int .u32 (rr x 25),[],[]⟩:=vU x 25 (by omega)
theorem rq2(x:Int):call T 120 [.int .u32 x,.int .u64 2] [] 0=some ⟨.int .u32 (rr x 2),[],[]⟩:=vU x 2 (by omega)
theorem xm7(x:Int):call T 120 [.int .u32 x,.int .u64 13] [] 0=some ⟨.int .u32 (rr x 13),[],[]⟩:=vU x 13 (by omega)
theorem xm3(x:Int):call T 120 [.int .u32 x,.int .u64 22] [] 0=some ⟨.int .u32 (rr x 22),[],[]⟩:=vU x 22 (by omega)
theorem xnv(X:List UInt8)(a:Nat)(h:List Int)(ha:a+64<=X.length)(hX:X.length<=1000000000000):∀(n t:Nat),64-t=n->t<=64->
 run T (.loop yy) ⟨[(3,.ptr 103 0),(4,.psl 119 1 0 8 (some 8)),(5,.byt X .no),(6,.int .i64 a),(7,.ptr 107 0),(8,.int .i64 t)],[(103,.arr 1 (ws Kl)),(107,.arr 1 (ws (Wl (bk X a) t))),(119,.arr 1 (ws h))],[]⟩=
 some (.x 2,⟨[(3,.ptr 103 0),(4,.psl 119 1 0 8 (some 8)),(5,.byt X .no),(6,.int .i64 a),(7,.ptr 107 0)],[(103,.arr 1 (ws Kl)),(107,.arr 1 (ws (Wl (bk X a) 64))),(119,.arr 1 (ws h))],[]⟩):=by
 intro n;induction n with
 |zero=>
  intro t h0 h1;have hi:t=64:=by omega
  subst hi;rw[ai];simp only[c64,go_sem,Q0,Q1,Q2,Q3,Q4,Q5,Q6,Q7,Q8,Q9,Qa,Qb,Qc,Qd,Qe,Qf,Qg,Qh,Qi,Qj,Qk,reduceCtorEq,reduceIte]
 |succ n ih=>
  intro t h0 h1;have ih':=ih (t+1) (by omega) (by omega);have e1:=cA t (by omega);have hlt:(t:Int)<64:=by omega
  have hl:=uz (bk X a) t;have hw:=fq (Wl (bk X a) t);have hn:t<64:=by omega
  have hs:Wl (bk X a) (t+1)=(Wl (bk X a) t).set t (nw (bk X a) (Wl (bk X a) t) t):=rfl;have a1:af.wrap ((a:Int)+64)=((a+64:Nat):Int):=wZ (by omega)
  have a3:a<=a+64:=by omega
  rw[ai]
  by_cases h16:t<16
  ·have g:=xoO (bk X a) t (by rw[N7 X a ha];omega) (by rw[N7 X a ha];omega)
   have h16':(t:Int)<16:=by omega
   have hx:nw (bk X a) (Wl (bk X a) t) t=wd (bk X a) t:=by unfold nw;rw[if_pos h16]
   rw[hs,hx]at ih';generalize hb:Wl (bk X a) t=L at*;generalize hc:wd (bk X a) t=z at*;unfold bk at g;simp only[go_sem,Q0,Q1,Q2,Q3,Q4,Q5,Q6,Q7,Q8,Q9,Qa,Qb,Qc,Qd,Qe,Qf,Qg,Qh,Qi,Qj,Qk,reduceCtorEq,reduceIte,hlt,h16',e1,a1,ha,a3,g,hl,hw,xj0,hn,tR,ih']
  ·have h16':¬(t:Int)<16:=by omega
   have a15:af.wrap ((t:Int)-15)=((t-15:Nat):Int):=wZ (by omega)
   have a2:af.wrap ((t:Int)-2)=((t-2:Nat):Int):=wZ (by omega)
   have a7:af.wrap ((t:Int)-7)=((t-7:Nat):Int):=wZ (by omega)
   have a16:af.wrap ((t:Int)-16)=((t-16:Nat):Int):=wZ (by omega)
   have b15:t-15<64:=by omega
   have b2:t-2<64:=by omega
   have b7:t-7<64:=by omega
   have b16:t-16<64:=by omega
   rw[hs]at ih';unfold nw at ih';rw[if_neg h16]at ih';generalize hb:Wl (bk X a) t=L at*;have d15:=cY L (t-15) (by omega);have d2:=cY L (t-2) (by omega);have d7:=cY L (t-7) (by omega);have d16:=cY L (t-16) (by omega);simp only[go_sem,Q0,Q1,Q2,Q3,Q4,Q5,Q6,Q7,Q8,Q9,Qa,Qb,Qc,Qd,Qe,Qf,Qg,Qh,Qi,Qj,Qk,reduceCtorEq,reduceIte,hlt,h16',e1,hl,hw,xaq,hn,a15,a2,a7,a16,b15,b2,b7,b16,d15,d2,d7,d16,rq7,xm5,xm6,xm4,tR,m3,m10,ih']
theorem xnu(X:List UInt8)(a:Nat)(W h:List Int)(O:aF)(hW:W.length=64)(hh:h.length=8):∀(n t:Nat)(q:Tok),64-t=n->t<=64->
 run T (.loop yx) ⟨[(3,.ptr 103 0),(4,.psl 119 1 0 8 (some 8)),(5,.byt X .no),(6,.int .i64 a),(7,.ptr 107 0),(11,.lst 1 (ws (rounds W h t)) q),(12,.int .i64 t)],[(103,.arr 1 (ws Kl)),(107,.arr 1 (ws W)),(119,O)],[194]⟩=
 some (.x 4,⟨[(3,.ptr 103 0),(4,.psl 119 1 0 8 (some 8)),(5,.byt X .no),(6,.int .i64 a),(11,.lst 1 (ws (rounds W h 64)) (if t=64 then q else .clip))],[(103,.arr 1 (ws Kl)),(107,.arr 1 (ws W)),(119,O)],[194]⟩):=by
 intro n;induction n with
 |zero=>
  intro t q h0 h1;have hi:t=64:=by omega
  subst hi;rw[ai];simp only[c64,go_sem,Q0,Q1,Q2,Q3,Q4,Q5,Q6,Q7,Q8,Q9,Qa,Qb,Qc,Qd,Qe,Qf,Qg,Qh,Qi,Qj,Qk,reduceCtorEq,reduceIte]
 |succ n ih=>
  intro t q h0 h1;have ih':=ih (t+1) .clip (by omega) (by omega);have e1:=cA t (by omega);have hlt:(t:Int)<64:=by omega
  have hn:t<64:=by omega
  have hn2:t≠64:=by omega
  have hl:=ig W h hh t;have hw:=fq (rounds W h t);have hw2:=fq W;have hw3:=fq Kl;have hk:=Ah;have hs:rounds W h (t+1)=rnd (Kl.getD t 0) (W.getD t 0) (rounds W h t):=rfl;rw[hs]at ih';simp only[rnd,ws8]at ih';rw[ite_self]at ih';generalize rounds W h t=s at*;have d0:=cY s 0 (by omega);have d1:=cY s 1 (by omega);have d2:=cY s 2 (by omega);have d3:=cY s 3 (by omega);have d4:=cY s 4 (by omega);have d5:=cY s 5 (by omega);have d6:=cY s 6 (by omega);have d7:=cY s 7 (by omega);have dW:=cY W t (by omega);have dK:=cY Kl t (by rw[Ah];exact hn);rw[ai];simp only[go_sem,Q0,Q1,Q2,Q3,Q4,Q5,Q6,Q7,Q8,Q9,Qa,Qb,Qc,Qd,Qe,Qf,Qg,Qh,Qi,Qj,Qk,reduceCtorEq,reduceIte,hlt,e1,hl,hw,hw2,hw3,hk,hW,xaq,hn,hn2,d0,d1,d2,d3,d4,d5,d6,d7,dW,dK,rq6,xm8,xm2,rq2,xm7,xm3,c8,c64,ih']
theorem xnt(X:List UInt8)(a:Nat)(h s:List Int)(P Q:aF)(hh:h.length=8)(hs:s.length=8):
 run T (.loop yv) ⟨[(3,.ptr 103 0),(4,.psl 119 1 0 8 (some 8)),(5,.byt X .no),(6,.int .i64 a),(11,.lst 1 (ws s) .clip),(17,.int .i64 0)],[(103,P),(107,Q),(119,.arr 1 (ws h))],[194]⟩=
 some (.x 6,⟨[(3,.ptr 103 0),(4,.psl 119 1 0 8 (some 8)),(5,.byt X .no),(6,.int .i64 a)],[(103,P),(107,Q),(119,.arr 1 (ws (x0 h s)))],[194]⟩):=by
 match h,hh with
 |[a0,a1,a2,a3,a4,a5,a6,a7],_=>match s,hs with
  |[b0,b1,b2,b3,b4,b5,b6,b7],_=>
   have k1:af.wrap 1=1:=rfl;have k2:af.wrap 2=2:=rfl;have k3:af.wrap 3=3:=rfl;have k4:af.wrap 4=4:=rfl;have k5:af.wrap 5=5:=rfl;have k6:af.wrap 6=6:=rfl;have k7:af.wrap 7=7:=rfl;have k8:af.wrap 8=8:=rfl;simp only[ws8,x0]
   iterate 9
    rw[ai];simp only[go_sem,Q0,Q1,Q2,Q3,Q4,Q5,Q6,Q7,Q8,Q9,Qa,Qb,Qc,Qd,Qe,Qf,Qg,Qh,Qi,Qj,Qk,reduceCtorEq,reduceIte,aj,aq,c8,k1,k2,k3,k4,k5,k6,k7,k8]
theorem l73(X:List UInt8)(hX:X.length<=1000000000000):∀(n a:Nat)(h:List Int),h.length=8->X.length=a+64*n->
 run T (.loop yu) ⟨[(3,.ptr 103 0),(4,.psl 119 1 0 8 (some 8)),(5,.byt X .no),(6,.int .i64 a)],[(103,.arr 1 (ws Kl)),(119,.arr 1 (ws h))],[]⟩=
 some (.x 0,⟨[(4,.psl 119 1 0 8 (some 8))],[(103,.arr 1 (ws Kl)),(119,.arr 1 (ws (eT h (X.drop a) n)))],[]⟩):=by
 intro n;induction n with
 |zero=>
  intro a h hh hl;rw[ai];have h0:¬(a:Int)<X.length:=by omega
  simp only[go_sem,Q0,Q1,Q2,Q3,Q4,Q5,Q6,Q7,Q8,Q9,Qa,Qb,Qc,Qd,Qe,Qf,Qg,Qh,Qi,Qj,Qk,reduceCtorEq,reduceIte,h0,eT]
 |succ n ih=>
  intro a h hh hl;have ih':=ih (a+64) (comp h (bk X a)) (pP h _ hh) (by omega);have h0:(a:Int)<X.length:=by omega
  have a1:af.wrap ((a:Int)+64)=((a+64:Nat):Int):=wZ (by omega)
  have g1:=xnv X a h (by omega) hX _ 0 rfl (by omega);have g2:=xnu X a (Wl (bk X a) 64) h (.arr 1 (ws h)) (uz _ 64) hh _ 0 (.id 194) rfl (by omega);have g3:=xnt X a h (rounds (Wl (bk X a) 64) h 64) (.arr 1 (ws Kl)) (.arr 1 (ws (Wl (bk X a) 64))) hh (ig _ _ hh 64);have hw:Wl (bk X a) 0=aE 64 0:=rfl;have hr:rounds (Wl (bk X a) 64) h 0=h:=rfl;have hz:¬(0:Nat)=64:=by omega
  have hwl:=fq h;rw[hw,<-Gz]at g1;rw[hr,if_neg hz]at g2;simp only[aw]at g1 g2
  have hbl:eT h (X.drop a) (n+1)=eT (comp h (bk X a)) (X.drop (a+64)) n:=by rw[eT,xiH,List.drop_drop]
  rw[hbl,ai];unfold comp at ih' ⊢;have ht:fv 8 (ws h)=ws h:=aO (by rw[hwl,hh];exact aH 8);simp only[go_sem,Q0,Q1,Q2,Q3,Q4,Q5,Q6,Q7,Q8,Q9,Qa,Qb,Qc,Qd,Qe,Qf,Qg,Qh,Qi,Qj,Qk,reduceCtorEq,reduceIte,h0,a1,g1,g2,g3,hwl,hh,ht,ih']
  trace_state
attribute [-go_sem] jA
theorem f73(B:List UInt8)(hB:B.length<=100000000000):call T 73 [.byt B .no] [] 0=some ⟨.byt (sha B) .no,[],[]⟩:=by
 have g1:=xoQ;have g0:=xoP B (by omega);have ck:jA 1 64 (List.map SV.data iZ)=ws Kl:=rfl;have i3:iZ.all SV.isData=true:=rfl;have i4:=mL;have pg:SV.purgeL 103 104 iZ=iZ:=rfl;have i1:SV.idsL iZ=[]:=rfl;have i2:SV.toksL iZ=[]:=rfl;have hl:=pw B;have hz:zn (B.length+1)<64:=by unfold zn;omega
 have hm:=vt B;have g3:=l73 (ij B) (by omega) ((ij B).length/64) 0 H0 rfl (by omega);have hb:=lv ((ij B).length/64) H0 (ij B) rfl;have g2:=xoN (eT H0 (ij B) ((ij B).length/64)) (by omega);have hw:=fq (eT H0 (ij B) ((ij B).length/64));have hH:ws H0=[[.int .u32 1779033703],[.int .u32 3144134277],[.int .u32 1013904242],[.int .u32 2773480762],[.int .u32 1359893119],[.int .u32 2600822924],[.int .u32 528734635],[.int .u32 1541459225]]:=rfl;rw[hH]at g3;simp only[aw,bj]at g3;unfold sha;generalize eT H0 (ij B) ((ij B).length/64)=b at*;have ht:fv 8 (ws b)=ws b:=aO (by rw[hw,hb];exact aH 8);rw[ah xpp];simp only[go_sem,Q0,Q1,Q2,Q3,Q4,Q5,Q6,Q7,Q8,Q9,Qa,Qb,Qc,Qd,Qe,Qf,Qg,Qh,Qi,Qj,Qk,reduceCtorEq,reduceIte,g1,g0,xj1,xj2,i1,i2,List.isEmpty,ck,i3,i4,pg,g2,g3,xjZ,hw,hb,c8,ht]
attribute [go_sem] jA
theorem l40(v:Int):∀(k:Nat)(acc:List UInt8),k<=8->acc.length+k<=100000000000000->
 run T (.loop OE) ⟨[(2,.int .i64 v),(7,.byt acc (.id 107)),(8,.int .i64 ((k:Int)-1))],[],[107]⟩=
 some (.x 0,⟨[(7,.byt (acc++be k (aN.wrap v)) (.id 107))],[],[107]⟩):=by
 intro k;induction k with
 |zero=>
  intro acc hk h;rw[ai];have hg:¬(0:Int)<=((0:Nat):Int)-1:=by omega
  simp only[go_sem,Q0,Q1,Q2,Q3,Q4,Q5,Q6,Q7,Q8,Q9,Qa,Qb,Qc,Qd,Qe,Qf,Qg,Qh,Qi,Qj,Qk,reduceCtorEq,reduceIte,hg,be,bg]
 |succ k ih=>
  intro acc hk h;have ih':=ih (acc++ [gF (aN.wrap v) (8*k)]) (by omega) (by rw[ac,aW];omega);have c1:acc.length+1<=140737488355328:=by omega
  have hg:(0:Int)<=((k+1:Nat):Int)-1:=by omega
  have he:aN.wrap (((k+1:Nat):Int)-1)=(k:Int):=by rw[bH];omega
  have he2:af.wrap (8*(((k+1:Nat):Int)-1))=((8*k:Nat):Int):=wZ (by omega)
  have he3:aN.wrap (((8*k:Nat):Int))=((8*k:Nat):Int):=by rw[bH];omega
  have he4:aN.wrap (8*(k:Int))=((8*k:Nat):Int):=by rw[bH];omega
  have hs:af.wrap (((k+1:Nat):Int)-1-1)=(k:Int)-1:=wZ (by omega)
  have hm:min (8*k) 64=8*k:=by omega
  rw[ay,dd]at ih';rw[ai];unfold gF at ih';simp only[go_sem,Q0,Q1,Q2,Q3,Q4,Q5,Q6,Q7,Q8,Q9,Qa,Qb,Qc,Qd,Qe,Qf,Qg,Qh,Qi,Qj,Qk,reduceCtorEq,reduceIte,c1,hg,he,he2,he3,he4,hs,hm,be,gF,ih']
theorem f40(B:List UInt8)(k:Nat)(v:Int)(h1:1<=k)(h8:k<=8)(hB:B.length<=10000000000000):
 call T 40 [.byt B .no,.int .i64 k,.int .i64 v] [] 0=some ⟨.byt (B++be k (aN.wrap v)) (.id 60),[],[60]⟩:=by
 have g:=l40 v k B h8 (by omega);have c1:¬(k:Int)<1:=by omega
 have c2:¬(8:Int)<k:=by omega
 have c3:af.wrap ((k:Int)-1)=(k:Int)-1:=w64 (by omega) (by omega);have c4:B.length<=140737488355328:=by omega
 rw[ah xpI];simp only[go_sem,Q0,Q1,Q2,Q3,Q4,Q5,Q6,Q7,Q8,Q9,Qa,Qb,Qc,Qd,Qe,Qf,Qg,Qh,Qi,Qj,Qk,reduceCtorEq,reduceIte,c1,c2,c3,c4,g]
theorem l45(v:Int):∀(k:Nat)(acc:List UInt8),k<=8->acc.length+k<=100000000000000->
 run T (.loop Oz) ⟨[(2,.int .i64 v),(7,.byt acc (.id 107)),(8,.int .i64 ((k:Int)-1))],[],[107]⟩=
 some (.x 0,⟨[(7,.byt (acc++be k (aN.wrap v)) (.id 107))],[],[107]⟩):=by
 intro k;induction k with
 |zero=>
  intro acc hk h;rw[ai];have hg:¬(0:Int)<=((0:Nat):Int)-1:=by omega
  simp only[go_sem,Q0,Q1,Q2,Q3,Q4,Q5,Q6,Q7,Q8,Q9,Qa,Qb,Qc,Qd,Qe,Qf,Qg,Qh,Qi,Qj,Qk,reduceCtorEq,reduceIte,hg,be,bg]
 |succ k ih=>
  intro acc hk h;have ih':=ih (acc++ [gF (aN.wrap v) (8*k)]) (by omega) (by rw[ac,aW];omega);have c1:acc.length+1<=140737488355328:=by omega
  have hg:(0:Int)<=((k+1:Nat):Int)-1:=by omega
  have he:aN.wrap (((k+1:Nat):Int)-1)=(k:Int):=by rw[bH];omega
  have he4:aN.wrap (8*(k:Int))=((8*k:Nat):Int):=by rw[bH];omega
  have hs:af.wrap (((k+1:Nat):Int)-1-1)=(k:Int)-1:=wZ (by omega)
  have hm:min (8*k) 64=8*k:=by omega
  rw[ay,dd]at ih';rw[ai];unfold gF at ih';simp only[go_sem,Q0,Q1,Q2,Q3,Q4,Q5,Q6,Q7,Q8,Q9,Qa,Qb,Qc,Qd,Qe,Qf,Qg,Qh,Qi,Qj,Qk,reduceCtorEq,reduceIte,c1,hg,he,he4,hs,hm,be,gF,ih']
theorem f45(B:List UInt8)(k:Nat)(v:Int)(h1:1<=k)(h8:k<=8)(hB:B.length<=10000000000000):
 call T 45 [.byt B .no,.int .i64 k,.int .i64 v] [] 0=some ⟨.byt (B++be k (aN.wrap v)) (.id 60),[],[60]⟩:=by
 have g:=l45 v k B h8 (by omega);have c1:¬(k:Int)<1:=by omega
 have c2:¬(8:Int)<k:=by omega
 have c3:af.wrap ((k:Int)-1)=(k:Int)-1:=w64 (by omega) (by omega);have c4:B.length<=140737488355328:=by omega
 rw[ah xpD];simp only[go_sem,Q0,Q1,Q2,Q3,Q4,Q5,Q6,Q7,Q8,Q9,Qa,Qb,Qc,Qd,Qe,Qf,Qg,Qh,Qi,Qj,Qk,reduceCtorEq,reduceIte,c1,c2,c3,c4,g]
def lF(B X:List UInt8):List UInt8:=B++be 2 (aN.wrap (X.take 65535).length)++X.take 65535
theorem f82(B X:List UInt8)(hB:B.length<=1000000000000)(hX:X.length<=1000000000000):call T 82 [.byt B .no,.byt X .no] [] 0=some ⟨.byt (lF B X) (.id 60),[],[60]⟩:=by
 have g:=f45 B 2 (X.take 65535).length (by omega) (by omega) (by omega);rw[c2]at g;rw[ah xph];have hl:(X.take 65535).length<=65535:=by rw[ax];omega
 have c4:(B++be 2 (aN.wrap (X.take 65535).length)).length+(X.take 65535).length<=140737488355328:=by rw[ac,hZ];omega
 by_cases h:(65535:Int)<X.length
 ·have h3:(65535:Int)<=X.length:=by omega
  have h4:65535<=X.length:=by omega
  simp only[ac]at c4;simp only[go_sem,Q0,Q1,Q2,Q3,Q4,Q5,Q6,Q7,Q8,Q9,Qa,Qb,Qc,Qd,Qe,Qf,Qg,Qh,Qi,Qj,Qk,reduceCtorEq,reduceIte,h,h3,h4,g,Cl,lF,c4,ay]
 ·have ht:X.take 65535=X:=aO (by omega)
  rw[ht]at g c4;simp only[ac]at c4;simp only[go_sem,Q0,Q1,Q2,Q3,Q4,Q5,Q6,Q7,Q8,Q9,Qa,Qb,Qc,Qd,Qe,Qf,Qg,Qh,Qi,Qj,Qk,reduceCtorEq,reduceIte,h,g,Cl,lF,ht,c4,ay]
def frame(t:Int)(X:List UInt8):List UInt8:=bK t::(w4 (X.length:Int)++X)
theorem xoq(t:Int)(X:List UInt8)(hX:X.length<=1000000000):call T 204 [.int .i64 t,.lst 1 [[.byt X .no]] .no] [] 0=some ⟨.byt (frame t X) .no,[],[]⟩:=by
 have k1:af.wrap 1=1:=rfl;have e1:cQ.wrap (X.length:Int)=X.length:=by rw[IntKind.wrap_u32];omega
 have c4:1+4+X.length<=140737488355328:=by omega
 have c5:5+X.length<=140737488355328:=by omega
 rw[ah ZU];simp only[go_sem,Q0,Q1,Q2,Q3,Q4,Q5,Q6,Q7,Q8,Q9,Qa,Qb,Qc,Qd,Qe,Qf,Qg,Qh,Qi,Qj,Qk,reduceCtorEq,reduceIte,aj,aq,c1,k1];rw[ai];simp only[go_sem,Q0,Q1,Q2,Q3,Q4,Q5,Q6,Q7,Q8,Q9,Qa,Qb,Qc,Qd,Qe,Qf,Qg,Qh,Qi,Qj,Qk,reduceCtorEq,reduceIte,aj,aq,c1,k1,e1,m24,m16,m8,c4,c5];rw[ai];simp only[go_sem,Q0,Q1,Q2,Q3,Q4,Q5,Q6,Q7,Q8,Q9,Qa,Qb,Qc,Qd,Qe,Qf,Qg,Qh,Qi,Qj,Qk,reduceCtorEq,reduceIte,aj,aq,c1,k1,e1,m24,m16,m8,c4,c5,frame,w4,gF]
 trace_state
theorem xop(t:Int)(X:List UInt8)(hX:X.length<=1000000000):call T 206 [.int .i64 t,.lst 1 [[.byt X .no]] .no] [] 0=some ⟨.byt (frame t X) .no,[],[]⟩:=by
 have k1:af.wrap 1=1:=rfl;have c4:1+4+X.length<=140737488355328:=by omega
 have c5:5+X.length<=140737488355328:=by omega
 have m24':min 24 64=24:=rfl;have m16':min 16 64=16:=rfl;have m8':min 8 64=8:=rfl;rw[ah ZT];simp only[go_sem,Q0,Q1,Q2,Q3,Q4,Q5,Q6,Q7,Q8,Q9,Qa,Qb,Qc,Qd,Qe,Qf,Qg,Qh,Qi,Qj,Qk,reduceCtorEq,reduceIte,aj,aq,c1,k1];rw[ai];simp only[go_sem,Q0,Q1,Q2,Q3,Q4,Q5,Q6,Q7,Q8,Q9,Qa,Qb,Qc,Qd,Qe,Qf,Qg,Qh,Qi,Qj,Qk,reduceCtorEq,reduceIte,aj,aq,c1,k1,m24',m16',m8',c4,c5];rw[ai];simp only[go_sem,Q0,Q1,Q2,Q3,Q4,Q5,Q6,Q7,Q8,Q9,Qa,Qb,Qc,Qd,Qe,Qf,Qg,Qh,Qi,Qj,Qk,reduceCtorEq,reduceIte,aj,aq,c1,k1,m24',m16',m8',c4,c5,frame,w4,gF]
theorem rK(t:Int)(X:List UInt8):(frame t X).length=X.length+5:=by simp[frame,w4]
def xL(t:Int)(X:List UInt8):List UInt8:=sha (frame t X)
theorem xoy(t:Int)(X:List UInt8)(hX:X.length<=1000000000):call T 183 [.int .i64 t,.lst 1 [[.byt X .no]] .no] [] 0=some ⟨.byt (xL t X) .no,[],[]⟩:=by have g1:=xoq t X hX;have g2:=f64 (frame t X) (by rw[rK];omega);rw[ah ZW];simp only[go_sem,Q0,Q1,Q2,Q3,Q4,Q5,Q6,Q7,Q8,Q9,Qa,Qb,Qc,Qd,Qe,Qf,Qg,Qh,Qi,Qj,Qk,reduceCtorEq,reduceIte,g1,g2,Z7,xfx,xL]
theorem xou(t:Int)(X:List UInt8)(hX:X.length<=1000000000):call T 190 [.int .i64 t,.lst 1 [[.byt X .no]] .no] [] 0=some ⟨.byt (xL t X) .no,[],[]⟩:=by have g1:=xop t X hX;have g2:=f73 (frame t X) (by rw[rK];omega);rw[ah ZV];simp only[go_sem,Q0,Q1,Q2,Q3,Q4,Q5,Q6,Q7,Q8,Q9,Qa,Qb,Qc,Qd,Qe,Qf,Qg,Qh,Qi,Qj,Qk,reduceCtorEq,reduceIte,g1,g2,Z6,Z3,xL]
end Go.Proofs.YtkggincjigbelaaGreatDoor
