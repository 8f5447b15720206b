/- What the functions come to. No condition. -/
import Derived.Test.YtkcjdeofknkndaaGreatDoorTaIt
open Int renaming natCast_zero -> av
open Go.IntKind renaming i64 -> ac, u32 -> ax, u64 -> aZ, wrap_u64 -> cB
open List renaming append_assoc -> aA, append_nil -> bJ, cons_append -> aJ, drop -> iu, drop_drop -> dY, drop_length -> aX, drop_zero -> bh, flatMap_cons -> jD, flatten_cons -> dj, getD_cons_succ -> bY, getD_cons_zero -> bL, getD_eq_getElem?_getD -> aa, getElem?_drop -> bE, getElem?_eq_getElem -> ab, getElem?_map -> aT, length_append -> af, length_cons -> aC, length_drop -> aH, length_nil -> aB, length_replicate -> ca, length_singleton -> aM, length_take -> aj, map_cons -> aI, map_nil -> bn, nil_append -> aF, replicate -> am, singleton_append -> cX, take -> du, take_length -> bv, take_of_length_le -> ay, take_succ_cons -> mz
open Nat renaming add_zero -> eK, le_refl -> aQ, mul_one -> dt
open UInt8 renaming ofInt -> bO
set_option maxRecDepth 100000
set_option maxHeartbeats 16000000
set_option linter.unusedSimpArgs false
set_option linter.unusedVariables false
namespace Go.Proofs.YtkcjdeofknkndaaGreatDoor
open Go.Sy
open UInt8 renaming reduceLT -> Q0, reduceLE -> Q1
open Int renaming reduceToNat -> Q2, reduceLE -> Q3, reduceLT -> Q4, reduceEq -> Q5, reduceNe -> Q6, reduceNeg -> Q7, reduceAdd -> Q8, reduceSub -> Q9, reduceMul -> Qa
open Nat renaming reducePow -> Qb, reduceDiv -> Qc, reduceMod -> Qd, reduceAdd -> Qe, reduceSub -> Qf, reduceMul -> Qg, reduceLT -> Qh, reduceLeDiff -> Qi, reduceEqDiff -> Qj, reduceBEq -> Qk
def rr(x:Int)(n:Nat):Int:=bC .or .u32 (x.fdiv (2^n)) (ax.wrap (x*2^(32-n)))
theorem lq(k:IntKind)(x y:Int):bC .or k x y=bC .or k y x:=by simp only[bC,BitVec.or_comm]
theorem vW(x:Int)(n:Nat)(h:n<=32):call T 118 [.int .u32 x,.int .u64 n] [] 0=some ⟨.int .u32 (rr x n),[],[]⟩:=by
 rw[ao xi7];have e:aZ.wrap (32-(n:Int))=((32-n:Nat):Int):=by rw[cB];omega
 have e2:min n 32=n:=by omega
 have e3:min (32-n) 32=32-n:=by omega
 have e4:(0:Int)<=((32-n:Nat):Int):=by omega
 simp only[go_sem,Q0,Q1,Q2,Q3,Q4,Q5,Q6,Q7,Q8,Q9,Qa,Qb,Qc,Qd,Qe,Qf,Qg,Qh,Qi,Qj,Qk,reduceCtorEq,reduceIte,e,e2,e3,e4,rr]
theorem qN(x k:Int)(n:Nat)(h:n<=32)(hk:bC .and .u64 (aZ.wrap k) 31=((32-n:Nat):Int)):call T 157 [.int .u32 x,.int .i64 k] [] 0=some ⟨.int .u32 (rr x n),[],[]⟩:=by
 rw[ao xiG];have e:aZ.wrap (32-((32-n:Nat):Int))=(n:Int):=by rw[cB];omega
 have e2:min n 32=n:=by omega
 have e3:min (32-n) 32=32-n:=by omega
 simp only[go_sem,Q0,Q1,Q2,Q3,Q4,Q5,Q6,Q7,Q8,Q9,Qa,Qb,Qc,Qd,Qe,Qf,Qg,Qh,Qi,Qj,Qk,reduceCtorEq,reduceIte,hk,e,e2,e3,rr,lq]
theorem m24:min 24 32=24:=rfl
theorem m16:min 16 32=16:=rfl
theorem m8:min 8 32=8:=rfl
theorem m3:min 3 32=3:=rfl
theorem m10:min 10 32=10:=rfl
def wd(B:List UInt8)(t:Nat):Int:=
 bC .or .u32 (bC .or .u32 (bC .or .u32 (ax.wrap (((B.getD (4*t) 0).toNat:Int)*2^24)) (ax.wrap (((B.getD (4*t+1) 0).toNat:Int)*2^16)))
  (ax.wrap (((B.getD (4*t+2) 0).toNat:Int)*2^8))) ((B.getD (4*t+3) 0).toNat:Int)
theorem xkO(B:List UInt8)(t:Nat)(h:4*t+3<B.length)(hl:B.length<=1000000000000):call T 156 [.byt B .no,.int .i64 t] [] 0=some ⟨.int .u32 (wd B t),[],[]⟩:=by
 rw[ao xiH];have e0:ac.wrap (4*(t:Int))=((4*t:Nat):Int):=wZ (by omega)
 have e1:ac.wrap (((4*t:Nat):Int)+1)=((4*t+1:Nat):Int):=wZ (by omega)
 have e2:ac.wrap (((4*t:Nat):Int)+2)=((4*t+2:Nat):Int):=wZ (by omega)
 have e3:ac.wrap (((4*t:Nat):Int)+3)=((4*t+3:Nat):Int):=wZ (by omega)
 have h0:4*t<B.length:=by omega
 have h1:4*t+1<B.length:=by omega
 have h2:4*t+2<B.length:=by omega
 simp only[go_sem,Q0,Q1,Q2,Q3,Q4,Q5,Q6,Q7,Q8,Q9,Qa,Qb,Qc,Qd,Qe,Qf,Qg,Qh,Qi,Qj,Qk,reduceCtorEq,reduceIte,e0,e1,e2,e3,h,h0,h1,h2,wd,m24,m16,m8]
theorem xkY(B:List UInt8)(t:Nat)(h:4*t+3<B.length)(hl:B.length<=1000000000000):call T 117 [.byt B .no,.int .i64 t] [] 0=some ⟨.int .u32 (wd B t),[],[]⟩:=by
 rw[ao xi8];have e0:ac.wrap (4*(t:Int))=((4*t:Nat):Int):=wZ (by omega)
 have e1:ac.wrap (((4*t:Nat):Int)+1)=((4*t+1:Nat):Int):=wZ (by omega)
 have e2:ac.wrap (((4*t:Nat):Int)+2)=((4*t+2:Nat):Int):=wZ (by omega)
 have e3:ac.wrap (((4*t:Nat):Int)+3)=((4*t+3:Nat):Int):=wZ (by omega)
 have h0:4*t<B.length:=by omega
 have h1:4*t+1<B.length:=by omega
 have h2:4*t+2<B.length:=by omega
 simp only[go_sem,Q0,Q1,Q2,Q3,Q4,Q5,Q6,Q7,Q8,Q9,Qa,Qb,Qc,Qd,Qe,Qf,Qg,Qh,Qi,Qj,Qk,reduceCtorEq,reduceIte,e0,e1,e2,e3,h,h0,h1,h2,wd,m24,m16,m8]
def nw(B:List UInt8)(L:List Int)(t:Nat):Int:=
 if t<16 then wd B t else
  let x:=L.getD (t-15) 0
  let y:=L.getD (t-2) 0
  ax.wrap (ax.wrap (ax.wrap (bC .xor .u32 (bC .xor .u32 (rr y 17) (rr y 19)) (y.fdiv (2^10))+L.getD (t-7) 0)+
   bC .xor .u32 (bC .xor .u32 (rr x 7) (rr x 18)) (x.fdiv (2^3)))+L.getD (t-16) 0)
def Wl(B:List UInt8):Nat->List Int
 |0=>am 64 0
 |t+1=>(Wl B t).set t (nw B (Wl B t) t)
theorem uJ(B:List UInt8)(t:Nat):(Wl B t).length=64:=by
 induction t with
 |zero=>simp[Wl]
 |succ n ih=>simp[Wl,ih]
def ws(L:List Int):List (List SV):=L.map fun x=> [.int .u32 x]
theorem dx(L:List Int):(ws L).length=L.length:=by simp[ws]
theorem co(L:List Int)(i:Nat)(h:i<L.length):(ws L).getD i []=[.int .u32 (L.getD i 0)]:=by simp[ws,aa,aT,ab h]
theorem kY(L:List Int)(i:Nat)(x:Int):(ws L).set i [.int .u32 x]=ws (L.set i x):=by unfold ws;rw[List.map_set]
theorem tX(n:Nat):am n [SV.int .u32 0]=ws (am n 0):=by unfold ws;rw[List.map_replicate]
theorem xh9(B:List UInt8)(O:aG)(hB:B.length=64):∀(n t:Nat),64-t=n->t<=64->
 run T (.loop sU) ⟨[(0,.ptr 0 0),(1,.byt B .no),(4,.ptr 104 0),(17,.int .i64 t)],[(0,O),(104,.arr 1 (ws (Wl B t)))],[]⟩=
 some (.x 0,⟨[(0,.ptr 0 0),(4,.ptr 104 0)],[(0,O),(104,.arr 1 (ws (Wl B 64)))],[]⟩):=by
 intro n;induction n with
 |zero=>
  intro t h0 h1;have hi:t=64:=by omega
  subst hi;rw[ai];simp only[c64,go_sem,Q0,Q1,Q2,Q3,Q4,Q5,Q6,Q7,Q8,Q9,Qa,Qb,Qc,Qd,Qe,Qf,Qg,Qh,Qi,Qj,Qk,reduceCtorEq,reduceIte]
 |succ n ih=>
  intro t h0 h1;have ih':=ih (t+1) (by omega) (by omega);have e1:=cg t (by omega);have hlt:(t:Int)<64:=by omega
  have hl:=uJ B t;have hw:=dx (Wl B t);have hn:t<64:=by omega
  have hs:Wl B (t+1)=(Wl B t).set t (nw B (Wl B t) t):=rfl;rw[ai]
  by_cases h16:t<16
  ·have g:=xkO B t (by omega) (by omega)
   have h16':(t:Int)<16:=by omega
   have hx:nw B (Wl B t) t=wd B t:=by unfold nw;rw[if_pos h16]
   rw[hs,hx]at ih';simp only[go_sem,Q0,Q1,Q2,Q3,Q4,Q5,Q6,Q7,Q8,Q9,Qa,Qb,Qc,Qd,Qe,Qf,Qg,Qh,Qi,Qj,Qk,reduceCtorEq,reduceIte,hlt,h16',e1,g,hl,hw,xaB,hn,kY,ih']
  ·have h16':¬(t:Int)<16:=by omega
   have a15:ac.wrap ((t:Int)-15)=((t-15:Nat):Int):=wZ (by omega)
   have a2:ac.wrap ((t:Int)-2)=((t-2:Nat):Int):=wZ (by omega)
   have a7:ac.wrap ((t:Int)-7)=((t-7:Nat):Int):=wZ (by omega)
   have a16:ac.wrap ((t:Int)-16)=((t-16:Nat):Int):=wZ (by omega)
   have b15:t-15<64:=by omega
   have b2:t-2<64:=by omega
   have b7:t-7<64:=by omega
   have b16:t-16<64:=by omega
   have d15:=co (Wl B t) (t-15) (by omega);have d2:=co (Wl B t) (t-2) (by omega);have d7:=co (Wl B t) (t-7) (by omega);have d16:=co (Wl B t) (t-16) (by omega);have r7:=fun x=>qN x (-7) 7 (by omega) (by decide)
   have r18:=fun x=>qN x (-18) 18 (by omega) (by decide)
   have r17:=fun x=>qN x (-17) 17 (by omega) (by decide)
   have r19:=fun x=>qN x (-19) 19 (by omega) (by decide)
   rw[hs]at ih';unfold nw at ih';rw[if_neg h16]at ih';simp only[go_sem,Q0,Q1,Q2,Q3,Q4,Q5,Q6,Q7,Q8,Q9,Qa,Qb,Qc,Qd,Qe,Qf,Qg,Qh,Qi,Qj,Qk,reduceCtorEq,reduceIte,hlt,h16',e1,hl,hw,rh,hn,a15,a2,a7,a16,b15,b2,b7,b16,d15,d2,d7,d16,r7,r18,r17,r19,kY,m3,m10,ih']
def Kl:List Int:=iU.map fun| .int _ x=>x|_=>0
theorem Am:Kl.length=64:=rfl
theorem m6:iU.length=64:=rfl
theorem xfq:iU=Kl.map (SV.int .u32):=rfl
theorem xeK{t:Nat}(h:t<64):(1<=(iu (t*1) iU).length)=True:=by refine eq_true ?_;rw[aH,m6];omega
theorem xeL{t:Nat}(h:t<64):(List.map SV.data (iu (t*1) iU)).getD 0 SV.undef= .int .u32 (Kl.getD t 0):=by
 rw[xfq,aa,aT,bE,aT,dt,eK,aa,
  ab (show t<Kl.length from h)]
 rfl
def rnd(k w:Int)(s:List Int):List Int:=
 let a:=s.getD 0 0
 let e:=s.getD 4 0
 let t1:=ax.wrap (ax.wrap (ax.wrap (ax.wrap (s.getD 7 0+bC .xor .u32 (bC .xor .u32 (rr e 6) (rr e 11)) (rr e 25))+
  bC .xor .u32 (bC .and .u32 e (s.getD 5 0)) (bC .and .u32 (bC .xor .u32 (if ax.signed=true then-1 else ax.max) e) (s.getD 6 0)))+k)+w)
 let t2:=ax.wrap (bC .xor .u32 (bC .xor .u32 (rr a 2) (rr a 13)) (rr a 22)+
  bC .xor .u32 (bC .xor .u32 (bC .and .u32 a (s.getD 1 0)) (bC .and .u32 a (s.getD 2 0))) (bC .and .u32 (s.getD 1 0) (s.getD 2 0)))
 [ax.wrap (t1+t2),a,s.getD 1 0,s.getD 2 0,ax.wrap (s.getD 3 0+t1),e,s.getD 5 0,s.getD 6 0]
theorem ws8(a b c d e f g h:Int):ws [a,b,c,d,e,f,g,h]=[[.int .u32 a],[.int .u32 b],[.int .u32 c],[.int .u32 d],[.int .u32 e],[.int .u32 f],[.int .u32 g],[.int .u32 h]]:=rfl
def rounds(W:List Int)(h:List Int):Nat->List Int
 |0=>h
 |t+1=>rnd (Kl.getD t 0) (W.getD t 0) (rounds W h t)
theorem ig(W h:List Int)(hh:h.length=8)(t:Nat):(rounds W h t).length=8:=by
 cases t<;>simp[rounds,rnd,hh]
theorem n6(x:Int):call T 157 [.int .u32 x,.int .i64 (-6)] [] 0=some ⟨.int .u32 (rr x 6),[],[]⟩:=qN x (-6) 6 (by omega) (by decide)
theorem n11(x:Int):call T 157 [.int .u32 x,.int .i64 (-11)] [] 0=some ⟨.int .u32 (rr x 11),[],[]⟩:=qN x (-11) 11 (by omega) (by decide)
theorem n25(x:Int):call T 157 [.int .u32 x,.int .i64 (-25)] [] 0=some ⟨.int .u32 (rr x 25),[],[]⟩:=qN x (-25) 25 (by omega) (by decide)
theorem n2(x:Int):call T 157 [.int .u32 x,.int .i64 (-2)] [] 0=some ⟨.int .u32 (rr x 2),[],[]⟩:=qN x (-2) 2 (by omega) (by decide)
theorem n13(x:Int):call T 157 [.int .u32 x,.int .i64 (-13)] [] 0=some ⟨.int .u32 (rr x 13),[],[]⟩:=qN x (-13) 13 (by omega) (by decide)
theorem n22(x:Int):call T 157 [.int .u32 x,.int .i64 (-22)] [] 0=some ⟨.int .u32 (rr x 22),[],[]⟩:=qN x (-22) 22 (by omega) (by decide)
theorem xh8(W h:List Int)(O:aG)(hW:W.length=64)(hh:h.length=8):∀(n t:Nat),64-t=n->t<=64->
 run T (.loop sT) ⟨[(0,.ptr 0 0),(4,.ptr 104 0),(10,.ptr 110 0),(70,.int .i64 t)],[(0,O),(104,.arr 1 (ws W)),(110,.arr 1 (ws (rounds W h t)))],[]⟩=
 some (.x 2,⟨[(0,.ptr 0 0),(10,.ptr 110 0)],[(0,O),(104,.arr 1 (ws W)),(110,.arr 1 (ws (rounds W h 64)))],[]⟩):=by
 intro n;induction n with
 |zero=>
  intro t h0 h1;have hi:t=64:=by omega
  subst hi;rw[ai];simp only[c64,go_sem,Q0,Q1,Q2,Q3,Q4,Q5,Q6,Q7,Q8,Q9,Qa,Qb,Qc,Qd,Qe,Qf,Qg,Qh,Qi,Qj,Qk,reduceCtorEq,reduceIte]
 |succ n ih=>
  intro t h0 h1;have ih':=ih (t+1) (by omega) (by omega);have e1:=cg t (by omega);have hlt:(t:Int)<64:=by omega
  have hn:t<64:=by omega
  have hl:=ig W h hh t;have hw:=dx (rounds W h t);have hw2:=dx W;have hs:rounds W h (t+1)=rnd (Kl.getD t 0) (W.getD t 0) (rounds W h t):=rfl;rw[hs]at ih';simp only[rnd,ws8]at ih';generalize rounds W h t=s at*;have d0:=co s 0 (by omega);have d1:=co s 1 (by omega);have d2:=co s 2 (by omega);have d3:=co s 3 (by omega);have d4:=co s 4 (by omega);have d5:=co s 5 (by omega);have d6:=co s 6 (by omega);have d7:=co s 7 (by omega);have dW:=co W t (by omega);have dK:=co Kl t (by rw[Am];exact hn);rw[ai];simp only[go_sem,Q0,Q1,Q2,Q3,Q4,Q5,Q6,Q7,Q8,Q9,Qa,Qb,Qc,Qd,Qe,Qf,Qg,Qh,Qi,Qj,Qk,reduceCtorEq,reduceIte,hlt,e1,hl,hw,hw2,hW,rh,hn,d0,d1,d2,d3,d4,d5,d6,d7,dW,dK,n6,n11,n25,n2,n13,n22,c8,c64,m6,xeK hn,xeL hn,ih']
def tT:List Int->List Int->List Int
 |x::l,y::r=>ax.wrap (x+y)::tT l r
 |_,_=> []
theorem xh7(h s:List Int)(P:aG)(hh:h.length=8)(hs:s.length=8):
 run T (.loop sS) ⟨[(0,.ptr 0 0),(10,.ptr 110 0),(152,.int .i64 0)],[(0,.arr 1 (ws h)),(104,P),(110,.arr 1 (ws s))],[]⟩=
 some (.x 4,⟨[],[(0,.arr 1 (ws (tT h s))),(104,P),(110,.arr 1 (ws s))],[]⟩):=by
 match h,hh with
 |[a0,a1,a2,a3,a4,a5,a6,a7],_=>match s,hs with
  |[b0,b1,b2,b3,b4,b5,b6,b7],_=>
   have k1:ac.wrap 1=1:=rfl;have k2:ac.wrap 2=2:=rfl;have k3:ac.wrap 3=3:=rfl;have k4:ac.wrap 4=4:=rfl;have k5:ac.wrap 5=5:=rfl;have k6:ac.wrap 6=6:=rfl;have k7:ac.wrap 7=7:=rfl;have k8:ac.wrap 8=8:=rfl;simp only[ws8,tT]
   iterate 9
    rw[ai];simp only[go_sem,Q0,Q1,Q2,Q3,Q4,Q5,Q6,Q7,Q8,Q9,Qa,Qb,Qc,Qd,Qe,Qf,Qg,Qh,Qi,Qj,Qk,reduceCtorEq,reduceIte,aC,aB,c8,k1,k2,k3,k4,k5,k6,k7,k8]
def comp(h:List Int)(B:List UInt8):List Int:=tT h (rounds (Wl B 64) h 64)
theorem wq(h s:List Int)(hs:h.length<=s.length):(tT h s).length=h.length:=by
 induction h generalizing s with
 |nil=>simp[tT]
 |cons x l ih=>
  cases s with
  |nil=>simp at hs
  |cons y r=>simp only[tT,aC];rw[ih r (by simpa using hs)]
theorem qh(h:List Int)(B:List UInt8)(hh:h.length=8):(comp h B).length=8:=by unfold comp;rw[wq _ _ (by rw[ig _ _ hh,hh];exact aQ 8),hh]
theorem xmO(h:List Int)(B:List UInt8)(hh:h.length=8)(hB:B.length=64):call T 134 [.ptr 0 0,.byt B .no] [.arr 1 (ws h)] 0=some ⟨.tup [],[(0,.arr 1 (ws (comp h B)))],[]⟩:=by
 have g1:=xh9 B (.arr 1 (ws h)) hB _ 0 rfl (by omega);have g2:=xh8 (Wl B 64) h (.arr 1 (ws h)) (uJ B 64) hh _ 0 rfl (by omega);have g3:=xh7 h (rounds (Wl B 64) h 64) (.arr 1 (ws (Wl B 64))) hh (ig _ _ hh 64);have hw:Wl B 0=am 64 0:=rfl;have hr:rounds (Wl B 64) h 0=h:=rfl;rw[hw,<-tX]at g1;rw[hr]at g2;simp only[av]at g1 g2;rw[ao xiT]
 match h,hh with
 |[a0,a1,a2,a3,a4,a5,a6,a7],_=>simp only[ws8]at g1 g2 g3;simp only[go_sem,Q0,Q1,Q2,Q3,Q4,Q5,Q6,Q7,Q8,Q9,Qa,Qb,Qc,Qd,Qe,Qf,Qg,Qh,Qi,Qj,Qk,reduceCtorEq,reduceIte,ws8,g1,g2,g3,comp,dj,List.flatten_nil,aI,bn,aJ,aF,SV.data,mz,List.take_zero,aC,aB]
def zn(n:Nat):Nat:=(120-n % 64) % 64
theorem xid(B:List UInt8):∀(n:Nat)(acc:List UInt8),zn acc.length=n->acc.length+n<=100000000000000->
 run T (.loop yO) ⟨[(0,.byt B .no),(3,.byt acc (.id 103))],[],[103]⟩=
 some (.x 0,⟨[(0,.byt B .no),(3,.byt (acc++am n 0) (.id 103))],[],[103]⟩):=by
 intro n;induction n with
 |zero=>
  intro acc h0 h1;have hm:acc.length % 64=56:=by unfold zn at h0;omega
  have hi:(acc.length:Int).tmod 64=56:=by rw[Int.tmod_eq_emod_of_nonneg (by omega)];omega
  rw[ai];simp only[go_sem,Q0,Q1,Q2,Q3,Q4,Q5,Q6,Q7,Q8,Q9,Qa,Qb,Qc,Qd,Qe,Qf,Qg,Qh,Qi,Qj,Qk,reduceCtorEq,reduceIte,hi,List.replicate_zero,bJ]
 |succ n ih=>
  intro acc h0 h1;have hm:acc.length % 64≠56:=by unfold zn at h0;omega
  have hi:¬(acc.length:Int).tmod 64=56:=by rw[Int.tmod_eq_emod_of_nonneg (by omega)];omega
  have ih':=ih (acc++ [0]) (by unfold zn at*;rw[af,aM];omega) (by rw[af,aM];omega);have hc:acc.length+1<=140737488355328:=by omega
  rw[aA,cX,<-List.replicate_succ]at ih';rw[ai];simp only[go_sem,Q0,Q1,Q2,Q3,Q4,Q5,Q6,Q7,Q8,Q9,Qa,Qb,Qc,Qd,Qe,Qf,Qg,Qh,Qi,Qj,Qk,reduceCtorEq,reduceIte,hi,hc,ih']
def il(v:Int)(s:Nat):UInt8:=bO (v.fdiv (2^s))
def be:Nat->Int->List UInt8
 |0,_=> []
 |k+1,v=>il v (8*k)::be k v
theorem eS(n:Nat)(v:Int):(be n v).length=n:=by induction n with
 |zero=>rfl
 |succ n ih=>simp[be,ih]
theorem xic(v:Int):∀(k:Nat)(acc:List UInt8),k<=8->acc.length+k<=100000000000000->
 run T (.loop sV) ⟨[(3,.byt acc (.id 103)),(4,.int .u64 v),(5,.int .i64 (8*(k:Int)-8))],[],[103]⟩=
 some (.x 2,⟨[(3,.byt (acc++be k v) (.id 103))],[],[103]⟩):=by
 intro k;induction k with
 |zero=>
  intro acc hk h;rw[ai];have hg:¬(0:Int)<=8*((0:Nat):Int)-8:=by omega
  simp only[go_sem,Q0,Q1,Q2,Q3,Q4,Q5,Q6,Q7,Q8,Q9,Qa,Qb,Qc,Qd,Qe,Qf,Qg,Qh,Qi,Qj,Qk,reduceCtorEq,reduceIte,hg,be,bJ]
 |succ k ih=>
  intro acc hk h;have ih':=ih (acc++ [il v (8*k)]) (by omega) (by rw[af,aM];omega);have c1:acc.length+1<=140737488355328:=by omega
  have hg:(0:Int)<=8*((k+1:Nat):Int)-8:=by omega
  have he:aZ.wrap (8*((k+1:Nat):Int)-8)=((8*k:Nat):Int):=by rw[cB];omega
  have hs:ac.wrap (8*((k+1:Nat):Int)-8-8)=8*(k:Int)-8:=wZ (by omega)
  have hm:min (8*k) 64=8*k:=by omega
  rw[aA,cX]at ih';rw[ai];unfold il at ih';simp only[go_sem,Q0,Q1,Q2,Q3,Q4,Q5,Q6,Q7,Q8,Q9,Qa,Qb,Qc,Qd,Qe,Qf,Qg,Qh,Qi,Qj,Qk,reduceCtorEq,reduceIte,c1,hg,he,hs,hm,be,il,ih']
def eu(B:List UInt8):List UInt8:=B++128::(am (zn (B.length+1)) 0++be 8 (aZ.wrap (aZ.wrap B.length*8)))
theorem kr(B:List UInt8):(eu B).length=B.length+1+zn (B.length+1)+8:=by simp only[eu,af,aC,ca,eS];omega
theorem mg(B:List UInt8):(eu B).length % 64=0:=by rw[kr];unfold zn;omega
theorem xkT(B:List UInt8)(h:B.length<=10000000000000):call T 131 [.byt B .no] [] 0=some ⟨.byt (eu B) .no,[],[]⟩:=by
 have hz:zn (B.length+1)<64:=by unfold zn;omega
 have g1:=xid B _ (B++ [128]) rfl (by simp;omega);have g2:=xic (aZ.wrap (aZ.wrap B.length*8)) 8 (B++128::am (zn (B.length+1)) 0) (by omega) (by simp;omega);have e8:8*((8:Nat):Int)-8=56:=rfl;rw[e8]at g2;rw[ao xiW];have e:ac.wrap ((B.length:Int)+72)=((B.length+72:Nat):Int):=wZ (by omega)
 have c2:((B.length+72:Nat):Int)<=140737488355328:=by omega
 have c3:B.length<=140737488355328:=by omega
 have c4:B.length+1<=140737488355328:=by omega
 simp only[go_sem,Q0,Q1,Q2,Q3,Q4,Q5,Q6,Q7,Q8,Q9,Qa,Qb,Qc,Qd,Qe,Qf,Qg,Qh,Qi,Qj,Qk,reduceCtorEq,reduceIte,e,g1,g2,c2,c3,c4,eu]
theorem xih(B:List UInt8):∀(n:Nat)(acc:List UInt8),zn acc.length=n->acc.length+n<=100000000000000->
 run T (.loop yW) ⟨[(0,.byt B .no),(3,.byt acc (.id 103))],[],[103]⟩=
 some (.x 0,⟨[(0,.byt B .no),(3,.byt (acc++am n 0) (.id 103))],[],[103]⟩):=by
 intro n;induction n with
 |zero=>
  intro acc h0 h1;have hm:acc.length % 64=56:=by unfold zn at h0;omega
  have hi:(acc.length:Int).tmod 64=56:=by rw[Int.tmod_eq_emod_of_nonneg (by omega)];omega
  rw[ai];simp only[go_sem,Q0,Q1,Q2,Q3,Q4,Q5,Q6,Q7,Q8,Q9,Qa,Qb,Qc,Qd,Qe,Qf,Qg,Qh,Qi,Qj,Qk,reduceCtorEq,reduceIte,hi,List.replicate_zero,bJ]
 |succ n ih=>
  intro acc h0 h1;have hm:acc.length % 64≠56:=by unfold zn at h0;omega
  have hi:¬(acc.length:Int).tmod 64=56:=by rw[Int.tmod_eq_emod_of_nonneg (by omega)];omega
  have ih':=ih (acc++ [0]) (by unfold zn at*;rw[af,aM];omega) (by rw[af,aM];omega);have hc:acc.length+1<=140737488355328:=by omega
  rw[aA,cX,<-List.replicate_succ]at ih';rw[ai];simp only[go_sem,Q0,Q1,Q2,Q3,Q4,Q5,Q6,Q7,Q8,Q9,Qa,Qb,Qc,Qd,Qe,Qf,Qg,Qh,Qi,Qj,Qk,reduceCtorEq,reduceIte,hi,hc,ih']
theorem xig(v:Int):∀(k:Nat)(acc:List UInt8),k<=8->acc.length+k<=100000000000000->
 run T (.loop sY) ⟨[(3,.byt acc (.id 103)),(4,.int .u64 v),(5,.int .i64 ((k:Int)-1))],[],[103]⟩=
 some (.x 2,⟨[(3,.byt (acc++be k v) (.id 103))],[],[103]⟩):=by
 intro k;induction k with
 |zero=>
  intro acc hk h;rw[ai];have hg:¬(0:Int)<=((0:Nat):Int)-1:=by omega
  simp only[go_sem,Q0,Q1,Q2,Q3,Q4,Q5,Q6,Q7,Q8,Q9,Qa,Qb,Qc,Qd,Qe,Qf,Qg,Qh,Qi,Qj,Qk,reduceCtorEq,reduceIte,hg,be,bJ]
 |succ k ih=>
  intro acc hk h;have ih':=ih (acc++ [il v (8*k)]) (by omega) (by rw[af,aM];omega);have c1:acc.length+1<=140737488355328:=by omega
  have hg:(0:Int)<=((k+1:Nat):Int)-1:=by omega
  have he:aZ.wrap (((k+1:Nat):Int)-1)=(k:Int):=by rw[cB];omega
  have he2:aZ.wrap (8*(k:Int))=((8*k:Nat):Int):=by rw[cB];omega
  have hs:ac.wrap (((k+1:Nat):Int)-1-1)=(k:Int)-1:=wZ (by omega)
  have hm:min (8*k) 64=8*k:=by omega
  rw[aA,cX]at ih';rw[ai];unfold il at ih';simp only[go_sem,Q0,Q1,Q2,Q3,Q4,Q5,Q6,Q7,Q8,Q9,Qa,Qb,Qc,Qd,Qe,Qf,Qg,Qh,Qi,Qj,Qk,reduceCtorEq,reduceIte,c1,hg,he,he2,hs,hm,be,il,ih']
theorem xkZ(B:List UInt8)(h:B.length<=10000000000000):call T 116 [.byt B .no] [] 0=some ⟨.byt (eu B) .no,[],[]⟩:=by
 have hz:zn (B.length+1)<64:=by unfold zn;omega
 have g1:=xih B _ (B++ [128]) rfl (by simp;omega);have g2:=xig (aZ.wrap (aZ.wrap B.length*8)) 8 (B++128::am (zn (B.length+1)) 0) (by omega) (by simp;omega);have e8:((8:Nat):Int)-1=7:=rfl;rw[e8]at g2;rw[ao xi9];have c3:B.length<=140737488355328:=by omega
 have c4:B.length+1<=140737488355328:=by omega
 simp only[go_sem,Q0,Q1,Q2,Q3,Q4,Q5,Q6,Q7,Q8,Q9,Qa,Qb,Qc,Qd,Qe,Qf,Qg,Qh,Qi,Qj,Qk,reduceCtorEq,reduceIte,g1,g2,c3,c4,eu]
def w4(x:Int):List UInt8:=[il x 24,il x 16,il x 8,bO x]
def sp(h:List Int):List UInt8:=h.flatMap w4
theorem Ht(h:List Int):(sp h).length=4*h.length:=by
 induction h with
 |nil=>rfl
 |cons x l ih=>simp only[sp,jD,af,w4,aC,aB]at*;omega
theorem d0(h:List Int)(i:Nat)(hi:i<h.length):h.drop i=h.getD i 0::h.drop (i+1):=nf h i hi
theorem xmm(h:List Int)(hh:h.length<=1000000000000):∀(n i:Nat)(acc:List UInt8),h.length-i=n->i<=h.length->acc.length=4*i->
 run T (.loop yM) ⟨[(3,.byt acc (.id 103)),(10,.lst 1 (ws h) .no),(11,.int .i64 h.length),(12,.int .i64 i)],[],[103]⟩=
 some (.x 0,⟨[(3,.byt (acc++sp (h.drop i)) (.id 103))],[],[103]⟩):=by
 intro n;induction n with
 |zero=>
  intro i acc h0 h1 ha;have hi:i=h.length:=by omega
  subst hi;rw[ai];simp only[go_sem,Q0,Q1,Q2,Q3,Q4,Q5,Q6,Q7,Q8,Q9,Qa,Qb,Qc,Qd,Qe,Qf,Qg,Qh,Qi,Qj,Qk,reduceCtorEq,reduceIte,aX,sp,List.flatMap_nil,bJ]
 |succ n ih=>
  intro i acc h0 h1 ha;have hi:i<h.length:=by omega
  have e1:=cg i (by omega);have ih':=ih (i+1) (acc++w4 (h.getD i 0)) (by omega) (by omega) (by simp[w4];omega);have hg:=co h i hi;have hl:=dx h;have c1:acc.length+4<=140737488355328:=by omega
  rw[ai];rw[aA]at ih';simp only[w4,il]at ih';simp only[go_sem,Q0,Q1,Q2,Q3,Q4,Q5,Q6,Q7,Q8,Q9,Qa,Qb,Qc,Qd,Qe,Qf,Qg,Qh,Qi,Qj,Qk,reduceCtorEq,reduceIte,hi,hg,hl,e1,c1,m24,m16,m8,ih',d0 h i hi,sp,jD,w4,il]
theorem xkS(h:List Int)(hh:h.length<=1000000000000):call T 133 [.lst 1 (ws h) .no] [] 0=some ⟨.byt (sp h) .no,[],[]⟩:=by
 have g:=xmm h hh _ 0 [] rfl (by omega) rfl;have hl:=dx h;rw[ao xiU];have e:ac.wrap (4*(h.length:Int))=((4*h.length:Nat):Int):=wZ (by omega)
 have c2:((4*h.length:Nat):Int)<=140737488355328:=by omega
 simp only[av,bh,aF]at g;simp only[go_sem,Q0,Q1,Q2,Q3,Q4,Q5,Q6,Q7,Q8,Q9,Qa,Qb,Qc,Qd,Qe,Qf,Qg,Qh,Qi,Qj,Qk,reduceCtorEq,reduceIte,e,hl,c2,g]
theorem xmp(h:List Int)(hh:h.length<=1000000000000):∀(n i:Nat)(acc:List UInt8),h.length-i=n->i<=h.length->acc.length=4*i->
 run T (.loop yT) ⟨[(0,.lst 1 (ws h) .no),(3,.byt acc (.id 103)),(4,.int .i64 i)],[],[103]⟩=
 some (.x 0,⟨[(3,.byt (acc++sp (h.drop i)) (.id 103))],[],[103]⟩):=by
 intro n;induction n with
 |zero=>
  intro i acc h0 h1 ha;have hi:i=h.length:=by omega
  have hl:=dx h;subst hi;rw[ai];simp only[go_sem,Q0,Q1,Q2,Q3,Q4,Q5,Q6,Q7,Q8,Q9,Qa,Qb,Qc,Qd,Qe,Qf,Qg,Qh,Qi,Qj,Qk,reduceCtorEq,reduceIte,hl,aX,sp,List.flatMap_nil,bJ]
 |succ n ih=>
  intro i acc h0 h1 ha;have hi:i<h.length:=by omega
  have e1:=cg i (by omega);have ih':=ih (i+1) (acc++w4 (h.getD i 0)) (by omega) (by omega) (by simp[w4];omega);have hg:=co h i hi;have hl:=dx h;have c1:acc.length+4<=140737488355328:=by omega
  rw[ai];rw[aA]at ih';simp only[w4,il]at ih';simp only[go_sem,Q0,Q1,Q2,Q3,Q4,Q5,Q6,Q7,Q8,Q9,Qa,Qb,Qc,Qd,Qe,Qf,Qg,Qh,Qi,Qj,Qk,reduceCtorEq,reduceIte,hi,hg,hl,e1,c1,m24,m16,m8,ih',d0 h i hi,sp,jD,w4,il]
theorem xkX(h:List Int)(hh:h.length<=1000000000000):call T 119 [.lst 1 (ws h) .no] [] 0=some ⟨.byt (sp h) .no,[],[]⟩:=by have g:=xmp h hh _ 0 [] rfl (by omega) rfl;have hl:=dx h;rw[ao xi6];simp only[av,bh,aF]at g;simp only[go_sem,Q0,Q1,Q2,Q3,Q4,Q5,Q6,Q7,Q8,Q9,Qa,Qb,Qc,Qd,Qe,Qf,Qg,Qh,Qi,Qj,Qk,reduceCtorEq,reduceIte,hl,g]
def fq(h:List Int)(X:List UInt8):Nat->List Int
 |0=>h
 |n+1=>fq (comp h (X.take 64)) (X.drop 64) n
theorem lI(n:Nat):∀(h:List Int)(X:List UInt8),h.length=8->(fq h X n).length=8:=by
 induction n with
 |zero=>intro h X hh;exact hh
 |succ n ih=>intro h X hh;exact ih _ _ (qh h _ hh)
def H0:List Int:=[1779033703,3144134277,1013904242,2773480762,1359893119,2600822924,528734635,1541459225]
def sha(B:List UInt8):List UInt8:=sp (fq H0 (eu B) ((eu B).length/64))
theorem jw(B:List UInt8):(sha B).length=32:=by unfold sha;rw[Ht,lI _ _ _ rfl]
theorem l90:∀(n:Nat)(h:List Int)(X:List UInt8),h.length=8->X.length=64*n->X.length<=1000000000000->
 run T (.loop yh) ⟨[(7,.ptr 107 0),(8,.byt X .no)],[(107,.arr 1 (ws h))],[]⟩=
 some (.x 3,⟨[(7,.ptr 107 0)],[(107,.arr 1 (ws (fq h X n)))],[]⟩):=by
 intro n;induction n with
 |zero=>
  intro h X hh hX hl;rw[ai];have h0:¬(0:Int)<X.length:=by omega
  simp only[go_sem,Q0,Q1,Q2,Q3,Q4,Q5,Q6,Q7,Q8,Q9,Qa,Qb,Qc,Qd,Qe,Qf,Qg,Qh,Qi,Qj,Qk,reduceCtorEq,reduceIte,h0,fq]
 |succ n ih=>
  intro h X hh hX hl;have ih':=ih (comp h (X.take 64)) (X.drop 64) (qh h _ hh) (by rw[aH];omega) (by rw[aH];omega);have g:=xmO h (X.take 64) hh (by rw[aj];omega);have h1:(0:Int)<X.length:=by omega
  have h2:(64:Int)<=X.length:=by omega
  have h3:64<=X.length:=by omega
  rw[ai];simp only[go_sem,Q0,Q1,Q2,Q3,Q4,Q5,Q6,Q7,Q8,Q9,Qa,Qb,Qc,Qd,Qe,Qf,Qg,Qh,Qi,Qj,Qk,reduceCtorEq,reduceIte,h1,h2,h3,g,xju,bv,ih',fq]
theorem f90(B:List UInt8)(hB:B.length<=100000000000):call T 90 [.int .i64 1,.byt B .no] [] 0=some ⟨.byt (sha B) .no,[],[]⟩:=by
 have g0:=xkT B (by omega);have hl:=kr B;have hz:zn (B.length+1)<64:=by unfold zn;omega
 have hm:=mg B;have g1:=l90 ((eu B).length/64) H0 (eu B) rfl (by omega) (by omega);have hb:=lI ((eu B).length/64) H0 (eu B) rfl;have g2:=xkS (fq H0 (eu B) ((eu B).length/64)) (by omega);have hw:=dx (fq H0 (eu B) ((eu B).length/64));have hH:ws H0=[[.int .u32 1779033703],[.int .u32 3144134277],[.int .u32 1013904242],[.int .u32 2773480762],[.int .u32 1359893119],[.int .u32 2600822924],[.int .u32 528734635],[.int .u32 1541459225]]:=rfl;rw[hH]at g1;rw[ao xk5];unfold sha;generalize fq H0 (eu B) ((eu B).length/64)=b at*;have ht:du 8 (ws b)=ws b:=ay (by rw[hw,hb];exact aQ 8);simp only[go_sem,Q0,Q1,Q2,Q3,Q4,Q5,Q6,Q7,Q8,Q9,Qa,Qb,Qc,Qd,Qe,Qf,Qg,Qh,Qi,Qj,Qk,reduceCtorEq,reduceIte,g0,g1,g2,xaG,xaF,hw,hb,c8,ht]
theorem xmW:call T 115 [] [] 0=some ⟨.agg iU,[],[]⟩:=by rw[ao xja];simp only[go_sem,Q0,Q1,Q2,Q3,Q4,Q5,Q6,Q7,Q8,Q9,Qa,Qb,Qc,Qd,Qe,Qf,Qg,Qh,Qi,Qj,Qk,reduceCtorEq,reduceIte];rfl
def bk(X:List UInt8)(a:Nat):List UInt8:=iu a (du (a+64) X)
theorem uI(X:List UInt8)(a:Nat)(h:a+64<=X.length):(bk X a).length=64:=by unfold bk;rw[aH,aj];omega
theorem xan(X:List UInt8)(a:Nat):bk X a=(X.drop a).take 64:=by unfold bk;rw[List.drop_take];congr 1;omega
theorem rq7(x:Int):call T 118 [.int .u32 x,.int .u64 7] [] 0=some ⟨.int .u32 (rr x 7),[],[]⟩:=vW x 7 (by omega)
theorem xlB(x:Int):call T 118 [.int .u32 x,.int .u64 18] [] 0=some ⟨.int .u32 (rr x 18),[],[]⟩:=vW x 18 (by omega)
theorem xlC(x:Int):call T 118 [.int .u32 x,.int .u64 17] [] 0=some ⟨.int .u32 (rr x 17),[],[]⟩:=vW x 17 (by omega)
theorem xlA(x:Int):call T 118 [.int .u32 x,.int .u64 19] [] 0=some ⟨.int .u32 (rr x 19),[],[]⟩:=vW x 19 (by omega)
theorem rq6(x:Int):call T 118 [.int .u32 x,.int .u64 6] [] 0=some ⟨.int .u32 (rr x 6),[],[]⟩:=vW x 6 (by omega)
theorem xlE(x:Int):call T 118 [.int .u32 x,.int .u64 11] [] 0=some ⟨.int .u32 (rr x 11),[],[]⟩:=vW x 11 (by omega)
theorem xly(x:Int):call T 118 [.int .u32 x,.int .u64 25] [] 0=some ⟨.int .u32 (rr x 25),[],[]⟩:=vW x 25 (by omega)
theorem rq2(x:Int):call T 118 [.int .u32 x,.int .u64 2] [] 0=some ⟨.int .u32 (rr x 2),[],[]⟩:=vW x 2 (by omega)
theorem xlD(x:Int):call T 118 [.int .u32 x,.int .u64 13] [] 0=some ⟨.int .u32 (rr x 13),[],[]⟩:=vW x 13 (by omega)
theorem xlz(x:Int):call T 118 [.int .u32 x,.int .u64 22] [] 0=some ⟨.int .u32 (rr x 22),[],[]⟩:=vW x 22 (by omega)
theorem xl3(X:List UInt8)(a:Nat)(h:List Int)(ha:a+64<=X.length)(hX:X.length<=1000000000000):∀(n t:Nat),64-t=n->t<=64->
 run T (.loop yu) ⟨[(3,.ptr 103 0),(4,.psl 119 1 0 8 (some 8)),(5,.byt X .no),(6,.int .i64 a),(7,.ptr 107 0),(8,.int .i64 t)],[(103,.arr 1 (ws Kl)),(107,.arr 1 (ws (Wl (bk X a) t))),(119,.arr 1 (ws h))],[]⟩=
 some (.x 2,⟨[(3,.ptr 103 0),(4,.psl 119 1 0 8 (some 8)),(5,.byt X .no),(6,.int .i64 a),(7,.ptr 107 0)],[(103,.arr 1 (ws Kl)),(107,.arr 1 (ws (Wl (bk X a) 64))),(119,.arr 1 (ws h))],[]⟩):=by
 intro n;induction n with
 |zero=>
  intro t h0 h1;have hi:t=64:=by omega
  subst hi;rw[ai];simp only[c64,go_sem,Q0,Q1,Q2,Q3,Q4,Q5,Q6,Q7,Q8,Q9,Qa,Qb,Qc,Qd,Qe,Qf,Qg,Qh,Qi,Qj,Qk,reduceCtorEq,reduceIte]
 |succ n ih=>
  intro t h0 h1;have ih':=ih (t+1) (by omega) (by omega);have e1:=cg t (by omega);have hlt:(t:Int)<64:=by omega
  have hl:=uJ (bk X a) t;have hw:=dx (Wl (bk X a) t);have hn:t<64:=by omega
  have hs:Wl (bk X a) (t+1)=(Wl (bk X a) t).set t (nw (bk X a) (Wl (bk X a) t) t):=rfl;have a1:ac.wrap ((a:Int)+64)=((a+64:Nat):Int):=wZ (by omega)
  have a3:a<=a+64:=by omega
  rw[ai]
  by_cases h16:t<16
  ·have g:=xkY (bk X a) t (by rw[uI X a ha];omega) (by rw[uI X a ha];omega)
   have h16':(t:Int)<16:=by omega
   have hx:nw (bk X a) (Wl (bk X a) t) t=wd (bk X a) t:=by unfold nw;rw[if_pos h16]
   rw[hs,hx]at ih';generalize hb:Wl (bk X a) t=L at*;generalize hc:wd (bk X a) t=z at*;unfold bk at g;simp only[go_sem,Q0,Q1,Q2,Q3,Q4,Q5,Q6,Q7,Q8,Q9,Qa,Qb,Qc,Qd,Qe,Qf,Qg,Qh,Qi,Qj,Qk,reduceCtorEq,reduceIte,hlt,h16',e1,a1,ha,a3,g,hl,hw,xaM,hn,kY,ih']
  ·have h16':¬(t:Int)<16:=by omega
   have a15:ac.wrap ((t:Int)-15)=((t-15:Nat):Int):=wZ (by omega)
   have a2:ac.wrap ((t:Int)-2)=((t-2:Nat):Int):=wZ (by omega)
   have a7:ac.wrap ((t:Int)-7)=((t-7:Nat):Int):=wZ (by omega)
   have a16:ac.wrap ((t:Int)-16)=((t-16:Nat):Int):=wZ (by omega)
   have b15:t-15<64:=by omega
   have b2:t-2<64:=by omega
   have b7:t-7<64:=by omega
   have b16:t-16<64:=by omega
   rw[hs]at ih';unfold nw at ih';rw[if_neg h16]at ih';generalize hb:Wl (bk X a) t=L at*;have d15:=co L (t-15) (by omega);have d2:=co L (t-2) (by omega);have d7:=co L (t-7) (by omega);have d16:=co L (t-16) (by omega);simp only[go_sem,Q0,Q1,Q2,Q3,Q4,Q5,Q6,Q7,Q8,Q9,Qa,Qb,Qc,Qd,Qe,Qf,Qg,Qh,Qi,Qj,Qk,reduceCtorEq,reduceIte,hlt,h16',e1,hl,hw,xaL,hn,a15,a2,a7,a16,b15,b2,b7,b16,d15,d2,d7,d16,rq7,xlB,xlC,xlA,kY,m3,m10,ih']
theorem xl2(X:List UInt8)(a:Nat)(W h:List Int)(O:aG)(hW:W.length=64)(hh:h.length=8):∀(n t:Nat)(q:Tok),64-t=n->t<=64->
 run T (.loop yr) ⟨[(3,.ptr 103 0),(4,.psl 119 1 0 8 (some 8)),(5,.byt X .no),(6,.int .i64 a),(7,.ptr 107 0),(11,.lst 1 (ws (rounds W h t)) q),(12,.int .i64 t)],[(103,.arr 1 (ws Kl)),(107,.arr 1 (ws W)),(119,O)],[194]⟩=
 some (.x 4,⟨[(3,.ptr 103 0),(4,.psl 119 1 0 8 (some 8)),(5,.byt X .no),(6,.int .i64 a),(11,.lst 1 (ws (rounds W h 64)) (if t=64 then q else .clip))],[(103,.arr 1 (ws Kl)),(107,.arr 1 (ws W)),(119,O)],[194]⟩):=by
 intro n;induction n with
 |zero=>
  intro t q h0 h1;have hi:t=64:=by omega
  subst hi;rw[ai];simp only[c64,go_sem,Q0,Q1,Q2,Q3,Q4,Q5,Q6,Q7,Q8,Q9,Qa,Qb,Qc,Qd,Qe,Qf,Qg,Qh,Qi,Qj,Qk,reduceCtorEq,reduceIte]
 |succ n ih=>
  intro t q h0 h1;have ih':=ih (t+1) .clip (by omega) (by omega);have e1:=cg t (by omega);have hlt:(t:Int)<64:=by omega
  have hn:t<64:=by omega
  have hn2:t≠64:=by omega
  have hl:=ig W h hh t;have hw:=dx (rounds W h t);have hw2:=dx W;have hw3:=dx Kl;have hk:=Am;have hs:rounds W h (t+1)=rnd (Kl.getD t 0) (W.getD t 0) (rounds W h t):=rfl;rw[hs]at ih';simp only[rnd,ws8]at ih';rw[ite_self]at ih';generalize rounds W h t=s at*;have d0:=co s 0 (by omega);have d1:=co s 1 (by omega);have d2:=co s 2 (by omega);have d3:=co s 3 (by omega);have d4:=co s 4 (by omega);have d5:=co s 5 (by omega);have d6:=co s 6 (by omega);have d7:=co s 7 (by omega);have dW:=co W t (by omega);have dK:=co Kl t (by rw[Am];exact hn);rw[ai];simp only[go_sem,Q0,Q1,Q2,Q3,Q4,Q5,Q6,Q7,Q8,Q9,Qa,Qb,Qc,Qd,Qe,Qf,Qg,Qh,Qi,Qj,Qk,reduceCtorEq,reduceIte,hlt,e1,hl,hw,hw2,hw3,hk,hW,xaL,hn,hn2,d0,d1,d2,d3,d4,d5,d6,d7,dW,dK,rq6,xlE,xly,rq2,xlD,xlz,c8,c64,ih']
theorem xl1(X:List UInt8)(a:Nat)(h s:List Int)(P Q:aG)(hh:h.length=8)(hs:s.length=8):
 run T (.loop yp) ⟨[(3,.ptr 103 0),(4,.psl 119 1 0 8 (some 8)),(5,.byt X .no),(6,.int .i64 a),(11,.lst 1 (ws s) .clip),(17,.int .i64 0)],[(103,P),(107,Q),(119,.arr 1 (ws h))],[194]⟩=
 some (.x 6,⟨[(3,.ptr 103 0),(4,.psl 119 1 0 8 (some 8)),(5,.byt X .no),(6,.int .i64 a)],[(103,P),(107,Q),(119,.arr 1 (ws (tT h s)))],[194]⟩):=by
 match h,hh with
 |[a0,a1,a2,a3,a4,a5,a6,a7],_=>match s,hs with
  |[b0,b1,b2,b3,b4,b5,b6,b7],_=>
   have k1:ac.wrap 1=1:=rfl;have k2:ac.wrap 2=2:=rfl;have k3:ac.wrap 3=3:=rfl;have k4:ac.wrap 4=4:=rfl;have k5:ac.wrap 5=5:=rfl;have k6:ac.wrap 6=6:=rfl;have k7:ac.wrap 7=7:=rfl;have k8:ac.wrap 8=8:=rfl;simp only[ws8,tT]
   iterate 9
    rw[ai];simp only[go_sem,Q0,Q1,Q2,Q3,Q4,Q5,Q6,Q7,Q8,Q9,Qa,Qb,Qc,Qd,Qe,Qf,Qg,Qh,Qi,Qj,Qk,reduceCtorEq,reduceIte,aC,aB,c8,k1,k2,k3,k4,k5,k6,k7,k8]
theorem l65(X:List UInt8)(hX:X.length<=1000000000000):∀(n a:Nat)(h:List Int),h.length=8->X.length=a+64*n->
 run T (.loop yo) ⟨[(3,.ptr 103 0),(4,.psl 119 1 0 8 (some 8)),(5,.byt X .no),(6,.int .i64 a)],[(103,.arr 1 (ws Kl)),(119,.arr 1 (ws h))],[]⟩=
 some (.x 0,⟨[(4,.psl 119 1 0 8 (some 8))],[(103,.arr 1 (ws Kl)),(119,.arr 1 (ws (fq h (X.drop a) n)))],[]⟩):=by
 intro n;induction n with
 |zero=>
  intro a h hh hl;rw[ai];have h0:¬(a:Int)<X.length:=by omega
  simp only[go_sem,Q0,Q1,Q2,Q3,Q4,Q5,Q6,Q7,Q8,Q9,Qa,Qb,Qc,Qd,Qe,Qf,Qg,Qh,Qi,Qj,Qk,reduceCtorEq,reduceIte,h0,fq]
 |succ n ih=>
  intro a h hh hl;have ih':=ih (a+64) (comp h (bk X a)) (qh h _ hh) (by omega);have h0:(a:Int)<X.length:=by omega
  have a1:ac.wrap ((a:Int)+64)=((a+64:Nat):Int):=wZ (by omega)
  have g1:=xl3 X a h (by omega) hX _ 0 rfl (by omega);have g2:=xl2 X a (Wl (bk X a) 64) h (.arr 1 (ws h)) (uJ _ 64) hh _ 0 (.id 194) rfl (by omega);have g3:=xl1 X a h (rounds (Wl (bk X a) 64) h 64) (.arr 1 (ws Kl)) (.arr 1 (ws (Wl (bk X a) 64))) hh (ig _ _ hh 64);have hw:Wl (bk X a) 0=am 64 0:=rfl;have hr:rounds (Wl (bk X a) 64) h 0=h:=rfl;have hz:¬(0:Nat)=64:=by omega
  have hwl:=dx h;rw[hw,<-tX]at g1;rw[hr,if_neg hz]at g2;simp only[av]at g1 g2
  have hbl:fq h (X.drop a) (n+1)=fq (comp h (bk X a)) (X.drop (a+64)) n:=by rw[fq,xan,dY]
  rw[hbl,ai];unfold comp at ih' ⊢;have ht:du 8 (ws h)=ws h:=ay (by rw[hwl,hh];exact aQ 8);simp only[go_sem,Q0,Q1,Q2,Q3,Q4,Q5,Q6,Q7,Q8,Q9,Qa,Qb,Qc,Qd,Qe,Qf,Qg,Qh,Qi,Qj,Qk,reduceCtorEq,reduceIte,h0,a1,g1,g2,g3,hwl,hh,ht,ih']
  trace_state
attribute [-go_sem] jt
theorem f65(B:List UInt8)(hB:B.length<=100000000000):call T 65 [.byt B .no] [] 0=some ⟨.byt (sha B) .no,[],[]⟩:=by
 have g1:=xmW;have g0:=xkZ B (by omega);have ck:jt 1 64 (List.map SV.data iU)=ws Kl:=rfl;have i3:iU.all SV.isData=true:=rfl;have i4:=m6;have pg:SV.purgeL 103 104 iU=iU:=rfl;have i1:SV.idsL iU=[]:=rfl;have i2:SV.toksL iU=[]:=rfl;have hl:=kr B;have hz:zn (B.length+1)<64:=by unfold zn;omega
 have hm:=mg B;have g3:=l65 (eu B) (by omega) ((eu B).length/64) 0 H0 rfl (by omega);have hb:=lI ((eu B).length/64) H0 (eu B) rfl;have g2:=xkX (fq H0 (eu B) ((eu B).length/64)) (by omega);have hw:=dx (fq H0 (eu B) ((eu B).length/64));have hH:ws H0=[[.int .u32 1779033703],[.int .u32 3144134277],[.int .u32 1013904242],[.int .u32 2773480762],[.int .u32 1359893119],[.int .u32 2600822924],[.int .u32 528734635],[.int .u32 1541459225]]:=rfl;rw[hH]at g3;simp only[av,bh]at g3;unfold sha;generalize fq H0 (eu B) ((eu B).length/64)=b at*;have ht:du 8 (ws b)=ws b:=ay (by rw[hw,hb];exact aQ 8);rw[ao xnC];simp only[go_sem,Q0,Q1,Q2,Q3,Q4,Q5,Q6,Q7,Q8,Q9,Qa,Qb,Qc,Qd,Qe,Qf,Qg,Qh,Qi,Qj,Qk,reduceCtorEq,reduceIte,g1,g0,xaN,xjz,i1,i2,List.isEmpty,ck,i3,i4,pg,g2,g3,xaK,hw,hb,c8,ht]
attribute [go_sem] jt
theorem l48(v:Int):∀(k:Nat)(acc:List UInt8),k<=8->acc.length+k<=100000000000000->
 run T (.loop P0) ⟨[(2,.int .i64 v),(7,.byt acc (.id 107)),(8,.int .i64 ((k:Int)-1))],[],[107]⟩=
 some (.x 0,⟨[(7,.byt (acc++be k (aZ.wrap v)) (.id 107))],[],[107]⟩):=by
 intro k;induction k with
 |zero=>
  intro acc hk h;rw[ai];have hg:¬(0:Int)<=((0:Nat):Int)-1:=by omega
  simp only[go_sem,Q0,Q1,Q2,Q3,Q4,Q5,Q6,Q7,Q8,Q9,Qa,Qb,Qc,Qd,Qe,Qf,Qg,Qh,Qi,Qj,Qk,reduceCtorEq,reduceIte,hg,be,bJ]
 |succ k ih=>
  intro acc hk h;have ih':=ih (acc++ [il (aZ.wrap v) (8*k)]) (by omega) (by rw[af,aM];omega);have c1:acc.length+1<=140737488355328:=by omega
  have hg:(0:Int)<=((k+1:Nat):Int)-1:=by omega
  have he:aZ.wrap (((k+1:Nat):Int)-1)=(k:Int):=by rw[cB];omega
  have he2:ac.wrap (8*(((k+1:Nat):Int)-1))=((8*k:Nat):Int):=wZ (by omega)
  have he3:aZ.wrap (((8*k:Nat):Int))=((8*k:Nat):Int):=by rw[cB];omega
  have he4:aZ.wrap (8*(k:Int))=((8*k:Nat):Int):=by rw[cB];omega
  have hs:ac.wrap (((k+1:Nat):Int)-1-1)=(k:Int)-1:=wZ (by omega)
  have hm:min (8*k) 64=8*k:=by omega
  rw[aA,cX]at ih';rw[ai];unfold il at ih';simp only[go_sem,Q0,Q1,Q2,Q3,Q4,Q5,Q6,Q7,Q8,Q9,Qa,Qb,Qc,Qd,Qe,Qf,Qg,Qh,Qi,Qj,Qk,reduceCtorEq,reduceIte,c1,hg,he,he2,he3,he4,hs,hm,be,il,ih']
theorem f48(B:List UInt8)(k:Nat)(v:Int)(h1:1<=k)(h8:k<=8)(hB:B.length<=10000000000000):
 call T 48 [.byt B .no,.int .i64 k,.int .i64 v] [] 0=some ⟨.byt (B++be k (aZ.wrap v)) (.id 60),[],[60]⟩:=by
 have g:=l48 v k B h8 (by omega);have c1:¬(k:Int)<1:=by omega
 have c2:¬(8:Int)<k:=by omega
 have c3:ac.wrap ((k:Int)-1)=(k:Int)-1:=w64 (by omega) (by omega);have c4:B.length<=140737488355328:=by omega
 rw[ao xnN];simp only[go_sem,Q0,Q1,Q2,Q3,Q4,Q5,Q6,Q7,Q8,Q9,Qa,Qb,Qc,Qd,Qe,Qf,Qg,Qh,Qi,Qj,Qk,reduceCtorEq,reduceIte,c1,c2,c3,c4,g]
theorem l57(v:Int):∀(k:Nat)(acc:List UInt8),k<=8->acc.length+k<=100000000000000->
 run T (.loop PY) ⟨[(2,.int .i64 v),(7,.byt acc (.id 107)),(8,.int .i64 ((k:Int)-1))],[],[107]⟩=
 some (.x 0,⟨[(7,.byt (acc++be k (aZ.wrap v)) (.id 107))],[],[107]⟩):=by
 intro k;induction k with
 |zero=>
  intro acc hk h;rw[ai];have hg:¬(0:Int)<=((0:Nat):Int)-1:=by omega
  simp only[go_sem,Q0,Q1,Q2,Q3,Q4,Q5,Q6,Q7,Q8,Q9,Qa,Qb,Qc,Qd,Qe,Qf,Qg,Qh,Qi,Qj,Qk,reduceCtorEq,reduceIte,hg,be,bJ]
 |succ k ih=>
  intro acc hk h;have ih':=ih (acc++ [il (aZ.wrap v) (8*k)]) (by omega) (by rw[af,aM];omega);have c1:acc.length+1<=140737488355328:=by omega
  have hg:(0:Int)<=((k+1:Nat):Int)-1:=by omega
  have he:aZ.wrap (((k+1:Nat):Int)-1)=(k:Int):=by rw[cB];omega
  have he4:aZ.wrap (8*(k:Int))=((8*k:Nat):Int):=by rw[cB];omega
  have hs:ac.wrap (((k+1:Nat):Int)-1-1)=(k:Int)-1:=wZ (by omega)
  have hm:min (8*k) 64=8*k:=by omega
  rw[aA,cX]at ih';rw[ai];unfold il at ih';simp only[go_sem,Q0,Q1,Q2,Q3,Q4,Q5,Q6,Q7,Q8,Q9,Qa,Qb,Qc,Qd,Qe,Qf,Qg,Qh,Qi,Qj,Qk,reduceCtorEq,reduceIte,c1,hg,he,he4,hs,hm,be,il,ih']
theorem f57(B:List UInt8)(k:Nat)(v:Int)(h1:1<=k)(h8:k<=8)(hB:B.length<=10000000000000):
 call T 57 [.byt B .no,.int .i64 k,.int .i64 v] [] 0=some ⟨.byt (B++be k (aZ.wrap v)) (.id 60),[],[60]⟩:=by
 have g:=l57 v k B h8 (by omega);have c1:¬(k:Int)<1:=by omega
 have c2:¬(8:Int)<k:=by omega
 have c3:ac.wrap ((k:Int)-1)=(k:Int)-1:=w64 (by omega) (by omega);have c4:B.length<=140737488355328:=by omega
 rw[ao xnE];simp only[go_sem,Q0,Q1,Q2,Q3,Q4,Q5,Q6,Q7,Q8,Q9,Qa,Qb,Qc,Qd,Qe,Qf,Qg,Qh,Qi,Qj,Qk,reduceCtorEq,reduceIte,c1,c2,c3,c4,g]
def ju(B X:List UInt8):List UInt8:=B++be 2 (aZ.wrap (X.take 65535).length)++X.take 65535
theorem f56(B X:List UInt8)(hB:B.length<=1000000000000)(hX:X.length<=1000000000000):call T 56 [.byt B .no,.byt X .no] [] 0=some ⟨.byt (ju B X) (.id 60),[],[60]⟩:=by
 have g:=f57 B 2 (X.take 65535).length (by omega) (by omega) (by omega);rw[c2]at g;rw[ao xnF];have hl:(X.take 65535).length<=65535:=by rw[aj];omega
 have c4:(B++be 2 (aZ.wrap (X.take 65535).length)).length+(X.take 65535).length<=140737488355328:=by rw[af,eS];omega
 by_cases h:(65535:Int)<X.length
 ·have h3:(65535:Int)<=X.length:=by omega
  have h4:65535<=X.length:=by omega
  simp only[af]at c4;simp only[go_sem,Q0,Q1,Q2,Q3,Q4,Q5,Q6,Q7,Q8,Q9,Qa,Qb,Qc,Qd,Qe,Qf,Qg,Qh,Qi,Qj,Qk,reduceCtorEq,reduceIte,h,h3,h4,g,xfH,ju,c4,aA]
 ·have ht:X.take 65535=X:=ay (by omega)
  rw[ht]at g c4;simp only[af]at c4;simp only[go_sem,Q0,Q1,Q2,Q3,Q4,Q5,Q6,Q7,Q8,Q9,Qa,Qb,Qc,Qd,Qe,Qf,Qg,Qh,Qi,Qj,Qk,reduceCtorEq,reduceIte,h,g,xfH,ju,ht,c4,aA]
theorem f49(B X:List UInt8)(hB:B.length<=1000000000000)(hX:X.length<=1000000000000):call T 49 [.byt B .no,.byt X .no] [] 0=some ⟨.byt (ju B X) (.id 60),[],[60]⟩:=by
 have g:=f48 B 2 (X.take 65535).length (by omega) (by omega) (by omega);rw[c2]at g;rw[ao xnM];have hl:(X.take 65535).length<=65535:=by rw[aj];omega
 have c4:(B++be 2 (aZ.wrap (X.take 65535).length)).length+(X.take 65535).length<=140737488355328:=by rw[af,eS];omega
 simp only[af]at c4
 by_cases h:(65535:Int)<X.length
 ·have h3:min (X.length:Int) 65535=65535:=by omega
  have h4:(65535:Int)<=X.length:=by omega
  have h5:65535<=X.length:=by omega
  simp only[go_sem,Q0,Q1,Q2,Q3,Q4,Q5,Q6,Q7,Q8,Q9,Qa,Qb,Qc,Qd,Qe,Qf,Qg,Qh,Qi,Qj,Qk,reduceCtorEq,reduceIte,h,h4,h5,g,qU,ju,c4,aA]
 ·have h3:min (X.length:Int) 65535=X.length:=by omega
  have ht:X.take 65535=X:=ay (by omega);have ht2:X.take X.length=X:=bv;rw[ht]at g c4;simp only[go_sem,Q0,Q1,Q2,Q3,Q4,Q5,Q6,Q7,Q8,Q9,Qa,Qb,Qc,Qd,Qe,Qf,Qg,Qh,Qi,Qj,Qk,reduceCtorEq,reduceIte,h,ht2,g,qU,ju,ht,c4,aA]
def frame(t:Int)(X:List UInt8):List UInt8:=bO t::(w4 (X.length:Int)++X)
theorem xmX(t:Int)(X:List UInt8)(hX:X.length<=1000000000):call T 112 [.int .i64 t,.lst 1 [[.byt X .no]] .no] [] 0=some ⟨.byt (frame t X) .no,[],[]⟩:=by
 have k1:ac.wrap 1=1:=rfl;have e1:ax.wrap (X.length:Int)=X.length:=by rw[IntKind.wrap_u32];omega
 have c4:1+4+X.length<=140737488355328:=by omega
 have c5:5+X.length<=140737488355328:=by omega
 rw[ao xjb];simp only[go_sem,Q0,Q1,Q2,Q3,Q4,Q5,Q6,Q7,Q8,Q9,Qa,Qb,Qc,Qd,Qe,Qf,Qg,Qh,Qi,Qj,Qk,reduceCtorEq,reduceIte,aC,aB,c1,k1];rw[ai];simp only[go_sem,Q0,Q1,Q2,Q3,Q4,Q5,Q6,Q7,Q8,Q9,Qa,Qb,Qc,Qd,Qe,Qf,Qg,Qh,Qi,Qj,Qk,reduceCtorEq,reduceIte,aC,aB,c1,k1,e1,m24,m16,m8,c4,c5];rw[ai];simp only[go_sem,Q0,Q1,Q2,Q3,Q4,Q5,Q6,Q7,Q8,Q9,Qa,Qb,Qc,Qd,Qe,Qf,Qg,Qh,Qi,Qj,Qk,reduceCtorEq,reduceIte,aC,aB,c1,k1,e1,m24,m16,m8,c4,c5,frame,w4,il]
 trace_state
theorem Eh(t:Int)(X:List UInt8):(frame t X).length=X.length+5:=by simp[frame,w4]
def E3(t:Int)(X:List UInt8):List UInt8:=sha (frame t X)
theorem f58(t:Int)(X:List UInt8)(hX:X.length<=1000000000):call T 58 [.int .i64 t,.lst 1 [[.byt X .no]] .no] [] 0=some ⟨.byt (E3 t X) .no,[],[]⟩:=by have g1:=xmX t X hX;have g2:=f90 (frame t X) (by rw[Eh];omega);rw[ao xnD];simp only[go_sem,Q0,Q1,Q2,Q3,Q4,Q5,Q6,Q7,Q8,Q9,Qa,Qb,Qc,Qd,Qe,Qf,Qg,Qh,Qi,Qj,Qk,reduceCtorEq,reduceIte,g1,g2,xjA,xW,E3]
theorem xfu(x:Int)(n m:Nat)(h:n+m=32):call T 170 [.int .u32 x,.int .u64 n] [] 0=some ⟨.int .u32 (rr x m),[],[]⟩:=by
 rw[ao xiF];have e:aZ.wrap (32-(n:Int))=(m:Int):=by rw[cB];omega
 have e2:min n 32=n:=by omega
 have e3:min m 32=m:=by omega
 have e4:32-m=n:=by omega
 simp only[go_sem,Q0,Q1,Q2,Q3,Q4,Q5,Q6,Q7,Q8,Q9,Qa,Qb,Qc,Qd,Qe,Qf,Qg,Qh,Qi,Qj,Qk,reduceCtorEq,reduceIte,e,e2,e3,rr,e4,lq]
def nw1(B:List UInt8)(L:List Int)(t:Nat):Int:=
 if t<16 then wd B t else
  rr (bC .xor .u32 (bC .xor .u32 (bC .xor .u32 (L.getD (t-3) 0) (L.getD (t-8) 0)) (L.getD (t-14) 0)) (L.getD (t-16) 0)) 31
def Wl1(B:List UInt8):Nat->List Int
 |0=>am 80 0
 |t+1=>(Wl1 B t).set t (nw1 B (Wl1 B t) t)
theorem pC(B:List UInt8)(t:Nat):(Wl1 B t).length=80:=by
 induction t with
 |zero=>simp[Wl1]
 |succ n ih=>simp[Wl1,ih]
theorem p1(x:Int):call T 157 [.int .u32 x,.int .i64 1] [] 0=some ⟨.int .u32 (rr x 31),[],[]⟩:=qN x 1 31 (by omega) (by decide)
theorem p5(x:Int):call T 157 [.int .u32 x,.int .i64 5] [] 0=some ⟨.int .u32 (rr x 27),[],[]⟩:=qN x 5 27 (by omega) (by decide)
theorem p30(x:Int):call T 157 [.int .u32 x,.int .i64 30] [] 0=some ⟨.int .u32 (rr x 2),[],[]⟩:=qN x 30 2 (by omega) (by decide)
theorem z1(x:Int):call T 170 [.int .u32 x,.int .u64 1] [] 0=some ⟨.int .u32 (rr x 31),[],[]⟩:=xfu x 1 31 rfl
theorem z5(x:Int):call T 170 [.int .u32 x,.int .u64 5] [] 0=some ⟨.int .u32 (rr x 27),[],[]⟩:=xfu x 5 27 rfl
theorem z30(x:Int):call T 170 [.int .u32 x,.int .u64 30] [] 0=some ⟨.int .u32 (rr x 2),[],[]⟩:=xfu x 30 2 rfl
theorem xib(B:List UInt8)(O:aG)(hB:B.length=64):∀(n t:Nat),80-t=n->t<=80->
 run T (.loop yN) ⟨[(0,.ptr 0 0),(1,.byt B .no),(4,.ptr 104 0),(14,.int .i64 t)],[(0,O),(104,.arr 1 (ws (Wl1 B t)))],[]⟩=
 some (.x 0,⟨[(0,.ptr 0 0),(4,.ptr 104 0)],[(0,O),(104,.arr 1 (ws (Wl1 B 80)))],[]⟩):=by
 intro n;induction n with
 |zero=>
  intro t h0 h1;have hi:t=80:=by omega
  subst hi;rw[ai];simp only[c80,go_sem,Q0,Q1,Q2,Q3,Q4,Q5,Q6,Q7,Q8,Q9,Qa,Qb,Qc,Qd,Qe,Qf,Qg,Qh,Qi,Qj,Qk,reduceCtorEq,reduceIte]
 |succ n ih=>
  intro t h0 h1;have ih':=ih (t+1) (by omega) (by omega);have e1:=cg t (by omega);have hlt:(t:Int)<80:=by omega
  have hl:=pC B t;have hw:=dx (Wl1 B t);have hn:t<80:=by omega
  have hs:Wl1 B (t+1)=(Wl1 B t).set t (nw1 B (Wl1 B t) t):=rfl;rw[ai]
  by_cases h16:t<16
  ·have g:=xkO B t (by omega) (by omega)
   have h16':(t:Int)<16:=by omega
   have hx:nw1 B (Wl1 B t) t=wd B t:=by unfold nw1;rw[if_pos h16]
   rw[hs,hx]at ih';simp only[go_sem,Q0,Q1,Q2,Q3,Q4,Q5,Q6,Q7,Q8,Q9,Qa,Qb,Qc,Qd,Qe,Qf,Qg,Qh,Qi,Qj,Qk,reduceCtorEq,reduceIte,hlt,h16',e1,g,hl,hw,xaB,hn,kY,ih']
  ·have h16':¬(t:Int)<16:=by omega
   have a3:ac.wrap ((t:Int)-3)=((t-3:Nat):Int):=wZ (by omega)
   have a8:ac.wrap ((t:Int)-8)=((t-8:Nat):Int):=wZ (by omega)
   have a14:ac.wrap ((t:Int)-14)=((t-14:Nat):Int):=wZ (by omega)
   have a16:ac.wrap ((t:Int)-16)=((t-16:Nat):Int):=wZ (by omega)
   have b3:t-3<80:=by omega
   have il:t-8<80:=by omega
   have b14:t-14<80:=by omega
   have b16:t-16<80:=by omega
   have d3:=co (Wl1 B t) (t-3) (by omega);have d8:=co (Wl1 B t) (t-8) (by omega);have d14:=co (Wl1 B t) (t-14) (by omega);have d16:=co (Wl1 B t) (t-16) (by omega);rw[hs]at ih';unfold nw1 at ih';rw[if_neg h16]at ih';simp only[go_sem,Q0,Q1,Q2,Q3,Q4,Q5,Q6,Q7,Q8,Q9,Qa,Qb,Qc,Qd,Qe,Qf,Qg,Qh,Qi,Qj,Qk,reduceCtorEq,reduceIte,hlt,h16',e1,hl,hw,rh,hn,a3,a8,a14,a16,b3,il,b14,b16,d3,d8,d14,d16,p1,kY,ih']
def ff(t:Nat)(b c d:Int):Int:=
 if t<20 then bC .xor .u32 (bC .and .u32 b c) (bC .and .u32 (bC .xor .u32 (if ax.signed=true then-1 else ax.max) b) d)
 else if t<40 then bC .xor .u32 (bC .xor .u32 b c) d
 else if t<60 then bC .xor .u32 (bC .xor .u32 (bC .and .u32 b c) (bC .and .u32 b d)) (bC .and .u32 c d)
 else bC .xor .u32 (bC .xor .u32 b c) d
def kk(t:Nat):Int:=if t<20 then 1518500249 else if t<40 then 1859775393 else if t<60 then 2400959708 else 3395469782
def Hz(t:Nat)(w:Int)(s:List Int):List Int:=
 [ax.wrap (ax.wrap (ax.wrap (ax.wrap (rr (s.getD 0 0) 27+ff t (s.getD 1 0) (s.getD 2 0) (s.getD 3 0))+s.getD 4 0)+kk t)+w),s.getD 0 0,rr (s.getD 1 0) 2,s.getD 2 0,s.getD 3 0]
def cw(W:List Int)(h:List Int):Nat->List Int
 |0=>h
 |t+1=>Hz t (W.getD t 0) (cw W h t)
theorem ka(W h:List Int)(hh:h.length=5)(t:Nat):(cw W h t).length=5:=by
 cases t<;>simp[cw,Hz,hh]
theorem xcq(W:List Int)(O:aG)(hW:W.length=80)(t:Nat)(hn:t<80)(hd:t/20=0)(a b c d e:Int):
 run T (.loop fT) ⟨[(0,.ptr 0 0),(4,.ptr 104 0),(6,.int .u32 a),(7,.int .u32 b),(8,.int .u32 c),(9,.int .u32 d),(10,.int .u32 e),(67,.int .i64 t)],[(0,O),(104,.arr 1 (ws W))],[]⟩=
 run T (.loop fT) ⟨[(0,.ptr 0 0),(4,.ptr 104 0),(6,.int .u32 (ax.wrap (ax.wrap (ax.wrap (ax.wrap (rr a 27+bC .xor .u32 (bC .and .u32 b c) (bC .and .u32 (bC .xor .u32 (if ax.signed=true then-1 else ax.max) b) d))+e)+1518500249)+W.getD t 0))),(7,.int .u32 a),(8,.int .u32 (rr b 2)),(9,.int .u32 c),(10,.int .u32 d),(67,.int .i64 ((t+1:Nat):Int))],[(0,O),(104,.arr 1 (ws W))],[]⟩:=by
 have e1:=cg t (by omega);have hlt:(t:Int)<80:=by omega
 have hw2:=dx W;have dW:=co W t (by omega)
 have hq:(t:Int).tdiv 20=0:=by
  have h:(t:Int).tdiv 20=((t/20:Nat):Int):=by rw[Int.tdiv_eq_ediv_of_nonneg (by omega)];omega
  rw[h,hd];rfl
 have k0:ac.wrap 0=0:=rfl;have k1:ac.wrap 1=1:=rfl;have k2:ac.wrap 2=2:=rfl;have k3:ac.wrap 3=3:=rfl;rw[ai];simp only[go_sem,Q0,Q1,Q2,Q3,Q4,Q5,Q6,Q7,Q8,Q9,Qa,Qb,Qc,Qd,Qe,Qf,Qg,Qh,Qi,Qj,Qk,reduceCtorEq,reduceIte,hlt,e1,hw2,hW,rh,hn,hq,k0,k1,k2,k3,dW,p5,p30]
theorem xcp(W:List Int)(O:aG)(hW:W.length=80)(t:Nat)(hn:t<80)(hd:t/20=1)(a b c d e:Int):
 run T (.loop fT) ⟨[(0,.ptr 0 0),(4,.ptr 104 0),(6,.int .u32 a),(7,.int .u32 b),(8,.int .u32 c),(9,.int .u32 d),(10,.int .u32 e),(67,.int .i64 t)],[(0,O),(104,.arr 1 (ws W))],[]⟩=
 run T (.loop fT) ⟨[(0,.ptr 0 0),(4,.ptr 104 0),(6,.int .u32 (ax.wrap (ax.wrap (ax.wrap (ax.wrap (rr a 27+bC .xor .u32 (bC .xor .u32 b c) d)+e)+1859775393)+W.getD t 0))),(7,.int .u32 a),(8,.int .u32 (rr b 2)),(9,.int .u32 c),(10,.int .u32 d),(67,.int .i64 ((t+1:Nat):Int))],[(0,O),(104,.arr 1 (ws W))],[]⟩:=by
 have e1:=cg t (by omega);have hlt:(t:Int)<80:=by omega
 have hw2:=dx W;have dW:=co W t (by omega)
 have hq:(t:Int).tdiv 20=1:=by
  have h:(t:Int).tdiv 20=((t/20:Nat):Int):=by rw[Int.tdiv_eq_ediv_of_nonneg (by omega)];omega
  rw[h,hd];rfl
 have k0:ac.wrap 0=0:=rfl;have k1:ac.wrap 1=1:=rfl;have k2:ac.wrap 2=2:=rfl;have k3:ac.wrap 3=3:=rfl;rw[ai];simp only[go_sem,Q0,Q1,Q2,Q3,Q4,Q5,Q6,Q7,Q8,Q9,Qa,Qb,Qc,Qd,Qe,Qf,Qg,Qh,Qi,Qj,Qk,reduceCtorEq,reduceIte,hlt,e1,hw2,hW,rh,hn,hq,k0,k1,k2,k3,dW,p5,p30]
theorem xco(W:List Int)(O:aG)(hW:W.length=80)(t:Nat)(hn:t<80)(hd:t/20=2)(a b c d e:Int):
 run T (.loop fT) ⟨[(0,.ptr 0 0),(4,.ptr 104 0),(6,.int .u32 a),(7,.int .u32 b),(8,.int .u32 c),(9,.int .u32 d),(10,.int .u32 e),(67,.int .i64 t)],[(0,O),(104,.arr 1 (ws W))],[]⟩=
 run T (.loop fT) ⟨[(0,.ptr 0 0),(4,.ptr 104 0),(6,.int .u32 (ax.wrap (ax.wrap (ax.wrap (ax.wrap (rr a 27+bC .xor .u32 (bC .xor .u32 (bC .and .u32 b c) (bC .and .u32 b d)) (bC .and .u32 c d))+e)+2400959708)+W.getD t 0))),(7,.int .u32 a),(8,.int .u32 (rr b 2)),(9,.int .u32 c),(10,.int .u32 d),(67,.int .i64 ((t+1:Nat):Int))],[(0,O),(104,.arr 1 (ws W))],[]⟩:=by
 have e1:=cg t (by omega);have hlt:(t:Int)<80:=by omega
 have hw2:=dx W;have dW:=co W t (by omega)
 have hq:(t:Int).tdiv 20=2:=by
  have h:(t:Int).tdiv 20=((t/20:Nat):Int):=by rw[Int.tdiv_eq_ediv_of_nonneg (by omega)];omega
  rw[h,hd];rfl
 have k0:ac.wrap 0=0:=rfl;have k1:ac.wrap 1=1:=rfl;have k2:ac.wrap 2=2:=rfl;have k3:ac.wrap 3=3:=rfl;rw[ai];simp only[go_sem,Q0,Q1,Q2,Q3,Q4,Q5,Q6,Q7,Q8,Q9,Qa,Qb,Qc,Qd,Qe,Qf,Qg,Qh,Qi,Qj,Qk,reduceCtorEq,reduceIte,hlt,e1,hw2,hW,rh,hn,hq,k0,k1,k2,k3,dW,p5,p30]
theorem xcn(W:List Int)(O:aG)(hW:W.length=80)(t:Nat)(hn:t<80)(hd:t/20=3)(a b c d e:Int):
 run T (.loop fT) ⟨[(0,.ptr 0 0),(4,.ptr 104 0),(6,.int .u32 a),(7,.int .u32 b),(8,.int .u32 c),(9,.int .u32 d),(10,.int .u32 e),(67,.int .i64 t)],[(0,O),(104,.arr 1 (ws W))],[]⟩=
 run T (.loop fT) ⟨[(0,.ptr 0 0),(4,.ptr 104 0),(6,.int .u32 (ax.wrap (ax.wrap (ax.wrap (ax.wrap (rr a 27+bC .xor .u32 (bC .xor .u32 b c) d)+e)+3395469782)+W.getD t 0))),(7,.int .u32 a),(8,.int .u32 (rr b 2)),(9,.int .u32 c),(10,.int .u32 d),(67,.int .i64 ((t+1:Nat):Int))],[(0,O),(104,.arr 1 (ws W))],[]⟩:=by
 have e1:=cg t (by omega);have hlt:(t:Int)<80:=by omega
 have hw2:=dx W;have dW:=co W t (by omega)
 have hq:(t:Int).tdiv 20=3:=by
  have h:(t:Int).tdiv 20=((t/20:Nat):Int):=by rw[Int.tdiv_eq_ediv_of_nonneg (by omega)];omega
  rw[h,hd];rfl
 have k0:ac.wrap 0=0:=rfl;have k1:ac.wrap 1=1:=rfl;have k2:ac.wrap 2=2:=rfl;have k3:ac.wrap 3=3:=rfl;rw[ai];simp only[go_sem,Q0,Q1,Q2,Q3,Q4,Q5,Q6,Q7,Q8,Q9,Qa,Qb,Qc,Qd,Qe,Qf,Qg,Qh,Qi,Qj,Qk,reduceCtorEq,reduceIte,hlt,e1,hw2,hW,rh,hn,hq,k0,k1,k2,k3,dW,p5,p30]
theorem xia(W h:List Int)(O:aG)(hW:W.length=80)(hh:h.length=5):∀(n t:Nat),80-t=n->t<=80->
 run T (.loop fT) ⟨[(0,.ptr 0 0),(4,.ptr 104 0),(6,.int .u32 ((cw W h t).getD 0 0)),(7,.int .u32 ((cw W h t).getD 1 0)),(8,.int .u32 ((cw W h t).getD 2 0)),(9,.int .u32 ((cw W h t).getD 3 0)),(10,.int .u32 ((cw W h t).getD 4 0)),(67,.int .i64 t)],[(0,O),(104,.arr 1 (ws W))],[]⟩=
 some (.x 2,⟨[(0,.ptr 0 0),(6,.int .u32 ((cw W h 80).getD 0 0)),(7,.int .u32 ((cw W h 80).getD 1 0)),(8,.int .u32 ((cw W h 80).getD 2 0)),(9,.int .u32 ((cw W h 80).getD 3 0)),(10,.int .u32 ((cw W h 80).getD 4 0))],[(0,O),(104,.arr 1 (ws W))],[]⟩):=by
 intro n;induction n with
 |zero=>
  intro t h0 h1;have hi:t=80:=by omega
  subst hi;rw[ai];simp only[c80,go_sem,Q0,Q1,Q2,Q3,Q4,Q5,Q6,Q7,Q8,Q9,Qa,Qb,Qc,Qd,Qe,Qf,Qg,Qh,Qi,Qj,Qk,reduceCtorEq,reduceIte]
 |succ n ih=>
  intro t h0 h1;have ih':=ih (t+1) (by omega) (by omega);have hs:cw W h (t+1)=Hz t (W.getD t 0) (cw W h t):=rfl;rw[hs]at ih';simp only[Hz,bL,bY]at ih'
  by_cases h20:t<20
  ·have hk:kk t=1518500249:=by unfold kk;rw[if_pos h20]
   unfold ff at ih';rw[if_pos h20,hk]at ih';rw[xcq W O hW t (by omega) (by omega)];rw[ih']
  ·by_cases h40:t<40
   ·have hk:kk t=1859775393:=by unfold kk;rw[if_neg h20,if_pos h40]
    unfold ff at ih';rw[if_neg h20,if_pos h40,hk]at ih';rw[xcp W O hW t (by omega) (by omega)];rw[ih']
   ·by_cases h60:t<60
    ·have hk:kk t=2400959708:=by unfold kk;rw[if_neg h20,if_neg h40,if_pos h60]
     unfold ff at ih';rw[if_neg h20,if_neg h40,if_pos h60,hk]at ih';rw[xco W O hW t (by omega) (by omega)];rw[ih']
    ·have hk:kk t=3395469782:=by unfold kk;rw[if_neg h20,if_neg h40,if_neg h60]
     unfold ff at ih';rw[if_neg h20,if_neg h40,if_neg h60,hk]at ih';rw[xcn W O hW t (by omega) (by omega)];rw[ih']
theorem ws5(a b c d e:Int):ws [a,b,c,d,e]=[[.int .u32 a],[.int .u32 b],[.int .u32 c],[.int .u32 d],[.int .u32 e]]:=rfl
def nX(h:List Int)(B:List UInt8):List Int:=tT h (cw (Wl1 B 80) h 80)
theorem ng(h:List Int)(B:List UInt8)(hh:h.length=5):(nX h B).length=5:=by unfold nX;rw[wq _ _ (by rw[ka _ _ hh,hh];exact aQ 5),hh]
theorem EY(l:List Int)(h:l.length=5):∃a b c d e,l=[a,b,c,d,e]:=by
 match l,h with
 |[a,b,c,d,e],_=>exact⟨a,b,c,d,e,rfl⟩
theorem xaq(a b c d e p q r s t:Int):tT [a,b,c,d,e] [p,q,r,s,t]=[ax.wrap (a+p),ax.wrap (b+q),ax.wrap (c+r),ax.wrap (d+s),ax.wrap (e+t)]:=rfl
theorem xmP(h:List Int)(B:List UInt8)(hh:h.length=5)(hB:B.length=64):call T 132 [.ptr 0 0,.byt B .no] [.arr 1 (ws h)] 0=some ⟨.tup [],[(0,.arr 1 (ws (nX h B)))],[]⟩:=by
 have g1:=xib B (.arr 1 (ws h)) hB _ 0 rfl (by omega);have g2:=xia (Wl1 B 80) h (.arr 1 (ws h)) (pC B 80) hh _ 0 rfl (by omega);have hw:Wl1 B 0=am 80 0:=by rw[Wl1]
 have hr:cw (Wl1 B 80) h 0=h:=by rw[cw]
 have hl:=ka (Wl1 B 80) h hh 80;rw[hw,<-tX]at g1;rw[hr]at g2;simp only[av]at g1 g2;unfold nX;generalize cw (Wl1 B 80) h 80=s at*;generalize Wl1 B 80=W at*;clear hw hr;obtain⟨a0,a1,a2,a3,a4,rfl⟩:=EY h hh;obtain⟨s0,s1,s2,s3,s4,rfl⟩:=EY s hl;rw[ao xiV];simp only[ws5,bL,bY]at g1 g2;simp only[go_sem,Q0,Q1,Q2,Q3,Q4,Q5,Q6,Q7,Q8,Q9,Qa,Qb,Qc,Qd,Qe,Qf,Qg,Qh,Qi,Qj,Qk,reduceCtorEq,reduceIte,ws5,xaq,g1,g2,aC,aB,c5]
def ej(h:List Int)(X:List UInt8):Nat->List Int
 |0=>h
 |n+1=>ej (nX h (X.take 64)) (X.drop 64) n
theorem kg(n:Nat):∀(h:List Int)(X:List UInt8),h.length=5->(ej h X n).length=5:=by
 induction n with
 |zero=>intro h X hh;exact hh
 |succ n ih=>intro h X hh;exact ih _ _ (ng h _ hh)
def H1:List Int:=[1732584193,4023233417,2562383102,271733878,3285377520]
def jx(B:List UInt8):List UInt8:=sp (ej H1 (eu B) ((eu B).length/64))
theorem vi(B:List UInt8):(jx B).length=20:=by unfold jx;rw[Ht,kg _ _ _ rfl]
theorem xlW:∀(n:Nat)(h:List Int)(X:List UInt8),h.length=5->X.length=64*n->X.length<=1000000000000->
 run T (.loop PF) ⟨[(5,.ptr 105 0),(6,.byt X .no)],[(105,.arr 1 (ws h))],[]⟩=
 some (.x 1,⟨[(5,.ptr 105 0)],[(105,.arr 1 (ws (ej h X n)))],[]⟩):=by
 intro n;induction n with
 |zero=>
  intro h X hh hX hl;rw[ai];have h0:¬(0:Int)<X.length:=by omega
  simp only[go_sem,Q0,Q1,Q2,Q3,Q4,Q5,Q6,Q7,Q8,Q9,Qa,Qb,Qc,Qd,Qe,Qf,Qg,Qh,Qi,Qj,Qk,reduceCtorEq,reduceIte,h0,ej]
 |succ n ih=>
  intro h X hh hX hl;have ih':=ih (nX h (X.take 64)) (X.drop 64) (ng h _ hh) (by rw[aH];omega) (by rw[aH];omega);have g:=xmP h (X.take 64) hh (by rw[aj];omega);have h1:(0:Int)<X.length:=by omega
  have h2:(64:Int)<=X.length:=by omega
  have h3:64<=X.length:=by omega
  rw[ai];simp only[go_sem,Q0,Q1,Q2,Q3,Q4,Q5,Q6,Q7,Q8,Q9,Qa,Qb,Qc,Qd,Qe,Qf,Qg,Qh,Qi,Qj,Qk,reduceCtorEq,reduceIte,h1,h2,h3,g,xjv,bv,ih',ej]
theorem xmy(B:List UInt8)(hB:B.length<=100000000000):call T 90 [.int .i64 0,.byt B .no] [] 0=some ⟨.byt (jx B) .no,[],[]⟩:=by
 have g0:=xkT B (by omega);have hl:=kr B;have hz:zn (B.length+1)<64:=by unfold zn;omega
 have hm:=mg B;have g1:=xlW ((eu B).length/64) H1 (eu B) rfl (by omega) (by omega);have hb:=kg ((eu B).length/64) H1 (eu B) rfl;have g2:=xkS (ej H1 (eu B) ((eu B).length/64)) (by omega);have c8:((5:Nat):Int)=5:=rfl;have hw:=dx (ej H1 (eu B) ((eu B).length/64));have hH:ws H1=[[.int .u32 1732584193],[.int .u32 4023233417],[.int .u32 2562383102],[.int .u32 271733878],[.int .u32 3285377520]]:=rfl;rw[hH]at g1;rw[ao xk5];unfold jx;generalize ej H1 (eu B) ((eu B).length/64)=b at*;have ht:du 5 (ws b)=ws b:=ay (by rw[hw,hb];exact aQ 5);simp only[go_sem,Q0,Q1,Q2,Q3,Q4,Q5,Q6,Q7,Q8,Q9,Qa,Qb,Qc,Qd,Qe,Qf,Qg,Qh,Qi,Qj,Qk,reduceCtorEq,reduceIte,g0,g1,g2,xaG,xaF,hw,hb,c8,ht]
theorem xh6(X:List UInt8)(a:Nat)(h:List (List SV))(ha:a+64<=X.length)(hX:X.length<=1000000000000):∀(n t:Nat),80-t=n->t<=80->
 run T (.loop sR) ⟨[(3,.lst 1 h .clip),(4,.byt X .no),(5,.int .i64 a),(6,.ptr 106 0),(7,.int .i64 t)],[(106,.arr 1 (ws (Wl1 (bk X a) t)))],[]⟩=
 some (.x 2,⟨[(3,.lst 1 h .clip),(4,.byt X .no),(5,.int .i64 a),(6,.ptr 106 0)],[(106,.arr 1 (ws (Wl1 (bk X a) 80)))],[]⟩):=by
 intro n;induction n with
 |zero=>
  intro t h0 h1;have hi:t=80:=by omega
  subst hi;rw[ai];simp only[c80,go_sem,Q0,Q1,Q2,Q3,Q4,Q5,Q6,Q7,Q8,Q9,Qa,Qb,Qc,Qd,Qe,Qf,Qg,Qh,Qi,Qj,Qk,reduceCtorEq,reduceIte]
 |succ n ih=>
  intro t h0 h1;have ih':=ih (t+1) (by omega) (by omega);have e1:=cg t (by omega);have hlt:(t:Int)<80:=by omega
  have hl:=pC (bk X a) t;have hw:=dx (Wl1 (bk X a) t);have hn:t<80:=by omega
  have hs:Wl1 (bk X a) (t+1)=(Wl1 (bk X a) t).set t (nw1 (bk X a) (Wl1 (bk X a) t) t):=rfl;have a1:ac.wrap ((a:Int)+64)=((a+64:Nat):Int):=wZ (by omega)
  have a3:a<=a+64:=by omega
  rw[ai]
  by_cases h16:t<16
  ·have g:=xkY (bk X a) t (by rw[uI X a ha];omega) (by rw[uI X a ha];omega)
   have h16':(t:Int)<16:=by omega
   have hx:nw1 (bk X a) (Wl1 (bk X a) t) t=wd (bk X a) t:=by unfold nw1;rw[if_pos h16]
   rw[hs,hx]at ih';generalize hb:Wl1 (bk X a) t=L at*;generalize hc:wd (bk X a) t=z at*;unfold bk at g;simp only[go_sem,Q0,Q1,Q2,Q3,Q4,Q5,Q6,Q7,Q8,Q9,Qa,Qb,Qc,Qd,Qe,Qf,Qg,Qh,Qi,Qj,Qk,reduceCtorEq,reduceIte,hlt,h16',e1,a1,ha,a3,g,hl,hw,xaM,hn,kY,ih']
  ·have h16':¬(t:Int)<16:=by omega
   have a3:ac.wrap ((t:Int)-3)=((t-3:Nat):Int):=wZ (by omega)
   have a8:ac.wrap ((t:Int)-8)=((t-8:Nat):Int):=wZ (by omega)
   have a14:ac.wrap ((t:Int)-14)=((t-14:Nat):Int):=wZ (by omega)
   have a16:ac.wrap ((t:Int)-16)=((t-16:Nat):Int):=wZ (by omega)
   have b3:t-3<80:=by omega
   have il:t-8<80:=by omega
   have b14:t-14<80:=by omega
   have b16:t-16<80:=by omega
   rw[hs]at ih';unfold nw1 at ih';rw[if_neg h16]at ih';generalize hb:Wl1 (bk X a) t=L at*;have d3:=co L (t-3) (by omega);have d8:=co L (t-8) (by omega);have d14:=co L (t-14) (by omega);have d16:=co L (t-16) (by omega);simp only[go_sem,Q0,Q1,Q2,Q3,Q4,Q5,Q6,Q7,Q8,Q9,Qa,Qb,Qc,Qd,Qe,Qf,Qg,Qh,Qi,Qj,Qk,reduceCtorEq,reduceIte,hlt,h16',e1,hl,hw,x5,hn,a3,a8,a14,a16,b3,il,b14,b16,d3,d8,d14,d16,z1,kY,ih']
theorem xcm(W:List Int)(X Y:SV)(h:List (List SV))(hW:W.length=80)(t:Nat)(hn:t<80)(q0:t<20)(a b c d e:Int):
 run T (.loop fS) ⟨[(3,.lst 1 h .clip),(4,X),(5,Y),(6,.ptr 106 0),(8,.int .u32 a),(9,.int .u32 b),(10,.int .u32 c),(11,.int .u32 d),(12,.int .u32 e),(13,.int .i64 t)],[(106,.arr 1 (ws W))],[]⟩=
 run T (.loop fS) ⟨[(3,.lst 1 h .clip),(4,X),(5,Y),(6,.ptr 106 0),(8,.int .u32 (ax.wrap (ax.wrap (ax.wrap (ax.wrap (rr a 27+bC .xor .u32 (bC .and .u32 b c) (bC .and .u32 (bC .xor .u32 (if ax.signed=true then-1 else ax.max) b) d))+e)+1518500249)+W.getD t 0))),(9,.int .u32 a),(10,.int .u32 (rr b 2)),(11,.int .u32 c),(12,.int .u32 d),(13,.int .i64 ((t+1:Nat):Int))],[(106,.arr 1 (ws W))],[]⟩:=by
 have e1:=cg t (by omega);have hlt:(t:Int)<80:=by omega
 have hw2:=dx W;have dW:=co W t (by omega);have p0:(t:Int)<20:=by omega
 rw[ai];simp only[go_sem,Q0,Q1,Q2,Q3,Q4,Q5,Q6,Q7,Q8,Q9,Qa,Qb,Qc,Qd,Qe,Qf,Qg,Qh,Qi,Qj,Qk,reduceCtorEq,reduceIte,hlt,e1,hw2,hW,x5,hn,p0,dW,z5,z30]
theorem xcl(W:List Int)(X Y:SV)(h:List (List SV))(hW:W.length=80)(t:Nat)(hn:t<80)(q0:¬t<20)(q1:t<40)(a b c d e:Int):
 run T (.loop fS) ⟨[(3,.lst 1 h .clip),(4,X),(5,Y),(6,.ptr 106 0),(8,.int .u32 a),(9,.int .u32 b),(10,.int .u32 c),(11,.int .u32 d),(12,.int .u32 e),(13,.int .i64 t)],[(106,.arr 1 (ws W))],[]⟩=
 run T (.loop fS) ⟨[(3,.lst 1 h .clip),(4,X),(5,Y),(6,.ptr 106 0),(8,.int .u32 (ax.wrap (ax.wrap (ax.wrap (ax.wrap (rr a 27+bC .xor .u32 (bC .xor .u32 b c) d)+e)+1859775393)+W.getD t 0))),(9,.int .u32 a),(10,.int .u32 (rr b 2)),(11,.int .u32 c),(12,.int .u32 d),(13,.int .i64 ((t+1:Nat):Int))],[(106,.arr 1 (ws W))],[]⟩:=by
 have e1:=cg t (by omega);have hlt:(t:Int)<80:=by omega
 have hw2:=dx W;have dW:=co W t (by omega);have p0:¬(t:Int)<20:=by omega
 have p1:(t:Int)<40:=by omega
 rw[ai];simp only[go_sem,Q0,Q1,Q2,Q3,Q4,Q5,Q6,Q7,Q8,Q9,Qa,Qb,Qc,Qd,Qe,Qf,Qg,Qh,Qi,Qj,Qk,reduceCtorEq,reduceIte,hlt,e1,hw2,hW,x5,hn,p0,p1,dW,z5,z30]
theorem xck(W:List Int)(X Y:SV)(h:List (List SV))(hW:W.length=80)(t:Nat)(hn:t<80)(q0:¬t<20)(q1:¬t<40)(q2:t<60)(a b c d e:Int):
 run T (.loop fS) ⟨[(3,.lst 1 h .clip),(4,X),(5,Y),(6,.ptr 106 0),(8,.int .u32 a),(9,.int .u32 b),(10,.int .u32 c),(11,.int .u32 d),(12,.int .u32 e),(13,.int .i64 t)],[(106,.arr 1 (ws W))],[]⟩=
 run T (.loop fS) ⟨[(3,.lst 1 h .clip),(4,X),(5,Y),(6,.ptr 106 0),(8,.int .u32 (ax.wrap (ax.wrap (ax.wrap (ax.wrap (rr a 27+bC .xor .u32 (bC .xor .u32 (bC .and .u32 b c) (bC .and .u32 b d)) (bC .and .u32 c d))+e)+2400959708)+W.getD t 0))),(9,.int .u32 a),(10,.int .u32 (rr b 2)),(11,.int .u32 c),(12,.int .u32 d),(13,.int .i64 ((t+1:Nat):Int))],[(106,.arr 1 (ws W))],[]⟩:=by
 have e1:=cg t (by omega);have hlt:(t:Int)<80:=by omega
 have hw2:=dx W;have dW:=co W t (by omega);have p0:¬(t:Int)<20:=by omega
 have p1:¬(t:Int)<40:=by omega
 have p2:(t:Int)<60:=by omega
 rw[ai];simp only[go_sem,Q0,Q1,Q2,Q3,Q4,Q5,Q6,Q7,Q8,Q9,Qa,Qb,Qc,Qd,Qe,Qf,Qg,Qh,Qi,Qj,Qk,reduceCtorEq,reduceIte,hlt,e1,hw2,hW,x5,hn,p0,p1,p2,dW,z5,z30]
theorem xcj(W:List Int)(X Y:SV)(h:List (List SV))(hW:W.length=80)(t:Nat)(hn:t<80)(q0:¬t<20)(q1:¬t<40)(q2:¬t<60)(a b c d e:Int):
 run T (.loop fS) ⟨[(3,.lst 1 h .clip),(4,X),(5,Y),(6,.ptr 106 0),(8,.int .u32 a),(9,.int .u32 b),(10,.int .u32 c),(11,.int .u32 d),(12,.int .u32 e),(13,.int .i64 t)],[(106,.arr 1 (ws W))],[]⟩=
 run T (.loop fS) ⟨[(3,.lst 1 h .clip),(4,X),(5,Y),(6,.ptr 106 0),(8,.int .u32 (ax.wrap (ax.wrap (ax.wrap (ax.wrap (rr a 27+bC .xor .u32 (bC .xor .u32 b c) d)+e)+3395469782)+W.getD t 0))),(9,.int .u32 a),(10,.int .u32 (rr b 2)),(11,.int .u32 c),(12,.int .u32 d),(13,.int .i64 ((t+1:Nat):Int))],[(106,.arr 1 (ws W))],[]⟩:=by
 have e1:=cg t (by omega);have hlt:(t:Int)<80:=by omega
 have hw2:=dx W;have dW:=co W t (by omega);have p0:¬(t:Int)<20:=by omega
 have p1:¬(t:Int)<40:=by omega
 have p2:¬(t:Int)<60:=by omega
 rw[ai];simp only[go_sem,Q0,Q1,Q2,Q3,Q4,Q5,Q6,Q7,Q8,Q9,Qa,Qb,Qc,Qd,Qe,Qf,Qg,Qh,Qi,Qj,Qk,reduceCtorEq,reduceIte,hlt,e1,hw2,hW,x5,hn,p0,p1,p2,dW,z5,z30]
theorem xh5(W k:List Int)(X Y:SV)(h:List (List SV))(hW:W.length=80):∀(n t:Nat),80-t=n->t<=80->
 run T (.loop fS) ⟨[(3,.lst 1 h .clip),(4,X),(5,Y),(6,.ptr 106 0),(8,.int .u32 ((cw W k t).getD 0 0)),(9,.int .u32 ((cw W k t).getD 1 0)),(10,.int .u32 ((cw W k t).getD 2 0)),(11,.int .u32 ((cw W k t).getD 3 0)),(12,.int .u32 ((cw W k t).getD 4 0)),(13,.int .i64 t)],[(106,.arr 1 (ws W))],[]⟩=some (.x 4,⟨[(3,.lst 1 h .clip),(4,X),(5,Y),(8,.int .u32 ((cw W k 80).getD 0 0)),(9,.int .u32 ((cw W k 80).getD 1 0)),(10,.int .u32 ((cw W k 80).getD 2 0)),(11,.int .u32 ((cw W k 80).getD 3 0)),(12,.int .u32 ((cw W k 80).getD 4 0))],[(106,.arr 1 (ws W))],[]⟩):=by
 intro n;induction n with
 |zero=>
  intro t h0 h1;have hi:t=80:=by omega
  subst hi;rw[ai];simp only[c80,go_sem,Q0,Q1,Q2,Q3,Q4,Q5,Q6,Q7,Q8,Q9,Qa,Qb,Qc,Qd,Qe,Qf,Qg,Qh,Qi,Qj,Qk,reduceCtorEq,reduceIte]
 |succ n ih=>
  intro t h0 h1;have ih':=ih (t+1) (by omega) (by omega);have hs:cw W k (t+1)=Hz t (W.getD t 0) (cw W k t):=rfl;rw[hs]at ih';simp only[Hz,bL,bY]at ih'
  by_cases h20:t<20
  ·have hk:kk t=1518500249:=by unfold kk;rw[if_pos h20]
   unfold ff at ih';rw[if_pos h20,hk]at ih';rw[xcm W X Y h hW t (by omega) h20,ih']
  ·by_cases h40:t<40
   ·have hk:kk t=1859775393:=by unfold kk;rw[if_neg h20,if_pos h40]
    unfold ff at ih';rw[if_neg h20,if_pos h40,hk]at ih';rw[xcl W X Y h hW t (by omega) h20 h40,ih']
   ·by_cases h60:t<60
    ·have hk:kk t=2400959708:=by unfold kk;rw[if_neg h20,if_neg h40,if_pos h60]
     unfold ff at ih';rw[if_neg h20,if_neg h40,if_pos h60,hk]at ih';rw[xck W X Y h hW t (by omega) h20 h40 h60,ih']
    ·have hk:kk t=3395469782:=by unfold kk;rw[if_neg h20,if_neg h40,if_neg h60]
     unfold ff at ih';rw[if_neg h20,if_neg h40,if_neg h60,hk]at ih';rw[xcj W X Y h hW t (by omega) h20 h40 h60,ih']
theorem xmj(X:List UInt8)(hX:X.length<=1000000000000):∀(n a:Nat)(h:List Int),h.length=5->X.length=a+64*n->
 run T (.loop sQ) ⟨[(3,.lst 1 (ws h) .clip),(4,.byt X .no),(5,.int .i64 a)],[],[]⟩=
 some (.x 0,⟨[(3,.lst 1 (ws (ej h (X.drop a) n)) .clip)],[],[]⟩):=by
 intro n;induction n with
 |zero=>
  intro a h hh hl;rw[ai];have h0:¬(a:Int)<X.length:=by omega
  simp only[go_sem,Q0,Q1,Q2,Q3,Q4,Q5,Q6,Q7,Q8,Q9,Qa,Qb,Qc,Qd,Qe,Qf,Qg,Qh,Qi,Qj,Qk,reduceCtorEq,reduceIte,h0,ej]
 |succ n ih=>
  intro a h hh hl;have ih':=ih (a+64) (nX h (bk X a)) (ng h _ hh) (by omega);have h0:(a:Int)<X.length:=by omega
  have ae:ac.wrap ((a:Int)+64)=((a+64:Nat):Int):=wZ (by omega)
  have g1:=xh6 X a (ws h) (by omega) hX _ 0 rfl (by omega);have g2:=xh5 (Wl1 (bk X a) 80) h (.byt X .no) (.int .i64 a) (ws h) (pC _ 80) _ 0 rfl (by omega);have hw:Wl1 (bk X a) 0=am 80 0:=by rw[Wl1]
  have hr:cw (Wl1 (bk X a) 80) h 0=h:=by rw[cw]
  have hrl:=ka (Wl1 (bk X a) 80) h hh 80;rw[hw,<-tX]at g1;rw[hr]at g2;simp only[av]at g1 g2
  have hbl:ej h (X.drop a) (n+1)=ej (nX h (bk X a)) (X.drop (a+64)) n:=by rw[ej,xan,dY]
  rw[hbl,ai];unfold nX at ih' ⊢;generalize cw (Wl1 (bk X a) 80) h 80=s at*;generalize Wl1 (bk X a) 80=W at*;obtain⟨a0,a1,a2,a3,a4,rfl⟩:=EY h hh;obtain⟨s0,s1,s2,s3,s4,rfl⟩:=EY s hrl;simp only[ws5,bL,bY,xaq]at g1 g2 ih' ⊢;simp only[go_sem,Q0,Q1,Q2,Q3,Q4,Q5,Q6,Q7,Q8,Q9,Qa,Qb,Qc,Qd,Qe,Qf,Qg,Qh,Qi,Qj,Qk,reduceCtorEq,reduceIte,h0,ae,g1,g2,aC,aB,c5,ih']
theorem xmJ(B:List UInt8)(hB:B.length<=100000000000):call T 144 [.byt B .no] [] 0=some ⟨.byt (jx B) .no,[],[]⟩:=by
 have g0:=xkZ B (by omega);have hl:=kr B;have hz:zn (B.length+1)<64:=by unfold zn;omega
 have hm:=mg B;have g3:=xmj (eu B) (by omega) ((eu B).length/64) 0 H1 rfl (by omega);have hb:=kg ((eu B).length/64) H1 (eu B) rfl;have g2:=xkX (ej H1 (eu B) ((eu B).length/64)) (by omega);have hH:ws H1=[[.int .u32 1732584193],[.int .u32 4023233417],[.int .u32 2562383102],[.int .u32 271733878],[.int .u32 3285377520]]:=rfl;rw[hH]at g3;simp only[av,bh]at g3;unfold jx;generalize ej H1 (eu B) ((eu B).length/64)=b at*;rw[ao xiN];simp only[go_sem,Q0,Q1,Q2,Q3,Q4,Q5,Q6,Q7,Q8,Q9,Qa,Qb,Qc,Qd,Qe,Qf,Qg,Qh,Qi,Qj,Qk,reduceCtorEq,reduceIte,g0,xaN,g2,g3,xaK]
theorem Qw(B:List UInt8)(hB:B.length<=100000000000):call T 121 [.int .i64 0,.byt B .no] [] 0=some ⟨.byt (jx B) .no,[],[]⟩:=by have g:=xmJ B hB;rw[ao xaw];simp only[go_sem,Q0,Q1,Q2,Q3,Q4,Q5,Q6,Q7,Q8,Q9,Qa,Qb,Qc,Qd,Qe,Qf,Qg,Qh,Qi,Qj,Qk,reduceCtorEq,reduceIte,g,xjs]
theorem Qv(B:List UInt8)(hB:B.length<=100000000000):call T 121 [.int .i64 1,.byt B .no] [] 0=some ⟨.byt (sha B) .no,[],[]⟩:=by have g:=f65 B hB;rw[ao xaw];simp only[go_sem,Q0,Q1,Q2,Q3,Q4,Q5,Q6,Q7,Q8,Q9,Qa,Qb,Qc,Qd,Qe,Qf,Qg,Qh,Qi,Qj,Qk,reduceCtorEq,reduceIte,g,Pw]
end Go.Proofs.YtkcjdeofknkndaaGreatDoor
