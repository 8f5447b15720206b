/- Contracts. No condition. -/
import Derived.Test.YtkcjdeofknkndaaGreatDoorTaDE
open Int renaming natCast_zero -> aB
open Go.IntKind renaming i64 -> af, u32 -> au, u64 -> aQ, wrap_u64 -> bK
open List renaming append_assoc -> av, append_nil -> bw, cons_append -> bf, drop -> jx, drop_drop -> fq, drop_length -> ba, drop_zero -> aV, flatten_cons -> cE, getD_cons_succ -> cz, getD_cons_zero -> bZ, getD_eq_getElem?_getD -> aa, getElem?_drop -> br, getElem?_eq_getElem -> ab, getElem?_map -> aP, length_append -> ac, length_cons -> aA, length_drop -> aI, length_nil -> aY, length_replicate -> bQ, length_singleton -> aH, length_take -> aw, map_cons -> aE, map_nil -> cT, nil_append -> aG, replicate -> ao, singleton_append -> eo, take -> dd, take_length -> bi, take_of_length_le -> bB
open Nat renaming add_zero -> dL, le_refl -> aN, mul_one -> db
open UInt8 renaming ofInt -> ct
set_option maxRecDepth 100000
set_option maxHeartbeats 16000000
set_option linter.unusedSimpArgs false
set_option linter.unusedVariables false
namespace Go.Proofs.YtkcjdeofknkndaaGreatDoor
open Go.Sy
open UInt8 renaming reduceLT -> Q0, reduceLE -> Q1
open Int renaming reduceToNat -> Q2, reduceLE -> Q3, reduceLT -> Q4, reduceEq -> Q5, reduceNe -> Q6, reduceNeg -> Q7, reduceAdd -> Q8, reduceSub -> Q9, reduceMul -> Qa
open Nat renaming reducePow -> Qb, reduceDiv -> Qc, reduceMod -> Qd, reduceAdd -> Qe, reduceSub -> Qf, reduceMul -> Qg, reduceLT -> Qh, reduceLeDiff -> Qi, reduceEqDiff -> Qj, reduceBEq -> Qk
def rr(x:Int)(n:Nat):Int:=bt .or .u32 (x.fdiv (2^n)) (au.wrap (x*2^(32-n)))
theorem lj(k:IntKind)(x y:Int):bt .or k x y=bt .or k y x:=by simp only[bt,BitVec.or_comm]
theorem vn(x:Int)(n:Nat)(h:n<=32):call T 118 [.int .u32 x,.int .u64 n] [] 0=some ⟨.int .u32 (rr x n),[],[]⟩:=by
 rw[an xjp];have e:aQ.wrap (32-(n:Int))=((32-n:Nat):Int):=by rw[bK];omega
 have z:min n 32=n:=by omega
 have C:min (32-n) 32=32-n:=by omega
 have y:(0:Int)<=((32-n:Nat):Int):=by omega
 simp only[go_sem,Q0,Q1,Q2,Q3,Q4,Q5,Q6,Q7,Q8,Q9,Qa,Qb,Qc,Qd,Qe,Qf,Qg,Qh,Qi,Qj,Qk,reduceCtorEq,reduceIte,e,z,C,y,rr]
theorem qG(x k:Int)(n:Nat)(h:n<=32)(C:bt .and .u64 (aQ.wrap k) 31=((32-n:Nat):Int)):call T 157 [.int .u32 x,.int .i64 k] [] 0=some ⟨.int .u32 (rr x n),[],[]⟩:=by
 rw[an xi0];have e:aQ.wrap (32-((32-n:Nat):Int))=(n:Int):=by rw[bK];omega
 have y:min n 32=n:=by omega
 have z:min (32-n) 32=32-n:=by omega
 simp only[go_sem,Q0,Q1,Q2,Q3,Q4,Q5,Q6,Q7,Q8,Q9,Qa,Qb,Qc,Qd,Qe,Qf,Qg,Qh,Qi,Qj,Qk,reduceCtorEq,reduceIte,C,e,y,z,rr,lj]
theorem m24:min 24 32=24:=rfl
theorem m16:min 16 32=16:=rfl
theorem m8:min 8 32=8:=rfl
theorem m3:min 3 32=3:=rfl
theorem m10:min 10 32=10:=rfl
def wd(B:t7)(t:Nat):Int:=
 bt .or .u32 (bt .or .u32 (bt .or .u32 (au.wrap (((B.getD (4*t) 0).toNat:Int)*2^24)) (au.wrap (((B.getD (4*t+1) 0).toNat:Int)*2^16)))
  (au.wrap (((B.getD (4*t+2) 0).toNat:Int)*2^8))) ((B.getD (4*t+3) 0).toNat:Int)
theorem xla(B:t7)(t:Nat)(h:4*t+3<B.length)(J:B.length<=1000000000000):call T 156 [.byt B .no,.int .i64 t] [] 0=some ⟨.int .u32 (wd B t),[],[]⟩:=by
 rw[an xi1];have F:af.wrap (4*(t:Int))=((4*t:Nat):Int):=wZ (by omega)
 have y:af.wrap (((4*t:Nat):Int)+1)=((4*t+1:Nat):Int):=wZ (by omega)
 have H:af.wrap (((4*t:Nat):Int)+2)=((4*t+2:Nat):Int):=wZ (by omega)
 have z:af.wrap (((4*t:Nat):Int)+3)=((4*t+3:Nat):Int):=wZ (by omega)
 have I:4*t<B.length:=by omega
 have E:4*t+1<B.length:=by omega
 have C:4*t+2<B.length:=by omega
 simp only[go_sem,Q0,Q1,Q2,Q3,Q4,Q5,Q6,Q7,Q8,Q9,Qa,Qb,Qc,Qd,Qe,Qf,Qg,Qh,Qi,Qj,Qk,reduceCtorEq,reduceIte,F,y,H,z,h,I,E,C,wd,m24,m16,m8]
theorem xlh(B:t7)(t:Nat)(h:4*t+3<B.length)(J:B.length<=1000000000000):call T 117 [.byt B .no,.int .i64 t] [] 0=some ⟨.int .u32 (wd B t),[],[]⟩:=by
 rw[an xjq];have F:af.wrap (4*(t:Int))=((4*t:Nat):Int):=wZ (by omega)
 have y:af.wrap (((4*t:Nat):Int)+1)=((4*t+1:Nat):Int):=wZ (by omega)
 have H:af.wrap (((4*t:Nat):Int)+2)=((4*t+2:Nat):Int):=wZ (by omega)
 have z:af.wrap (((4*t:Nat):Int)+3)=((4*t+3:Nat):Int):=wZ (by omega)
 have I:4*t<B.length:=by omega
 have E:4*t+1<B.length:=by omega
 have C:4*t+2<B.length:=by omega
 simp only[go_sem,Q0,Q1,Q2,Q3,Q4,Q5,Q6,Q7,Q8,Q9,Qa,Qb,Qc,Qd,Qe,Qf,Qg,Qh,Qi,Qj,Qk,reduceCtorEq,reduceIte,F,y,H,z,h,I,E,C,wd,m24,m16,m8]
def nw(B:t7)(L:List Int)(t:Nat):Int:=
 if t<16 then wd B t else
  let x:=L.getD (t-15) 0
  let y:=L.getD (t-2) 0
  au.wrap (au.wrap (au.wrap (bt .xor .u32 (bt .xor .u32 (rr y 17) (rr y 19)) (y.fdiv (2^10))+L.getD (t-7) 0)+
   bt .xor .u32 (bt .xor .u32 (rr x 7) (rr x 18)) (x.fdiv (2^3)))+L.getD (t-16) 0)
def Wl(B:t7):Nat->List Int
 |0=>ao 64 0
 |t+1=>(Wl B t).set t (nw B (Wl B t) t)
theorem ua(B:t7)(t:Nat):(Wl B t).length=64:=by
 induction t with
 |zero=>simp[Wl]
 |succ n h=>simp[Wl,h]
def ws(L:List Int):f8:=L.map fun x=> [.int .u32 x]
theorem dq(L:List Int):(ws L).length=L.length:=by simp[ws]
theorem bV(L:List Int)(i:Nat)(h:i<L.length):(ws L).getD i []=[.int .u32 (L.getD i 0)]:=by simp[ws,aa,aP,ab h]
theorem kT(L:List Int)(i:Nat)(x:Int):(ws L).set i [.int .u32 x]=ws (L.set i x):=by unfold ws;rw[List.map_set]
theorem tC(n:Nat):ao n [SV.int .u32 0]=ws (ao n 0):=by unfold ws;rw[List.map_replicate]
theorem xip(B:t7)(O:aC)(hB:B.length=64):∀(n t:Nat),64-t=n->t<=64->
 run T (.loop sE) ⟨[(0,.ptr 0 0),(1,.byt B .no),(4,.ptr 104 0),(17,.int .i64 t)],[(0,O),(104,.arr 1 (ws (Wl B t)))],[]⟩=
 some (.x 0,⟨[(0,.ptr 0 0),(4,.ptr 104 0)],[(0,O),(104,.arr 1 (ws (Wl B 64)))],[]⟩):=by
 intro n;induction n with
 |zero=>
  intro t h0 h1;have hi:t=64:=by omega
  subst hi;rw[ai];simp only[c64,go_sem,Q0,Q1,Q2,Q3,Q4,Q5,Q6,Q7,Q8,Q9,Qa,Qb,Qc,Qd,Qe,Qf,Qg,Qh,Qi,Qj,Qk,reduceCtorEq,reduceIte]
 |succ n ih=>
  intro t h0 h1;have h:=ih (t+1) (by omega) (by omega);have Z:=bW t (by omega);have C:(t:Int)<64:=by omega
  have hl:=ua B t;have hw:=dq (Wl B t);have hn:t<64:=by omega
  have hs:Wl B (t+1)=(Wl B t).set t (nw B (Wl B t) t):=rfl;rw[ai]
  by_cases z:t<16
  ·have g:=xla B t (by omega) (by omega)
   have y:(t:Int)<16:=by omega
   have hx:nw B (Wl B t) t=wd B t:=by unfold nw;rw[if_pos z]
   rw[hs,hx]at h;simp only[go_sem,Q0,Q1,Q2,Q3,Q4,Q5,Q6,Q7,Q8,Q9,Qa,Qb,Qc,Qd,Qe,Qf,Qg,Qh,Qi,Qj,Qk,reduceCtorEq,reduceIte,C,y,Z,g,hl,hw,xaW,hn,kT,h]
  ·have y:¬(t:Int)<16:=by omega
   have I:af.wrap ((t:Int)-15)=((t-15:Nat):Int):=wZ (by omega)
   have a2:af.wrap ((t:Int)-2)=((t-2:Nat):Int):=wZ (by omega)
   have a7:af.wrap ((t:Int)-7)=((t-7:Nat):Int):=wZ (by omega)
   have U:af.wrap ((t:Int)-16)=((t-16:Nat):Int):=wZ (by omega)
   have J:t-15<64:=by omega
   have b2:t-2<64:=by omega
   have b7:t-7<64:=by omega
   have E:t-16<64:=by omega
   have F:=bV (Wl B t) (t-15) (by omega);have d2:=bV (Wl B t) (t-2) (by omega);have d7:=bV (Wl B t) (t-7) (by omega);have W:=bV (Wl B t) (t-16) (by omega);have r7:=fun x=>qG x (-7) 7 (by omega) (by decide)
   have H:=fun x=>qG x (-18) 18 (by omega) (by decide)
   have L:=fun x=>qG x (-17) 17 (by omega) (by decide)
   have Q:=fun x=>qG x (-19) 19 (by omega) (by decide)
   rw[hs]at h;unfold nw at h;rw[if_neg z]at h;simp only[go_sem,Q0,Q1,Q2,Q3,Q4,Q5,Q6,Q7,Q8,Q9,Qa,Qb,Qc,Qd,Qe,Qf,Qg,Qh,Qi,Qj,Qk,reduceCtorEq,reduceIte,C,y,Z,hl,hw,qY,hn,I,a2,a7,U,J,b2,b7,E,F,d2,d7,W,r7,H,L,Q,kT,m3,m10,h]
def Kl:List Int:=iR.map fun| .int _ x=>x|_=>0
theorem zw:Kl.length=64:=rfl
theorem mP:iR.length=64:=rfl
theorem xfL:iR=Kl.map (SV.int .u32):=rfl
theorem xe6{t:Nat}(h:t<64):(1<=(jx (t*1) iR).length)=True:=by refine eq_true ?_;rw[aI,mP];omega
theorem xe7{t:Nat}(h:t<64):(List.map SV.data (jx (t*1) iR)).getD 0 SV.undef= .int .u32 (Kl.getD t 0):=by
 rw[xfL,aa,aP,br,aP,db,dL,aa,
  ab (show t<Kl.length from h)]
 rfl
def rnd(k w:Int)(s:List Int):List Int:=
 let a:=s.getD 0 0
 let e:=s.getD 4 0
 let h:=au.wrap (au.wrap (au.wrap (au.wrap (s.getD 7 0+bt .xor .u32 (bt .xor .u32 (rr e 6) (rr e 11)) (rr e 25))+
  bt .xor .u32 (bt .and .u32 e (s.getD 5 0)) (bt .and .u32 (bt .xor .u32 (if au.signed=true then-1 else au.max) e) (s.getD 6 0)))+k)+w)
 let y:=au.wrap (bt .xor .u32 (bt .xor .u32 (rr a 2) (rr a 13)) (rr a 22)+
  bt .xor .u32 (bt .xor .u32 (bt .and .u32 a (s.getD 1 0)) (bt .and .u32 a (s.getD 2 0))) (bt .and .u32 (s.getD 1 0) (s.getD 2 0)))
 [au.wrap (h+y),a,s.getD 1 0,s.getD 2 0,au.wrap (s.getD 3 0+h),e,s.getD 5 0,s.getD 6 0]
theorem ws8(a b c d e f g h:Int):ws [a,b,c,d,e,f,g,h]=[[.int .u32 a],[.int .u32 b],[.int .u32 c],[.int .u32 d],[.int .u32 e],[.int .u32 f],[.int .u32 g],[.int .u32 h]]:=rfl
def rounds(W:List Int)(h:List Int):Nat->List Int
 |0=>h
 |t+1=>rnd (Kl.getD t 0) (W.getD t 0) (rounds W h t)
theorem hZ(W h:List Int)(y:h.length=8)(t:Nat):(rounds W h t).length=8:=by
 cases t<;>simp[rounds,rnd,y]
theorem n6(x:Int):call T 157 [.int .u32 x,.int .i64 (-6)] [] 0=some ⟨.int .u32 (rr x 6),[],[]⟩:=qG x (-6) 6 (by omega) (by decide)
theorem n11(x:Int):call T 157 [.int .u32 x,.int .i64 (-11)] [] 0=some ⟨.int .u32 (rr x 11),[],[]⟩:=qG x (-11) 11 (by omega) (by decide)
theorem n25(x:Int):call T 157 [.int .u32 x,.int .i64 (-25)] [] 0=some ⟨.int .u32 (rr x 25),[],[]⟩:=qG x (-25) 25 (by omega) (by decide)
theorem n2(x:Int):call T 157 [.int .u32 x,.int .i64 (-2)] [] 0=some ⟨.int .u32 (rr x 2),[],[]⟩:=qG x (-2) 2 (by omega) (by decide)
theorem n13(x:Int):call T 157 [.int .u32 x,.int .i64 (-13)] [] 0=some ⟨.int .u32 (rr x 13),[],[]⟩:=qG x (-13) 13 (by omega) (by decide)
theorem n22(x:Int):call T 157 [.int .u32 x,.int .i64 (-22)] [] 0=some ⟨.int .u32 (rr x 22),[],[]⟩:=qG x (-22) 22 (by omega) (by decide)
theorem xio(W h:List Int)(O:aC)(hW:W.length=64)(F:h.length=8):∀(n t:Nat),64-t=n->t<=64->
 run T (.loop sD) ⟨[(0,.ptr 0 0),(4,.ptr 104 0),(10,.ptr 110 0),(70,.int .i64 t)],[(0,O),(104,.arr 1 (ws W)),(110,.arr 1 (ws (rounds W h t)))],[]⟩=
 some (.x 2,⟨[(0,.ptr 0 0),(10,.ptr 110 0)],[(0,O),(104,.arr 1 (ws W)),(110,.arr 1 (ws (rounds W h 64)))],[]⟩):=by
 intro n;induction n with
 |zero=>
  intro t J I;have hi:t=64:=by omega
  subst hi;rw[ai];simp only[c64,go_sem,Q0,Q1,Q2,Q3,Q4,Q5,Q6,Q7,Q8,Q9,Qa,Qb,Qc,Qd,Qe,Qf,Qg,Qh,Qi,Qj,Qk,reduceCtorEq,reduceIte]
 |succ n ih=>
  intro t J I;have y:=ih (t+1) (by omega) (by omega);have E:=bW t (by omega);have C:(t:Int)<64:=by omega
  have hn:t<64:=by omega
  have L:=hZ W h F t;have hw:=dq (rounds W h t);have z:=dq W;have hs:rounds W h (t+1)=rnd (Kl.getD t 0) (W.getD t 0) (rounds W h t):=rfl;rw[hs]at y;simp only[rnd,ws8]at y;generalize rounds W h t=s at*;have d0:=bV s 0 (by omega);have d1:=bV s 1 (by omega);have d2:=bV s 2 (by omega);have H:=bV s 3 (by omega);have d4:=bV s 4 (by omega);have d5:=bV s 5 (by omega);have Z:=bV s 6 (by omega);have d7:=bV s 7 (by omega);have U:=bV W t (by omega);have Q:=bV Kl t (by rw[zw];exact hn);rw[ai];simp only[go_sem,Q0,Q1,Q2,Q3,Q4,Q5,Q6,Q7,Q8,Q9,Qa,Qb,Qc,Qd,Qe,Qf,Qg,Qh,Qi,Qj,Qk,reduceCtorEq,reduceIte,C,E,L,hw,z,hW,qY,hn,d0,d1,d2,H,d4,d5,Z,d7,U,Q,n6,n11,n25,n2,n13,n22,c8,c64,mP,xe6 hn,xe7 hn,y]
def tv:List Int->List Int->List Int
 |x::l,y::r=>au.wrap (x+y)::tv l r
 |_,_=> []
theorem xin(h s:List Int)(P:aC)(y:h.length=8)(C:s.length=8):
 run T (.loop sC) ⟨[(0,.ptr 0 0),(10,.ptr 110 0),(152,.int .i64 0)],[(0,.arr 1 (ws h)),(104,P),(110,.arr 1 (ws s))],[]⟩=
 some (.x 4,⟨[],[(0,.arr 1 (ws (tv h s))),(104,P),(110,.arr 1 (ws s))],[]⟩):=by
 match h,y with
 |[a0,a1,a2,a3,a4,a5,a6,a7],_=>match s,C with
  |[b0,b1,b2,b3,b4,b5,b6,b7],_=>
   have k1:af.wrap 1=1:=rfl;have k2:af.wrap 2=2:=rfl;have I:af.wrap 3=3:=rfl;have E:af.wrap 4=4:=rfl;have F:af.wrap 5=5:=rfl;have J:af.wrap 6=6:=rfl;have z:af.wrap 7=7:=rfl;have H:af.wrap 8=8:=rfl;simp only[ws8,tv]
   iterate 9
    rw[ai];simp only[go_sem,Q0,Q1,Q2,Q3,Q4,Q5,Q6,Q7,Q8,Q9,Qa,Qb,Qc,Qd,Qe,Qf,Qg,Qh,Qi,Qj,Qk,reduceCtorEq,reduceIte,aA,aY,c8,k1,k2,I,E,F,J,z,H]
def comp(h:List Int)(B:t7):List Int:=tv h (rounds (Wl B 64) h 64)
theorem vG(h s:List Int)(z:h.length<=s.length):(tv h s).length=h.length:=by
 induction h generalizing s with
 |nil=>simp[tv]
 |cons x l C=>
  cases s with
  |nil=>simp at z
  |cons y r=>simp only[tv,aA];rw[C r (by simpa using z)]
theorem pX(h:List Int)(B:t7)(y:h.length=8):(comp h B).length=8:=by unfold comp;rw[vG _ _ (by rw[hZ _ _ y,y];exact aN 8),y]
theorem xnh(h:List Int)(B:t7)(y:h.length=8)(I:B.length=64):call T 134 [.ptr 0 0,.byt B .no] [.arr 1 (ws h)] 0=some ⟨.tup [],[(0,.arr 1 (ws (comp h B)))],[]⟩:=by
 have C:=xip B (.arr 1 (ws h)) I _ 0 rfl (by omega);have z:=xio (Wl B 64) h (.arr 1 (ws h)) (ua B 64) y _ 0 rfl (by omega);have E:=xin h (rounds (Wl B 64) h 64) (.arr 1 (ws (Wl B 64))) y (hZ _ _ y 64);have H:Wl B 0=ao 64 0:=rfl;have F:rounds (Wl B 64) h 0=h:=rfl;rw[H,<-tC]at C;rw[F]at z;simp only[aB]at C z;rw[an xjd]
 match h,y with
 |[a0,a1,a2,a3,a4,a5,a6,a7],_=>simp only[ws8]at C z E;simp only[go_sem,Q0,Q1,Q2,Q3,Q4,Q5,Q6,Q7,Q8,Q9,Qa,Qb,Qc,Qd,Qe,Qf,Qg,Qh,Qi,Qj,Qk,reduceCtorEq,reduceIte,ws8,C,z,E,comp,cE,List.flatten_nil,aE,cT,bf,aG,SV.data,List.take_succ_cons,List.take_zero,aA,aY]
def zn(n:Nat):Nat:=(120-n % 64) % 64
theorem xit(B:t7):∀(n:Nat)(h:t7),zn h.length=n->h.length+n<=100000000000000->
 run T (.loop yg) ⟨[(0,.byt B .no),(3,.byt h (.id 103))],[],[103]⟩=
 some (.x 0,⟨[(0,.byt B .no),(3,.byt (h++ao n 0) (.id 103))],[],[103]⟩):=by
 intro n;induction n with
 |zero=>
  intro h z C;have E:h.length % 64=56:=by unfold zn at z;omega
  have hi:(h.length:Int).tmod 64=56:=by rw[Int.tmod_eq_emod_of_nonneg (by omega)];omega
  rw[ai];simp only[go_sem,Q0,Q1,Q2,Q3,Q4,Q5,Q6,Q7,Q8,Q9,Qa,Qb,Qc,Qd,Qe,Qf,Qg,Qh,Qi,Qj,Qk,reduceCtorEq,reduceIte,hi,List.replicate_zero,bw]
 |succ n F=>
  intro h z C;have E:h.length % 64≠56:=by unfold zn at z;omega
  have hi:¬(h.length:Int).tmod 64=56:=by rw[Int.tmod_eq_emod_of_nonneg (by omega)];omega
  have y:=F (h++ [0]) (by unfold zn at*;rw[ac,aH];omega) (by rw[ac,aH];omega);have H:h.length+1<=140737488355328:=by omega
  rw[av,eo,<-List.replicate_succ]at y;rw[ai];simp only[go_sem,Q0,Q1,Q2,Q3,Q4,Q5,Q6,Q7,Q8,Q9,Qa,Qb,Qc,Qd,Qe,Qf,Qg,Qh,Qi,Qj,Qk,reduceCtorEq,reduceIte,hi,H,y]
def gq(v:Int)(s:Nat):UInt8:=ct (v.fdiv (2^s))
def be:Nat->Int->t7
 |0,_=> []
 |k+1,v=>gq v (8*k)::be k v
theorem eE(n:Nat)(v:Int):(be n v).length=n:=by induction n with
 |zero=>rfl
 |succ n h=>simp[be,h]
theorem xis(v:Int):∀(k:Nat)(y:t7),k<=8->y.length+k<=100000000000000->
 run T (.loop sF) ⟨[(3,.byt y (.id 103)),(4,.int .u64 v),(5,.int .i64 (8*(k:Int)-8))],[],[103]⟩=
 some (.x 2,⟨[(3,.byt (y++be k v) (.id 103))],[],[103]⟩):=by
 intro k;induction k with
 |zero=>
  intro y J h;rw[ai];have C:¬(0:Int)<=8*((0:Nat):Int)-8:=by omega
  simp only[go_sem,Q0,Q1,Q2,Q3,Q4,Q5,Q6,Q7,Q8,Q9,Qa,Qb,Qc,Qd,Qe,Qf,Qg,Qh,Qi,Qj,Qk,reduceCtorEq,reduceIte,C,be,bw]
 |succ k H=>
  intro y J h;have z:=H (y++ [gq v (8*k)]) (by omega) (by rw[ac,aH];omega);have c1:y.length+1<=140737488355328:=by omega
  have C:(0:Int)<=8*((k+1:Nat):Int)-8:=by omega
  have I:aQ.wrap (8*((k+1:Nat):Int)-8)=((8*k:Nat):Int):=by rw[bK];omega
  have E:af.wrap (8*((k+1:Nat):Int)-8-8)=8*(k:Int)-8:=wZ (by omega)
  have F:min (8*k) 64=8*k:=by omega
  rw[av,eo]at z;rw[ai];unfold gq at z;simp only[go_sem,Q0,Q1,Q2,Q3,Q4,Q5,Q6,Q7,Q8,Q9,Qa,Qb,Qc,Qd,Qe,Qf,Qg,Qh,Qi,Qj,Qk,reduceCtorEq,reduceIte,c1,C,I,E,F,be,gq,z]
def ed(B:t7):t7:=B++128::(ao (zn (B.length+1)) 0++be 8 (aQ.wrap (aQ.wrap B.length*8)))
theorem kl(B:t7):(ed B).length=B.length+1+zn (B.length+1)+8:=by simp only[ed,ac,aA,bQ,eE];omega
theorem lY(B:t7):(ed B).length % 64=0:=by rw[kl];unfold zn;omega
theorem xlf(B:t7)(h:B.length<=10000000000000):call T 131 [.byt B .no] [] 0=some ⟨.byt (ed B) .no,[],[]⟩:=by
 have hz:zn (B.length+1)<64:=by unfold zn;omega
 have E:=xit B _ (B++ [128]) rfl (by simp;omega);have y:=xis (aQ.wrap (aQ.wrap B.length*8)) 8 (B++128::ao (zn (B.length+1)) 0) (by omega) (by simp;omega);have C:8*((8:Nat):Int)-8=56:=rfl;rw[C]at y;rw[an xjg];have e:af.wrap ((B.length:Int)+72)=((B.length+72:Nat):Int):=wZ (by omega)
 have c2:((B.length+72:Nat):Int)<=140737488355328:=by omega
 have F:B.length<=140737488355328:=by omega
 have z:B.length+1<=140737488355328:=by omega
 simp only[go_sem,Q0,Q1,Q2,Q3,Q4,Q5,Q6,Q7,Q8,Q9,Qa,Qb,Qc,Qd,Qe,Qf,Qg,Qh,Qi,Qj,Qk,reduceCtorEq,reduceIte,e,E,y,c2,F,z,ed]
theorem xiv(B:t7):∀(n:Nat)(h:t7),zn h.length=n->h.length+n<=100000000000000->
 run T (.loop yn) ⟨[(0,.byt B .no),(3,.byt h (.id 103))],[],[103]⟩=
 some (.x 0,⟨[(0,.byt B .no),(3,.byt (h++ao n 0) (.id 103))],[],[103]⟩):=by
 intro n;induction n with
 |zero=>
  intro h z C;have E:h.length % 64=56:=by unfold zn at z;omega
  have hi:(h.length:Int).tmod 64=56:=by rw[Int.tmod_eq_emod_of_nonneg (by omega)];omega
  rw[ai];simp only[go_sem,Q0,Q1,Q2,Q3,Q4,Q5,Q6,Q7,Q8,Q9,Qa,Qb,Qc,Qd,Qe,Qf,Qg,Qh,Qi,Qj,Qk,reduceCtorEq,reduceIte,hi,List.replicate_zero,bw]
 |succ n F=>
  intro h z C;have E:h.length % 64≠56:=by unfold zn at z;omega
  have hi:¬(h.length:Int).tmod 64=56:=by rw[Int.tmod_eq_emod_of_nonneg (by omega)];omega
  have y:=F (h++ [0]) (by unfold zn at*;rw[ac,aH];omega) (by rw[ac,aH];omega);have H:h.length+1<=140737488355328:=by omega
  rw[av,eo,<-List.replicate_succ]at y;rw[ai];simp only[go_sem,Q0,Q1,Q2,Q3,Q4,Q5,Q6,Q7,Q8,Q9,Qa,Qb,Qc,Qd,Qe,Qf,Qg,Qh,Qi,Qj,Qk,reduceCtorEq,reduceIte,hi,H,y]
theorem xiu(v:Int):∀(k:Nat)(y:t7),k<=8->y.length+k<=100000000000000->
 run T (.loop sG) ⟨[(3,.byt y (.id 103)),(4,.int .u64 v),(5,.int .i64 ((k:Int)-1))],[],[103]⟩=
 some (.x 2,⟨[(3,.byt (y++be k v) (.id 103))],[],[103]⟩):=by
 intro k;induction k with
 |zero=>
  intro y L h;rw[ai];have E:¬(0:Int)<=((0:Nat):Int)-1:=by omega
  simp only[go_sem,Q0,Q1,Q2,Q3,Q4,Q5,Q6,Q7,Q8,Q9,Qa,Qb,Qc,Qd,Qe,Qf,Qg,Qh,Qi,Qj,Qk,reduceCtorEq,reduceIte,E,be,bw]
 |succ k I=>
  intro y L h;have z:=I (y++ [gq v (8*k)]) (by omega) (by rw[ac,aH];omega);have c1:y.length+1<=140737488355328:=by omega
  have E:(0:Int)<=((k+1:Nat):Int)-1:=by omega
  have J:aQ.wrap (((k+1:Nat):Int)-1)=(k:Int):=by rw[bK];omega
  have C:aQ.wrap (8*(k:Int))=((8*k:Nat):Int):=by rw[bK];omega
  have F:af.wrap (((k+1:Nat):Int)-1-1)=(k:Int)-1:=wZ (by omega)
  have H:min (8*k) 64=8*k:=by omega
  rw[av,eo]at z;rw[ai];unfold gq at z;simp only[go_sem,Q0,Q1,Q2,Q3,Q4,Q5,Q6,Q7,Q8,Q9,Qa,Qb,Qc,Qd,Qe,Qf,Qg,Qh,Qi,Qj,Qk,reduceCtorEq,reduceIte,c1,E,J,C,F,H,be,gq,z]
theorem xli(B:t7)(h:B.length<=10000000000000):call T 116 [.byt B .no] [] 0=some ⟨.byt (ed B) .no,[],[]⟩:=by
 have hz:zn (B.length+1)<64:=by unfold zn;omega
 have F:=xiv B _ (B++ [128]) rfl (by simp;omega);have y:=xiu (aQ.wrap (aQ.wrap B.length*8)) 8 (B++128::ao (zn (B.length+1)) 0) (by omega) (by simp;omega);have E:((8:Nat):Int)-1=7:=rfl;rw[E]at y;rw[an xjr];have C:B.length<=140737488355328:=by omega
 have z:B.length+1<=140737488355328:=by omega
 simp only[go_sem,Q0,Q1,Q2,Q3,Q4,Q5,Q6,Q7,Q8,Q9,Qa,Qb,Qc,Qd,Qe,Qf,Qg,Qh,Qi,Qj,Qk,reduceCtorEq,reduceIte,F,y,C,z,ed]
def w4(x:Int):t7:=[gq x 24,gq x 16,gq x 8,ct x]
def sp(h:List Int):t7:=h.flatMap w4
theorem GL(h:List Int):(sp h).length=4*h.length:=by
 induction h with
 |nil=>rfl
 |cons x l y=>simp only[sp,List.flatMap_cons,ac,w4,aA,aY]at*;omega
theorem d0(h:List Int)(i:Nat)(hi:i<h.length):h.drop i=h.getD i 0::h.drop (i+1):=rR h i hi
theorem xmN(h:List Int)(O:h.length<=1000000000000):∀(n i:Nat)(y:t7),h.length-i=n->i<=h.length->y.length=4*i->
 run T (.loop ye) ⟨[(3,.byt y (.id 103)),(10,.lst 1 (ws h) .no),(11,.int .i64 h.length),(12,.int .i64 i)],[],[103]⟩=
 some (.x 0,⟨[(3,.byt (y++sp (h.drop i)) (.id 103))],[],[103]⟩):=by
 intro n;induction n with
 |zero=>
  intro i y I F E;have hi:i=h.length:=by omega
  subst hi;rw[ai];simp only[go_sem,Q0,Q1,Q2,Q3,Q4,Q5,Q6,Q7,Q8,Q9,Qa,Qb,Qc,Qd,Qe,Qf,Qg,Qh,Qi,Qj,Qk,reduceCtorEq,reduceIte,ba,sp,List.flatMap_nil,bw]
 |succ n L=>
  intro i y I F E;have hi:i<h.length:=by omega
  have C:=bW i (by omega);have z:=L (i+1) (y++w4 (h.getD i 0)) (by omega) (by omega) (by simp[w4];omega);have H:=bV h i hi;have J:=dq h;have c1:y.length+4<=140737488355328:=by omega
  rw[ai];rw[av]at z;simp only[w4,gq]at z;simp only[go_sem,Q0,Q1,Q2,Q3,Q4,Q5,Q6,Q7,Q8,Q9,Qa,Qb,Qc,Qd,Qe,Qf,Qg,Qh,Qi,Qj,Qk,reduceCtorEq,reduceIte,hi,H,J,C,c1,m24,m16,m8,z,d0 h i hi,sp,List.flatMap_cons,w4,gq]
theorem xle(h:List Int)(y:h.length<=1000000000000):call T 133 [.lst 1 (ws h) .no] [] 0=some ⟨.byt (sp h) .no,[],[]⟩:=by
 have g:=xmN h y _ 0 [] rfl (by omega) rfl;have z:=dq h;rw[an xje];have e:af.wrap (4*(h.length:Int))=((4*h.length:Nat):Int):=wZ (by omega)
 have c2:((4*h.length:Nat):Int)<=140737488355328:=by omega
 simp only[aB,aV,aG]at g;simp only[go_sem,Q0,Q1,Q2,Q3,Q4,Q5,Q6,Q7,Q8,Q9,Qa,Qb,Qc,Qd,Qe,Qf,Qg,Qh,Qi,Qj,Qk,reduceCtorEq,reduceIte,e,z,c2,g]
theorem xmP(h:List Int)(O:h.length<=1000000000000):∀(n i:Nat)(y:t7),h.length-i=n->i<=h.length->y.length=4*i->
 run T (.loop yk) ⟨[(0,.lst 1 (ws h) .no),(3,.byt y (.id 103)),(4,.int .i64 i)],[],[103]⟩=
 some (.x 0,⟨[(3,.byt (y++sp (h.drop i)) (.id 103))],[],[103]⟩):=by
 intro n;induction n with
 |zero=>
  intro i y J H F;have hi:i=h.length:=by omega
  have C:=dq h;subst hi;rw[ai];simp only[go_sem,Q0,Q1,Q2,Q3,Q4,Q5,Q6,Q7,Q8,Q9,Qa,Qb,Qc,Qd,Qe,Qf,Qg,Qh,Qi,Qj,Qk,reduceCtorEq,reduceIte,C,ba,sp,List.flatMap_nil,bw]
 |succ n L=>
  intro i y J H F;have hi:i<h.length:=by omega
  have E:=bW i (by omega);have z:=L (i+1) (y++w4 (h.getD i 0)) (by omega) (by omega) (by simp[w4];omega);have I:=bV h i hi;have C:=dq h;have c1:y.length+4<=140737488355328:=by omega
  rw[ai];rw[av]at z;simp only[w4,gq]at z;simp only[go_sem,Q0,Q1,Q2,Q3,Q4,Q5,Q6,Q7,Q8,Q9,Qa,Qb,Qc,Qd,Qe,Qf,Qg,Qh,Qi,Qj,Qk,reduceCtorEq,reduceIte,hi,I,C,E,c1,m24,m16,m8,z,d0 h i hi,sp,List.flatMap_cons,w4,gq]
theorem xlg(h:List Int)(y:h.length<=1000000000000):call T 119 [.lst 1 (ws h) .no] [] 0=some ⟨.byt (sp h) .no,[],[]⟩:=by have g:=xmP h y _ 0 [] rfl (by omega) rfl;have z:=dq h;rw[an xjo];simp only[aB,aV,aG]at g;simp only[go_sem,Q0,Q1,Q2,Q3,Q4,Q5,Q6,Q7,Q8,Q9,Qa,Qb,Qc,Qd,Qe,Qf,Qg,Qh,Qi,Qj,Qk,reduceCtorEq,reduceIte,z,g]
def fe(h:List Int)(X:t7):Nat->List Int
 |0=>h
 |n+1=>fe (comp h (X.take 64)) (X.drop 64) n
theorem ly(n:Nat):∀(h:List Int)(X:t7),h.length=8->(fe h X n).length=8:=by
 induction n with
 |zero=>intro h X y;exact y
 |succ n z=>intro h X y;exact z _ _ (pX h _ y)
def H0:List Int:=[1779033703,3144134277,1013904242,2773480762,1359893119,2600822924,528734635,1541459225]
def sha(B:t7):t7:=sp (fe H0 (ed B) ((ed B).length/64))
theorem kY(B:t7):(sha B).length=32:=by unfold sha;rw[GL,ly _ _ _ rfl]
theorem l90:∀(n:Nat)(h:List Int)(X:t7),h.length=8->X.length=64*n->X.length<=1000000000000->
 run T (.loop xH) ⟨[(7,.ptr 107 0),(8,.byt X .no)],[(107,.arr 1 (ws h))],[]⟩=
 some (.x 3,⟨[(7,.ptr 107 0)],[(107,.arr 1 (ws (fe h X n)))],[]⟩):=by
 intro n;induction n with
 |zero=>
  intro h X y hX I;rw[ai];have H:¬(0:Int)<X.length:=by omega
  simp only[go_sem,Q0,Q1,Q2,Q3,Q4,Q5,Q6,Q7,Q8,Q9,Qa,Qb,Qc,Qd,Qe,Qf,Qg,Qh,Qi,Qj,Qk,reduceCtorEq,reduceIte,H,fe]
 |succ n J=>
  intro h X y hX I;have z:=J (comp h (X.take 64)) (X.drop 64) (pX h _ y) (by rw[aI];omega) (by rw[aI];omega);have g:=xnh h (X.take 64) y (by rw[aw];omega);have E:(0:Int)<X.length:=by omega
  have C:(64:Int)<=X.length:=by omega
  have F:64<=X.length:=by omega
  rw[ai];simp only[go_sem,Q0,Q1,Q2,Q3,Q4,Q5,Q6,Q7,Q8,Q9,Qa,Qb,Qc,Qd,Qe,Qf,Qg,Qh,Qi,Qj,Qk,reduceCtorEq,reduceIte,E,C,F,g,xjR,bi,z,fe]
theorem f90(B:t7)(J:B.length<=100000000000):call T 90 [.int .i64 1,.byt B .no] [] 0=some ⟨.byt (sha B) .no,[],[]⟩:=by
 have g0:=xlf B (by omega);have I:=kl B;have hz:zn (B.length+1)<64:=by unfold zn;omega
 have H:=lY B;have h:=l90 ((ed B).length/64) H0 (ed B) rfl (by omega) (by omega);have z:=ly ((ed B).length/64) H0 (ed B) rfl;have E:=xle (fe H0 (ed B) ((ed B).length/64)) (by omega);have y:=dq (fe H0 (ed B) ((ed B).length/64));have F:ws H0=[[.int .u32 1779033703],[.int .u32 3144134277],[.int .u32 1013904242],[.int .u32 2773480762],[.int .u32 1359893119],[.int .u32 2600822924],[.int .u32 528734635],[.int .u32 1541459225]]:=rfl;rw[F]at h;rw[an xlu];unfold sha;generalize fe H0 (ed B) ((ed B).length/64)=b at*;have C:dd 8 (ws b)=ws b:=bB (by rw[y,z];exact aN 8);simp only[go_sem,Q0,Q1,Q2,Q3,Q4,Q5,Q6,Q7,Q8,Q9,Qa,Qb,Qc,Qd,Qe,Qf,Qg,Qh,Qi,Qj,Qk,reduceCtorEq,reduceIte,g0,h,E,xa1,xa0,y,z,c8,C]
theorem xnn:call T 115 [] [] 0=some ⟨.agg iR,[],[]⟩:=by rw[an xjs];simp only[go_sem,Q0,Q1,Q2,Q3,Q4,Q5,Q6,Q7,Q8,Q9,Qa,Qb,Qc,Qd,Qe,Qf,Qg,Qh,Qi,Qj,Qk,reduceCtorEq,reduceIte];rfl
def bk(X:t7)(a:Nat):t7:=jx a (dd (a+64) X)
theorem tZ(X:t7)(a:Nat)(h:a+64<=X.length):(bk X a).length=64:=by unfold bk;rw[aI,aw];omega
theorem xav(X:t7)(a:Nat):bk X a=(X.drop a).take 64:=by unfold bk;rw[List.drop_take];congr 1;omega
theorem rq7(x:Int):call T 118 [.int .u32 x,.int .u64 7] [] 0=some ⟨.int .u32 (rr x 7),[],[]⟩:=vn x 7 (by omega)
theorem xl6(x:Int):call T 118 [.int .u32 x,.int .u64 18] [] 0=some ⟨.int .u32 (rr x 18),[],[]⟩:=vn x 18 (by omega)
theorem xl7(x:Int):call T 118 [.int .u32 x,.int .u64 17] [] 0=some ⟨.int .u32 (rr x 17),[],[]⟩:=vn x 17 (by omega)
theorem xl5(x:Int):call T 118 [.int .u32 x,.int .u64 19] [] 0=some ⟨.int .u32 (rr x 19),[],[]⟩:=vn x 19 (by omega)
theorem rq6(x:Int):call T 118 [.int .u32 x,.int .u64 6] [] 0=some ⟨.int .u32 (rr x 6),[],[]⟩:=vn x 6 (by omega)
theorem xl9(x:Int):call T 118 [.int .u32 x,.int .u64 11] [] 0=some ⟨.int .u32 (rr x 11),[],[]⟩:=vn x 11 (by omega)
theorem xl3(x:Int):call T 118 [.int .u32 x,.int .u64 25] [] 0=some ⟨.int .u32 (rr x 25),[],[]⟩:=vn x 25 (by omega)
theorem rq2(x:Int):call T 118 [.int .u32 x,.int .u64 2] [] 0=some ⟨.int .u32 (rr x 2),[],[]⟩:=vn x 2 (by omega)
theorem xl8(x:Int):call T 118 [.int .u32 x,.int .u64 13] [] 0=some ⟨.int .u32 (rr x 13),[],[]⟩:=vn x 13 (by omega)
theorem xl4(x:Int):call T 118 [.int .u32 x,.int .u64 22] [] 0=some ⟨.int .u32 (rr x 22),[],[]⟩:=vn x 22 (by omega)
theorem xms(X:t7)(a:Nat)(h:List Int)(Q:a+64<=X.length)(hX:X.length<=1000000000000):∀(n t:Nat),64-t=n->t<=64->
 run T (.loop xQ) ⟨[(3,.ptr 103 0),(4,.psl 119 1 0 8 (some 8)),(5,.byt X .no),(6,.int .i64 a),(7,.ptr 107 0),(8,.int .i64 t)],[(103,.arr 1 (ws Kl)),(107,.arr 1 (ws (Wl (bk X a) t))),(119,.arr 1 (ws h))],[]⟩=
 some (.x 2,⟨[(3,.ptr 103 0),(4,.psl 119 1 0 8 (some 8)),(5,.byt X .no),(6,.int .i64 a),(7,.ptr 107 0)],[(103,.arr 1 (ws Kl)),(107,.arr 1 (ws (Wl (bk X a) 64))),(119,.arr 1 (ws h))],[]⟩):=by
 intro n;induction n with
 |zero=>
  intro t h0 h1;have hi:t=64:=by omega
  subst hi;rw[ai];simp only[c64,go_sem,Q0,Q1,Q2,Q3,Q4,Q5,Q6,Q7,Q8,Q9,Qa,Qb,Qc,Qd,Qe,Qf,Qg,Qh,Qi,Qj,Qk,reduceCtorEq,reduceIte]
 |succ n ih=>
  intro t h0 h1;have y:=ih (t+1) (by omega) (by omega);have Z:=bW t (by omega);have F:(t:Int)<64:=by omega
  have hl:=ua (bk X a) t;have hw:=dq (Wl (bk X a) t);have hn:t<64:=by omega
  have hs:Wl (bk X a) (t+1)=(Wl (bk X a) t).set t (nw (bk X a) (Wl (bk X a) t) t):=rfl;have a1:af.wrap ((a:Int)+64)=((a+64:Nat):Int):=wZ (by omega)
  have a3:a<=a+64:=by omega
  rw[ai]
  by_cases E:t<16
  ·have g:=xlh (bk X a) t (by rw[tZ X a Q];omega) (by rw[tZ X a Q];omega)
   have C:(t:Int)<16:=by omega
   have hx:nw (bk X a) (Wl (bk X a) t) t=wd (bk X a) t:=by unfold nw;rw[if_pos E]
   rw[hs,hx]at y;generalize hb:Wl (bk X a) t=L at*;generalize hc:wd (bk X a) t=z at*;unfold bk at g;simp only[go_sem,Q0,Q1,Q2,Q3,Q4,Q5,Q6,Q7,Q8,Q9,Qa,Qb,Qc,Qd,Qe,Qf,Qg,Qh,Qi,Qj,Qk,reduceCtorEq,reduceIte,F,C,Z,a1,Q,a3,g,hl,hw,xa7,hn,kT,y]
  ·have C:¬(t:Int)<16:=by omega
   have J:af.wrap ((t:Int)-15)=((t-15:Nat):Int):=wZ (by omega)
   have a2:af.wrap ((t:Int)-2)=((t-2:Nat):Int):=wZ (by omega)
   have a7:af.wrap ((t:Int)-7)=((t-7:Nat):Int):=wZ (by omega)
   have U:af.wrap ((t:Int)-16)=((t-16:Nat):Int):=wZ (by omega)
   have O:t-15<64:=by omega
   have b2:t-2<64:=by omega
   have b7:t-7<64:=by omega
   have H:t-16<64:=by omega
   rw[hs]at y;unfold nw at y;rw[if_neg E]at y;generalize hb:Wl (bk X a) t=L at*;have I:=bV L (t-15) (by omega);have d2:=bV L (t-2) (by omega);have d7:=bV L (t-7) (by omega);have W:=bV L (t-16) (by omega);simp only[go_sem,Q0,Q1,Q2,Q3,Q4,Q5,Q6,Q7,Q8,Q9,Qa,Qb,Qc,Qd,Qe,Qf,Qg,Qh,Qi,Qj,Qk,reduceCtorEq,reduceIte,F,C,Z,hl,hw,xa6,hn,J,a2,a7,U,O,b2,b7,H,I,d2,d7,W,rq7,xl6,xl7,xl5,kT,m3,m10,y]
theorem xmr(X:t7)(a:Nat)(W h:List Int)(O:aC)(hW:W.length=64)(I:h.length=8):∀(n t:Nat)(q:Tok),64-t=n->t<=64->
 run T (.loop xP) ⟨[(3,.ptr 103 0),(4,.psl 119 1 0 8 (some 8)),(5,.byt X .no),(6,.int .i64 a),(7,.ptr 107 0),(11,.lst 1 (ws (rounds W h t)) q),(12,.int .i64 t)],[(103,.arr 1 (ws Kl)),(107,.arr 1 (ws W)),(119,O)],[194]⟩=
 some (.x 4,⟨[(3,.ptr 103 0),(4,.psl 119 1 0 8 (some 8)),(5,.byt X .no),(6,.int .i64 a),(11,.lst 1 (ws (rounds W h 64)) (if t=64 then q else .clip))],[(103,.arr 1 (ws Kl)),(107,.arr 1 (ws W)),(119,O)],[194]⟩):=by
 intro n;induction n with
 |zero=>
  intro t q Q L;have hi:t=64:=by omega
  subst hi;rw[ai];simp only[c64,go_sem,Q0,Q1,Q2,Q3,Q4,Q5,Q6,Q7,Q8,Q9,Qa,Qb,Qc,Qd,Qe,Qf,Qg,Qh,Qi,Qj,Qk,reduceCtorEq,reduceIte]
 |succ n ih=>
  intro t q Q L;have y:=ih (t+1) .clip (by omega) (by omega);have H:=bW t (by omega);have F:(t:Int)<64:=by omega
  have hn:t<64:=by omega
  have E:t≠64:=by omega
  have U:=hZ W h I t;have hw:=dq (rounds W h t);have C:=dq W;have z:=dq Kl;have hk:=zw;have hs:rounds W h (t+1)=rnd (Kl.getD t 0) (W.getD t 0) (rounds W h t):=rfl;rw[hs]at y;simp only[rnd,ws8]at y;rw[ite_self]at y;generalize rounds W h t=s at*;have d0:=bV s 0 (by omega);have d1:=bV s 1 (by omega);have d2:=bV s 2 (by omega);have J:=bV s 3 (by omega);have d4:=bV s 4 (by omega);have d5:=bV s 5 (by omega);have d6:=bV s 6 (by omega);have d7:=bV s 7 (by omega);have dW:=bV W t (by omega);have Z:=bV Kl t (by rw[zw];exact hn);rw[ai];simp only[go_sem,Q0,Q1,Q2,Q3,Q4,Q5,Q6,Q7,Q8,Q9,Qa,Qb,Qc,Qd,Qe,Qf,Qg,Qh,Qi,Qj,Qk,reduceCtorEq,reduceIte,F,H,U,hw,C,z,hk,hW,xa6,hn,E,d0,d1,d2,J,d4,d5,d6,d7,dW,Z,rq6,xl9,xl3,rq2,xl8,xl4,c8,c64,y]
theorem xmq(X:t7)(a:Nat)(h s:List Int)(P Q:aC)(y:h.length=8)(C:s.length=8):
 run T (.loop xN) ⟨[(3,.ptr 103 0),(4,.psl 119 1 0 8 (some 8)),(5,.byt X .no),(6,.int .i64 a),(11,.lst 1 (ws s) .clip),(17,.int .i64 0)],[(103,P),(107,Q),(119,.arr 1 (ws h))],[194]⟩=
 some (.x 6,⟨[(3,.ptr 103 0),(4,.psl 119 1 0 8 (some 8)),(5,.byt X .no),(6,.int .i64 a)],[(103,P),(107,Q),(119,.arr 1 (ws (tv h s)))],[194]⟩):=by
 match h,y with
 |[a0,a1,a2,a3,a4,a5,a6,a7],_=>match s,C with
  |[b0,b1,b2,b3,b4,b5,b6,b7],_=>
   have k1:af.wrap 1=1:=rfl;have k2:af.wrap 2=2:=rfl;have I:af.wrap 3=3:=rfl;have E:af.wrap 4=4:=rfl;have F:af.wrap 5=5:=rfl;have J:af.wrap 6=6:=rfl;have z:af.wrap 7=7:=rfl;have H:af.wrap 8=8:=rfl;simp only[ws8,tv]
   iterate 9
    rw[ai];simp only[go_sem,Q0,Q1,Q2,Q3,Q4,Q5,Q6,Q7,Q8,Q9,Qa,Qb,Qc,Qd,Qe,Qf,Qg,Qh,Qi,Qj,Qk,reduceCtorEq,reduceIte,aA,aY,c8,k1,k2,I,E,F,J,z,H]
theorem l65(X:t7)(hX:X.length<=1000000000000):∀(n a:Nat)(h:List Int),h.length=8->X.length=a+64*n->
 run T (.loop xM) ⟨[(3,.ptr 103 0),(4,.psl 119 1 0 8 (some 8)),(5,.byt X .no),(6,.int .i64 a)],[(103,.arr 1 (ws Kl)),(119,.arr 1 (ws h))],[]⟩=
 some (.x 0,⟨[(4,.psl 119 1 0 8 (some 8))],[(103,.arr 1 (ws Kl)),(119,.arr 1 (ws (fe h (X.drop a) n)))],[]⟩):=by
 intro n;induction n with
 |zero=>
  intro a h y Q;rw[ai];have F:¬(a:Int)<X.length:=by omega
  simp only[go_sem,Q0,Q1,Q2,Q3,Q4,Q5,Q6,Q7,Q8,Q9,Qa,Qb,Qc,Qd,Qe,Qf,Qg,Qh,Qi,Qj,Qk,reduceCtorEq,reduceIte,F,fe]
 |succ n W=>
  intro a h y Q;have C:=W (a+64) (comp h (bk X a)) (pX h _ y) (by omega);have F:(a:Int)<X.length:=by omega
  have L:af.wrap ((a:Int)+64)=((a+64:Nat):Int):=wZ (by omega)
  have E:=xms X a h (by omega) hX _ 0 rfl (by omega);have H:=xmr X a (Wl (bk X a) 64) h (.arr 1 (ws h)) (ua _ 64) y _ 0 (.id 194) rfl (by omega);have O:=xmq X a h (rounds (Wl (bk X a) 64) h 64) (.arr 1 (ws Kl)) (.arr 1 (ws (Wl (bk X a) 64))) y (hZ _ _ y 64);have U:Wl (bk X a) 0=ao 64 0:=rfl;have J:rounds (Wl (bk X a) 64) h 0=h:=rfl;have hz:¬(0:Nat)=64:=by omega
  have z:=dq h;rw[U,<-tC]at E;rw[J,if_neg hz]at H;simp only[aB]at E H
  have I:fe h (X.drop a) (n+1)=fe (comp h (bk X a)) (X.drop (a+64)) n:=by rw[fe,xav,fq]
  rw[I,ai];unfold comp at C ⊢;have Z:dd 8 (ws h)=ws h:=bB (by rw[z,y];exact aN 8);simp only[go_sem,Q0,Q1,Q2,Q3,Q4,Q5,Q6,Q7,Q8,Q9,Qa,Qb,Qc,Qd,Qe,Qf,Qg,Qh,Qi,Qj,Qk,reduceCtorEq,reduceIte,F,L,E,H,O,z,y,Z,C]
  trace_state
attribute [-go_sem] jw
theorem f65(B:t7)(hB:B.length<=100000000000):call T 65 [.byt B .no] [] 0=some ⟨.byt (sha B) .no,[],[]⟩:=by
 have E:=xnn;have g0:=xli B (by omega);have F:jw 1 64 (List.map SV.data iR)=ws Kl:=rfl;have L:iR.all SV.isData=true:=rfl;have U:=mP;have O:SV.purgeL 103 104 iR=iR:=rfl;have I:SV.idsL iR=[]:=rfl;have H:SV.toksL iR=[]:=rfl;have Z:=kl B;have hz:zn (B.length+1)<64:=by unfold zn;omega
 have W:=lY B;have h:=l65 (ed B) (by omega) ((ed B).length/64) 0 H0 rfl (by omega);have y:=ly ((ed B).length/64) H0 (ed B) rfl;have J:=xlg (fe H0 (ed B) ((ed B).length/64)) (by omega);have z:=dq (fe H0 (ed B) ((ed B).length/64));have Q:ws H0=[[.int .u32 1779033703],[.int .u32 3144134277],[.int .u32 1013904242],[.int .u32 2773480762],[.int .u32 1359893119],[.int .u32 2600822924],[.int .u32 528734635],[.int .u32 1541459225]]:=rfl;rw[Q]at h;simp only[aB,aV]at h;unfold sha;generalize fe H0 (ed B) ((ed B).length/64)=b at*;have C:dd 8 (ws b)=ws b:=bB (by rw[z,y];exact aN 8);rw[an xnZ];simp only[go_sem,Q0,Q1,Q2,Q3,Q4,Q5,Q6,Q7,Q8,Q9,Qa,Qb,Qc,Qd,Qe,Qf,Qg,Qh,Qi,Qj,Qk,reduceCtorEq,reduceIte,E,g0,xa8,xjX,I,H,List.isEmpty,F,L,U,O,J,h,xa5,z,y,c8,C]
attribute [go_sem] jw
theorem l48(v:Int):∀(k:Nat)(y:t7),k<=8->y.length+k<=100000000000000->
 run T (.loop Pz) ⟨[(2,.int .i64 v),(7,.byt y (.id 107)),(8,.int .i64 ((k:Int)-1))],[],[107]⟩=
 some (.x 0,⟨[(7,.byt (y++be k (aQ.wrap v)) (.id 107))],[],[107]⟩):=by
 intro k;induction k with
 |zero=>
  intro y Q h;rw[ai];have H:¬(0:Int)<=((0:Nat):Int)-1:=by omega
  simp only[go_sem,Q0,Q1,Q2,Q3,Q4,Q5,Q6,Q7,Q8,Q9,Qa,Qb,Qc,Qd,Qe,Qf,Qg,Qh,Qi,Qj,Qk,reduceCtorEq,reduceIte,H,be,bw]
 |succ k L=>
  intro y Q h;have z:=L (y++ [gq (aQ.wrap v) (8*k)]) (by omega) (by rw[ac,aH];omega);have c1:y.length+1<=140737488355328:=by omega
  have H:(0:Int)<=((k+1:Nat):Int)-1:=by omega
  have O:aQ.wrap (((k+1:Nat):Int)-1)=(k:Int):=by rw[bK];omega
  have F:af.wrap (8*(((k+1:Nat):Int)-1))=((8*k:Nat):Int):=wZ (by omega)
  have C:aQ.wrap (((8*k:Nat):Int))=((8*k:Nat):Int):=by rw[bK];omega
  have E:aQ.wrap (8*(k:Int))=((8*k:Nat):Int):=by rw[bK];omega
  have I:af.wrap (((k+1:Nat):Int)-1-1)=(k:Int)-1:=wZ (by omega)
  have J:min (8*k) 64=8*k:=by omega
  rw[av,eo]at z;rw[ai];unfold gq at z;simp only[go_sem,Q0,Q1,Q2,Q3,Q4,Q5,Q6,Q7,Q8,Q9,Qa,Qb,Qc,Qd,Qe,Qf,Qg,Qh,Qi,Qj,Qk,reduceCtorEq,reduceIte,c1,H,O,F,C,E,I,J,be,gq,z]
theorem f48(B:t7)(k:Nat)(v:Int)(C:1<=k)(y:k<=8)(E:B.length<=10000000000000):
 call T 48 [.byt B .no,.int .i64 k,.int .i64 v] [] 0=some ⟨.byt (B++be k (aQ.wrap v)) (.id 60),[],[60]⟩:=by
 have g:=l48 v k B y (by omega);have c1:¬(k:Int)<1:=by omega
 have c2:¬(8:Int)<k:=by omega
 have z:af.wrap ((k:Int)-1)=(k:Int)-1:=w64 (by omega) (by omega);have h:B.length<=140737488355328:=by omega
 rw[an xof];simp only[go_sem,Q0,Q1,Q2,Q3,Q4,Q5,Q6,Q7,Q8,Q9,Qa,Qb,Qc,Qd,Qe,Qf,Qg,Qh,Qi,Qj,Qk,reduceCtorEq,reduceIte,c1,c2,z,h,g]
theorem l57(v:Int):∀(k:Nat)(y:t7),k<=8->y.length+k<=100000000000000->
 run T (.loop Pu) ⟨[(2,.int .i64 v),(7,.byt y (.id 107)),(8,.int .i64 ((k:Int)-1))],[],[107]⟩=
 some (.x 0,⟨[(7,.byt (y++be k (aQ.wrap v)) (.id 107))],[],[107]⟩):=by
 intro k;induction k with
 |zero=>
  intro y L h;rw[ai];have E:¬(0:Int)<=((0:Nat):Int)-1:=by omega
  simp only[go_sem,Q0,Q1,Q2,Q3,Q4,Q5,Q6,Q7,Q8,Q9,Qa,Qb,Qc,Qd,Qe,Qf,Qg,Qh,Qi,Qj,Qk,reduceCtorEq,reduceIte,E,be,bw]
 |succ k I=>
  intro y L h;have z:=I (y++ [gq (aQ.wrap v) (8*k)]) (by omega) (by rw[ac,aH];omega);have c1:y.length+1<=140737488355328:=by omega
  have E:(0:Int)<=((k+1:Nat):Int)-1:=by omega
  have J:aQ.wrap (((k+1:Nat):Int)-1)=(k:Int):=by rw[bK];omega
  have C:aQ.wrap (8*(k:Int))=((8*k:Nat):Int):=by rw[bK];omega
  have F:af.wrap (((k+1:Nat):Int)-1-1)=(k:Int)-1:=wZ (by omega)
  have H:min (8*k) 64=8*k:=by omega
  rw[av,eo]at z;rw[ai];unfold gq at z;simp only[go_sem,Q0,Q1,Q2,Q3,Q4,Q5,Q6,Q7,Q8,Q9,Qa,Qb,Qc,Qd,Qe,Qf,Qg,Qh,Qi,Qj,Qk,reduceCtorEq,reduceIte,c1,E,J,C,F,H,be,gq,z]
theorem f57(B:t7)(k:Nat)(v:Int)(C:1<=k)(y:k<=8)(E:B.length<=10000000000000):
 call T 57 [.byt B .no,.int .i64 k,.int .i64 v] [] 0=some ⟨.byt (B++be k (aQ.wrap v)) (.id 60),[],[60]⟩:=by
 have g:=l57 v k B y (by omega);have c1:¬(k:Int)<1:=by omega
 have c2:¬(8:Int)<k:=by omega
 have z:af.wrap ((k:Int)-1)=(k:Int)-1:=w64 (by omega) (by omega);have h:B.length<=140737488355328:=by omega
 rw[an xn6];simp only[go_sem,Q0,Q1,Q2,Q3,Q4,Q5,Q6,Q7,Q8,Q9,Qa,Qb,Qc,Qd,Qe,Qf,Qg,Qh,Qi,Qj,Qk,reduceCtorEq,reduceIte,c1,c2,z,h,g]
def eA(B X:t7):t7:=B++be 2 (aQ.wrap (X.take 65535).length)++X.take 65535
theorem f56(B X:t7)(H:B.length<=1000000000000)(hX:X.length<=1000000000000):call T 56 [.byt B .no,.byt X .no] [] 0=some ⟨.byt (eA B X) (.id 60),[],[60]⟩:=by
 have g:=f57 B 2 (X.take 65535).length (by omega) (by omega) (by omega);rw[c2]at g;rw[an xn7];have F:(X.take 65535).length<=65535:=by rw[aw];omega
 have y:(B++be 2 (aQ.wrap (X.take 65535).length)).length+(X.take 65535).length<=140737488355328:=by rw[ac,eE];omega
 by_cases h:(65535:Int)<X.length
 ·have C:(65535:Int)<=X.length:=by omega
  have E:65535<=X.length:=by omega
  simp only[ac]at y;simp only[go_sem,Q0,Q1,Q2,Q3,Q4,Q5,Q6,Q7,Q8,Q9,Qa,Qb,Qc,Qd,Qe,Qf,Qg,Qh,Qi,Qj,Qk,reduceCtorEq,reduceIte,h,C,E,g,CJ,eA,y,av]
 ·have z:X.take 65535=X:=bB (by omega)
  rw[z]at g y;simp only[ac]at y;simp only[go_sem,Q0,Q1,Q2,Q3,Q4,Q5,Q6,Q7,Q8,Q9,Qa,Qb,Qc,Qd,Qe,Qf,Qg,Qh,Qi,Qj,Qk,reduceCtorEq,reduceIte,h,g,CJ,eA,z,y,av]
theorem f49(B X:t7)(J:B.length<=1000000000000)(hX:X.length<=1000000000000):call T 49 [.byt B .no,.byt X .no] [] 0=some ⟨.byt (eA B X) (.id 60),[],[60]⟩:=by
 have g:=f48 B 2 (X.take 65535).length (by omega) (by omega) (by omega);rw[c2]at g;rw[an xoe];have I:(X.take 65535).length<=65535:=by rw[aw];omega
 have y:(B++be 2 (aQ.wrap (X.take 65535).length)).length+(X.take 65535).length<=140737488355328:=by rw[ac,eE];omega
 simp only[ac]at y
 by_cases h:(65535:Int)<X.length
 ·have E:min (X.length:Int) 65535=65535:=by omega
  have H:(65535:Int)<=X.length:=by omega
  have F:65535<=X.length:=by omega
  simp only[go_sem,Q0,Q1,Q2,Q3,Q4,Q5,Q6,Q7,Q8,Q9,Qa,Qb,Qc,Qd,Qe,Qf,Qg,Qh,Qi,Qj,Qk,reduceCtorEq,reduceIte,h,H,F,g,qO,eA,y,av]
 ·have E:min (X.length:Int) 65535=X.length:=by omega
  have C:X.take 65535=X:=bB (by omega);have z:X.take X.length=X:=bi;rw[C]at g y;simp only[go_sem,Q0,Q1,Q2,Q3,Q4,Q5,Q6,Q7,Q8,Q9,Qa,Qb,Qc,Qd,Qe,Qf,Qg,Qh,Qi,Qj,Qk,reduceCtorEq,reduceIte,h,z,g,qO,eA,C,y,av]
def frame(t:Int)(X:t7):t7:=ct t::(w4 (X.length:Int)++X)
theorem xnp(t:Int)(X:t7)(hX:X.length<=1000000000):call T 112 [.int .i64 t,.lst 1 [[.byt X .no]] .no] [] 0=some ⟨.byt (frame t X) .no,[],[]⟩:=by
 have k1:af.wrap 1=1:=rfl;have h:au.wrap (X.length:Int)=X.length:=by rw[IntKind.wrap_u32];omega
 have y:1+4+X.length<=140737488355328:=by omega
 have c5:5+X.length<=140737488355328:=by omega
 rw[an xjv];simp only[go_sem,Q0,Q1,Q2,Q3,Q4,Q5,Q6,Q7,Q8,Q9,Qa,Qb,Qc,Qd,Qe,Qf,Qg,Qh,Qi,Qj,Qk,reduceCtorEq,reduceIte,aA,aY,c1,k1];rw[ai];simp only[go_sem,Q0,Q1,Q2,Q3,Q4,Q5,Q6,Q7,Q8,Q9,Qa,Qb,Qc,Qd,Qe,Qf,Qg,Qh,Qi,Qj,Qk,reduceCtorEq,reduceIte,aA,aY,c1,k1,h,m24,m16,m8,y,c5];rw[ai];simp only[go_sem,Q0,Q1,Q2,Q3,Q4,Q5,Q6,Q7,Q8,Q9,Qa,Qb,Qc,Qd,Qe,Qf,Qg,Qh,Qi,Qj,Qk,reduceCtorEq,reduceIte,aA,aY,c1,k1,h,m24,m16,m8,y,c5,frame,w4,gq]
 trace_state
theorem DI(t:Int)(X:t7):(frame t X).length=X.length+5:=by simp[frame,w4]
def Es(t:Int)(X:t7):t7:=sha (frame t X)
theorem f58(t:Int)(X:t7)(hX:X.length<=1000000000):call T 58 [.int .i64 t,.lst 1 [[.byt X .no]] .no] [] 0=some ⟨.byt (Es t X) .no,[],[]⟩:=by have y:=xnp t X hX;have h:=f90 (frame t X) (by rw[DI];omega);rw[an xn5];simp only[go_sem,Q0,Q1,Q2,Q3,Q4,Q5,Q6,Q7,Q8,Q9,Qa,Qb,Qc,Qd,Qe,Qf,Qg,Qh,Qi,Qj,Qk,reduceCtorEq,reduceIte,y,h,xjY,xg,Es]
theorem xfP(x:Int)(n m:Nat)(h:n+m=32):call T 170 [.int .u32 x,.int .u64 n] [] 0=some ⟨.int .u32 (rr x m),[],[]⟩:=by
 rw[an xiZ];have e:aQ.wrap (32-(n:Int))=(m:Int):=by rw[bK];omega
 have z:min n 32=n:=by omega
 have C:min m 32=m:=by omega
 have y:32-m=n:=by omega
 simp only[go_sem,Q0,Q1,Q2,Q3,Q4,Q5,Q6,Q7,Q8,Q9,Qa,Qb,Qc,Qd,Qe,Qf,Qg,Qh,Qi,Qj,Qk,reduceCtorEq,reduceIte,e,z,C,rr,y,lj]
def nw1(B:t7)(L:List Int)(t:Nat):Int:=
 if t<16 then wd B t else
  rr (bt .xor .u32 (bt .xor .u32 (bt .xor .u32 (L.getD (t-3) 0) (L.getD (t-8) 0)) (L.getD (t-14) 0)) (L.getD (t-16) 0)) 31
def Wl1(B:t7):Nat->List Int
 |0=>ao 80 0
 |t+1=>(Wl1 B t).set t (nw1 B (Wl1 B t) t)
theorem pk(B:t7)(t:Nat):(Wl1 B t).length=80:=by
 induction t with
 |zero=>simp[Wl1]
 |succ n h=>simp[Wl1,h]
theorem p1(x:Int):call T 157 [.int .u32 x,.int .i64 1] [] 0=some ⟨.int .u32 (rr x 31),[],[]⟩:=qG x 1 31 (by omega) (by decide)
theorem p5(x:Int):call T 157 [.int .u32 x,.int .i64 5] [] 0=some ⟨.int .u32 (rr x 27),[],[]⟩:=qG x 5 27 (by omega) (by decide)
theorem p30(x:Int):call T 157 [.int .u32 x,.int .i64 30] [] 0=some ⟨.int .u32 (rr x 2),[],[]⟩:=qG x 30 2 (by omega) (by decide)
theorem z1(x:Int):call T 170 [.int .u32 x,.int .u64 1] [] 0=some ⟨.int .u32 (rr x 31),[],[]⟩:=xfP x 1 31 rfl
theorem z5(x:Int):call T 170 [.int .u32 x,.int .u64 5] [] 0=some ⟨.int .u32 (rr x 27),[],[]⟩:=xfP x 5 27 rfl
theorem z30(x:Int):call T 170 [.int .u32 x,.int .u64 30] [] 0=some ⟨.int .u32 (rr x 2),[],[]⟩:=xfP x 30 2 rfl
theorem xir(B:t7)(O:aC)(hB:B.length=64):∀(n t:Nat),80-t=n->t<=80->
 run T (.loop yf) ⟨[(0,.ptr 0 0),(1,.byt B .no),(4,.ptr 104 0),(14,.int .i64 t)],[(0,O),(104,.arr 1 (ws (Wl1 B t)))],[]⟩=
 some (.x 0,⟨[(0,.ptr 0 0),(4,.ptr 104 0)],[(0,O),(104,.arr 1 (ws (Wl1 B 80)))],[]⟩):=by
 intro n;induction n with
 |zero=>
  intro t h0 h1;have hi:t=80:=by omega
  subst hi;rw[ai];simp only[c80,go_sem,Q0,Q1,Q2,Q3,Q4,Q5,Q6,Q7,Q8,Q9,Qa,Qb,Qc,Qd,Qe,Qf,Qg,Qh,Qi,Qj,Qk,reduceCtorEq,reduceIte]
 |succ n ih=>
  intro t h0 h1;have h:=ih (t+1) (by omega) (by omega);have Q:=bW t (by omega);have C:(t:Int)<80:=by omega
  have U:=pk B t;have Z:=dq (Wl1 B t);have hn:t<80:=by omega
  have W:Wl1 B (t+1)=(Wl1 B t).set t (nw1 B (Wl1 B t) t):=rfl;rw[ai]
  by_cases z:t<16
  ·have g:=xla B t (by omega) (by omega)
   have y:(t:Int)<16:=by omega
   have hx:nw1 B (Wl1 B t) t=wd B t:=by unfold nw1;rw[if_pos z]
   rw[W,hx]at h;simp only[go_sem,Q0,Q1,Q2,Q3,Q4,Q5,Q6,Q7,Q8,Q9,Qa,Qb,Qc,Qd,Qe,Qf,Qg,Qh,Qi,Qj,Qk,reduceCtorEq,reduceIte,C,y,Q,g,U,Z,xaW,hn,kT,h]
  ·have y:¬(t:Int)<16:=by omega
   have a3:af.wrap ((t:Int)-3)=((t-3:Nat):Int):=wZ (by omega)
   have a8:af.wrap ((t:Int)-8)=((t-8:Nat):Int):=wZ (by omega)
   have L:af.wrap ((t:Int)-14)=((t-14:Nat):Int):=wZ (by omega)
   have I:af.wrap ((t:Int)-16)=((t-16:Nat):Int):=wZ (by omega)
   have b3:t-3<80:=by omega
   have gq:t-8<80:=by omega
   have E:t-14<80:=by omega
   have H:t-16<80:=by omega
   have d3:=bV (Wl1 B t) (t-3) (by omega);have d8:=bV (Wl1 B t) (t-8) (by omega);have F:=bV (Wl1 B t) (t-14) (by omega);have J:=bV (Wl1 B t) (t-16) (by omega);rw[W]at h;unfold nw1 at h;rw[if_neg z]at h;simp only[go_sem,Q0,Q1,Q2,Q3,Q4,Q5,Q6,Q7,Q8,Q9,Qa,Qb,Qc,Qd,Qe,Qf,Qg,Qh,Qi,Qj,Qk,reduceCtorEq,reduceIte,C,y,Q,U,Z,qY,hn,a3,a8,L,I,b3,gq,E,H,d3,d8,F,J,p1,kT,h]
def ff(t:Nat)(b c d:Int):Int:=
 if t<20 then bt .xor .u32 (bt .and .u32 b c) (bt .and .u32 (bt .xor .u32 (if au.signed=true then-1 else au.max) b) d)
 else if t<40 then bt .xor .u32 (bt .xor .u32 b c) d
 else if t<60 then bt .xor .u32 (bt .xor .u32 (bt .and .u32 b c) (bt .and .u32 b d)) (bt .and .u32 c d)
 else bt .xor .u32 (bt .xor .u32 b c) d
def kk(t:Nat):Int:=if t<20 then 1518500249 else if t<40 then 1859775393 else if t<60 then 2400959708 else 3395469782
def GR(t:Nat)(w:Int)(s:List Int):List Int:=
 [au.wrap (au.wrap (au.wrap (au.wrap (rr (s.getD 0 0) 27+ff t (s.getD 1 0) (s.getD 2 0) (s.getD 3 0))+s.getD 4 0)+kk t)+w),s.getD 0 0,rr (s.getD 1 0) 2,s.getD 2 0,s.getD 3 0]
def ca(W:List Int)(h:List Int):Nat->List Int
 |0=>h
 |t+1=>GR t (W.getD t 0) (ca W h t)
theorem jY(W h:List Int)(y:h.length=5)(t:Nat):(ca W h t).length=5:=by
 cases t<;>simp[ca,GR,y]
theorem xcP(W:List Int)(O:aC)(J:W.length=80)(t:Nat)(hn:t<80)(hd:t/20=0)(a b c d e:Int):
 run T (.loop fM) ⟨[(0,.ptr 0 0),(4,.ptr 104 0),(6,.int .u32 a),(7,.int .u32 b),(8,.int .u32 c),(9,.int .u32 d),(10,.int .u32 e),(67,.int .i64 t)],[(0,O),(104,.arr 1 (ws W))],[]⟩=
 run T (.loop fM) ⟨[(0,.ptr 0 0),(4,.ptr 104 0),(6,.int .u32 (au.wrap (au.wrap (au.wrap (au.wrap (rr a 27+bt .xor .u32 (bt .and .u32 b c) (bt .and .u32 (bt .xor .u32 (if au.signed=true then-1 else au.max) b) d))+e)+1518500249)+W.getD t 0))),(7,.int .u32 a),(8,.int .u32 (rr b 2)),(9,.int .u32 c),(10,.int .u32 d),(67,.int .i64 ((t+1:Nat):Int))],[(0,O),(104,.arr 1 (ws W))],[]⟩:=by
 have C:=bW t (by omega);have z:(t:Int)<80:=by omega
 have y:=dq W;have I:=bV W t (by omega)
 have E:(t:Int).tdiv 20=0:=by
  have h:(t:Int).tdiv 20=((t/20:Nat):Int):=by rw[Int.tdiv_eq_ediv_of_nonneg (by omega)];omega
  rw[h,hd];rfl
 have F:af.wrap 0=0:=rfl;have k1:af.wrap 1=1:=rfl;have k2:af.wrap 2=2:=rfl;have H:af.wrap 3=3:=rfl;rw[ai];simp only[go_sem,Q0,Q1,Q2,Q3,Q4,Q5,Q6,Q7,Q8,Q9,Qa,Qb,Qc,Qd,Qe,Qf,Qg,Qh,Qi,Qj,Qk,reduceCtorEq,reduceIte,z,C,y,J,qY,hn,E,F,k1,k2,H,I,p5,p30]
theorem xcO(W:List Int)(O:aC)(J:W.length=80)(t:Nat)(hn:t<80)(hd:t/20=1)(a b c d e:Int):
 run T (.loop fM) ⟨[(0,.ptr 0 0),(4,.ptr 104 0),(6,.int .u32 a),(7,.int .u32 b),(8,.int .u32 c),(9,.int .u32 d),(10,.int .u32 e),(67,.int .i64 t)],[(0,O),(104,.arr 1 (ws W))],[]⟩=
 run T (.loop fM) ⟨[(0,.ptr 0 0),(4,.ptr 104 0),(6,.int .u32 (au.wrap (au.wrap (au.wrap (au.wrap (rr a 27+bt .xor .u32 (bt .xor .u32 b c) d)+e)+1859775393)+W.getD t 0))),(7,.int .u32 a),(8,.int .u32 (rr b 2)),(9,.int .u32 c),(10,.int .u32 d),(67,.int .i64 ((t+1:Nat):Int))],[(0,O),(104,.arr 1 (ws W))],[]⟩:=by
 have C:=bW t (by omega);have z:(t:Int)<80:=by omega
 have y:=dq W;have I:=bV W t (by omega)
 have E:(t:Int).tdiv 20=1:=by
  have h:(t:Int).tdiv 20=((t/20:Nat):Int):=by rw[Int.tdiv_eq_ediv_of_nonneg (by omega)];omega
  rw[h,hd];rfl
 have F:af.wrap 0=0:=rfl;have k1:af.wrap 1=1:=rfl;have k2:af.wrap 2=2:=rfl;have H:af.wrap 3=3:=rfl;rw[ai];simp only[go_sem,Q0,Q1,Q2,Q3,Q4,Q5,Q6,Q7,Q8,Q9,Qa,Qb,Qc,Qd,Qe,Qf,Qg,Qh,Qi,Qj,Qk,reduceCtorEq,reduceIte,z,C,y,J,qY,hn,E,F,k1,k2,H,I,p5,p30]
theorem xcN(W:List Int)(O:aC)(J:W.length=80)(t:Nat)(hn:t<80)(hd:t/20=2)(a b c d e:Int):
 run T (.loop fM) ⟨[(0,.ptr 0 0),(4,.ptr 104 0),(6,.int .u32 a),(7,.int .u32 b),(8,.int .u32 c),(9,.int .u32 d),(10,.int .u32 e),(67,.int .i64 t)],[(0,O),(104,.arr 1 (ws W))],[]⟩=
 run T (.loop fM) ⟨[(0,.ptr 0 0),(4,.ptr 104 0),(6,.int .u32 (au.wrap (au.wrap (au.wrap (au.wrap (rr a 27+bt .xor .u32 (bt .xor .u32 (bt .and .u32 b c) (bt .and .u32 b d)) (bt .and .u32 c d))+e)+2400959708)+W.getD t 0))),(7,.int .u32 a),(8,.int .u32 (rr b 2)),(9,.int .u32 c),(10,.int .u32 d),(67,.int .i64 ((t+1:Nat):Int))],[(0,O),(104,.arr 1 (ws W))],[]⟩:=by
 have C:=bW t (by omega);have z:(t:Int)<80:=by omega
 have y:=dq W;have I:=bV W t (by omega)
 have E:(t:Int).tdiv 20=2:=by
  have h:(t:Int).tdiv 20=((t/20:Nat):Int):=by rw[Int.tdiv_eq_ediv_of_nonneg (by omega)];omega
  rw[h,hd];rfl
 have F:af.wrap 0=0:=rfl;have k1:af.wrap 1=1:=rfl;have k2:af.wrap 2=2:=rfl;have H:af.wrap 3=3:=rfl;rw[ai];simp only[go_sem,Q0,Q1,Q2,Q3,Q4,Q5,Q6,Q7,Q8,Q9,Qa,Qb,Qc,Qd,Qe,Qf,Qg,Qh,Qi,Qj,Qk,reduceCtorEq,reduceIte,z,C,y,J,qY,hn,E,F,k1,k2,H,I,p5,p30]
theorem xcM(W:List Int)(O:aC)(J:W.length=80)(t:Nat)(hn:t<80)(hd:t/20=3)(a b c d e:Int):
 run T (.loop fM) ⟨[(0,.ptr 0 0),(4,.ptr 104 0),(6,.int .u32 a),(7,.int .u32 b),(8,.int .u32 c),(9,.int .u32 d),(10,.int .u32 e),(67,.int .i64 t)],[(0,O),(104,.arr 1 (ws W))],[]⟩=
 run T (.loop fM) ⟨[(0,.ptr 0 0),(4,.ptr 104 0),(6,.int .u32 (au.wrap (au.wrap (au.wrap (au.wrap (rr a 27+bt .xor .u32 (bt .xor .u32 b c) d)+e)+3395469782)+W.getD t 0))),(7,.int .u32 a),(8,.int .u32 (rr b 2)),(9,.int .u32 c),(10,.int .u32 d),(67,.int .i64 ((t+1:Nat):Int))],[(0,O),(104,.arr 1 (ws W))],[]⟩:=by
 have C:=bW t (by omega);have z:(t:Int)<80:=by omega
 have y:=dq W;have I:=bV W t (by omega)
 have E:(t:Int).tdiv 20=3:=by
  have h:(t:Int).tdiv 20=((t/20:Nat):Int):=by rw[Int.tdiv_eq_ediv_of_nonneg (by omega)];omega
  rw[h,hd];rfl
 have F:af.wrap 0=0:=rfl;have k1:af.wrap 1=1:=rfl;have k2:af.wrap 2=2:=rfl;have H:af.wrap 3=3:=rfl;rw[ai];simp only[go_sem,Q0,Q1,Q2,Q3,Q4,Q5,Q6,Q7,Q8,Q9,Qa,Qb,Qc,Qd,Qe,Qf,Qg,Qh,Qi,Qj,Qk,reduceCtorEq,reduceIte,z,C,y,J,qY,hn,E,F,k1,k2,H,I,p5,p30]
theorem xiq(W h:List Int)(O:aC)(H:W.length=80)(U:h.length=5):∀(n t:Nat),80-t=n->t<=80->
 run T (.loop fM) ⟨[(0,.ptr 0 0),(4,.ptr 104 0),(6,.int .u32 ((ca W h t).getD 0 0)),(7,.int .u32 ((ca W h t).getD 1 0)),(8,.int .u32 ((ca W h t).getD 2 0)),(9,.int .u32 ((ca W h t).getD 3 0)),(10,.int .u32 ((ca W h t).getD 4 0)),(67,.int .i64 t)],[(0,O),(104,.arr 1 (ws W))],[]⟩=
 some (.x 2,⟨[(0,.ptr 0 0),(6,.int .u32 ((ca W h 80).getD 0 0)),(7,.int .u32 ((ca W h 80).getD 1 0)),(8,.int .u32 ((ca W h 80).getD 2 0)),(9,.int .u32 ((ca W h 80).getD 3 0)),(10,.int .u32 ((ca W h 80).getD 4 0))],[(0,O),(104,.arr 1 (ws W))],[]⟩):=by
 intro n;induction n with
 |zero=>
  intro t L I;have hi:t=80:=by omega
  subst hi;rw[ai];simp only[c80,go_sem,Q0,Q1,Q2,Q3,Q4,Q5,Q6,Q7,Q8,Q9,Qa,Qb,Qc,Qd,Qe,Qf,Qg,Qh,Qi,Qj,Qk,reduceCtorEq,reduceIte]
 |succ n Q=>
  intro t L I;have y:=Q (t+1) (by omega) (by omega);have J:ca W h (t+1)=GR t (W.getD t 0) (ca W h t):=rfl;rw[J]at y;simp only[GR,bZ,cz]at y
  by_cases z:t<20
  ·have F:kk t=1518500249:=by unfold kk;rw[if_pos z]
   unfold ff at y;rw[if_pos z,F]at y;rw[xcP W O H t (by omega) (by omega)];rw[y]
  ·by_cases C:t<40
   ·have F:kk t=1859775393:=by unfold kk;rw[if_neg z,if_pos C]
    unfold ff at y;rw[if_neg z,if_pos C,F]at y;rw[xcO W O H t (by omega) (by omega)];rw[y]
   ·by_cases E:t<60
    ·have F:kk t=2400959708:=by unfold kk;rw[if_neg z,if_neg C,if_pos E]
     unfold ff at y;rw[if_neg z,if_neg C,if_pos E,F]at y;rw[xcN W O H t (by omega) (by omega)];rw[y]
    ·have F:kk t=3395469782:=by unfold kk;rw[if_neg z,if_neg C,if_neg E]
     unfold ff at y;rw[if_neg z,if_neg C,if_neg E,F]at y;rw[xcM W O H t (by omega) (by omega)];rw[y]
theorem ws5(a b c d e:Int):ws [a,b,c,d,e]=[[.int .u32 a],[.int .u32 b],[.int .u32 c],[.int .u32 d],[.int .u32 e]]:=rfl
def nH(h:List Int)(B:t7):List Int:=tv h (ca (Wl1 B 80) h 80)
theorem mU(h:List Int)(B:t7)(y:h.length=5):(nH h B).length=5:=by unfold nH;rw[vG _ _ (by rw[jY _ _ y,y];exact aN 5),y]
theorem El(l:List Int)(h:l.length=5):∃a b c d e,l=[a,b,c,d,e]:=by
 match l,h with
 |[a,b,c,d,e],_=>exact⟨a,b,c,d,e,rfl⟩
theorem xaA(a b c d e p q r s t:Int):tv [a,b,c,d,e] [p,q,r,s,t]=[au.wrap (a+p),au.wrap (b+q),au.wrap (c+r),au.wrap (d+s),au.wrap (e+t)]:=rfl
theorem xni(h:List Int)(B:t7)(C:h.length=5)(I:B.length=64):call T 132 [.ptr 0 0,.byt B .no] [.arr 1 (ws h)] 0=some ⟨.tup [],[(0,.arr 1 (ws (nH h B)))],[]⟩:=by
 have y:=xir B (.arr 1 (ws h)) I _ 0 rfl (by omega);have z:=xiq (Wl1 B 80) h (.arr 1 (ws h)) (pk B 80) C _ 0 rfl (by omega);have F:Wl1 B 0=ao 80 0:=by rw[Wl1]
 have E:ca (Wl1 B 80) h 0=h:=by rw[ca]
 have H:=jY (Wl1 B 80) h C 80;rw[F,<-tC]at y;rw[E]at z;simp only[aB]at y z;unfold nH;generalize ca (Wl1 B 80) h 80=s at*;generalize Wl1 B 80=W at*;clear F E;obtain⟨O,J,a2,Q,Z,rfl⟩:=El h C;obtain⟨U,s1,s2,s3,L,rfl⟩:=El s H;rw[an xjf];simp only[ws5,bZ,cz]at y z;simp only[go_sem,Q0,Q1,Q2,Q3,Q4,Q5,Q6,Q7,Q8,Q9,Qa,Qb,Qc,Qd,Qe,Qf,Qg,Qh,Qi,Qj,Qk,reduceCtorEq,reduceIte,ws5,xaA,y,z,aA,aY,c5]
def dY(h:List Int)(X:t7):Nat->List Int
 |0=>h
 |n+1=>dY (nH h (X.take 64)) (X.drop 64) n
theorem kd(n:Nat):∀(h:List Int)(X:t7),h.length=5->(dY h X n).length=5:=by
 induction n with
 |zero=>intro h X y;exact y
 |succ n z=>intro h X y;exact z _ _ (mU h _ y)
def H1:List Int:=[1732584193,4023233417,2562383102,271733878,3285377520]
def lA(B:t7):t7:=sp (dY H1 (ed B) ((ed B).length/64))
theorem Fh(B:t7):(lA B).length=20:=by unfold lA;rw[GL,kd _ _ _ rfl]
theorem xmo:∀(n:Nat)(h:List Int)(X:t7),h.length=5->X.length=64*n->X.length<=1000000000000->
 run T (.loop O9) ⟨[(5,.ptr 105 0),(6,.byt X .no)],[(105,.arr 1 (ws h))],[]⟩=
 some (.x 1,⟨[(5,.ptr 105 0)],[(105,.arr 1 (ws (dY h X n)))],[]⟩):=by
 intro n;induction n with
 |zero=>
  intro h X y hX I;rw[ai];have H:¬(0:Int)<X.length:=by omega
  simp only[go_sem,Q0,Q1,Q2,Q3,Q4,Q5,Q6,Q7,Q8,Q9,Qa,Qb,Qc,Qd,Qe,Qf,Qg,Qh,Qi,Qj,Qk,reduceCtorEq,reduceIte,H,dY]
 |succ n J=>
  intro h X y hX I;have z:=J (nH h (X.take 64)) (X.drop 64) (mU h _ y) (by rw[aI];omega) (by rw[aI];omega);have g:=xni h (X.take 64) y (by rw[aw];omega);have E:(0:Int)<X.length:=by omega
  have C:(64:Int)<=X.length:=by omega
  have F:64<=X.length:=by omega
  rw[ai];simp only[go_sem,Q0,Q1,Q2,Q3,Q4,Q5,Q6,Q7,Q8,Q9,Qa,Qb,Qc,Qd,Qe,Qf,Qg,Qh,Qi,Qj,Qk,reduceCtorEq,reduceIte,E,C,F,g,xjS,bi,z,dY]
theorem xmZ(B:t7)(J:B.length<=100000000000):call T 90 [.int .i64 0,.byt B .no] [] 0=some ⟨.byt (lA B) .no,[],[]⟩:=by
 have g0:=xlf B (by omega);have I:=kl B;have hz:zn (B.length+1)<64:=by unfold zn;omega
 have H:=lY B;have h:=xmo ((ed B).length/64) H1 (ed B) rfl (by omega) (by omega);have z:=kd ((ed B).length/64) H1 (ed B) rfl;have E:=xle (dY H1 (ed B) ((ed B).length/64)) (by omega);have c8:((5:Nat):Int)=5:=rfl;have y:=dq (dY H1 (ed B) ((ed B).length/64));have F:ws H1=[[.int .u32 1732584193],[.int .u32 4023233417],[.int .u32 2562383102],[.int .u32 271733878],[.int .u32 3285377520]]:=rfl;rw[F]at h;rw[an xlu];unfold lA;generalize dY H1 (ed B) ((ed B).length/64)=b at*;have C:dd 5 (ws b)=ws b:=bB (by rw[y,z];exact aN 5);simp only[go_sem,Q0,Q1,Q2,Q3,Q4,Q5,Q6,Q7,Q8,Q9,Qa,Qb,Qc,Qd,Qe,Qf,Qg,Qh,Qi,Qj,Qk,reduceCtorEq,reduceIte,g0,h,E,xa1,xa0,y,z,c8,C]
theorem xim(X:t7)(a:Nat)(h:f8)(O:a+64<=X.length)(hX:X.length<=1000000000000):∀(n t:Nat),80-t=n->t<=80->
 run T (.loop sB) ⟨[(3,.lst 1 h .clip),(4,.byt X .no),(5,.int .i64 a),(6,.ptr 106 0),(7,.int .i64 t)],[(106,.arr 1 (ws (Wl1 (bk X a) t)))],[]⟩=
 some (.x 2,⟨[(3,.lst 1 h .clip),(4,.byt X .no),(5,.int .i64 a),(6,.ptr 106 0)],[(106,.arr 1 (ws (Wl1 (bk X a) 80)))],[]⟩):=by
 intro n;induction n with
 |zero=>
  intro t h0 h1;have hi:t=80:=by omega
  subst hi;rw[ai];simp only[c80,go_sem,Q0,Q1,Q2,Q3,Q4,Q5,Q6,Q7,Q8,Q9,Qa,Qb,Qc,Qd,Qe,Qf,Qg,Qh,Qi,Qj,Qk,reduceCtorEq,reduceIte]
 |succ n ih=>
  intro t h0 h1;have y:=ih (t+1) (by omega) (by omega);have e1:=bW t (by omega);have F:(t:Int)<80:=by omega
  have hl:=pk (bk X a) t;have hw:=dq (Wl1 (bk X a) t);have hn:t<80:=by omega
  have hs:Wl1 (bk X a) (t+1)=(Wl1 (bk X a) t).set t (nw1 (bk X a) (Wl1 (bk X a) t) t):=rfl;have a1:af.wrap ((a:Int)+64)=((a+64:Nat):Int):=wZ (by omega)
  have Q:a<=a+64:=by omega
  rw[ai]
  by_cases E:t<16
  ·have g:=xlh (bk X a) t (by rw[tZ X a O];omega) (by rw[tZ X a O];omega)
   have C:(t:Int)<16:=by omega
   have hx:nw1 (bk X a) (Wl1 (bk X a) t) t=wd (bk X a) t:=by unfold nw1;rw[if_pos E]
   rw[hs,hx]at y;generalize hb:Wl1 (bk X a) t=L at*;generalize hc:wd (bk X a) t=z at*;unfold bk at g;simp only[go_sem,Q0,Q1,Q2,Q3,Q4,Q5,Q6,Q7,Q8,Q9,Qa,Qb,Qc,Qd,Qe,Qf,Qg,Qh,Qi,Qj,Qk,reduceCtorEq,reduceIte,F,C,e1,a1,O,Q,g,hl,hw,xa7,hn,kT,y]
  ·have C:¬(t:Int)<16:=by omega
   have Q:af.wrap ((t:Int)-3)=((t-3:Nat):Int):=wZ (by omega)
   have a8:af.wrap ((t:Int)-8)=((t-8:Nat):Int):=wZ (by omega)
   have Z:af.wrap ((t:Int)-14)=((t-14:Nat):Int):=wZ (by omega)
   have U:af.wrap ((t:Int)-16)=((t-16:Nat):Int):=wZ (by omega)
   have b3:t-3<80:=by omega
   have gq:t-8<80:=by omega
   have H:t-14<80:=by omega
   have J:t-16<80:=by omega
   rw[hs]at y;unfold nw1 at y;rw[if_neg E]at y;generalize hb:Wl1 (bk X a) t=L at*;have d3:=bV L (t-3) (by omega);have d8:=bV L (t-8) (by omega);have I:=bV L (t-14) (by omega);have W:=bV L (t-16) (by omega);simp only[go_sem,Q0,Q1,Q2,Q3,Q4,Q5,Q6,Q7,Q8,Q9,Qa,Qb,Qc,Qd,Qe,Qf,Qg,Qh,Qi,Qj,Qk,reduceCtorEq,reduceIte,F,C,e1,hl,hw,xo,hn,Q,a8,Z,U,b3,gq,H,J,d3,d8,I,W,z1,kT,y]
theorem xcL(W:List Int)(X Y:SV)(h:f8)(H:W.length=80)(t:Nat)(hn:t<80)(I:t<20)(a b c d e:Int):
 run T (.loop fL) ⟨[(3,.lst 1 h .clip),(4,X),(5,Y),(6,.ptr 106 0),(8,.int .u32 a),(9,.int .u32 b),(10,.int .u32 c),(11,.int .u32 d),(12,.int .u32 e),(13,.int .i64 t)],[(106,.arr 1 (ws W))],[]⟩=
 run T (.loop fL) ⟨[(3,.lst 1 h .clip),(4,X),(5,Y),(6,.ptr 106 0),(8,.int .u32 (au.wrap (au.wrap (au.wrap (au.wrap (rr a 27+bt .xor .u32 (bt .and .u32 b c) (bt .and .u32 (bt .xor .u32 (if au.signed=true then-1 else au.max) b) d))+e)+1518500249)+W.getD t 0))),(9,.int .u32 a),(10,.int .u32 (rr b 2)),(11,.int .u32 c),(12,.int .u32 d),(13,.int .i64 ((t+1:Nat):Int))],[(106,.arr 1 (ws W))],[]⟩:=by
 have C:=bW t (by omega);have z:(t:Int)<80:=by omega
 have y:=dq W;have E:=bV W t (by omega);have F:(t:Int)<20:=by omega
 rw[ai];simp only[go_sem,Q0,Q1,Q2,Q3,Q4,Q5,Q6,Q7,Q8,Q9,Qa,Qb,Qc,Qd,Qe,Qf,Qg,Qh,Qi,Qj,Qk,reduceCtorEq,reduceIte,z,C,y,H,xo,hn,F,E,z5,z30]
theorem xcK(W:List Int)(X Y:SV)(h:f8)(H:W.length=80)(t:Nat)(hn:t<80)(J:¬t<20)(I:t<40)(a b c d e:Int):
 run T (.loop fL) ⟨[(3,.lst 1 h .clip),(4,X),(5,Y),(6,.ptr 106 0),(8,.int .u32 a),(9,.int .u32 b),(10,.int .u32 c),(11,.int .u32 d),(12,.int .u32 e),(13,.int .i64 t)],[(106,.arr 1 (ws W))],[]⟩=
 run T (.loop fL) ⟨[(3,.lst 1 h .clip),(4,X),(5,Y),(6,.ptr 106 0),(8,.int .u32 (au.wrap (au.wrap (au.wrap (au.wrap (rr a 27+bt .xor .u32 (bt .xor .u32 b c) d)+e)+1859775393)+W.getD t 0))),(9,.int .u32 a),(10,.int .u32 (rr b 2)),(11,.int .u32 c),(12,.int .u32 d),(13,.int .i64 ((t+1:Nat):Int))],[(106,.arr 1 (ws W))],[]⟩:=by
 have C:=bW t (by omega);have z:(t:Int)<80:=by omega
 have y:=dq W;have E:=bV W t (by omega);have F:¬(t:Int)<20:=by omega
 have p1:(t:Int)<40:=by omega
 rw[ai];simp only[go_sem,Q0,Q1,Q2,Q3,Q4,Q5,Q6,Q7,Q8,Q9,Qa,Qb,Qc,Qd,Qe,Qf,Qg,Qh,Qi,Qj,Qk,reduceCtorEq,reduceIte,z,C,y,H,xo,hn,F,p1,E,z5,z30]
theorem xcJ(W:List Int)(X Y:SV)(h:f8)(I:W.length=80)(t:Nat)(hn:t<80)(O:¬t<20)(J:¬t<40)(L:t<60)(a b c d e:Int):
 run T (.loop fL) ⟨[(3,.lst 1 h .clip),(4,X),(5,Y),(6,.ptr 106 0),(8,.int .u32 a),(9,.int .u32 b),(10,.int .u32 c),(11,.int .u32 d),(12,.int .u32 e),(13,.int .i64 t)],[(106,.arr 1 (ws W))],[]⟩=
 run T (.loop fL) ⟨[(3,.lst 1 h .clip),(4,X),(5,Y),(6,.ptr 106 0),(8,.int .u32 (au.wrap (au.wrap (au.wrap (au.wrap (rr a 27+bt .xor .u32 (bt .xor .u32 (bt .and .u32 b c) (bt .and .u32 b d)) (bt .and .u32 c d))+e)+2400959708)+W.getD t 0))),(9,.int .u32 a),(10,.int .u32 (rr b 2)),(11,.int .u32 c),(12,.int .u32 d),(13,.int .i64 ((t+1:Nat):Int))],[(106,.arr 1 (ws W))],[]⟩:=by
 have C:=bW t (by omega);have z:(t:Int)<80:=by omega
 have y:=dq W;have F:=bV W t (by omega);have H:¬(t:Int)<20:=by omega
 have p1:¬(t:Int)<40:=by omega
 have E:(t:Int)<60:=by omega
 rw[ai];simp only[go_sem,Q0,Q1,Q2,Q3,Q4,Q5,Q6,Q7,Q8,Q9,Qa,Qb,Qc,Qd,Qe,Qf,Qg,Qh,Qi,Qj,Qk,reduceCtorEq,reduceIte,z,C,y,I,xo,hn,H,p1,E,F,z5,z30]
theorem xcI(W:List Int)(X Y:SV)(h:f8)(I:W.length=80)(t:Nat)(hn:t<80)(O:¬t<20)(J:¬t<40)(L:¬t<60)(a b c d e:Int):
 run T (.loop fL) ⟨[(3,.lst 1 h .clip),(4,X),(5,Y),(6,.ptr 106 0),(8,.int .u32 a),(9,.int .u32 b),(10,.int .u32 c),(11,.int .u32 d),(12,.int .u32 e),(13,.int .i64 t)],[(106,.arr 1 (ws W))],[]⟩=
 run T (.loop fL) ⟨[(3,.lst 1 h .clip),(4,X),(5,Y),(6,.ptr 106 0),(8,.int .u32 (au.wrap (au.wrap (au.wrap (au.wrap (rr a 27+bt .xor .u32 (bt .xor .u32 b c) d)+e)+3395469782)+W.getD t 0))),(9,.int .u32 a),(10,.int .u32 (rr b 2)),(11,.int .u32 c),(12,.int .u32 d),(13,.int .i64 ((t+1:Nat):Int))],[(106,.arr 1 (ws W))],[]⟩:=by
 have C:=bW t (by omega);have z:(t:Int)<80:=by omega
 have y:=dq W;have F:=bV W t (by omega);have H:¬(t:Int)<20:=by omega
 have p1:¬(t:Int)<40:=by omega
 have E:¬(t:Int)<60:=by omega
 rw[ai];simp only[go_sem,Q0,Q1,Q2,Q3,Q4,Q5,Q6,Q7,Q8,Q9,Qa,Qb,Qc,Qd,Qe,Qf,Qg,Qh,Qi,Qj,Qk,reduceCtorEq,reduceIte,z,C,y,I,xo,hn,H,p1,E,F,z5,z30]
theorem xil(W k:List Int)(X Y:SV)(h:f8)(H:W.length=80):∀(n t:Nat),80-t=n->t<=80->
 run T (.loop fL) ⟨[(3,.lst 1 h .clip),(4,X),(5,Y),(6,.ptr 106 0),(8,.int .u32 ((ca W k t).getD 0 0)),(9,.int .u32 ((ca W k t).getD 1 0)),(10,.int .u32 ((ca W k t).getD 2 0)),(11,.int .u32 ((ca W k t).getD 3 0)),(12,.int .u32 ((ca W k t).getD 4 0)),(13,.int .i64 t)],[(106,.arr 1 (ws W))],[]⟩=some (.x 4,⟨[(3,.lst 1 h .clip),(4,X),(5,Y),(8,.int .u32 ((ca W k 80).getD 0 0)),(9,.int .u32 ((ca W k 80).getD 1 0)),(10,.int .u32 ((ca W k 80).getD 2 0)),(11,.int .u32 ((ca W k 80).getD 3 0)),(12,.int .u32 ((ca W k 80).getD 4 0))],[(106,.arr 1 (ws W))],[]⟩):=by
 intro n;induction n with
 |zero=>
  intro t J I;have hi:t=80:=by omega
  subst hi;rw[ai];simp only[c80,go_sem,Q0,Q1,Q2,Q3,Q4,Q5,Q6,Q7,Q8,Q9,Qa,Qb,Qc,Qd,Qe,Qf,Qg,Qh,Qi,Qj,Qk,reduceCtorEq,reduceIte]
 |succ n O=>
  intro t J I;have y:=O (t+1) (by omega) (by omega);have L:ca W k (t+1)=GR t (W.getD t 0) (ca W k t):=rfl;rw[L]at y;simp only[GR,bZ,cz]at y
  by_cases z:t<20
  ·have F:kk t=1518500249:=by unfold kk;rw[if_pos z]
   unfold ff at y;rw[if_pos z,F]at y;rw[xcL W X Y h H t (by omega) z,y]
  ·by_cases C:t<40
   ·have F:kk t=1859775393:=by unfold kk;rw[if_neg z,if_pos C]
    unfold ff at y;rw[if_neg z,if_pos C,F]at y;rw[xcK W X Y h H t (by omega) z C,y]
   ·by_cases E:t<60
    ·have F:kk t=2400959708:=by unfold kk;rw[if_neg z,if_neg C,if_pos E]
     unfold ff at y;rw[if_neg z,if_neg C,if_pos E,F]at y;rw[xcJ W X Y h H t (by omega) z C E,y]
    ·have F:kk t=3395469782:=by unfold kk;rw[if_neg z,if_neg C,if_neg E]
     unfold ff at y;rw[if_neg z,if_neg C,if_neg E,F]at y;rw[xcI W X Y h H t (by omega) z C E,y]
theorem xmK(X:t7)(hX:X.length<=1000000000000):∀(n a:Nat)(h:List Int),h.length=5->X.length=a+64*n->
 run T (.loop sA) ⟨[(3,.lst 1 (ws h) .clip),(4,.byt X .no),(5,.int .i64 a)],[],[]⟩=
 some (.x 0,⟨[(3,.lst 1 (ws (dY h (X.drop a) n)) .clip)],[],[]⟩):=by
 intro n;induction n with
 |zero=>
  intro a h z O;rw[ai];have F:¬(a:Int)<X.length:=by omega
  simp only[go_sem,Q0,Q1,Q2,Q3,Q4,Q5,Q6,Q7,Q8,Q9,Qa,Qb,Qc,Qd,Qe,Qf,Qg,Qh,Qi,Qj,Qk,reduceCtorEq,reduceIte,F,dY]
 |succ n U=>
  intro a h z O;have y:=U (a+64) (nH h (bk X a)) (mU h _ z) (by omega);have F:(a:Int)<X.length:=by omega
  have L:af.wrap ((a:Int)+64)=((a+64:Nat):Int):=wZ (by omega)
  have C:=xim X a (ws h) (by omega) hX _ 0 rfl (by omega);have E:=xil (Wl1 (bk X a) 80) h (.byt X .no) (.int .i64 a) (ws h) (pk _ 80) _ 0 rfl (by omega);have Q:Wl1 (bk X a) 0=ao 80 0:=by rw[Wl1]
  have J:ca (Wl1 (bk X a) 80) h 0=h:=by rw[ca]
  have H:=jY (Wl1 (bk X a) 80) h z 80;rw[Q,<-tC]at C;rw[J]at E;simp only[aB]at C E
  have I:dY h (X.drop a) (n+1)=dY (nH h (bk X a)) (X.drop (a+64)) n:=by rw[dY,xav,fq]
  rw[I,ai];unfold nH at y ⊢;generalize ca (Wl1 (bk X a) 80) h 80=s at*;generalize Wl1 (bk X a) 80=W at*;obtain⟨a0,Z,a2,a3,a4,rfl⟩:=El h z;obtain⟨s0,s1,s2,s3,s4,rfl⟩:=El s H;simp only[ws5,bZ,cz,xaA]at C E y ⊢;simp only[go_sem,Q0,Q1,Q2,Q3,Q4,Q5,Q6,Q7,Q8,Q9,Qa,Qb,Qc,Qd,Qe,Qf,Qg,Qh,Qi,Qj,Qk,reduceCtorEq,reduceIte,F,L,C,E,aA,aY,c5,y]
theorem xnc(B:t7)(H:B.length<=100000000000):call T 144 [.byt B .no] [] 0=some ⟨.byt (lA B) .no,[],[]⟩:=by
 have g0:=xli B (by omega);have E:=kl B;have hz:zn (B.length+1)<64:=by unfold zn;omega
 have C:=lY B;have h:=xmK (ed B) (by omega) ((ed B).length/64) 0 H1 rfl (by omega);have F:=kd ((ed B).length/64) H1 (ed B) rfl;have y:=xlg (dY H1 (ed B) ((ed B).length/64)) (by omega);have z:ws H1=[[.int .u32 1732584193],[.int .u32 4023233417],[.int .u32 2562383102],[.int .u32 271733878],[.int .u32 3285377520]]:=rfl;rw[z]at h;simp only[aB,aV]at h;unfold lA;generalize dY H1 (ed B) ((ed B).length/64)=b at*;rw[an xi7];simp only[go_sem,Q0,Q1,Q2,Q3,Q4,Q5,Q6,Q7,Q8,Q9,Qa,Qb,Qc,Qd,Qe,Qf,Qg,Qh,Qi,Qj,Qk,reduceCtorEq,reduceIte,g0,xa8,y,h,xa5]
theorem xiG(B:t7)(h:B.length<=100000000000):call T 121 [.int .i64 0,.byt B .no] [] 0=some ⟨.byt (lA B) .no,[],[]⟩:=by have g:=xnc B h;rw[an xaH];simp only[go_sem,Q0,Q1,Q2,Q3,Q4,Q5,Q6,Q7,Q8,Q9,Qa,Qb,Qc,Qd,Qe,Qf,Qg,Qh,Qi,Qj,Qk,reduceCtorEq,reduceIte,g,xjP]
theorem xiF(B:t7)(h:B.length<=100000000000):call T 121 [.int .i64 1,.byt B .no] [] 0=some ⟨.byt (sha B) .no,[],[]⟩:=by have g:=f65 B h;rw[an xaH];simp only[go_sem,Q0,Q1,Q2,Q3,Q4,Q5,Q6,Q7,Q8,Q9,Qa,Qb,Qc,Qd,Qe,Qf,Qg,Qh,Qi,Qj,Qk,reduceCtorEq,reduceIte,g,OZ]
end Go.Proofs.YtkcjdeofknkndaaGreatDoor
