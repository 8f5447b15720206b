/- Contracts. No condition. -/
import Derived.Test.YtkcjdeofknkndaaGreatDoorTaDF
open Int renaming natCast_zero -> aD
open Go.IntKind renaming i64 -> ai, u32 -> av, u64 -> aZ, wrap_u64 -> cn
open List renaming append_assoc -> ax, append_nil -> bf, cons_append -> aV, drop -> lv, drop_drop -> fq, drop_length -> bv, drop_zero -> bh, flatMap_cons -> jw, flatten_cons -> cN, getD_cons_succ -> bQ, getD_cons_zero -> bF, getD_eq_getElem?_getD -> aa, getElem?_drop -> bx, getElem?_eq_getElem -> ab, getElem?_map -> aR, length_append -> af, length_cons -> ay, length_drop -> aL, length_nil -> bl, length_replicate -> bO, length_singleton -> aP, length_take -> aA, map_cons -> aG, map_nil -> eU, nil_append -> aK, replicate -> ao, singleton_append -> dC, take -> dn, take_length -> bB, take_of_length_le -> bT
open Nat renaming add_zero -> dU, le_refl -> aN, mul_one -> iu
open UInt8 renaming ofInt -> dj
set_option maxRecDepth 100000
set_option maxHeartbeats 16000000
set_option linter.unusedSimpArgs false
set_option linter.unusedVariables false
namespace Go.Proofs.YtkcjdeofknkndaaGreatDoor
open Go.Sy
open UInt8 renaming reduceLT -> Q0, reduceLE -> Q1
open Int renaming reduceToNat -> Q2, reduceLE -> Q3, reduceLT -> Q4, reduceEq -> Q5, reduceNe -> Q6, reduceNeg -> Q7, reduceAdd -> Q8, reduceSub -> Q9, reduceMul -> Qa
open Nat renaming reducePow -> Qb, reduceDiv -> Qc, reduceMod -> Qd, reduceAdd -> Qe, reduceSub -> Qf, reduceMul -> Qg, reduceLT -> Qh, reduceLeDiff -> Qi, reduceEqDiff -> Qj, reduceBEq -> Qk
def rr(x:Int)(n:Nat):Int:=bt .or .u32 (x.fdiv (2^n)) (av.wrap (x*2^(32-n)))
theorem kW(k:IntKind)(x y:Int):bt .or k x y=bt .or k y x:=by simp only[bt,BitVec.or_comm]
theorem uS(x:Int)(n:Nat)(h:n<=32):call T 118 [.int .u32 x,.int .u64 n] [] 0=some ⟨.int .u32 (rr x n),[],[]⟩:=by
 rw[au xgB];have e:aZ.wrap (32-(n:Int))=((32-n:Nat):Int):=by rw[cn];omega
 have y:min n 32=n:=by omega
 have C:min (32-n) 32=32-n:=by omega
 have z:(0:Int)<=((32-n:Nat):Int):=by omega
 simp only[go_sem,Q0,Q1,Q2,Q3,Q4,Q5,Q6,Q7,Q8,Q9,Qa,Qb,Qc,Qd,Qe,Qf,Qg,Qh,Qi,Qj,Qk,reduceCtorEq,reduceIte,e,y,C,z,rr]
theorem qd(x k:Int)(n:Nat)(h:n<=32)(z:bt .and .u64 (aZ.wrap k) 31=((32-n:Nat):Int)):call T 157 [.int .u32 x,.int .i64 k] [] 0=some ⟨.int .u32 (rr x n),[],[]⟩:=by
 rw[au xga];have e:aZ.wrap (32-((32-n:Nat):Int))=(n:Int):=by rw[cn];omega
 have y:min n 32=n:=by omega
 have C:min (32-n) 32=32-n:=by omega
 simp only[go_sem,Q0,Q1,Q2,Q3,Q4,Q5,Q6,Q7,Q8,Q9,Qa,Qb,Qc,Qd,Qe,Qf,Qg,Qh,Qi,Qj,Qk,reduceCtorEq,reduceIte,z,e,y,C,rr,kW]
theorem m24:min 24 32=24:=rfl
theorem m16:min 16 32=16:=rfl
theorem m8:min 8 32=8:=rfl
theorem m3:min 3 32=3:=rfl
theorem m10:min 10 32=10:=rfl
def wd(B:t6)(t:Nat):Int:=
 bt .or .u32 (bt .or .u32 (bt .or .u32 (av.wrap (((B.getD (4*t) 0).toNat:Int)*2^24)) (av.wrap (((B.getD (4*t+1) 0).toNat:Int)*2^16)))
  (av.wrap (((B.getD (4*t+2) 0).toNat:Int)*2^8))) ((B.getD (4*t+3) 0).toNat:Int)
theorem xij(B:t6)(t:Nat)(h:4*t+3<B.length)(J:B.length<=1000000000000):call T 156 [.byt B .no,.int .i64 t] [] 0=some ⟨.int .u32 (wd B t),[],[]⟩:=by
 rw[au xgb];have H:ai.wrap (4*(t:Int))=((4*t:Nat):Int):=wZ (by omega)
 have I:ai.wrap (((4*t:Nat):Int)+1)=((4*t+1:Nat):Int):=wZ (by omega)
 have C:ai.wrap (((4*t:Nat):Int)+2)=((4*t+2:Nat):Int):=wZ (by omega)
 have z:ai.wrap (((4*t:Nat):Int)+3)=((4*t+3:Nat):Int):=wZ (by omega)
 have E:4*t<B.length:=by omega
 have y:4*t+1<B.length:=by omega
 have F:4*t+2<B.length:=by omega
 simp only[go_sem,Q0,Q1,Q2,Q3,Q4,Q5,Q6,Q7,Q8,Q9,Qa,Qb,Qc,Qd,Qe,Qf,Qg,Qh,Qi,Qj,Qk,reduceCtorEq,reduceIte,H,I,C,z,h,E,y,F,wd,m24,m16,m8]
theorem xiq(B:t6)(t:Nat)(h:4*t+3<B.length)(J:B.length<=1000000000000):call T 117 [.byt B .no,.int .i64 t] [] 0=some ⟨.int .u32 (wd B t),[],[]⟩:=by
 rw[au xgC];have H:ai.wrap (4*(t:Int))=((4*t:Nat):Int):=wZ (by omega)
 have I:ai.wrap (((4*t:Nat):Int)+1)=((4*t+1:Nat):Int):=wZ (by omega)
 have C:ai.wrap (((4*t:Nat):Int)+2)=((4*t+2:Nat):Int):=wZ (by omega)
 have z:ai.wrap (((4*t:Nat):Int)+3)=((4*t+3:Nat):Int):=wZ (by omega)
 have E:4*t<B.length:=by omega
 have y:4*t+1<B.length:=by omega
 have F:4*t+2<B.length:=by omega
 simp only[go_sem,Q0,Q1,Q2,Q3,Q4,Q5,Q6,Q7,Q8,Q9,Qa,Qb,Qc,Qd,Qe,Qf,Qg,Qh,Qi,Qj,Qk,reduceCtorEq,reduceIte,H,I,C,z,h,E,y,F,wd,m24,m16,m8]
def nw(B:t6)(L:List Int)(t:Nat):Int:=
 if t<16 then wd B t else
  let x:=L.getD (t-15) 0
  let y:=L.getD (t-2) 0
  av.wrap (av.wrap (av.wrap (bt .xor .u32 (bt .xor .u32 (rr y 17) (rr y 19)) (y.fdiv (2^10))+L.getD (t-7) 0)+
   bt .xor .u32 (bt .xor .u32 (rr x 7) (rr x 18)) (x.fdiv (2^3)))+L.getD (t-16) 0)
def Wl(B:t6):Nat->List Int
 |0=>ao 64 0
 |t+1=>(Wl B t).set t (nw B (Wl B t) t)
theorem tC(B:t6)(t:Nat):(Wl B t).length=64:=by
 induction t with
 |zero=>simp[Wl]
 |succ n h=>simp[Wl,h]
def ws(L:List Int):f8:=L.map fun x=> [.int .u32 x]
theorem dp(L:List Int):(ws L).length=L.length:=by simp[ws]
theorem bV(L:List Int)(i:Nat)(h:i<L.length):(ws L).getD i []=[.int .u32 (L.getD i 0)]:=by simp[ws,aa,aR,ab h]
theorem kJ(L:List Int)(i:Nat)(x:Int):(ws L).set i [.int .u32 x]=ws (L.set i x):=by unfold ws;rw[List.map_set]
theorem sX(n:Nat):ao n [SV.int .u32 0]=ws (ao n 0):=by unfold ws;rw[List.map_replicate]
theorem xfA(B:t6)(O:aC)(hB:B.length=64):∀(n t:Nat),64-t=n->t<=64->
 run T (.loop rV) ⟨[(0,.ptr 0 0),(1,.byt B .no),(4,.ptr 104 0),(17,.int .i64 t)],[(0,O),(104,.arr 1 (ws (Wl B t)))],[]⟩=
 some (.x 0,⟨[(0,.ptr 0 0),(4,.ptr 104 0)],[(0,O),(104,.arr 1 (ws (Wl B 64)))],[]⟩):=by
 intro n;induction n with
 |zero=>
  intro t h0 h1;have hi:t=64:=by omega
  subst hi;rw[al];simp only[c64,go_sem,Q0,Q1,Q2,Q3,Q4,Q5,Q6,Q7,Q8,Q9,Qa,Qb,Qc,Qd,Qe,Qf,Qg,Qh,Qi,Qj,Qk,reduceCtorEq,reduceIte]
 |succ n ih=>
  intro t h0 h1;have h:=ih (t+1) (by omega) (by omega);have e1:=cA t (by omega);have z:(t:Int)<64:=by omega
  have Z:=tC B t;have hw:=dp (Wl B t);have hn:t<64:=by omega
  have hs:Wl B (t+1)=(Wl B t).set t (nw B (Wl B t) t):=rfl;rw[al]
  by_cases C:t<16
  ·have g:=xij B t (by omega) (by omega)
   have y:(t:Int)<16:=by omega
   have hx:nw B (Wl B t) t=wd B t:=by unfold nw;rw[if_pos C]
   rw[hs,hx]at h;simp only[go_sem,Q0,Q1,Q2,Q3,Q4,Q5,Q6,Q7,Q8,Q9,Qa,Qb,Qc,Qd,Qe,Qf,Qg,Qh,Qi,Qj,Qk,reduceCtorEq,reduceIte,z,y,e1,g,Z,hw,Yx,hn,kJ,h]
  ·have y:¬(t:Int)<16:=by omega
   have Q:ai.wrap ((t:Int)-15)=((t-15:Nat):Int):=wZ (by omega)
   have a2:ai.wrap ((t:Int)-2)=((t-2:Nat):Int):=wZ (by omega)
   have a7:ai.wrap ((t:Int)-7)=((t-7:Nat):Int):=wZ (by omega)
   have W:ai.wrap ((t:Int)-16)=((t-16:Nat):Int):=wZ (by omega)
   have F:t-15<64:=by omega
   have b2:t-2<64:=by omega
   have b7:t-7<64:=by omega
   have U:t-16<64:=by omega
   have I:=bV (Wl B t) (t-15) (by omega);have d2:=bV (Wl B t) (t-2) (by omega);have d7:=bV (Wl B t) (t-7) (by omega);have J:=bV (Wl B t) (t-16) (by omega);have r7:=fun x=>qd x (-7) 7 (by omega) (by decide)
   have L:=fun x=>qd x (-18) 18 (by omega) (by decide)
   have H:=fun x=>qd x (-17) 17 (by omega) (by decide)
   have E:=fun x=>qd x (-19) 19 (by omega) (by decide)
   rw[hs]at h;unfold nw at h;rw[if_neg C]at h;simp only[go_sem,Q0,Q1,Q2,Q3,Q4,Q5,Q6,Q7,Q8,Q9,Qa,Qb,Qc,Qd,Qe,Qf,Qg,Qh,Qi,Qj,Qk,reduceCtorEq,reduceIte,z,y,e1,Z,hw,qw,hn,Q,a2,a7,W,F,b2,b7,U,I,d2,d7,J,r7,L,H,E,kJ,m3,m10,h]
def Kl:List Int:=iJ.map fun| .int _ x=>x|_=>0
theorem za:Kl.length=64:=rfl
theorem mF:iJ.length=64:=rfl
theorem xcZ:iJ=Kl.map (SV.int .u32):=rfl
theorem xcl{t:Nat}(h:t<64):(1<=(lv (t*1) iJ).length)=True:=by refine eq_true ?_;rw[aL,mF];omega
theorem xcm{t:Nat}(h:t<64):(List.map SV.data (lv (t*1) iJ)).getD 0 SV.undef= .int .u32 (Kl.getD t 0):=by
 rw[xcZ,aa,aR,bx,aR,iu,dU,aa,
  ab (show t<Kl.length from h)]
 rfl
def rnd(k w:Int)(s:List Int):List Int:=
 let a:=s.getD 0 0
 let e:=s.getD 4 0
 let h:=av.wrap (av.wrap (av.wrap (av.wrap (s.getD 7 0+bt .xor .u32 (bt .xor .u32 (rr e 6) (rr e 11)) (rr e 25))+
  bt .xor .u32 (bt .and .u32 e (s.getD 5 0)) (bt .and .u32 (bt .xor .u32 (if av.signed=true then-1 else av.max) e) (s.getD 6 0)))+k)+w)
 let y:=av.wrap (bt .xor .u32 (bt .xor .u32 (rr a 2) (rr a 13)) (rr a 22)+
  bt .xor .u32 (bt .xor .u32 (bt .and .u32 a (s.getD 1 0)) (bt .and .u32 a (s.getD 2 0))) (bt .and .u32 (s.getD 1 0) (s.getD 2 0)))
 [av.wrap (h+y),a,s.getD 1 0,s.getD 2 0,av.wrap (s.getD 3 0+h),e,s.getD 5 0,s.getD 6 0]
theorem ws8(a b c d e f g h:Int):ws [a,b,c,d,e,f,g,h]=[[.int .u32 a],[.int .u32 b],[.int .u32 c],[.int .u32 d],[.int .u32 e],[.int .u32 f],[.int .u32 g],[.int .u32 h]]:=rfl
def rounds(W:List Int)(h:List Int):Nat->List Int
 |0=>h
 |t+1=>rnd (Kl.getD t 0) (W.getD t 0) (rounds W h t)
theorem gT(W h:List Int)(y:h.length=8)(t:Nat):(rounds W h t).length=8:=by
 cases t<;>simp[rounds,rnd,y]
theorem n6(x:Int):call T 157 [.int .u32 x,.int .i64 (-6)] [] 0=some ⟨.int .u32 (rr x 6),[],[]⟩:=qd x (-6) 6 (by omega) (by decide)
theorem n11(x:Int):call T 157 [.int .u32 x,.int .i64 (-11)] [] 0=some ⟨.int .u32 (rr x 11),[],[]⟩:=qd x (-11) 11 (by omega) (by decide)
theorem n25(x:Int):call T 157 [.int .u32 x,.int .i64 (-25)] [] 0=some ⟨.int .u32 (rr x 25),[],[]⟩:=qd x (-25) 25 (by omega) (by decide)
theorem n2(x:Int):call T 157 [.int .u32 x,.int .i64 (-2)] [] 0=some ⟨.int .u32 (rr x 2),[],[]⟩:=qd x (-2) 2 (by omega) (by decide)
theorem n13(x:Int):call T 157 [.int .u32 x,.int .i64 (-13)] [] 0=some ⟨.int .u32 (rr x 13),[],[]⟩:=qd x (-13) 13 (by omega) (by decide)
theorem n22(x:Int):call T 157 [.int .u32 x,.int .i64 (-22)] [] 0=some ⟨.int .u32 (rr x 22),[],[]⟩:=qd x (-22) 22 (by omega) (by decide)
theorem xfz(W h:List Int)(O:aC)(H:W.length=64)(U:h.length=8):∀(n t:Nat),64-t=n->t<=64->
 run T (.loop rU) ⟨[(0,.ptr 0 0),(4,.ptr 104 0),(10,.ptr 110 0),(70,.int .i64 t)],[(0,O),(104,.arr 1 (ws W)),(110,.arr 1 (ws (rounds W h t)))],[]⟩=
 some (.x 2,⟨[(0,.ptr 0 0),(10,.ptr 110 0)],[(0,O),(104,.arr 1 (ws W)),(110,.arr 1 (ws (rounds W h 64)))],[]⟩):=by
 intro n;induction n with
 |zero=>
  intro t Z E;have hi:t=64:=by omega
  subst hi;rw[al];simp only[c64,go_sem,Q0,Q1,Q2,Q3,Q4,Q5,Q6,Q7,Q8,Q9,Qa,Qb,Qc,Qd,Qe,Qf,Qg,Qh,Qi,Qj,Qk,reduceCtorEq,reduceIte]
 |succ n ih=>
  intro t Z E;have y:=ih (t+1) (by omega) (by omega);have e1:=cA t (by omega);have z:(t:Int)<64:=by omega
  have hn:t<64:=by omega
  have I:=gT W h U t;have hw:=dp (rounds W h t);have C:=dp W;have hs:rounds W h (t+1)=rnd (Kl.getD t 0) (W.getD t 0) (rounds W h t):=rfl;rw[hs]at y;simp only[rnd,ws8]at y;generalize rounds W h t=s at*;have d0:=bV s 0 (by omega);have d1:=bV s 1 (by omega);have d2:=bV s 2 (by omega);have Q:=bV s 3 (by omega);have d4:=bV s 4 (by omega);have F:=bV s 5 (by omega);have J:=bV s 6 (by omega);have L:=bV s 7 (by omega);have dW:=bV W t (by omega);have dK:=bV Kl t (by rw[za];exact hn);rw[al];simp only[go_sem,Q0,Q1,Q2,Q3,Q4,Q5,Q6,Q7,Q8,Q9,Qa,Qb,Qc,Qd,Qe,Qf,Qg,Qh,Qi,Qj,Qk,reduceCtorEq,reduceIte,z,e1,I,hw,C,H,qw,hn,d0,d1,d2,Q,d4,F,J,L,dW,dK,n6,n11,n25,n2,n13,n22,c8,c64,mF,xcl hn,xcm hn,y]
def sR:List Int->List Int->List Int
 |x::l,y::r=>av.wrap (x+y)::sR l r
 |_,_=> []
theorem xfy(h s:List Int)(P:aC)(E:h.length=8)(H:s.length=8):
 run T (.loop rT) ⟨[(0,.ptr 0 0),(10,.ptr 110 0),(152,.int .i64 0)],[(0,.arr 1 (ws h)),(104,P),(110,.arr 1 (ws s))],[]⟩=
 some (.x 4,⟨[],[(0,.arr 1 (ws (sR h s))),(104,P),(110,.arr 1 (ws s))],[]⟩):=by
 match h,E with
 |[a0,a1,a2,a3,a4,a5,a6,a7],_=>match s,H with
  |[b0,b1,b2,b3,b4,b5,b6,b7],_=>
   have k1:ai.wrap 1=1:=rfl;have k2:ai.wrap 2=2:=rfl;have z:ai.wrap 3=3:=rfl;have J:ai.wrap 4=4:=rfl;have C:ai.wrap 5=5:=rfl;have y:ai.wrap 6=6:=rfl;have F:ai.wrap 7=7:=rfl;have I:ai.wrap 8=8:=rfl;simp only[ws8,sR]
   iterate 9
    rw[al];simp only[go_sem,Q0,Q1,Q2,Q3,Q4,Q5,Q6,Q7,Q8,Q9,Qa,Qb,Qc,Qd,Qe,Qf,Qg,Qh,Qi,Qj,Qk,reduceCtorEq,reduceIte,ay,bl,c8,k1,k2,z,J,C,y,F,I]
def comp(h:List Int)(B:t6):List Int:=sR h (rounds (Wl B 64) h 64)
theorem vg(h s:List Int)(z:h.length<=s.length):(sR h s).length=h.length:=by
 induction h generalizing s with
 |nil=>simp[sR]
 |cons x l C=>
  cases s with
  |nil=>simp at z
  |cons y r=>simp only[sR,ay];rw[C r (by simpa using z)]
theorem pH(h:List Int)(B:t6)(y:h.length=8):(comp h B).length=8:=by unfold comp;rw[vg _ _ (by rw[gT _ _ y,y];exact aN 8),y]
theorem xks(h:List Int)(B:t6)(z:h.length=8)(H:B.length=64):call T 134 [.ptr 0 0,.byt B .no] [.arr 1 (ws h)] 0=some ⟨.tup [],[(0,.arr 1 (ws (comp h B)))],[]⟩:=by
 have C:=xfA B (.arr 1 (ws h)) H _ 0 rfl (by omega);have y:=xfz (Wl B 64) h (.arr 1 (ws h)) (tC B 64) z _ 0 rfl (by omega);have E:=xfy h (rounds (Wl B 64) h 64) (.arr 1 (ws (Wl B 64))) z (gT _ _ z 64);have I:Wl B 0=ao 64 0:=rfl;have F:rounds (Wl B 64) h 0=h:=rfl;rw[I,<-sX]at C;rw[F]at y;simp only[aD]at C y;rw[au xgp]
 match h,z with
 |[a0,a1,a2,a3,a4,a5,a6,a7],_=>simp only[ws8]at C y E;simp only[go_sem,Q0,Q1,Q2,Q3,Q4,Q5,Q6,Q7,Q8,Q9,Qa,Qb,Qc,Qd,Qe,Qf,Qg,Qh,Qi,Qj,Qk,reduceCtorEq,reduceIte,ws8,C,y,E,comp,cN,List.flatten_nil,aG,eU,aV,aK,SV.data,List.take_succ_cons,List.take_zero,ay,bl]
def zn(n:Nat):Nat:=(120-n % 64) % 64
theorem xfE(B:t6):∀(n:Nat)(h:t6),zn h.length=n->h.length+n<=100000000000000->
 run T (.loop xT) ⟨[(0,.byt B .no),(3,.byt h (.id 103))],[],[103]⟩=
 some (.x 0,⟨[(0,.byt B .no),(3,.byt (h++ao n 0) (.id 103))],[],[103]⟩):=by
 intro n;induction n with
 |zero=>
  intro h z E;have F:h.length % 64=56:=by unfold zn at z;omega
  have hi:(h.length:Int).tmod 64=56:=by rw[Int.tmod_eq_emod_of_nonneg (by omega)];omega
  rw[al];simp only[go_sem,Q0,Q1,Q2,Q3,Q4,Q5,Q6,Q7,Q8,Q9,Qa,Qb,Qc,Qd,Qe,Qf,Qg,Qh,Qi,Qj,Qk,reduceCtorEq,reduceIte,hi,List.replicate_zero,bf]
 |succ n H=>
  intro h z E;have F:h.length % 64≠56:=by unfold zn at z;omega
  have hi:¬(h.length:Int).tmod 64=56:=by rw[Int.tmod_eq_emod_of_nonneg (by omega)];omega
  have y:=H (h++ [0]) (by unfold zn at*;rw[af,aP];omega) (by rw[af,aP];omega);have C:h.length+1<=140737488355328:=by omega
  rw[ax,dC,<-List.replicate_succ]at y;rw[al];simp only[go_sem,Q0,Q1,Q2,Q3,Q4,Q5,Q6,Q7,Q8,Q9,Qa,Qb,Qc,Qd,Qe,Qf,Qg,Qh,Qi,Qj,Qk,reduceCtorEq,reduceIte,hi,C,y]
def gY(v:Int)(s:Nat):UInt8:=dj (v.fdiv (2^s))
def be:Nat->Int->t6
 |0,_=> []
 |k+1,v=>gY v (8*k)::be k v
theorem eG(n:Nat)(v:Int):(be n v).length=n:=by induction n with
 |zero=>rfl
 |succ n h=>simp[be,h]
theorem xfD(v:Int):∀(k:Nat)(y:t6),k<=8->y.length+k<=100000000000000->
 run T (.loop rW) ⟨[(3,.byt y (.id 103)),(4,.int .u64 v),(5,.int .i64 (8*(k:Int)-8))],[],[103]⟩=
 some (.x 2,⟨[(3,.byt (y++be k v) (.id 103))],[],[103]⟩):=by
 intro k;induction k with
 |zero=>
  intro y E h;rw[al];have C:¬(0:Int)<=8*((0:Nat):Int)-8:=by omega
  simp only[go_sem,Q0,Q1,Q2,Q3,Q4,Q5,Q6,Q7,Q8,Q9,Qa,Qb,Qc,Qd,Qe,Qf,Qg,Qh,Qi,Qj,Qk,reduceCtorEq,reduceIte,C,be,bf]
 |succ k J=>
  intro y E h;have z:=J (y++ [gY v (8*k)]) (by omega) (by rw[af,aP];omega);have c1:y.length+1<=140737488355328:=by omega
  have C:(0:Int)<=8*((k+1:Nat):Int)-8:=by omega
  have I:aZ.wrap (8*((k+1:Nat):Int)-8)=((8*k:Nat):Int):=by rw[cn];omega
  have H:ai.wrap (8*((k+1:Nat):Int)-8-8)=8*(k:Int)-8:=wZ (by omega)
  have F:min (8*k) 64=8*k:=by omega
  rw[ax,dC]at z;rw[al];unfold gY at z;simp only[go_sem,Q0,Q1,Q2,Q3,Q4,Q5,Q6,Q7,Q8,Q9,Qa,Qb,Qc,Qd,Qe,Qf,Qg,Qh,Qi,Qj,Qk,reduceCtorEq,reduceIte,c1,C,I,H,F,be,gY,z]
def ee(B:t6):t6:=B++128::(ao (zn (B.length+1)) 0++be 8 (aZ.wrap (aZ.wrap B.length*8)))
theorem j9(B:t6):(ee B).length=B.length+1+zn (B.length+1)+8:=by simp only[ee,af,ay,bO,eG];omega
theorem lS(B:t6):(ee B).length % 64=0:=by rw[j9];unfold zn;omega
theorem xio(B:t6)(h:B.length<=10000000000000):call T 131 [.byt B .no] [] 0=some ⟨.byt (ee B) .no,[],[]⟩:=by
 have hz:zn (B.length+1)<64:=by unfold zn;omega
 have F:=xfE B _ (B++ [128]) rfl (by simp;omega);have y:=xfD (aZ.wrap (aZ.wrap B.length*8)) 8 (B++128::ao (zn (B.length+1)) 0) (by omega) (by simp;omega);have C:8*((8:Nat):Int)-8=56:=rfl;rw[C]at y;rw[au xgs];have e:ai.wrap ((B.length:Int)+72)=((B.length+72:Nat):Int):=wZ (by omega)
 have c2:((B.length+72:Nat):Int)<=140737488355328:=by omega
 have E:B.length<=140737488355328:=by omega
 have z:B.length+1<=140737488355328:=by omega
 simp only[go_sem,Q0,Q1,Q2,Q3,Q4,Q5,Q6,Q7,Q8,Q9,Qa,Qb,Qc,Qd,Qe,Qf,Qg,Qh,Qi,Qj,Qk,reduceCtorEq,reduceIte,e,F,y,c2,E,z,ee]
theorem xfG(B:t6):∀(n:Nat)(h:t6),zn h.length=n->h.length+n<=100000000000000->
 run T (.loop x0) ⟨[(0,.byt B .no),(3,.byt h (.id 103))],[],[103]⟩=
 some (.x 0,⟨[(0,.byt B .no),(3,.byt (h++ao n 0) (.id 103))],[],[103]⟩):=by
 intro n;induction n with
 |zero=>
  intro h z E;have F:h.length % 64=56:=by unfold zn at z;omega
  have hi:(h.length:Int).tmod 64=56:=by rw[Int.tmod_eq_emod_of_nonneg (by omega)];omega
  rw[al];simp only[go_sem,Q0,Q1,Q2,Q3,Q4,Q5,Q6,Q7,Q8,Q9,Qa,Qb,Qc,Qd,Qe,Qf,Qg,Qh,Qi,Qj,Qk,reduceCtorEq,reduceIte,hi,List.replicate_zero,bf]
 |succ n H=>
  intro h z E;have F:h.length % 64≠56:=by unfold zn at z;omega
  have hi:¬(h.length:Int).tmod 64=56:=by rw[Int.tmod_eq_emod_of_nonneg (by omega)];omega
  have y:=H (h++ [0]) (by unfold zn at*;rw[af,aP];omega) (by rw[af,aP];omega);have C:h.length+1<=140737488355328:=by omega
  rw[ax,dC,<-List.replicate_succ]at y;rw[al];simp only[go_sem,Q0,Q1,Q2,Q3,Q4,Q5,Q6,Q7,Q8,Q9,Qa,Qb,Qc,Qd,Qe,Qf,Qg,Qh,Qi,Qj,Qk,reduceCtorEq,reduceIte,hi,C,y]
theorem xfF(v:Int):∀(k:Nat)(y:t6),k<=8->y.length+k<=100000000000000->
 run T (.loop rX) ⟨[(3,.byt y (.id 103)),(4,.int .u64 v),(5,.int .i64 ((k:Int)-1))],[],[103]⟩=
 some (.x 2,⟨[(3,.byt (y++be k v) (.id 103))],[],[103]⟩):=by
 intro k;induction k with
 |zero=>
  intro y F h;rw[al];have C:¬(0:Int)<=((0:Nat):Int)-1:=by omega
  simp only[go_sem,Q0,Q1,Q2,Q3,Q4,Q5,Q6,Q7,Q8,Q9,Qa,Qb,Qc,Qd,Qe,Qf,Qg,Qh,Qi,Qj,Qk,reduceCtorEq,reduceIte,C,be,bf]
 |succ k L=>
  intro y F h;have z:=L (y++ [gY v (8*k)]) (by omega) (by rw[af,aP];omega);have c1:y.length+1<=140737488355328:=by omega
  have C:(0:Int)<=((k+1:Nat):Int)-1:=by omega
  have J:aZ.wrap (((k+1:Nat):Int)-1)=(k:Int):=by rw[cn];omega
  have E:aZ.wrap (8*(k:Int))=((8*k:Nat):Int):=by rw[cn];omega
  have I:ai.wrap (((k+1:Nat):Int)-1-1)=(k:Int)-1:=wZ (by omega)
  have H:min (8*k) 64=8*k:=by omega
  rw[ax,dC]at z;rw[al];unfold gY at z;simp only[go_sem,Q0,Q1,Q2,Q3,Q4,Q5,Q6,Q7,Q8,Q9,Qa,Qb,Qc,Qd,Qe,Qf,Qg,Qh,Qi,Qj,Qk,reduceCtorEq,reduceIte,c1,C,J,E,I,H,be,gY,z]
theorem xir(B:t6)(h:B.length<=10000000000000):call T 116 [.byt B .no] [] 0=some ⟨.byt (ee B) .no,[],[]⟩:=by
 have hz:zn (B.length+1)<64:=by unfold zn;omega
 have F:=xfG B _ (B++ [128]) rfl (by simp;omega);have y:=xfF (aZ.wrap (aZ.wrap B.length*8)) 8 (B++128::ao (zn (B.length+1)) 0) (by omega) (by simp;omega);have E:((8:Nat):Int)-1=7:=rfl;rw[E]at y;rw[au xgD];have C:B.length<=140737488355328:=by omega
 have z:B.length+1<=140737488355328:=by omega
 simp only[go_sem,Q0,Q1,Q2,Q3,Q4,Q5,Q6,Q7,Q8,Q9,Qa,Qb,Qc,Qd,Qe,Qf,Qg,Qh,Qi,Qj,Qk,reduceCtorEq,reduceIte,F,y,C,z,ee]
def w4(x:Int):t6:=[gY x 24,gY x 16,gY x 8,dj x]
def sp(h:List Int):t6:=h.flatMap w4
theorem Gk(h:List Int):(sp h).length=4*h.length:=by
 induction h with
 |nil=>rfl
 |cons x l y=>simp only[sp,jw,af,w4,ay,bl]at*;omega
theorem d0(h:List Int)(i:Nat)(hi:i<h.length):h.drop i=h.getD i 0::h.drop (i+1):=rm h i hi
theorem xjX(h:List Int)(O:h.length<=1000000000000):∀(n i:Nat)(y:t6),h.length-i=n->i<=h.length->y.length=4*i->
 run T (.loop xR) ⟨[(3,.byt y (.id 103)),(10,.lst 1 (ws h) .no),(11,.int .i64 h.length),(12,.int .i64 i)],[],[103]⟩=
 some (.x 0,⟨[(3,.byt (y++sp (h.drop i)) (.id 103))],[],[103]⟩):=by
 intro n;induction n with
 |zero=>
  intro i y J C E;have hi:i=h.length:=by omega
  subst hi;rw[al];simp only[go_sem,Q0,Q1,Q2,Q3,Q4,Q5,Q6,Q7,Q8,Q9,Qa,Qb,Qc,Qd,Qe,Qf,Qg,Qh,Qi,Qj,Qk,reduceCtorEq,reduceIte,bv,sp,List.flatMap_nil,bf]
 |succ n F=>
  intro i y J C E;have hi:i<h.length:=by omega
  have L:=cA i (by omega);have z:=F (i+1) (y++w4 (h.getD i 0)) (by omega) (by omega) (by simp[w4];omega);have H:=bV h i hi;have I:=dp h;have c1:y.length+4<=140737488355328:=by omega
  rw[al];rw[ax]at z;simp only[w4,gY]at z;simp only[go_sem,Q0,Q1,Q2,Q3,Q4,Q5,Q6,Q7,Q8,Q9,Qa,Qb,Qc,Qd,Qe,Qf,Qg,Qh,Qi,Qj,Qk,reduceCtorEq,reduceIte,hi,H,I,L,c1,m24,m16,m8,z,d0 h i hi,sp,jw,w4,gY]
theorem xin(h:List Int)(y:h.length<=1000000000000):call T 133 [.lst 1 (ws h) .no] [] 0=some ⟨.byt (sp h) .no,[],[]⟩:=by
 have g:=xjX h y _ 0 [] rfl (by omega) rfl;have z:=dp h;rw[au xgq];have e:ai.wrap (4*(h.length:Int))=((4*h.length:Nat):Int):=wZ (by omega)
 have c2:((4*h.length:Nat):Int)<=140737488355328:=by omega
 simp only[aD,bh,aK]at g;simp only[go_sem,Q0,Q1,Q2,Q3,Q4,Q5,Q6,Q7,Q8,Q9,Qa,Qb,Qc,Qd,Qe,Qf,Qg,Qh,Qi,Qj,Qk,reduceCtorEq,reduceIte,e,z,c2,g]
theorem xjZ(h:List Int)(O:h.length<=1000000000000):∀(n i:Nat)(y:t6),h.length-i=n->i<=h.length->y.length=4*i->
 run T (.loop xX) ⟨[(0,.lst 1 (ws h) .no),(3,.byt y (.id 103)),(4,.int .i64 i)],[],[103]⟩=
 some (.x 0,⟨[(3,.byt (y++sp (h.drop i)) (.id 103))],[],[103]⟩):=by
 intro n;induction n with
 |zero=>
  intro i y J E F;have hi:i=h.length:=by omega
  have C:=dp h;subst hi;rw[al];simp only[go_sem,Q0,Q1,Q2,Q3,Q4,Q5,Q6,Q7,Q8,Q9,Qa,Qb,Qc,Qd,Qe,Qf,Qg,Qh,Qi,Qj,Qk,reduceCtorEq,reduceIte,C,bv,sp,List.flatMap_nil,bf]
 |succ n H=>
  intro i y J E F;have hi:i<h.length:=by omega
  have L:=cA i (by omega);have z:=H (i+1) (y++w4 (h.getD i 0)) (by omega) (by omega) (by simp[w4];omega);have I:=bV h i hi;have C:=dp h;have c1:y.length+4<=140737488355328:=by omega
  rw[al];rw[ax]at z;simp only[w4,gY]at z;simp only[go_sem,Q0,Q1,Q2,Q3,Q4,Q5,Q6,Q7,Q8,Q9,Qa,Qb,Qc,Qd,Qe,Qf,Qg,Qh,Qi,Qj,Qk,reduceCtorEq,reduceIte,hi,I,C,L,c1,m24,m16,m8,z,d0 h i hi,sp,jw,w4,gY]
theorem xip(h:List Int)(z:h.length<=1000000000000):call T 119 [.lst 1 (ws h) .no] [] 0=some ⟨.byt (sp h) .no,[],[]⟩:=by have g:=xjZ h z _ 0 [] rfl (by omega) rfl;have y:=dp h;rw[au xgA];simp only[aD,bh,aK]at g;simp only[go_sem,Q0,Q1,Q2,Q3,Q4,Q5,Q6,Q7,Q8,Q9,Qa,Qb,Qc,Qd,Qe,Qf,Qg,Qh,Qi,Qj,Qk,reduceCtorEq,reduceIte,y,g]
def fe(h:List Int)(X:t6):Nat->List Int
 |0=>h
 |n+1=>fe (comp h (X.take 64)) (X.drop 64) n
theorem lr(n:Nat):∀(h:List Int)(X:t6),h.length=8->(fe h X n).length=8:=by
 induction n with
 |zero=>intro h X y;exact y
 |succ n z=>intro h X y;exact z _ _ (pH h _ y)
def H0:List Int:=[1779033703,3144134277,1013904242,2773480762,1359893119,2600822924,528734635,1541459225]
def sha(B:t6):t6:=sp (fe H0 (ee B) ((ee B).length/64))
theorem jr(B:t6):(sha B).length=32:=by unfold sha;rw[Gk,lr _ _ _ rfl]
theorem l90:∀(n:Nat)(h:List Int)(X:t6),h.length=8->X.length=64*n->X.length<=1000000000000->
 run T (.loop xl) ⟨[(7,.ptr 107 0),(8,.byt X .no)],[(107,.arr 1 (ws h))],[]⟩=
 some (.x 3,⟨[(7,.ptr 107 0)],[(107,.arr 1 (ws (fe h X n)))],[]⟩):=by
 intro n;induction n with
 |zero=>
  intro h X z hX E;rw[al];have F:¬(0:Int)<X.length:=by omega
  simp only[go_sem,Q0,Q1,Q2,Q3,Q4,Q5,Q6,Q7,Q8,Q9,Qa,Qb,Qc,Qd,Qe,Qf,Qg,Qh,Qi,Qj,Qk,reduceCtorEq,reduceIte,F,fe]
 |succ n J=>
  intro h X z hX E;have y:=J (comp h (X.take 64)) (X.drop 64) (pH h _ z) (by rw[aL];omega) (by rw[aL];omega);have g:=xks h (X.take 64) z (by rw[aA];omega);have C:(0:Int)<X.length:=by omega
  have I:(64:Int)<=X.length:=by omega
  have H:64<=X.length:=by omega
  rw[al];simp only[go_sem,Q0,Q1,Q2,Q3,Q4,Q5,Q6,Q7,Q8,Q9,Qa,Qb,Qc,Qd,Qe,Qf,Qg,Qh,Qi,Qj,Qk,reduceCtorEq,reduceIte,C,I,H,g,xgY,bB,y,fe]
theorem f90(B:t6)(J:B.length<=100000000000):call T 90 [.int .i64 1,.byt B .no] [] 0=some ⟨.byt (sha B) .no,[],[]⟩:=by
 have g0:=xio B (by omega);have H:=j9 B;have hz:zn (B.length+1)<64:=by unfold zn;omega
 have I:=lS B;have z:=l90 ((ee B).length/64) H0 (ee B) rfl (by omega) (by omega);have h:=lr ((ee B).length/64) H0 (ee B) rfl;have E:=xin (fe H0 (ee B) ((ee B).length/64)) (by omega);have y:=dp (fe H0 (ee B) ((ee B).length/64));have F:ws H0=[[.int .u32 1779033703],[.int .u32 3144134277],[.int .u32 1013904242],[.int .u32 2773480762],[.int .u32 1359893119],[.int .u32 2600822924],[.int .u32 528734635],[.int .u32 1541459225]]:=rfl;rw[F]at z;rw[au xiG];unfold sha;generalize fe H0 (ee B) ((ee B).length/64)=b at*;have C:dn 8 (ws b)=ws b:=bT (by rw[y,h];exact aN 8);simp only[go_sem,Q0,Q1,Q2,Q3,Q4,Q5,Q6,Q7,Q8,Q9,Qa,Qb,Qc,Qd,Qe,Qf,Qg,Qh,Qi,Qj,Qk,reduceCtorEq,reduceIte,g0,z,E,YC,YB,y,h,c8,C]
theorem xky:call T 115 [] [] 0=some ⟨.agg iJ,[],[]⟩:=by rw[au xgE];simp only[go_sem,Q0,Q1,Q2,Q3,Q4,Q5,Q6,Q7,Q8,Q9,Qa,Qb,Qc,Qd,Qe,Qf,Qg,Qh,Qi,Qj,Qk,reduceCtorEq,reduceIte];rfl
def bk(X:t6)(a:Nat):t6:=lv a (dn (a+64) X)
theorem tB(X:t6)(a:Nat)(h:a+64<=X.length):(bk X a).length=64:=by unfold bk;rw[aL,aA];omega
theorem Yi(X:t6)(a:Nat):bk X a=(X.drop a).take 64:=by unfold bk;rw[List.drop_take];congr 1;omega
theorem rq7(x:Int):call T 118 [.int .u32 x,.int .u64 7] [] 0=some ⟨.int .u32 (rr x 7),[],[]⟩:=uS x 7 (by omega)
theorem xjg(x:Int):call T 118 [.int .u32 x,.int .u64 18] [] 0=some ⟨.int .u32 (rr x 18),[],[]⟩:=uS x 18 (by omega)
theorem xjh(x:Int):call T 118 [.int .u32 x,.int .u64 17] [] 0=some ⟨.int .u32 (rr x 17),[],[]⟩:=uS x 17 (by omega)
theorem xjf(x:Int):call T 118 [.int .u32 x,.int .u64 19] [] 0=some ⟨.int .u32 (rr x 19),[],[]⟩:=uS x 19 (by omega)
theorem rq6(x:Int):call T 118 [.int .u32 x,.int .u64 6] [] 0=some ⟨.int .u32 (rr x 6),[],[]⟩:=uS x 6 (by omega)
theorem xjj(x:Int):call T 118 [.int .u32 x,.int .u64 11] [] 0=some ⟨.int .u32 (rr x 11),[],[]⟩:=uS x 11 (by omega)
theorem xjd(x:Int):call T 118 [.int .u32 x,.int .u64 25] [] 0=some ⟨.int .u32 (rr x 25),[],[]⟩:=uS x 25 (by omega)
theorem rq2(x:Int):call T 118 [.int .u32 x,.int .u64 2] [] 0=some ⟨.int .u32 (rr x 2),[],[]⟩:=uS x 2 (by omega)
theorem xji(x:Int):call T 118 [.int .u32 x,.int .u64 13] [] 0=some ⟨.int .u32 (rr x 13),[],[]⟩:=uS x 13 (by omega)
theorem xje(x:Int):call T 118 [.int .u32 x,.int .u64 22] [] 0=some ⟨.int .u32 (rr x 22),[],[]⟩:=uS x 22 (by omega)
theorem xjE(X:t6)(a:Nat)(h:List Int)(Q:a+64<=X.length)(hX:X.length<=1000000000000):∀(n t:Nat),64-t=n->t<=64->
 run T (.loop xB) ⟨[(3,.ptr 103 0),(4,.psl 119 1 0 8 (some 8)),(5,.byt X .no),(6,.int .i64 a),(7,.ptr 107 0),(8,.int .i64 t)],[(103,.arr 1 (ws Kl)),(107,.arr 1 (ws (Wl (bk X a) t))),(119,.arr 1 (ws h))],[]⟩=
 some (.x 2,⟨[(3,.ptr 103 0),(4,.psl 119 1 0 8 (some 8)),(5,.byt X .no),(6,.int .i64 a),(7,.ptr 107 0)],[(103,.arr 1 (ws Kl)),(107,.arr 1 (ws (Wl (bk X a) 64))),(119,.arr 1 (ws h))],[]⟩):=by
 intro n;induction n with
 |zero=>
  intro t h0 h1;have hi:t=64:=by omega
  subst hi;rw[al];simp only[c64,go_sem,Q0,Q1,Q2,Q3,Q4,Q5,Q6,Q7,Q8,Q9,Qa,Qb,Qc,Qd,Qe,Qf,Qg,Qh,Qi,Qj,Qk,reduceCtorEq,reduceIte]
 |succ n ih=>
  intro t h0 h1;have y:=ih (t+1) (by omega) (by omega);have e1:=cA t (by omega);have E:(t:Int)<64:=by omega
  have Z:=tC (bk X a) t;have hw:=dp (Wl (bk X a) t);have hn:t<64:=by omega
  have hs:Wl (bk X a) (t+1)=(Wl (bk X a) t).set t (nw (bk X a) (Wl (bk X a) t) t):=rfl;have a1:ai.wrap ((a:Int)+64)=((a+64:Nat):Int):=wZ (by omega)
  have a3:a<=a+64:=by omega
  rw[al]
  by_cases F:t<16
  ·have g:=xiq (bk X a) t (by rw[tB X a Q];omega) (by rw[tB X a Q];omega)
   have C:(t:Int)<16:=by omega
   have hx:nw (bk X a) (Wl (bk X a) t) t=wd (bk X a) t:=by unfold nw;rw[if_pos F]
   rw[hs,hx]at y;generalize hb:Wl (bk X a) t=L at*;generalize hc:wd (bk X a) t=z at*;unfold bk at g;simp only[go_sem,Q0,Q1,Q2,Q3,Q4,Q5,Q6,Q7,Q8,Q9,Qa,Qb,Qc,Qd,Qe,Qf,Qg,Qh,Qi,Qj,Qk,reduceCtorEq,reduceIte,E,C,e1,a1,Q,a3,g,Z,hw,YI,hn,kJ,y]
  ·have C:¬(t:Int)<16:=by omega
   have O:ai.wrap ((t:Int)-15)=((t-15:Nat):Int):=wZ (by omega)
   have a2:ai.wrap ((t:Int)-2)=((t-2:Nat):Int):=wZ (by omega)
   have a7:ai.wrap ((t:Int)-7)=((t-7:Nat):Int):=wZ (by omega)
   have W:ai.wrap ((t:Int)-16)=((t-16:Nat):Int):=wZ (by omega)
   have H:t-15<64:=by omega
   have b2:t-2<64:=by omega
   have b7:t-7<64:=by omega
   have U:t-16<64:=by omega
   rw[hs]at y;unfold nw at y;rw[if_neg F]at y;generalize hb:Wl (bk X a) t=L at*;have I:=bV L (t-15) (by omega);have d2:=bV L (t-2) (by omega);have d7:=bV L (t-7) (by omega);have J:=bV L (t-16) (by omega);simp only[go_sem,Q0,Q1,Q2,Q3,Q4,Q5,Q6,Q7,Q8,Q9,Qa,Qb,Qc,Qd,Qe,Qf,Qg,Qh,Qi,Qj,Qk,reduceCtorEq,reduceIte,E,C,e1,Z,hw,YH,hn,O,a2,a7,W,H,b2,b7,U,I,d2,d7,J,rq7,xjg,xjh,xjf,kJ,m3,m10,y]
theorem xjD(X:t6)(a:Nat)(W h:List Int)(O:aC)(L:W.length=64)(hh:h.length=8):∀(n t:Nat)(q:Tok),64-t=n->t<=64->
 run T (.loop xA) ⟨[(3,.ptr 103 0),(4,.psl 119 1 0 8 (some 8)),(5,.byt X .no),(6,.int .i64 a),(7,.ptr 107 0),(11,.lst 1 (ws (rounds W h t)) q),(12,.int .i64 t)],[(103,.arr 1 (ws Kl)),(107,.arr 1 (ws W)),(119,O)],[194]⟩=
 some (.x 4,⟨[(3,.ptr 103 0),(4,.psl 119 1 0 8 (some 8)),(5,.byt X .no),(6,.int .i64 a),(11,.lst 1 (ws (rounds W h 64)) (if t=64 then q else .clip))],[(103,.arr 1 (ws Kl)),(107,.arr 1 (ws W)),(119,O)],[194]⟩):=by
 intro n;induction n with
 |zero=>
  intro t q h0 H;have hi:t=64:=by omega
  subst hi;rw[al];simp only[c64,go_sem,Q0,Q1,Q2,Q3,Q4,Q5,Q6,Q7,Q8,Q9,Qa,Qb,Qc,Qd,Qe,Qf,Qg,Qh,Qi,Qj,Qk,reduceCtorEq,reduceIte]
 |succ n ih=>
  intro t q h0 H;have y:=ih (t+1) .clip (by omega) (by omega);have e1:=cA t (by omega);have C:(t:Int)<64:=by omega
  have hn:t<64:=by omega
  have z:t≠64:=by omega
  have Q:=gT W h hh t;have hw:=dp (rounds W h t);have E:=dp W;have F:=dp Kl;have I:=za;have hs:rounds W h (t+1)=rnd (Kl.getD t 0) (W.getD t 0) (rounds W h t):=rfl;rw[hs]at y;simp only[rnd,ws8]at y;rw[ite_self]at y;generalize rounds W h t=s at*;have d0:=bV s 0 (by omega);have d1:=bV s 1 (by omega);have d2:=bV s 2 (by omega);have d3:=bV s 3 (by omega);have d4:=bV s 4 (by omega);have J:=bV s 5 (by omega);have U:=bV s 6 (by omega);have Z:=bV s 7 (by omega);have dW:=bV W t (by omega);have dK:=bV Kl t (by rw[za];exact hn);rw[al];simp only[go_sem,Q0,Q1,Q2,Q3,Q4,Q5,Q6,Q7,Q8,Q9,Qa,Qb,Qc,Qd,Qe,Qf,Qg,Qh,Qi,Qj,Qk,reduceCtorEq,reduceIte,C,e1,Q,hw,E,F,I,L,YH,hn,z,d0,d1,d2,d3,d4,J,U,Z,dW,dK,rq6,xjj,xjd,rq2,xji,xje,c8,c64,y]
theorem xjC(X:t6)(a:Nat)(h s:List Int)(P Q:aC)(E:h.length=8)(H:s.length=8):
 run T (.loop xy) ⟨[(3,.ptr 103 0),(4,.psl 119 1 0 8 (some 8)),(5,.byt X .no),(6,.int .i64 a),(11,.lst 1 (ws s) .clip),(17,.int .i64 0)],[(103,P),(107,Q),(119,.arr 1 (ws h))],[194]⟩=
 some (.x 6,⟨[(3,.ptr 103 0),(4,.psl 119 1 0 8 (some 8)),(5,.byt X .no),(6,.int .i64 a)],[(103,P),(107,Q),(119,.arr 1 (ws (sR h s)))],[194]⟩):=by
 match h,E with
 |[a0,a1,a2,a3,a4,a5,a6,a7],_=>match s,H with
  |[b0,b1,b2,b3,b4,b5,b6,b7],_=>
   have k1:ai.wrap 1=1:=rfl;have k2:ai.wrap 2=2:=rfl;have z:ai.wrap 3=3:=rfl;have J:ai.wrap 4=4:=rfl;have C:ai.wrap 5=5:=rfl;have y:ai.wrap 6=6:=rfl;have F:ai.wrap 7=7:=rfl;have I:ai.wrap 8=8:=rfl;simp only[ws8,sR]
   iterate 9
    rw[al];simp only[go_sem,Q0,Q1,Q2,Q3,Q4,Q5,Q6,Q7,Q8,Q9,Qa,Qb,Qc,Qd,Qe,Qf,Qg,Qh,Qi,Qj,Qk,reduceCtorEq,reduceIte,ay,bl,c8,k1,k2,z,J,C,y,F,I]
theorem l65(X:t6)(hX:X.length<=1000000000000):∀(n a:Nat)(h:List Int),h.length=8->X.length=a+64*n->
 run T (.loop xx) ⟨[(3,.ptr 103 0),(4,.psl 119 1 0 8 (some 8)),(5,.byt X .no),(6,.int .i64 a)],[(103,.arr 1 (ws Kl)),(119,.arr 1 (ws h))],[]⟩=
 some (.x 0,⟨[(4,.psl 119 1 0 8 (some 8))],[(103,.arr 1 (ws Kl)),(119,.arr 1 (ws (fe h (X.drop a) n)))],[]⟩):=by
 intro n;induction n with
 |zero=>
  intro a h y J;rw[al];have F:¬(a:Int)<X.length:=by omega
  simp only[go_sem,Q0,Q1,Q2,Q3,Q4,Q5,Q6,Q7,Q8,Q9,Qa,Qb,Qc,Qd,Qe,Qf,Qg,Qh,Qi,Qj,Qk,reduceCtorEq,reduceIte,F,fe]
 |succ n Z=>
  intro a h y J;have z:=Z (a+64) (comp h (bk X a)) (pH h _ y) (by omega);have F:(a:Int)<X.length:=by omega
  have W:ai.wrap ((a:Int)+64)=((a+64:Nat):Int):=wZ (by omega)
  have H:=xjE X a h (by omega) hX _ 0 rfl (by omega);have E:=xjD X a (Wl (bk X a) 64) h (.arr 1 (ws h)) (tC _ 64) y _ 0 (.id 194) rfl (by omega);have L:=xjC X a h (rounds (Wl (bk X a) 64) h 64) (.arr 1 (ws Kl)) (.arr 1 (ws (Wl (bk X a) 64))) y (gT _ _ y 64);have Q:Wl (bk X a) 0=ao 64 0:=rfl;have O:rounds (Wl (bk X a) 64) h 0=h:=rfl;have hz:¬(0:Nat)=64:=by omega
  have C:=dp h;rw[Q,<-sX]at H;rw[O,if_neg hz]at E;simp only[aD]at H E
  have I:fe h (X.drop a) (n+1)=fe (comp h (bk X a)) (X.drop (a+64)) n:=by rw[fe,Yi,fq]
  rw[I,al];unfold comp at z ⊢;have U:dn 8 (ws h)=ws h:=bT (by rw[C,y];exact aN 8);simp only[go_sem,Q0,Q1,Q2,Q3,Q4,Q5,Q6,Q7,Q8,Q9,Qa,Qb,Qc,Qd,Qe,Qf,Qg,Qh,Qi,Qj,Qk,reduceCtorEq,reduceIte,F,W,H,E,L,C,y,U,z]
  trace_state
attribute [-go_sem] jn
theorem f65(B:t6)(hB:B.length<=100000000000):call T 65 [.byt B .no] [] 0=some ⟨.byt (sha B) .no,[],[]⟩:=by
 have O:=xky;have g0:=xir B (by omega);have E:jn 1 64 (List.map SV.data iJ)=ws Kl:=rfl;have U:iJ.all SV.isData=true:=rfl;have H:=mF;have I:SV.purgeL 103 104 iJ=iJ:=rfl;have J:SV.idsL iJ=[]:=rfl;have C:SV.toksL iJ=[]:=rfl;have W:=j9 B;have hz:zn (B.length+1)<64:=by unfold zn;omega
 have Z:=lS B;have h:=l65 (ee B) (by omega) ((ee B).length/64) 0 H0 rfl (by omega);have y:=lr ((ee B).length/64) H0 (ee B) rfl;have F:=xip (fe H0 (ee B) ((ee B).length/64)) (by omega);have z:=dp (fe H0 (ee B) ((ee B).length/64));have L:ws H0=[[.int .u32 1779033703],[.int .u32 3144134277],[.int .u32 1013904242],[.int .u32 2773480762],[.int .u32 1359893119],[.int .u32 2600822924],[.int .u32 528734635],[.int .u32 1541459225]]:=rfl;rw[L]at h;simp only[aD,bh]at h;unfold sha;generalize fe H0 (ee B) ((ee B).length/64)=b at*;have Q:dn 8 (ws b)=ws b:=bT (by rw[z,y];exact aN 8);rw[au xk9];simp only[go_sem,Q0,Q1,Q2,Q3,Q4,Q5,Q6,Q7,Q8,Q9,Qa,Qb,Qc,Qd,Qe,Qf,Qg,Qh,Qi,Qj,Qk,reduceCtorEq,reduceIte,O,g0,YJ,xg4,J,C,List.isEmpty,E,U,H,I,F,h,YG,z,y,c8,Q]
attribute [go_sem] jn
theorem l48(v:Int):∀(k:Nat)(y:t6),k<=8->y.length+k<=100000000000000->
 run T (.loop NK) ⟨[(2,.int .i64 v),(7,.byt y (.id 107)),(8,.int .i64 ((k:Int)-1))],[],[107]⟩=
 some (.x 0,⟨[(7,.byt (y++be k (aZ.wrap v)) (.id 107))],[],[107]⟩):=by
 intro k;induction k with
 |zero=>
  intro y I h;rw[al];have C:¬(0:Int)<=((0:Nat):Int)-1:=by omega
  simp only[go_sem,Q0,Q1,Q2,Q3,Q4,Q5,Q6,Q7,Q8,Q9,Qa,Qb,Qc,Qd,Qe,Qf,Qg,Qh,Qi,Qj,Qk,reduceCtorEq,reduceIte,C,be,bf]
 |succ k Q=>
  intro y I h;have z:=Q (y++ [gY (aZ.wrap v) (8*k)]) (by omega) (by rw[af,aP];omega);have c1:y.length+1<=140737488355328:=by omega
  have C:(0:Int)<=((k+1:Nat):Int)-1:=by omega
  have O:aZ.wrap (((k+1:Nat):Int)-1)=(k:Int):=by rw[cn];omega
  have F:ai.wrap (8*(((k+1:Nat):Int)-1))=((8*k:Nat):Int):=wZ (by omega)
  have E:aZ.wrap (((8*k:Nat):Int))=((8*k:Nat):Int):=by rw[cn];omega
  have H:aZ.wrap (8*(k:Int))=((8*k:Nat):Int):=by rw[cn];omega
  have L:ai.wrap (((k+1:Nat):Int)-1-1)=(k:Int)-1:=wZ (by omega)
  have J:min (8*k) 64=8*k:=by omega
  rw[ax,dC]at z;rw[al];unfold gY at z;simp only[go_sem,Q0,Q1,Q2,Q3,Q4,Q5,Q6,Q7,Q8,Q9,Qa,Qb,Qc,Qd,Qe,Qf,Qg,Qh,Qi,Qj,Qk,reduceCtorEq,reduceIte,c1,C,O,F,E,H,L,J,be,gY,z]
theorem f48(B:t6)(k:Nat)(v:Int)(C:1<=k)(y:k<=8)(E:B.length<=10000000000000):
 call T 48 [.byt B .no,.int .i64 k,.int .i64 v] [] 0=some ⟨.byt (B++be k (aZ.wrap v)) (.id 60),[],[60]⟩:=by
 have g:=l48 v k B y (by omega);have c1:¬(k:Int)<1:=by omega
 have c2:¬(8:Int)<k:=by omega
 have z:ai.wrap ((k:Int)-1)=(k:Int)-1:=w64 (by omega) (by omega);have h:B.length<=140737488355328:=by omega
 rw[au xlk];simp only[go_sem,Q0,Q1,Q2,Q3,Q4,Q5,Q6,Q7,Q8,Q9,Qa,Qb,Qc,Qd,Qe,Qf,Qg,Qh,Qi,Qj,Qk,reduceCtorEq,reduceIte,c1,c2,z,h,g]
theorem l57(v:Int):∀(k:Nat)(y:t6),k<=8->y.length+k<=100000000000000->
 run T (.loop NH) ⟨[(2,.int .i64 v),(7,.byt y (.id 107)),(8,.int .i64 ((k:Int)-1))],[],[107]⟩=
 some (.x 0,⟨[(7,.byt (y++be k (aZ.wrap v)) (.id 107))],[],[107]⟩):=by
 intro k;induction k with
 |zero=>
  intro y F h;rw[al];have C:¬(0:Int)<=((0:Nat):Int)-1:=by omega
  simp only[go_sem,Q0,Q1,Q2,Q3,Q4,Q5,Q6,Q7,Q8,Q9,Qa,Qb,Qc,Qd,Qe,Qf,Qg,Qh,Qi,Qj,Qk,reduceCtorEq,reduceIte,C,be,bf]
 |succ k L=>
  intro y F h;have z:=L (y++ [gY (aZ.wrap v) (8*k)]) (by omega) (by rw[af,aP];omega);have c1:y.length+1<=140737488355328:=by omega
  have C:(0:Int)<=((k+1:Nat):Int)-1:=by omega
  have J:aZ.wrap (((k+1:Nat):Int)-1)=(k:Int):=by rw[cn];omega
  have E:aZ.wrap (8*(k:Int))=((8*k:Nat):Int):=by rw[cn];omega
  have I:ai.wrap (((k+1:Nat):Int)-1-1)=(k:Int)-1:=wZ (by omega)
  have H:min (8*k) 64=8*k:=by omega
  rw[ax,dC]at z;rw[al];unfold gY at z;simp only[go_sem,Q0,Q1,Q2,Q3,Q4,Q5,Q6,Q7,Q8,Q9,Qa,Qb,Qc,Qd,Qe,Qf,Qg,Qh,Qi,Qj,Qk,reduceCtorEq,reduceIte,c1,C,J,E,I,H,be,gY,z]
theorem f57(B:t6)(k:Nat)(v:Int)(C:1<=k)(y:k<=8)(E:B.length<=10000000000000):
 call T 57 [.byt B .no,.int .i64 k,.int .i64 v] [] 0=some ⟨.byt (B++be k (aZ.wrap v)) (.id 60),[],[60]⟩:=by
 have g:=l57 v k B y (by omega);have c1:¬(k:Int)<1:=by omega
 have c2:¬(8:Int)<k:=by omega
 have z:ai.wrap ((k:Int)-1)=(k:Int)-1:=w64 (by omega) (by omega);have h:B.length<=140737488355328:=by omega
 rw[au xlb];simp only[go_sem,Q0,Q1,Q2,Q3,Q4,Q5,Q6,Q7,Q8,Q9,Qa,Qb,Qc,Qd,Qe,Qf,Qg,Qh,Qi,Qj,Qk,reduceCtorEq,reduceIte,c1,c2,z,h,g]
def jo(B X:t6):t6:=B++be 2 (aZ.wrap (X.take 65535).length)++X.take 65535
theorem f56(B X:t6)(H:B.length<=1000000000000)(hX:X.length<=1000000000000):call T 56 [.byt B .no,.byt X .no] [] 0=some ⟨.byt (jo B X) (.id 60),[],[60]⟩:=by
 have g:=f57 B 2 (X.take 65535).length (by omega) (by omega) (by omega);rw[c2]at g;rw[au xlc];have F:(X.take 65535).length<=65535:=by rw[aA];omega
 have y:(B++be 2 (aZ.wrap (X.take 65535).length)).length+(X.take 65535).length<=140737488355328:=by rw[af,eG];omega
 by_cases h:(65535:Int)<X.length
 ·have C:(65535:Int)<=X.length:=by omega
  have E:65535<=X.length:=by omega
  simp only[af]at y;simp only[go_sem,Q0,Q1,Q2,Q3,Q4,Q5,Q6,Q7,Q8,Q9,Qa,Qb,Qc,Qd,Qe,Qf,Qg,Qh,Qi,Qj,Qk,reduceCtorEq,reduceIte,h,C,E,g,xdd,jo,y,ax]
 ·have z:X.take 65535=X:=bT (by omega)
  rw[z]at g y;simp only[af]at y;simp only[go_sem,Q0,Q1,Q2,Q3,Q4,Q5,Q6,Q7,Q8,Q9,Qa,Qb,Qc,Qd,Qe,Qf,Qg,Qh,Qi,Qj,Qk,reduceCtorEq,reduceIte,h,g,xdd,jo,z,y,ax]
theorem f49(B X:t6)(J:B.length<=1000000000000)(hX:X.length<=1000000000000):call T 49 [.byt B .no,.byt X .no] [] 0=some ⟨.byt (jo B X) (.id 60),[],[60]⟩:=by
 have g:=f48 B 2 (X.take 65535).length (by omega) (by omega) (by omega);rw[c2]at g;rw[au xlj];have I:(X.take 65535).length<=65535:=by rw[aA];omega
 have y:(B++be 2 (aZ.wrap (X.take 65535).length)).length+(X.take 65535).length<=140737488355328:=by rw[af,eG];omega
 simp only[af]at y
 by_cases h:(65535:Int)<X.length
 ·have E:min (X.length:Int) 65535=65535:=by omega
  have H:(65535:Int)<=X.length:=by omega
  have F:65535<=X.length:=by omega
  simp only[go_sem,Q0,Q1,Q2,Q3,Q4,Q5,Q6,Q7,Q8,Q9,Qa,Qb,Qc,Qd,Qe,Qf,Qg,Qh,Qi,Qj,Qk,reduceCtorEq,reduceIte,h,H,F,g,qk,jo,y,ax]
 ·have E:min (X.length:Int) 65535=X.length:=by omega
  have C:X.take 65535=X:=bT (by omega);have z:X.take X.length=X:=bB;rw[C]at g y;simp only[go_sem,Q0,Q1,Q2,Q3,Q4,Q5,Q6,Q7,Q8,Q9,Qa,Qb,Qc,Qd,Qe,Qf,Qg,Qh,Qi,Qj,Qk,reduceCtorEq,reduceIte,h,z,g,qk,jo,C,y,ax]
def frame(t:Int)(X:t6):t6:=dj t::(w4 (X.length:Int)++X)
theorem xkz(t:Int)(X:t6)(hX:X.length<=1000000000):call T 112 [.int .i64 t,.lst 1 [[.byt X .no]] .no] [] 0=some ⟨.byt (frame t X) .no,[],[]⟩:=by
 have k1:ai.wrap 1=1:=rfl;have y:av.wrap (X.length:Int)=X.length:=by rw[IntKind.wrap_u32];omega
 have h:1+4+X.length<=140737488355328:=by omega
 have c5:5+X.length<=140737488355328:=by omega
 rw[au xgF];simp only[go_sem,Q0,Q1,Q2,Q3,Q4,Q5,Q6,Q7,Q8,Q9,Qa,Qb,Qc,Qd,Qe,Qf,Qg,Qh,Qi,Qj,Qk,reduceCtorEq,reduceIte,ay,bl,c1,k1];rw[al];simp only[go_sem,Q0,Q1,Q2,Q3,Q4,Q5,Q6,Q7,Q8,Q9,Qa,Qb,Qc,Qd,Qe,Qf,Qg,Qh,Qi,Qj,Qk,reduceCtorEq,reduceIte,ay,bl,c1,k1,y,m24,m16,m8,h,c5];rw[al];simp only[go_sem,Q0,Q1,Q2,Q3,Q4,Q5,Q6,Q7,Q8,Q9,Qa,Qb,Qc,Qd,Qe,Qf,Qg,Qh,Qi,Qj,Qk,reduceCtorEq,reduceIte,ay,bl,c1,k1,y,m24,m16,m8,h,c5,frame,w4,gY]
 trace_state
theorem Dc(t:Int)(X:t6):(frame t X).length=X.length+5:=by simp[frame,w4]
def DZ(t:Int)(X:t6):t6:=sha (frame t X)
theorem f58(t:Int)(X:t6)(hX:X.length<=1000000000):call T 58 [.int .i64 t,.lst 1 [[.byt X .no]] .no] [] 0=some ⟨.byt (DZ t X) .no,[],[]⟩:=by have y:=xkz t X hX;have h:=f90 (frame t X) (by rw[Dc];omega);rw[au xla];simp only[go_sem,Q0,Q1,Q2,Q3,Q4,Q5,Q6,Q7,Q8,Q9,Qa,Qb,Qc,Qd,Qe,Qf,Qg,Qh,Qi,Qj,Qk,reduceCtorEq,reduceIte,y,h,xg5,sT,DZ]
theorem xc3(x:Int)(n m:Nat)(h:n+m=32):call T 170 [.int .u32 x,.int .u64 n] [] 0=some ⟨.int .u32 (rr x m),[],[]⟩:=by
 rw[au xf9];have e:aZ.wrap (32-(n:Int))=(m:Int):=by rw[cn];omega
 have y:min n 32=n:=by omega
 have C:min m 32=m:=by omega
 have z:32-m=n:=by omega
 simp only[go_sem,Q0,Q1,Q2,Q3,Q4,Q5,Q6,Q7,Q8,Q9,Qa,Qb,Qc,Qd,Qe,Qf,Qg,Qh,Qi,Qj,Qk,reduceCtorEq,reduceIte,e,y,C,rr,z,kW]
def nw1(B:t6)(L:List Int)(t:Nat):Int:=
 if t<16 then wd B t else
  rr (bt .xor .u32 (bt .xor .u32 (bt .xor .u32 (L.getD (t-3) 0) (L.getD (t-8) 0)) (L.getD (t-14) 0)) (L.getD (t-16) 0)) 31
def Wl1(B:t6):Nat->List Int
 |0=>ao 80 0
 |t+1=>(Wl1 B t).set t (nw1 B (Wl1 B t) t)
theorem o7(B:t6)(t:Nat):(Wl1 B t).length=80:=by
 induction t with
 |zero=>simp[Wl1]
 |succ n h=>simp[Wl1,h]
theorem p1(x:Int):call T 157 [.int .u32 x,.int .i64 1] [] 0=some ⟨.int .u32 (rr x 31),[],[]⟩:=qd x 1 31 (by omega) (by decide)
theorem p5(x:Int):call T 157 [.int .u32 x,.int .i64 5] [] 0=some ⟨.int .u32 (rr x 27),[],[]⟩:=qd x 5 27 (by omega) (by decide)
theorem p30(x:Int):call T 157 [.int .u32 x,.int .i64 30] [] 0=some ⟨.int .u32 (rr x 2),[],[]⟩:=qd x 30 2 (by omega) (by decide)
theorem z1(x:Int):call T 170 [.int .u32 x,.int .u64 1] [] 0=some ⟨.int .u32 (rr x 31),[],[]⟩:=xc3 x 1 31 rfl
theorem z5(x:Int):call T 170 [.int .u32 x,.int .u64 5] [] 0=some ⟨.int .u32 (rr x 27),[],[]⟩:=xc3 x 5 27 rfl
theorem z30(x:Int):call T 170 [.int .u32 x,.int .u64 30] [] 0=some ⟨.int .u32 (rr x 2),[],[]⟩:=xc3 x 30 2 rfl
theorem xfC(B:t6)(O:aC)(hB:B.length=64):∀(n t:Nat),80-t=n->t<=80->
 run T (.loop xS) ⟨[(0,.ptr 0 0),(1,.byt B .no),(4,.ptr 104 0),(14,.int .i64 t)],[(0,O),(104,.arr 1 (ws (Wl1 B t)))],[]⟩=
 some (.x 0,⟨[(0,.ptr 0 0),(4,.ptr 104 0)],[(0,O),(104,.arr 1 (ws (Wl1 B 80)))],[]⟩):=by
 intro n;induction n with
 |zero=>
  intro t h0 h1;have hi:t=80:=by omega
  subst hi;rw[al];simp only[c80,go_sem,Q0,Q1,Q2,Q3,Q4,Q5,Q6,Q7,Q8,Q9,Qa,Qb,Qc,Qd,Qe,Qf,Qg,Qh,Qi,Qj,Qk,reduceCtorEq,reduceIte]
 |succ n ih=>
  intro t h0 h1;have h:=ih (t+1) (by omega) (by omega);have W:=cA t (by omega);have z:(t:Int)<80:=by omega
  have Q:=o7 B t;have U:=dp (Wl1 B t);have hn:t<80:=by omega
  have Z:Wl1 B (t+1)=(Wl1 B t).set t (nw1 B (Wl1 B t) t):=rfl;rw[al]
  by_cases C:t<16
  ·have g:=xij B t (by omega) (by omega)
   have y:(t:Int)<16:=by omega
   have hx:nw1 B (Wl1 B t) t=wd B t:=by unfold nw1;rw[if_pos C]
   rw[Z,hx]at h;simp only[go_sem,Q0,Q1,Q2,Q3,Q4,Q5,Q6,Q7,Q8,Q9,Qa,Qb,Qc,Qd,Qe,Qf,Qg,Qh,Qi,Qj,Qk,reduceCtorEq,reduceIte,z,y,W,g,Q,U,Yx,hn,kJ,h]
  ·have y:¬(t:Int)<16:=by omega
   have a3:ai.wrap ((t:Int)-3)=((t-3:Nat):Int):=wZ (by omega)
   have a8:ai.wrap ((t:Int)-8)=((t-8:Nat):Int):=wZ (by omega)
   have H:ai.wrap ((t:Int)-14)=((t-14:Nat):Int):=wZ (by omega)
   have L:ai.wrap ((t:Int)-16)=((t-16:Nat):Int):=wZ (by omega)
   have b3:t-3<80:=by omega
   have gY:t-8<80:=by omega
   have I:t-14<80:=by omega
   have J:t-16<80:=by omega
   have d3:=bV (Wl1 B t) (t-3) (by omega);have d8:=bV (Wl1 B t) (t-8) (by omega);have E:=bV (Wl1 B t) (t-14) (by omega);have F:=bV (Wl1 B t) (t-16) (by omega);rw[Z]at h;unfold nw1 at h;rw[if_neg C]at h;simp only[go_sem,Q0,Q1,Q2,Q3,Q4,Q5,Q6,Q7,Q8,Q9,Qa,Qb,Qc,Qd,Qe,Qf,Qg,Qh,Qi,Qj,Qk,reduceCtorEq,reduceIte,z,y,W,Q,U,qw,hn,a3,a8,H,L,b3,gY,I,J,d3,d8,E,F,p1,kJ,h]
def ff(t:Nat)(b c d:Int):Int:=
 if t<20 then bt .xor .u32 (bt .and .u32 b c) (bt .and .u32 (bt .xor .u32 (if av.signed=true then-1 else av.max) b) d)
 else if t<40 then bt .xor .u32 (bt .xor .u32 b c) d
 else if t<60 then bt .xor .u32 (bt .xor .u32 (bt .and .u32 b c) (bt .and .u32 b d)) (bt .and .u32 c d)
 else bt .xor .u32 (bt .xor .u32 b c) d
def kk(t:Nat):Int:=if t<20 then 1518500249 else if t<40 then 1859775393 else if t<60 then 2400959708 else 3395469782
def Gr(t:Nat)(w:Int)(s:List Int):List Int:=
 [av.wrap (av.wrap (av.wrap (av.wrap (rr (s.getD 0 0) 27+ff t (s.getD 1 0) (s.getD 2 0) (s.getD 3 0))+s.getD 4 0)+kk t)+w),s.getD 0 0,rr (s.getD 1 0) 2,s.getD 2 0,s.getD 3 0]
def bY(W:List Int)(h:List Int):Nat->List Int
 |0=>h
 |t+1=>Gr t (W.getD t 0) (bY W h t)
theorem jS(W h:List Int)(y:h.length=5)(t:Nat):(bY W h t).length=5:=by
 cases t<;>simp[bY,Gr,y]
theorem xag(W:List Int)(O:aC)(F:W.length=80)(t:Nat)(hn:t<80)(hd:t/20=0)(a b c d e:Int):
 run T (.loop fK) ⟨[(0,.ptr 0 0),(4,.ptr 104 0),(6,.int .u32 a),(7,.int .u32 b),(8,.int .u32 c),(9,.int .u32 d),(10,.int .u32 e),(67,.int .i64 t)],[(0,O),(104,.arr 1 (ws W))],[]⟩=
 run T (.loop fK) ⟨[(0,.ptr 0 0),(4,.ptr 104 0),(6,.int .u32 (av.wrap (av.wrap (av.wrap (av.wrap (rr a 27+bt .xor .u32 (bt .and .u32 b c) (bt .and .u32 (bt .xor .u32 (if av.signed=true then-1 else av.max) b) d))+e)+1518500249)+W.getD t 0))),(7,.int .u32 a),(8,.int .u32 (rr b 2)),(9,.int .u32 c),(10,.int .u32 d),(67,.int .i64 ((t+1:Nat):Int))],[(0,O),(104,.arr 1 (ws W))],[]⟩:=by
 have J:=cA t (by omega);have y:(t:Int)<80:=by omega
 have z:=dp W;have I:=bV W t (by omega)
 have H:(t:Int).tdiv 20=0:=by
  have h:(t:Int).tdiv 20=((t/20:Nat):Int):=by rw[Int.tdiv_eq_ediv_of_nonneg (by omega)];omega
  rw[h,hd];rfl
 have C:ai.wrap 0=0:=rfl;have k1:ai.wrap 1=1:=rfl;have k2:ai.wrap 2=2:=rfl;have E:ai.wrap 3=3:=rfl;rw[al];simp only[go_sem,Q0,Q1,Q2,Q3,Q4,Q5,Q6,Q7,Q8,Q9,Qa,Qb,Qc,Qd,Qe,Qf,Qg,Qh,Qi,Qj,Qk,reduceCtorEq,reduceIte,y,J,z,F,qw,hn,H,C,k1,k2,E,I,p5,p30]
theorem xaf(W:List Int)(O:aC)(F:W.length=80)(t:Nat)(hn:t<80)(hd:t/20=1)(a b c d e:Int):
 run T (.loop fK) ⟨[(0,.ptr 0 0),(4,.ptr 104 0),(6,.int .u32 a),(7,.int .u32 b),(8,.int .u32 c),(9,.int .u32 d),(10,.int .u32 e),(67,.int .i64 t)],[(0,O),(104,.arr 1 (ws W))],[]⟩=
 run T (.loop fK) ⟨[(0,.ptr 0 0),(4,.ptr 104 0),(6,.int .u32 (av.wrap (av.wrap (av.wrap (av.wrap (rr a 27+bt .xor .u32 (bt .xor .u32 b c) d)+e)+1859775393)+W.getD t 0))),(7,.int .u32 a),(8,.int .u32 (rr b 2)),(9,.int .u32 c),(10,.int .u32 d),(67,.int .i64 ((t+1:Nat):Int))],[(0,O),(104,.arr 1 (ws W))],[]⟩:=by
 have J:=cA t (by omega);have y:(t:Int)<80:=by omega
 have z:=dp W;have I:=bV W t (by omega)
 have H:(t:Int).tdiv 20=1:=by
  have h:(t:Int).tdiv 20=((t/20:Nat):Int):=by rw[Int.tdiv_eq_ediv_of_nonneg (by omega)];omega
  rw[h,hd];rfl
 have C:ai.wrap 0=0:=rfl;have k1:ai.wrap 1=1:=rfl;have k2:ai.wrap 2=2:=rfl;have E:ai.wrap 3=3:=rfl;rw[al];simp only[go_sem,Q0,Q1,Q2,Q3,Q4,Q5,Q6,Q7,Q8,Q9,Qa,Qb,Qc,Qd,Qe,Qf,Qg,Qh,Qi,Qj,Qk,reduceCtorEq,reduceIte,y,J,z,F,qw,hn,H,C,k1,k2,E,I,p5,p30]
theorem xae(W:List Int)(O:aC)(F:W.length=80)(t:Nat)(hn:t<80)(hd:t/20=2)(a b c d e:Int):
 run T (.loop fK) ⟨[(0,.ptr 0 0),(4,.ptr 104 0),(6,.int .u32 a),(7,.int .u32 b),(8,.int .u32 c),(9,.int .u32 d),(10,.int .u32 e),(67,.int .i64 t)],[(0,O),(104,.arr 1 (ws W))],[]⟩=
 run T (.loop fK) ⟨[(0,.ptr 0 0),(4,.ptr 104 0),(6,.int .u32 (av.wrap (av.wrap (av.wrap (av.wrap (rr a 27+bt .xor .u32 (bt .xor .u32 (bt .and .u32 b c) (bt .and .u32 b d)) (bt .and .u32 c d))+e)+2400959708)+W.getD t 0))),(7,.int .u32 a),(8,.int .u32 (rr b 2)),(9,.int .u32 c),(10,.int .u32 d),(67,.int .i64 ((t+1:Nat):Int))],[(0,O),(104,.arr 1 (ws W))],[]⟩:=by
 have J:=cA t (by omega);have y:(t:Int)<80:=by omega
 have z:=dp W;have I:=bV W t (by omega)
 have H:(t:Int).tdiv 20=2:=by
  have h:(t:Int).tdiv 20=((t/20:Nat):Int):=by rw[Int.tdiv_eq_ediv_of_nonneg (by omega)];omega
  rw[h,hd];rfl
 have C:ai.wrap 0=0:=rfl;have k1:ai.wrap 1=1:=rfl;have k2:ai.wrap 2=2:=rfl;have E:ai.wrap 3=3:=rfl;rw[al];simp only[go_sem,Q0,Q1,Q2,Q3,Q4,Q5,Q6,Q7,Q8,Q9,Qa,Qb,Qc,Qd,Qe,Qf,Qg,Qh,Qi,Qj,Qk,reduceCtorEq,reduceIte,y,J,z,F,qw,hn,H,C,k1,k2,E,I,p5,p30]
theorem xad(W:List Int)(O:aC)(F:W.length=80)(t:Nat)(hn:t<80)(hd:t/20=3)(a b c d e:Int):
 run T (.loop fK) ⟨[(0,.ptr 0 0),(4,.ptr 104 0),(6,.int .u32 a),(7,.int .u32 b),(8,.int .u32 c),(9,.int .u32 d),(10,.int .u32 e),(67,.int .i64 t)],[(0,O),(104,.arr 1 (ws W))],[]⟩=
 run T (.loop fK) ⟨[(0,.ptr 0 0),(4,.ptr 104 0),(6,.int .u32 (av.wrap (av.wrap (av.wrap (av.wrap (rr a 27+bt .xor .u32 (bt .xor .u32 b c) d)+e)+3395469782)+W.getD t 0))),(7,.int .u32 a),(8,.int .u32 (rr b 2)),(9,.int .u32 c),(10,.int .u32 d),(67,.int .i64 ((t+1:Nat):Int))],[(0,O),(104,.arr 1 (ws W))],[]⟩:=by
 have J:=cA t (by omega);have y:(t:Int)<80:=by omega
 have z:=dp W;have I:=bV W t (by omega)
 have H:(t:Int).tdiv 20=3:=by
  have h:(t:Int).tdiv 20=((t/20:Nat):Int):=by rw[Int.tdiv_eq_ediv_of_nonneg (by omega)];omega
  rw[h,hd];rfl
 have C:ai.wrap 0=0:=rfl;have k1:ai.wrap 1=1:=rfl;have k2:ai.wrap 2=2:=rfl;have E:ai.wrap 3=3:=rfl;rw[al];simp only[go_sem,Q0,Q1,Q2,Q3,Q4,Q5,Q6,Q7,Q8,Q9,Qa,Qb,Qc,Qd,Qe,Qf,Qg,Qh,Qi,Qj,Qk,reduceCtorEq,reduceIte,y,J,z,F,qw,hn,H,C,k1,k2,E,I,p5,p30]
theorem xfB(W h:List Int)(O:aC)(H:W.length=80)(U:h.length=5):∀(n t:Nat),80-t=n->t<=80->
 run T (.loop fK) ⟨[(0,.ptr 0 0),(4,.ptr 104 0),(6,.int .u32 ((bY W h t).getD 0 0)),(7,.int .u32 ((bY W h t).getD 1 0)),(8,.int .u32 ((bY W h t).getD 2 0)),(9,.int .u32 ((bY W h t).getD 3 0)),(10,.int .u32 ((bY W h t).getD 4 0)),(67,.int .i64 t)],[(0,O),(104,.arr 1 (ws W))],[]⟩=
 some (.x 2,⟨[(0,.ptr 0 0),(6,.int .u32 ((bY W h 80).getD 0 0)),(7,.int .u32 ((bY W h 80).getD 1 0)),(8,.int .u32 ((bY W h 80).getD 2 0)),(9,.int .u32 ((bY W h 80).getD 3 0)),(10,.int .u32 ((bY W h 80).getD 4 0))],[(0,O),(104,.arr 1 (ws W))],[]⟩):=by
 intro n;induction n with
 |zero=>
  intro t J I;have hi:t=80:=by omega
  subst hi;rw[al];simp only[c80,go_sem,Q0,Q1,Q2,Q3,Q4,Q5,Q6,Q7,Q8,Q9,Qa,Qb,Qc,Qd,Qe,Qf,Qg,Qh,Qi,Qj,Qk,reduceCtorEq,reduceIte]
 |succ n Q=>
  intro t J I;have y:=Q (t+1) (by omega) (by omega);have L:bY W h (t+1)=Gr t (W.getD t 0) (bY W h t):=rfl;rw[L]at y;simp only[Gr,bF,bQ]at y
  by_cases z:t<20
  ·have F:kk t=1518500249:=by unfold kk;rw[if_pos z]
   unfold ff at y;rw[if_pos z,F]at y;rw[xag W O H t (by omega) (by omega)];rw[y]
  ·by_cases C:t<40
   ·have F:kk t=1859775393:=by unfold kk;rw[if_neg z,if_pos C]
    unfold ff at y;rw[if_neg z,if_pos C,F]at y;rw[xaf W O H t (by omega) (by omega)];rw[y]
   ·by_cases E:t<60
    ·have F:kk t=2400959708:=by unfold kk;rw[if_neg z,if_neg C,if_pos E]
     unfold ff at y;rw[if_neg z,if_neg C,if_pos E,F]at y;rw[xae W O H t (by omega) (by omega)];rw[y]
    ·have F:kk t=3395469782:=by unfold kk;rw[if_neg z,if_neg C,if_neg E]
     unfold ff at y;rw[if_neg z,if_neg C,if_neg E,F]at y;rw[xad W O H t (by omega) (by omega)];rw[y]
theorem ws5(a b c d e:Int):ws [a,b,c,d,e]=[[.int .u32 a],[.int .u32 b],[.int .u32 c],[.int .u32 d],[.int .u32 e]]:=rfl
def nA(h:List Int)(B:t6):List Int:=sR h (bY (Wl1 B 80) h 80)
theorem mJ(h:List Int)(B:t6)(y:h.length=5):(nA h B).length=5:=by unfold nA;rw[vg _ _ (by rw[jS _ _ y,y];exact aN 5),y]
theorem DT(l:List Int)(h:l.length=5):∃a b c d e,l=[a,b,c,d,e]:=by
 match l,h with
 |[a,b,c,d,e],_=>exact⟨a,b,c,d,e,rfl⟩
theorem Yl(a b c d e p q r s t:Int):sR [a,b,c,d,e] [p,q,r,s,t]=[av.wrap (a+p),av.wrap (b+q),av.wrap (c+r),av.wrap (d+s),av.wrap (e+t)]:=rfl
theorem xkt(h:List Int)(B:t6)(C:h.length=5)(I:B.length=64):call T 132 [.ptr 0 0,.byt B .no] [.arr 1 (ws h)] 0=some ⟨.tup [],[(0,.arr 1 (ws (nA h B)))],[]⟩:=by
 have z:=xfC B (.arr 1 (ws h)) I _ 0 rfl (by omega);have y:=xfB (Wl1 B 80) h (.arr 1 (ws h)) (o7 B 80) C _ 0 rfl (by omega);have F:Wl1 B 0=ao 80 0:=by rw[Wl1]
 have E:bY (Wl1 B 80) h 0=h:=by rw[bY]
 have H:=jS (Wl1 B 80) h C 80;rw[F,<-sX]at z;rw[E]at y;simp only[aD]at z y;unfold nA;generalize bY (Wl1 B 80) h 80=s at*;generalize Wl1 B 80=W at*;clear F E;obtain⟨a0,a1,a2,Q,a4,rfl⟩:=DT h C;obtain⟨L,O,J,U,Z,rfl⟩:=DT s H;rw[au xgr];simp only[ws5,bF,bQ]at z y;simp only[go_sem,Q0,Q1,Q2,Q3,Q4,Q5,Q6,Q7,Q8,Q9,Qa,Qb,Qc,Qd,Qe,Qf,Qg,Qh,Qi,Qj,Qk,reduceCtorEq,reduceIte,ws5,Yl,z,y,ay,bl,c5]
def dZ(h:List Int)(X:t6):Nat->List Int
 |0=>h
 |n+1=>dZ (nA h (X.take 64)) (X.drop 64) n
theorem jX(n:Nat):∀(h:List Int)(X:t6),h.length=5->(dZ h X n).length=5:=by
 induction n with
 |zero=>intro h X y;exact y
 |succ n z=>intro h X y;exact z _ _ (mJ h _ y)
def H1:List Int:=[1732584193,4023233417,2562383102,271733878,3285377520]
def lg(B:t6):t6:=sp (dZ H1 (ee B) ((ee B).length/64))
theorem uc(B:t6):(lg B).length=20:=by unfold lg;rw[Gk,jX _ _ _ rfl]
theorem xjA:∀(n:Nat)(h:List Int)(X:t6),h.length=5->X.length=64*n->X.length<=1000000000000->
 run T (.loop Nr) ⟨[(5,.ptr 105 0),(6,.byt X .no)],[(105,.arr 1 (ws h))],[]⟩=
 some (.x 1,⟨[(5,.ptr 105 0)],[(105,.arr 1 (ws (dZ h X n)))],[]⟩):=by
 intro n;induction n with
 |zero=>
  intro h X z hX E;rw[al];have F:¬(0:Int)<X.length:=by omega
  simp only[go_sem,Q0,Q1,Q2,Q3,Q4,Q5,Q6,Q7,Q8,Q9,Qa,Qb,Qc,Qd,Qe,Qf,Qg,Qh,Qi,Qj,Qk,reduceCtorEq,reduceIte,F,dZ]
 |succ n J=>
  intro h X z hX E;have y:=J (nA h (X.take 64)) (X.drop 64) (mJ h _ z) (by rw[aL];omega) (by rw[aL];omega);have g:=xkt h (X.take 64) z (by rw[aA];omega);have C:(0:Int)<X.length:=by omega
  have I:(64:Int)<=X.length:=by omega
  have H:64<=X.length:=by omega
  rw[al];simp only[go_sem,Q0,Q1,Q2,Q3,Q4,Q5,Q6,Q7,Q8,Q9,Qa,Qb,Qc,Qd,Qe,Qf,Qg,Qh,Qi,Qj,Qk,reduceCtorEq,reduceIte,C,I,H,g,xgZ,bB,y,dZ]
theorem xc1(B:t6)(J:B.length<=100000000000):call T 90 [.int .i64 0,.byt B .no] [] 0=some ⟨.byt (lg B) .no,[],[]⟩:=by
 have g0:=xio B (by omega);have H:=j9 B;have hz:zn (B.length+1)<64:=by unfold zn;omega
 have I:=lS B;have z:=xjA ((ee B).length/64) H1 (ee B) rfl (by omega) (by omega);have h:=jX ((ee B).length/64) H1 (ee B) rfl;have E:=xin (dZ H1 (ee B) ((ee B).length/64)) (by omega);have c8:((5:Nat):Int)=5:=rfl;have y:=dp (dZ H1 (ee B) ((ee B).length/64));have F:ws H1=[[.int .u32 1732584193],[.int .u32 4023233417],[.int .u32 2562383102],[.int .u32 271733878],[.int .u32 3285377520]]:=rfl;rw[F]at z;rw[au xiG];unfold lg;generalize dZ H1 (ee B) ((ee B).length/64)=b at*;have C:dn 5 (ws b)=ws b:=bT (by rw[y,h];exact aN 5);simp only[go_sem,Q0,Q1,Q2,Q3,Q4,Q5,Q6,Q7,Q8,Q9,Qa,Qb,Qc,Qd,Qe,Qf,Qg,Qh,Qi,Qj,Qk,reduceCtorEq,reduceIte,g0,z,E,YC,YB,y,h,c8,C]
theorem xfx(X:t6)(a:Nat)(h:f8)(Q:a+64<=X.length)(hX:X.length<=1000000000000):∀(n t:Nat),80-t=n->t<=80->
 run T (.loop rS) ⟨[(3,.lst 1 h .clip),(4,.byt X .no),(5,.int .i64 a),(6,.ptr 106 0),(7,.int .i64 t)],[(106,.arr 1 (ws (Wl1 (bk X a) t)))],[]⟩=
 some (.x 2,⟨[(3,.lst 1 h .clip),(4,.byt X .no),(5,.int .i64 a),(6,.ptr 106 0)],[(106,.arr 1 (ws (Wl1 (bk X a) 80)))],[]⟩):=by
 intro n;induction n with
 |zero=>
  intro t h0 h1;have hi:t=80:=by omega
  subst hi;rw[al];simp only[c80,go_sem,Q0,Q1,Q2,Q3,Q4,Q5,Q6,Q7,Q8,Q9,Qa,Qb,Qc,Qd,Qe,Qf,Qg,Qh,Qi,Qj,Qk,reduceCtorEq,reduceIte]
 |succ n ih=>
  intro t h0 h1;have y:=ih (t+1) (by omega) (by omega);have e1:=cA t (by omega);have E:(t:Int)<80:=by omega
  have hl:=o7 (bk X a) t;have hw:=dp (Wl1 (bk X a) t);have hn:t<80:=by omega
  have hs:Wl1 (bk X a) (t+1)=(Wl1 (bk X a) t).set t (nw1 (bk X a) (Wl1 (bk X a) t) t):=rfl;have a1:ai.wrap ((a:Int)+64)=((a+64:Nat):Int):=wZ (by omega)
  have O:a<=a+64:=by omega
  rw[al]
  by_cases F:t<16
  ·have g:=xiq (bk X a) t (by rw[tB X a Q];omega) (by rw[tB X a Q];omega)
   have C:(t:Int)<16:=by omega
   have hx:nw1 (bk X a) (Wl1 (bk X a) t) t=wd (bk X a) t:=by unfold nw1;rw[if_pos F]
   rw[hs,hx]at y;generalize hb:Wl1 (bk X a) t=L at*;generalize hc:wd (bk X a) t=z at*;unfold bk at g;simp only[go_sem,Q0,Q1,Q2,Q3,Q4,Q5,Q6,Q7,Q8,Q9,Qa,Qb,Qc,Qd,Qe,Qf,Qg,Qh,Qi,Qj,Qk,reduceCtorEq,reduceIte,E,C,e1,a1,Q,O,g,hl,hw,YI,hn,kJ,y]
  ·have C:¬(t:Int)<16:=by omega
   have O:ai.wrap ((t:Int)-3)=((t-3:Nat):Int):=wZ (by omega)
   have a8:ai.wrap ((t:Int)-8)=((t-8:Nat):Int):=wZ (by omega)
   have H:ai.wrap ((t:Int)-14)=((t-14:Nat):Int):=wZ (by omega)
   have Z:ai.wrap ((t:Int)-16)=((t-16:Nat):Int):=wZ (by omega)
   have b3:t-3<80:=by omega
   have gY:t-8<80:=by omega
   have U:t-14<80:=by omega
   have W:t-16<80:=by omega
   rw[hs]at y;unfold nw1 at y;rw[if_neg F]at y;generalize hb:Wl1 (bk X a) t=L at*;have d3:=bV L (t-3) (by omega);have d8:=bV L (t-8) (by omega);have I:=bV L (t-14) (by omega);have J:=bV L (t-16) (by omega);simp only[go_sem,Q0,Q1,Q2,Q3,Q4,Q5,Q6,Q7,Q8,Q9,Qa,Qb,Qc,Qd,Qe,Qf,Qg,Qh,Qi,Qj,Qk,reduceCtorEq,reduceIte,E,C,e1,hl,hw,wU,hn,O,a8,H,Z,b3,gY,U,W,d3,d8,I,J,z1,kJ,y]
theorem xac(W:List Int)(X Y:SV)(h:f8)(E:W.length=80)(t:Nat)(hn:t<80)(I:t<20)(a b c d e:Int):
 run T (.loop fJ) ⟨[(3,.lst 1 h .clip),(4,X),(5,Y),(6,.ptr 106 0),(8,.int .u32 a),(9,.int .u32 b),(10,.int .u32 c),(11,.int .u32 d),(12,.int .u32 e),(13,.int .i64 t)],[(106,.arr 1 (ws W))],[]⟩=
 run T (.loop fJ) ⟨[(3,.lst 1 h .clip),(4,X),(5,Y),(6,.ptr 106 0),(8,.int .u32 (av.wrap (av.wrap (av.wrap (av.wrap (rr a 27+bt .xor .u32 (bt .and .u32 b c) (bt .and .u32 (bt .xor .u32 (if av.signed=true then-1 else av.max) b) d))+e)+1518500249)+W.getD t 0))),(9,.int .u32 a),(10,.int .u32 (rr b 2)),(11,.int .u32 c),(12,.int .u32 d),(13,.int .i64 ((t+1:Nat):Int))],[(106,.arr 1 (ws W))],[]⟩:=by
 have H:=cA t (by omega);have y:(t:Int)<80:=by omega
 have z:=dp W;have F:=bV W t (by omega);have C:(t:Int)<20:=by omega
 rw[al];simp only[go_sem,Q0,Q1,Q2,Q3,Q4,Q5,Q6,Q7,Q8,Q9,Qa,Qb,Qc,Qd,Qe,Qf,Qg,Qh,Qi,Qj,Qk,reduceCtorEq,reduceIte,y,H,z,E,wU,hn,C,F,z5,z30]
theorem xab(W:List Int)(X Y:SV)(h:f8)(E:W.length=80)(t:Nat)(hn:t<80)(J:¬t<20)(I:t<40)(a b c d e:Int):
 run T (.loop fJ) ⟨[(3,.lst 1 h .clip),(4,X),(5,Y),(6,.ptr 106 0),(8,.int .u32 a),(9,.int .u32 b),(10,.int .u32 c),(11,.int .u32 d),(12,.int .u32 e),(13,.int .i64 t)],[(106,.arr 1 (ws W))],[]⟩=
 run T (.loop fJ) ⟨[(3,.lst 1 h .clip),(4,X),(5,Y),(6,.ptr 106 0),(8,.int .u32 (av.wrap (av.wrap (av.wrap (av.wrap (rr a 27+bt .xor .u32 (bt .xor .u32 b c) d)+e)+1859775393)+W.getD t 0))),(9,.int .u32 a),(10,.int .u32 (rr b 2)),(11,.int .u32 c),(12,.int .u32 d),(13,.int .i64 ((t+1:Nat):Int))],[(106,.arr 1 (ws W))],[]⟩:=by
 have H:=cA t (by omega);have y:(t:Int)<80:=by omega
 have z:=dp W;have F:=bV W t (by omega);have C:¬(t:Int)<20:=by omega
 have p1:(t:Int)<40:=by omega
 rw[al];simp only[go_sem,Q0,Q1,Q2,Q3,Q4,Q5,Q6,Q7,Q8,Q9,Qa,Qb,Qc,Qd,Qe,Qf,Qg,Qh,Qi,Qj,Qk,reduceCtorEq,reduceIte,y,H,z,E,wU,hn,C,p1,F,z5,z30]
theorem xaa(W:List Int)(X Y:SV)(h:f8)(E:W.length=80)(t:Nat)(hn:t<80)(O:¬t<20)(L:¬t<40)(J:t<60)(a b c d e:Int):
 run T (.loop fJ) ⟨[(3,.lst 1 h .clip),(4,X),(5,Y),(6,.ptr 106 0),(8,.int .u32 a),(9,.int .u32 b),(10,.int .u32 c),(11,.int .u32 d),(12,.int .u32 e),(13,.int .i64 t)],[(106,.arr 1 (ws W))],[]⟩=
 run T (.loop fJ) ⟨[(3,.lst 1 h .clip),(4,X),(5,Y),(6,.ptr 106 0),(8,.int .u32 (av.wrap (av.wrap (av.wrap (av.wrap (rr a 27+bt .xor .u32 (bt .xor .u32 (bt .and .u32 b c) (bt .and .u32 b d)) (bt .and .u32 c d))+e)+2400959708)+W.getD t 0))),(9,.int .u32 a),(10,.int .u32 (rr b 2)),(11,.int .u32 c),(12,.int .u32 d),(13,.int .i64 ((t+1:Nat):Int))],[(106,.arr 1 (ws W))],[]⟩:=by
 have H:=cA t (by omega);have y:(t:Int)<80:=by omega
 have z:=dp W;have F:=bV W t (by omega);have C:¬(t:Int)<20:=by omega
 have p1:¬(t:Int)<40:=by omega
 have I:(t:Int)<60:=by omega
 rw[al];simp only[go_sem,Q0,Q1,Q2,Q3,Q4,Q5,Q6,Q7,Q8,Q9,Qa,Qb,Qc,Qd,Qe,Qf,Qg,Qh,Qi,Qj,Qk,reduceCtorEq,reduceIte,y,H,z,E,wU,hn,C,p1,I,F,z5,z30]
theorem Z9(W:List Int)(X Y:SV)(h:f8)(E:W.length=80)(t:Nat)(hn:t<80)(O:¬t<20)(L:¬t<40)(J:¬t<60)(a b c d e:Int):
 run T (.loop fJ) ⟨[(3,.lst 1 h .clip),(4,X),(5,Y),(6,.ptr 106 0),(8,.int .u32 a),(9,.int .u32 b),(10,.int .u32 c),(11,.int .u32 d),(12,.int .u32 e),(13,.int .i64 t)],[(106,.arr 1 (ws W))],[]⟩=
 run T (.loop fJ) ⟨[(3,.lst 1 h .clip),(4,X),(5,Y),(6,.ptr 106 0),(8,.int .u32 (av.wrap (av.wrap (av.wrap (av.wrap (rr a 27+bt .xor .u32 (bt .xor .u32 b c) d)+e)+3395469782)+W.getD t 0))),(9,.int .u32 a),(10,.int .u32 (rr b 2)),(11,.int .u32 c),(12,.int .u32 d),(13,.int .i64 ((t+1:Nat):Int))],[(106,.arr 1 (ws W))],[]⟩:=by
 have H:=cA t (by omega);have y:(t:Int)<80:=by omega
 have z:=dp W;have F:=bV W t (by omega);have C:¬(t:Int)<20:=by omega
 have p1:¬(t:Int)<40:=by omega
 have I:¬(t:Int)<60:=by omega
 rw[al];simp only[go_sem,Q0,Q1,Q2,Q3,Q4,Q5,Q6,Q7,Q8,Q9,Qa,Qb,Qc,Qd,Qe,Qf,Qg,Qh,Qi,Qj,Qk,reduceCtorEq,reduceIte,y,H,z,E,wU,hn,C,p1,I,F,z5,z30]
theorem xfw(W k:List Int)(X Y:SV)(h:f8)(H:W.length=80):∀(n t:Nat),80-t=n->t<=80->
 run T (.loop fJ) ⟨[(3,.lst 1 h .clip),(4,X),(5,Y),(6,.ptr 106 0),(8,.int .u32 ((bY W k t).getD 0 0)),(9,.int .u32 ((bY W k t).getD 1 0)),(10,.int .u32 ((bY W k t).getD 2 0)),(11,.int .u32 ((bY W k t).getD 3 0)),(12,.int .u32 ((bY W k t).getD 4 0)),(13,.int .i64 t)],[(106,.arr 1 (ws W))],[]⟩=some (.x 4,⟨[(3,.lst 1 h .clip),(4,X),(5,Y),(8,.int .u32 ((bY W k 80).getD 0 0)),(9,.int .u32 ((bY W k 80).getD 1 0)),(10,.int .u32 ((bY W k 80).getD 2 0)),(11,.int .u32 ((bY W k 80).getD 3 0)),(12,.int .u32 ((bY W k 80).getD 4 0))],[(106,.arr 1 (ws W))],[]⟩):=by
 intro n;induction n with
 |zero=>
  intro t J I;have hi:t=80:=by omega
  subst hi;rw[al];simp only[c80,go_sem,Q0,Q1,Q2,Q3,Q4,Q5,Q6,Q7,Q8,Q9,Qa,Qb,Qc,Qd,Qe,Qf,Qg,Qh,Qi,Qj,Qk,reduceCtorEq,reduceIte]
 |succ n O=>
  intro t J I;have y:=O (t+1) (by omega) (by omega);have L:bY W k (t+1)=Gr t (W.getD t 0) (bY W k t):=rfl;rw[L]at y;simp only[Gr,bF,bQ]at y
  by_cases z:t<20
  ·have F:kk t=1518500249:=by unfold kk;rw[if_pos z]
   unfold ff at y;rw[if_pos z,F]at y;rw[xac W X Y h H t (by omega) z,y]
  ·by_cases C:t<40
   ·have F:kk t=1859775393:=by unfold kk;rw[if_neg z,if_pos C]
    unfold ff at y;rw[if_neg z,if_pos C,F]at y;rw[xab W X Y h H t (by omega) z C,y]
   ·by_cases E:t<60
    ·have F:kk t=2400959708:=by unfold kk;rw[if_neg z,if_neg C,if_pos E]
     unfold ff at y;rw[if_neg z,if_neg C,if_pos E,F]at y;rw[xaa W X Y h H t (by omega) z C E,y]
    ·have F:kk t=3395469782:=by unfold kk;rw[if_neg z,if_neg C,if_neg E]
     unfold ff at y;rw[if_neg z,if_neg C,if_neg E,F]at y;rw[Z9 W X Y h H t (by omega) z C E,y]
theorem xjU(X:t6)(hX:X.length<=1000000000000):∀(n a:Nat)(h:List Int),h.length=5->X.length=a+64*n->
 run T (.loop rR) ⟨[(3,.lst 1 (ws h) .clip),(4,.byt X .no),(5,.int .i64 a)],[],[]⟩=
 some (.x 0,⟨[(3,.lst 1 (ws (dZ h (X.drop a) n)) .clip)],[],[]⟩):=by
 intro n;induction n with
 |zero=>
  intro a h C J;rw[al];have H:¬(a:Int)<X.length:=by omega
  simp only[go_sem,Q0,Q1,Q2,Q3,Q4,Q5,Q6,Q7,Q8,Q9,Qa,Qb,Qc,Qd,Qe,Qf,Qg,Qh,Qi,Qj,Qk,reduceCtorEq,reduceIte,H,dZ]
 |succ n U=>
  intro a h C J;have y:=U (a+64) (nA h (bk X a)) (mJ h _ C) (by omega);have H:(a:Int)<X.length:=by omega
  have Q:ai.wrap ((a:Int)+64)=((a+64:Nat):Int):=wZ (by omega)
  have E:=xfx X a (ws h) (by omega) hX _ 0 rfl (by omega);have z:=xfw (Wl1 (bk X a) 80) h (.byt X .no) (.int .i64 a) (ws h) (o7 _ 80) _ 0 rfl (by omega);have O:Wl1 (bk X a) 0=ao 80 0:=by rw[Wl1]
  have L:bY (Wl1 (bk X a) 80) h 0=h:=by rw[bY]
  have F:=jS (Wl1 (bk X a) 80) h C 80;rw[O,<-sX]at E;rw[L]at z;simp only[aD]at E z
  have I:dZ h (X.drop a) (n+1)=dZ (nA h (bk X a)) (X.drop (a+64)) n:=by rw[dZ,Yi,fq]
  rw[I,al];unfold nA at y ⊢;generalize bY (Wl1 (bk X a) 80) h 80=s at*;generalize Wl1 (bk X a) 80=W at*;obtain⟨a0,a1,a2,a3,a4,rfl⟩:=DT h C;obtain⟨s0,s1,Z,s3,s4,rfl⟩:=DT s F;simp only[ws5,bF,bQ,Yl]at E z y ⊢;simp only[go_sem,Q0,Q1,Q2,Q3,Q4,Q5,Q6,Q7,Q8,Q9,Qa,Qb,Qc,Qd,Qe,Qf,Qg,Qh,Qi,Qj,Qk,reduceCtorEq,reduceIte,H,Q,E,z,ay,bl,c5,y]
theorem xkl(B:t6)(H:B.length<=100000000000):call T 144 [.byt B .no] [] 0=some ⟨.byt (lg B) .no,[],[]⟩:=by
 have g0:=xir B (by omega);have E:=j9 B;have hz:zn (B.length+1)<64:=by unfold zn;omega
 have F:=lS B;have h:=xjU (ee B) (by omega) ((ee B).length/64) 0 H1 rfl (by omega);have C:=jX ((ee B).length/64) H1 (ee B) rfl;have y:=xip (dZ H1 (ee B) ((ee B).length/64)) (by omega);have z:ws H1=[[.int .u32 1732584193],[.int .u32 4023233417],[.int .u32 2562383102],[.int .u32 271733878],[.int .u32 3285377520]]:=rfl;rw[z]at h;simp only[aD,bh]at h;unfold lg;generalize dZ H1 (ee B) ((ee B).length/64)=b at*;rw[au xgh];simp only[go_sem,Q0,Q1,Q2,Q3,Q4,Q5,Q6,Q7,Q8,Q9,Qa,Qb,Qc,Qd,Qe,Qf,Qg,Qh,Qi,Qj,Qk,reduceCtorEq,reduceIte,g0,YJ,y,h,YG]
theorem xfS(B:t6)(h:B.length<=100000000000):call T 121 [.int .i64 0,.byt B .no] [] 0=some ⟨.byt (lg B) .no,[],[]⟩:=by have g:=xkl B h;rw[au Yq];simp only[go_sem,Q0,Q1,Q2,Q3,Q4,Q5,Q6,Q7,Q8,Q9,Qa,Qb,Qc,Qd,Qe,Qf,Qg,Qh,Qi,Qj,Qk,reduceCtorEq,reduceIte,g,xgU]
theorem xfR(B:t6)(h:B.length<=100000000000):call T 121 [.int .i64 1,.byt B .no] [] 0=some ⟨.byt (sha B) .no,[],[]⟩:=by have g:=f65 B h;rw[au Yq];simp only[go_sem,Q0,Q1,Q2,Q3,Q4,Q5,Q6,Q7,Q8,Q9,Qa,Qb,Qc,Qd,Qe,Qf,Qg,Qh,Qi,Qj,Qk,reduceCtorEq,reduceIte,g,Nh]
end Go.Proofs.YtkcjdeofknkndaaGreatDoor
