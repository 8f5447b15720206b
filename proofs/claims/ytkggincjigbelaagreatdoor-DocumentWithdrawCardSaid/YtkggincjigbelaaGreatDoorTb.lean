/- What the functions come to. No condition. -/
import Derived.Test.YtkggincjigbelaaGreatDoorTa
open Int renaming natCast_zero -> aJ
open Go.IntKind renaming i64 -> af, u32 -> cw, u64 -> aW, wrap_u64 -> bJ
open List renaming append_assoc -> aY, append_nil -> br, cons_append -> bo, drop_length -> jf, drop_take -> xM, drop_zero -> bK, flatMap_cons -> dw, flatMap_nil -> fM, getD_eq_getElem?_getD -> aa, getElem?_drop -> bj, getElem?_eq_getElem -> ab, getElem?_map -> aI, length_append -> ai, length_cons -> aj, length_drop -> aS, length_nil -> ay, length_replicate -> dj, length_singleton -> bR, length_take -> ax, map_cons -> aD, map_nil -> b8, nil_append -> aQ, replicate -> az, singleton_append -> di, take_length -> cf, take_of_length_le -> aT
open Nat renaming add_zero -> ek, le_refl -> aP, mul_one -> gv
open UInt8 renaming ofInt -> cW
set_option maxRecDepth 100000
set_option maxHeartbeats 16000000
set_option linter.unusedSimpArgs false
set_option linter.unusedVariables false
namespace Go.Proofs.YtkggincjigbelaaGreatDoor
open Go.Sy
open UInt8 renaming reduceLT -> Q0, reduceLE -> Q1
open Int renaming reduceToNat -> Q2, reduceLE -> Q3, reduceLT -> Q4, reduceEq -> Q5, reduceNe -> Q6, reduceNeg -> Q7, reduceAdd -> Q8, reduceSub -> Q9, reduceMul -> Qa
open Nat renaming reducePow -> Qb, reduceDiv -> Qc, reduceMod -> Qd, reduceAdd -> Qe, reduceSub -> Qf, reduceMul -> Qg, reduceLT -> Qh, reduceLeDiff -> Qi, reduceEqDiff -> Qj, reduceBEq -> Qk
def rr(x:Int)(n:Nat):Int:=bD .or .u32 (x.fdiv (2^n)) (cw.wrap (x*2^(32-n)))
theorem mS(k:IntKind)(x y:Int):bD .or k x y=bD .or k y x:=by simp only[bD,BitVec.or_comm]
theorem qr(x:Int)(n:Nat)(h:n<=32):call T 120 [.int .u32 x,.int .u64 n] [] 0=some ⟨.int .u32 (rr x n),[],[]⟩:=by
 rw[ao Vx];have e:aW.wrap (32-(n:Int))=((32-n:Nat):Int):=by rw[bJ];omega
 have e2:min n 32=n:=by omega
 have e3:min (32-n) 32=32-n:=by omega
 have e4:(0:Int)<=((32-n:Nat):Int):=by omega
 simp only[go_sem,Q0,Q1,Q2,Q3,Q4,Q5,Q6,Q7,Q8,Q9,Qa,Qb,Qc,Qd,Qe,Qf,Qg,Qh,Qi,Qj,Qk,reduceCtorEq,reduceIte,e,e2,e3,e4,rr]
theorem qp(x k:Int)(n:Nat)(h:n<=32)(hk:bD .and .u64 (aW.wrap k) 31=((32-n:Nat):Int)):call T 167 [.int .u32 x,.int .i64 k] [] 0=some ⟨.int .u32 (rr x n),[],[]⟩:=by
 rw[ao Va];have e:aW.wrap (32-((32-n:Nat):Int))=(n:Int):=by rw[bJ];omega
 have e2:min n 32=n:=by omega
 have e3:min (32-n) 32=32-n:=by omega
 simp only[go_sem,Q0,Q1,Q2,Q3,Q4,Q5,Q6,Q7,Q8,Q9,Qa,Qb,Qc,Qd,Qe,Qf,Qg,Qh,Qi,Qj,Qk,reduceCtorEq,reduceIte,hk,e,e2,e3,rr,mS]
theorem m24:min 24 32=24:=rfl
theorem m16:min 16 32=16:=rfl
theorem m8:min 8 32=8:=rfl
theorem m3:min 3 32=3:=rfl
theorem m10:min 10 32=10:=rfl
def wd(B:List UInt8)(t:Nat):Int:=
 bD .or .u32 (bD .or .u32 (bD .or .u32 (cw.wrap (((B.getD (4*t) 0).toNat:Int)*2^24)) (cw.wrap (((B.getD (4*t+1) 0).toNat:Int)*2^16)))
  (cw.wrap (((B.getD (4*t+2) 0).toNat:Int)*2^8))) ((B.getD (4*t+3) 0).toNat:Int)
theorem Y2(B:List UInt8)(t:Nat)(h:4*t+3<B.length)(hl:B.length<=1000000000000):call T 166 [.byt B .no,.int .i64 t] [] 0=some ⟨.int .u32 (wd B t),[],[]⟩:=by
 rw[ao Vb];have e0:af.wrap (4*(t:Int))=((4*t:Nat):Int):=wZ (by omega)
 have e1:af.wrap (((4*t:Nat):Int)+1)=((4*t+1:Nat):Int):=wZ (by omega)
 have e2:af.wrap (((4*t:Nat):Int)+2)=((4*t+2:Nat):Int):=wZ (by omega)
 have e3:af.wrap (((4*t:Nat):Int)+3)=((4*t+3:Nat):Int):=wZ (by omega)
 have h0:4*t<B.length:=by omega
 have h1:4*t+1<B.length:=by omega
 have h2:4*t+2<B.length:=by omega
 simp only[go_sem,Q0,Q1,Q2,Q3,Q4,Q5,Q6,Q7,Q8,Q9,Qa,Qb,Qc,Qd,Qe,Qf,Qg,Qh,Qi,Qj,Qk,reduceCtorEq,reduceIte,e0,e1,e2,e3,h,h0,h1,h2,wd,m24,m16,m8]
theorem Ze(B:List UInt8)(t:Nat)(h:4*t+3<B.length)(hl:B.length<=1000000000000):call T 119 [.byt B .no,.int .i64 t] [] 0=some ⟨.int .u32 (wd B t),[],[]⟩:=by
 rw[ao Vy];have e0:af.wrap (4*(t:Int))=((4*t:Nat):Int):=wZ (by omega)
 have e1:af.wrap (((4*t:Nat):Int)+1)=((4*t+1:Nat):Int):=wZ (by omega)
 have e2:af.wrap (((4*t:Nat):Int)+2)=((4*t+2:Nat):Int):=wZ (by omega)
 have e3:af.wrap (((4*t:Nat):Int)+3)=((4*t+3:Nat):Int):=wZ (by omega)
 have h0:4*t<B.length:=by omega
 have h1:4*t+1<B.length:=by omega
 have h2:4*t+2<B.length:=by omega
 simp only[go_sem,Q0,Q1,Q2,Q3,Q4,Q5,Q6,Q7,Q8,Q9,Qa,Qb,Qc,Qd,Qe,Qf,Qg,Qh,Qi,Qj,Qk,reduceCtorEq,reduceIte,e0,e1,e2,e3,h,h0,h1,h2,wd,m24,m16,m8]
def nw(B:List UInt8)(L:List Int)(t:Nat):Int:=
 if t<16 then wd B t else
  let x:=L.getD (t-15) 0
  let y:=L.getD (t-2) 0
  cw.wrap (cw.wrap (cw.wrap (bD .xor .u32 (bD .xor .u32 (rr y 17) (rr y 19)) (y.fdiv (2^10))+L.getD (t-7) 0)+
   bD .xor .u32 (bD .xor .u32 (rr x 7) (rr x 18)) (x.fdiv (2^3)))+L.getD (t-16) 0)
def Wl(B:List UInt8):Nat->List Int
 |0=>az 64 0
 |t+1=>(Wl B t).set t (nw B (Wl B t) t)
theorem pk(B:List UInt8)(t:Nat):(Wl B t).length=64:=by
 induction t with
 |zero=>simp[Wl]
 |succ n ih=>simp[Wl,ih]
def ws(L:List Int):List (List SV):=L.map fun x=> [.int .u32 x]
theorem eD(L:List Int):(ws L).length=L.length:=by simp[ws]
theorem cC(L:List Int)(i:Nat)(h:i<L.length):(ws L).getD i []=[.int .u32 (L.getD i 0)]:=by simp[ws,aa,aI,ab h]
theorem oU(L:List Int)(i:Nat)(x:Int):(ws L).set i [.int .u32 x]=ws (L.set i x):=by unfold ws;rw[List.map_set]
theorem zJ(n:Nat):az n [SV.int .u32 0]=ws (az n 0):=by unfold ws;rw[List.map_replicate]
theorem Up(B:List UInt8)(O:aA)(hB:B.length=64):∀(n t:Nat),64-t=n->t<=64->
 run T (.loop ot) ⟨[(0,.ptr 0 0),(1,.byt B .no),(4,.ptr 104 0),(17,.int .i64 t)],[(0,O),(104,.arr 1 (ws (Wl B t)))],[]⟩=
 some (.x 0,⟨[(0,.ptr 0 0),(4,.ptr 104 0)],[(0,O),(104,.arr 1 (ws (Wl B 64)))],[]⟩):=by
 intro n;induction n with
 |zero=>
  intro t h0 h1;have hi:t=64:=by omega
  subst hi;rw[aq];simp only[c64,go_sem,Q0,Q1,Q2,Q3,Q4,Q5,Q6,Q7,Q8,Q9,Qa,Qb,Qc,Qd,Qe,Qf,Qg,Qh,Qi,Qj,Qk,reduceCtorEq,reduceIte]
 |succ n ih=>
  intro t h0 h1;have ih':=ih (t+1) (by omega) (by omega);have e1:=dF t (by omega);have hlt:(t:Int)<64:=by omega
  have hl:=pk B t;have hw:=eD (Wl B t);have hn:t<64:=by omega
  have hs:Wl B (t+1)=(Wl B t).set t (nw B (Wl B t) t):=rfl;rw[aq]
  by_cases h16:t<16
  ·have g:=Y2 B t (by omega) (by omega)
   have h16':(t:Int)<16:=by omega
   have hx:nw B (Wl B t) t=wd B t:=by unfold nw;rw[if_pos h16]
   rw[hs,hx]at ih';simp only[go_sem,Q0,Q1,Q2,Q3,Q4,Q5,Q6,Q7,Q8,Q9,Qa,Qb,Qc,Qd,Qe,Qf,Qg,Qh,Qi,Qj,Qk,reduceCtorEq,reduceIte,hlt,h16',e1,g,hl,hw,VN,hn,oU,ih']
  ·have h16':¬(t:Int)<16:=by omega
   have a15:af.wrap ((t:Int)-15)=((t-15:Nat):Int):=wZ (by omega)
   have a2:af.wrap ((t:Int)-2)=((t-2:Nat):Int):=wZ (by omega)
   have a7:af.wrap ((t:Int)-7)=((t-7:Nat):Int):=wZ (by omega)
   have a16:af.wrap ((t:Int)-16)=((t-16:Nat):Int):=wZ (by omega)
   have b15:t-15<64:=by omega
   have b2:t-2<64:=by omega
   have b7:t-7<64:=by omega
   have b16:t-16<64:=by omega
   have d15:=cC (Wl B t) (t-15) (by omega);have d2:=cC (Wl B t) (t-2) (by omega);have d7:=cC (Wl B t) (t-7) (by omega);have d16:=cC (Wl B t) (t-16) (by omega);have r7:=fun x=>qp x (-7) 7 (by omega) (by decide)
   have r18:=fun x=>qp x (-18) 18 (by omega) (by decide)
   have r17:=fun x=>qp x (-17) 17 (by omega) (by decide)
   have r19:=fun x=>qp x (-19) 19 (by omega) (by decide)
   rw[hs]at ih';unfold nw at ih';rw[if_neg h16]at ih';simp only[go_sem,Q0,Q1,Q2,Q3,Q4,Q5,Q6,Q7,Q8,Q9,Qa,Qb,Qc,Qd,Qe,Qf,Qg,Qh,Qi,Qj,Qk,reduceCtorEq,reduceIte,hlt,h16',e1,hl,hw,Nf,hn,a15,a2,a7,a16,b15,b2,b7,b16,d15,d2,d7,d16,r7,r18,r17,r19,oU,m3,m10,ih']
def Kl:List Int:=gJ.map fun| .int _ x=>x|_=>0
theorem tD:Kl.length=64:=rfl
theorem kz:gJ.length=64:=rfl
theorem RK:gJ=Kl.map (SV.int .u32):=rfl
theorem Rd{t:Nat}(h:t<64):(1<=(List.drop (t*1) gJ).length)=True:=by refine eq_true ?_;rw[aS,kz];omega
theorem Re{t:Nat}(h:t<64):(List.map SV.data (List.drop (t*1) gJ)).getD 0 SV.undef= .int .u32 (Kl.getD t 0):=by
 rw[RK,aa,aI,bj,aI,gv,ek,aa,
  ab (show t<Kl.length from h)]
 rfl
def rnd(k w:Int)(s:List Int):List Int:=
 let a:=s.getD 0 0
 let e:=s.getD 4 0
 let t1:=cw.wrap (cw.wrap (cw.wrap (cw.wrap (s.getD 7 0+bD .xor .u32 (bD .xor .u32 (rr e 6) (rr e 11)) (rr e 25))+
  bD .xor .u32 (bD .and .u32 e (s.getD 5 0)) (bD .and .u32 (bD .xor .u32 (if cw.signed=true then-1 else cw.max) e) (s.getD 6 0)))+k)+w)
 let t2:=cw.wrap (bD .xor .u32 (bD .xor .u32 (rr a 2) (rr a 13)) (rr a 22)+
  bD .xor .u32 (bD .xor .u32 (bD .and .u32 a (s.getD 1 0)) (bD .and .u32 a (s.getD 2 0))) (bD .and .u32 (s.getD 1 0) (s.getD 2 0)))
 [cw.wrap (t1+t2),a,s.getD 1 0,s.getD 2 0,cw.wrap (s.getD 3 0+t1),e,s.getD 5 0,s.getD 6 0]
theorem ws8(a b c d e f g h:Int):ws [a,b,c,d,e,f,g,h]=[[.int .u32 a],[.int .u32 b],[.int .u32 c],[.int .u32 d],[.int .u32 e],[.int .u32 f],[.int .u32 g],[.int .u32 h]]:=rfl
def rounds(W:List Int)(h:List Int):Nat->List Int
 |0=>h
 |t+1=>rnd (Kl.getD t 0) (W.getD t 0) (rounds W h t)
theorem fQ(W h:List Int)(hh:h.length=8)(t:Nat):(rounds W h t).length=8:=by
 cases t<;>simp[rounds,rnd,hh]
theorem n6(x:Int):call T 167 [.int .u32 x,.int .i64 (-6)] [] 0=some ⟨.int .u32 (rr x 6),[],[]⟩:=qp x (-6) 6 (by omega) (by decide)
theorem n11(x:Int):call T 167 [.int .u32 x,.int .i64 (-11)] [] 0=some ⟨.int .u32 (rr x 11),[],[]⟩:=qp x (-11) 11 (by omega) (by decide)
theorem n25(x:Int):call T 167 [.int .u32 x,.int .i64 (-25)] [] 0=some ⟨.int .u32 (rr x 25),[],[]⟩:=qp x (-25) 25 (by omega) (by decide)
theorem n2(x:Int):call T 167 [.int .u32 x,.int .i64 (-2)] [] 0=some ⟨.int .u32 (rr x 2),[],[]⟩:=qp x (-2) 2 (by omega) (by decide)
theorem n13(x:Int):call T 167 [.int .u32 x,.int .i64 (-13)] [] 0=some ⟨.int .u32 (rr x 13),[],[]⟩:=qp x (-13) 13 (by omega) (by decide)
theorem n22(x:Int):call T 167 [.int .u32 x,.int .i64 (-22)] [] 0=some ⟨.int .u32 (rr x 22),[],[]⟩:=qp x (-22) 22 (by omega) (by decide)
theorem Uo(W h:List Int)(O:aA)(hW:W.length=64)(hh:h.length=8):∀(n t:Nat),64-t=n->t<=64->
 run T (.loop oq) ⟨[(0,.ptr 0 0),(4,.ptr 104 0),(10,.ptr 110 0),(70,.int .i64 t)],[(0,O),(104,.arr 1 (ws W)),(110,.arr 1 (ws (rounds W h t)))],[]⟩=
 some (.x 2,⟨[(0,.ptr 0 0),(10,.ptr 110 0)],[(0,O),(104,.arr 1 (ws W)),(110,.arr 1 (ws (rounds W h 64)))],[]⟩):=by
 intro n;induction n with
 |zero=>
  intro t h0 h1;have hi:t=64:=by omega
  subst hi;rw[aq];simp only[c64,go_sem,Q0,Q1,Q2,Q3,Q4,Q5,Q6,Q7,Q8,Q9,Qa,Qb,Qc,Qd,Qe,Qf,Qg,Qh,Qi,Qj,Qk,reduceCtorEq,reduceIte]
 |succ n ih=>
  intro t h0 h1;have ih':=ih (t+1) (by omega) (by omega);have e1:=dF t (by omega);have hlt:(t:Int)<64:=by omega
  have hn:t<64:=by omega
  have hl:=fQ W h hh t;have hw:=eD (rounds W h t);have hw2:=eD W;have hs:rounds W h (t+1)=rnd (Kl.getD t 0) (W.getD t 0) (rounds W h t):=rfl;rw[hs]at ih';simp only[rnd,ws8]at ih';generalize rounds W h t=s at*;have d0:=cC s 0 (by omega);have d1:=cC s 1 (by omega);have d2:=cC s 2 (by omega);have d3:=cC s 3 (by omega);have d4:=cC s 4 (by omega);have d5:=cC s 5 (by omega);have d6:=cC s 6 (by omega);have d7:=cC s 7 (by omega);have dW:=cC W t (by omega);have dK:=cC Kl t (by rw[tD];exact hn);rw[aq];simp only[go_sem,Q0,Q1,Q2,Q3,Q4,Q5,Q6,Q7,Q8,Q9,Qa,Qb,Qc,Qd,Qe,Qf,Qg,Qh,Qi,Qj,Qk,reduceCtorEq,reduceIte,hlt,e1,hl,hw,hw2,hW,Nf,hn,d0,d1,d2,d3,d4,d5,d6,d7,dW,dK,n6,n11,n25,n2,n13,n22,c8,c64,kz,Rd hn,Re hn,ih']
def rS:List Int->List Int->List Int
 |x::l,y::r=>cw.wrap (x+y)::rS l r
 |_,_=> []
theorem Un(h s:List Int)(P:aA)(hh:h.length=8)(hs:s.length=8):
 run T (.loop ol) ⟨[(0,.ptr 0 0),(10,.ptr 110 0),(152,.int .i64 0)],[(0,.arr 1 (ws h)),(104,P),(110,.arr 1 (ws s))],[]⟩=
 some (.x 4,⟨[],[(0,.arr 1 (ws (rS h s))),(104,P),(110,.arr 1 (ws s))],[]⟩):=by
 match h,hh with
 |[a0,a1,a2,a3,a4,a5,a6,a7],_=>match s,hs with
  |[b0,b1,b2,b3,b4,b5,b6,b7],_=>
   have k1:af.wrap 1=1:=rfl;have k2:af.wrap 2=2:=rfl;have k3:af.wrap 3=3:=rfl;have k4:af.wrap 4=4:=rfl;have k5:af.wrap 5=5:=rfl;have k6:af.wrap 6=6:=rfl;have k7:af.wrap 7=7:=rfl;have k8:af.wrap 8=8:=rfl;simp only[ws8,rS]
   iterate 9
    rw[aq];simp only[go_sem,Q0,Q1,Q2,Q3,Q4,Q5,Q6,Q7,Q8,Q9,Qa,Qb,Qc,Qd,Qe,Qf,Qg,Qh,Qi,Qj,Qk,reduceCtorEq,reduceIte,aj,ay,c8,k1,k2,k3,k4,k5,k6,k7,k8]
def comp(h:List Int)(B:List UInt8):List Int:=rS h (rounds (Wl B 64) h 64)
theorem zI(h s:List Int)(hs:h.length<=s.length):(rS h s).length=h.length:=by
 induction h generalizing s with
 |nil=>simp[rS]
 |cons x l ih=>
  cases s with
  |nil=>simp at hs
  |cons y r=>simp only[rS,aj];rw[ih r (by simpa using hs)]
theorem mD(h:List Int)(B:List UInt8)(hh:h.length=8):(comp h B).length=8:=by unfold comp;rw[zI _ _ (by rw[fQ _ _ hh,hh];exact aP 8),hh]
theorem Zh(h:List Int)(B:List UInt8)(hh:h.length=8)(hB:B.length=64):call T 107 [.ptr 0 0,.byt B .no] [.arr 1 (ws h)] 0=some ⟨.tup [],[(0,.arr 1 (ws (comp h B)))],[]⟩:=by
 have g1:=Up B (.arr 1 (ws h)) hB _ 0 rfl (by omega);have g2:=Uo (Wl B 64) h (.arr 1 (ws h)) (pk B 64) hh _ 0 rfl (by omega);have g3:=Un h (rounds (Wl B 64) h 64) (.arr 1 (ws (Wl B 64))) hh (fQ _ _ hh 64);have hw:Wl B 0=az 64 0:=rfl;have hr:rounds (Wl B 64) h 0=h:=rfl;rw[hw,<-zJ]at g1;rw[hr]at g2;simp only[aJ]at g1 g2;rw[ao VB]
 match h,hh with
 |[a0,a1,a2,a3,a4,a5,a6,a7],_=>simp only[ws8]at g1 g2 g3;simp only[go_sem,Q0,Q1,Q2,Q3,Q4,Q5,Q6,Q7,Q8,Q9,Qa,Qb,Qc,Qd,Qe,Qf,Qg,Qh,Qi,Qj,Qk,reduceCtorEq,reduceIte,ws8,g1,g2,g3,comp,List.flatten_cons,List.flatten_nil,aD,b8,bo,aQ,SV.data,List.take_succ_cons,List.take_zero,aj,ay]
def zn(n:Nat):Nat:=(120-n % 64) % 64
theorem Ur(B:List UInt8):∀(n:Nat)(acc:List UInt8),zn acc.length=n->acc.length+n<=100000000000000->
 run T (.loop sU) ⟨[(0,.byt B .no),(3,.byt acc (.id 103))],[],[103]⟩=
 some (.x 0,⟨[(0,.byt B .no),(3,.byt (acc++az n 0) (.id 103))],[],[103]⟩):=by
 intro n;induction n with
 |zero=>
  intro acc h0 h1;have hm:acc.length % 64=56:=by unfold zn at h0;omega
  have hi:(acc.length:Int).tmod 64=56:=by rw[Int.tmod_eq_emod_of_nonneg (by omega)];omega
  rw[aq];simp only[go_sem,Q0,Q1,Q2,Q3,Q4,Q5,Q6,Q7,Q8,Q9,Qa,Qb,Qc,Qd,Qe,Qf,Qg,Qh,Qi,Qj,Qk,reduceCtorEq,reduceIte,hi,List.replicate_zero,br]
 |succ n ih=>
  intro acc h0 h1;have hm:acc.length % 64≠56:=by unfold zn at h0;omega
  have hi:¬(acc.length:Int).tmod 64=56:=by rw[Int.tmod_eq_emod_of_nonneg (by omega)];omega
  have ih':=ih (acc++ [0]) (by unfold zn at*;rw[ai,bR];omega) (by rw[ai,bR];omega);have hc:acc.length+1<=140737488355328:=by omega
  rw[aY,di,<-List.replicate_succ]at ih';rw[aq];simp only[go_sem,Q0,Q1,Q2,Q3,Q4,Q5,Q6,Q7,Q8,Q9,Qa,Qb,Qc,Qd,Qe,Qf,Qg,Qh,Qi,Qj,Qk,reduceCtorEq,reduceIte,hi,hc,ih']
def fC(v:Int)(s:Nat):UInt8:=cW (v.fdiv (2^s))
def be:Nat->Int->List UInt8
 |0,_=> []
 |k+1,v=>fC v (8*k)::be k v
theorem pj(n:Nat)(v:Int):(be n v).length=n:=by induction n with
 |zero=>rfl
 |succ n ih=>simp[be,ih]
theorem Uq(v:Int):∀(k:Nat)(acc:List UInt8),k<=8->acc.length+k<=100000000000000->
 run T (.loop ov) ⟨[(3,.byt acc (.id 103)),(4,.int .u64 v),(5,.int .i64 (8*(k:Int)-8))],[],[103]⟩=
 some (.x 2,⟨[(3,.byt (acc++be k v) (.id 103))],[],[103]⟩):=by
 intro k;induction k with
 |zero=>
  intro acc hk h;rw[aq];have hg:¬(0:Int)<=8*((0:Nat):Int)-8:=by omega
  simp only[go_sem,Q0,Q1,Q2,Q3,Q4,Q5,Q6,Q7,Q8,Q9,Qa,Qb,Qc,Qd,Qe,Qf,Qg,Qh,Qi,Qj,Qk,reduceCtorEq,reduceIte,hg,be,br]
 |succ k ih=>
  intro acc hk h;have ih':=ih (acc++ [fC v (8*k)]) (by omega) (by rw[ai,bR];omega);have c1:acc.length+1<=140737488355328:=by omega
  have hg:(0:Int)<=8*((k+1:Nat):Int)-8:=by omega
  have he:aW.wrap (8*((k+1:Nat):Int)-8)=((8*k:Nat):Int):=by rw[bJ];omega
  have hs:af.wrap (8*((k+1:Nat):Int)-8-8)=8*(k:Int)-8:=wZ (by omega)
  have hm:min (8*k) 64=8*k:=by omega
  rw[aY,di]at ih';rw[aq];unfold fC at ih';simp only[go_sem,Q0,Q1,Q2,Q3,Q4,Q5,Q6,Q7,Q8,Q9,Qa,Qb,Qc,Qd,Qe,Qf,Qg,Qh,Qi,Qj,Qk,reduceCtorEq,reduceIte,c1,hg,he,hs,hm,be,fC,ih']
def fR(B:List UInt8):List UInt8:=B++128::(az (zn (B.length+1)) 0++be 8 (aW.wrap (aW.wrap B.length*8)))
theorem me(B:List UInt8):(fR B).length=B.length+1+zn (B.length+1)+8:=by simp only[fR,ai,aj,dj,pj];omega
theorem pX(B:List UInt8):(fR B).length % 64=0:=by rw[me];unfold zn;omega
theorem Zj(B:List UInt8)(h:B.length<=10000000000000):call T 104 [.byt B .no] [] 0=some ⟨.byt (fR B) .no,[],[]⟩:=by
 have hz:zn (B.length+1)<64:=by unfold zn;omega
 have g1:=Ur B _ (B++ [128]) rfl (by simp;omega);have g2:=Uq (aW.wrap (aW.wrap B.length*8)) 8 (B++128::az (zn (B.length+1)) 0) (by omega) (by simp;omega);have e8:8*((8:Nat):Int)-8=56:=rfl;rw[e8]at g2;rw[ao VD];have e:af.wrap ((B.length:Int)+72)=((B.length+72:Nat):Int):=wZ (by omega)
 have c2:((B.length+72:Nat):Int)<=140737488355328:=by omega
 have c3:B.length<=140737488355328:=by omega
 have c4:B.length+1<=140737488355328:=by omega
 simp only[go_sem,Q0,Q1,Q2,Q3,Q4,Q5,Q6,Q7,Q8,Q9,Qa,Qb,Qc,Qd,Qe,Qf,Qg,Qh,Qi,Qj,Qk,reduceCtorEq,reduceIte,e,g1,g2,c2,c3,c4,fR]
theorem Um(B:List UInt8):∀(n:Nat)(acc:List UInt8),zn acc.length=n->acc.length+n<=100000000000000->
 run T (.loop sS) ⟨[(0,.byt B .no),(3,.byt acc (.id 103))],[],[103]⟩=
 some (.x 0,⟨[(0,.byt B .no),(3,.byt (acc++az n 0) (.id 103))],[],[103]⟩):=by
 intro n;induction n with
 |zero=>
  intro acc h0 h1;have hm:acc.length % 64=56:=by unfold zn at h0;omega
  have hi:(acc.length:Int).tmod 64=56:=by rw[Int.tmod_eq_emod_of_nonneg (by omega)];omega
  rw[aq];simp only[go_sem,Q0,Q1,Q2,Q3,Q4,Q5,Q6,Q7,Q8,Q9,Qa,Qb,Qc,Qd,Qe,Qf,Qg,Qh,Qi,Qj,Qk,reduceCtorEq,reduceIte,hi,List.replicate_zero,br]
 |succ n ih=>
  intro acc h0 h1;have hm:acc.length % 64≠56:=by unfold zn at h0;omega
  have hi:¬(acc.length:Int).tmod 64=56:=by rw[Int.tmod_eq_emod_of_nonneg (by omega)];omega
  have ih':=ih (acc++ [0]) (by unfold zn at*;rw[ai,bR];omega) (by rw[ai,bR];omega);have hc:acc.length+1<=140737488355328:=by omega
  rw[aY,di,<-List.replicate_succ]at ih';rw[aq];simp only[go_sem,Q0,Q1,Q2,Q3,Q4,Q5,Q6,Q7,Q8,Q9,Qa,Qb,Qc,Qd,Qe,Qf,Qg,Qh,Qi,Qj,Qk,reduceCtorEq,reduceIte,hi,hc,ih']
theorem Ul(v:Int):∀(k:Nat)(acc:List UInt8),k<=8->acc.length+k<=100000000000000->
 run T (.loop oj) ⟨[(3,.byt acc (.id 103)),(4,.int .u64 v),(5,.int .i64 ((k:Int)-1))],[],[103]⟩=
 some (.x 2,⟨[(3,.byt (acc++be k v) (.id 103))],[],[103]⟩):=by
 intro k;induction k with
 |zero=>
  intro acc hk h;rw[aq];have hg:¬(0:Int)<=((0:Nat):Int)-1:=by omega
  simp only[go_sem,Q0,Q1,Q2,Q3,Q4,Q5,Q6,Q7,Q8,Q9,Qa,Qb,Qc,Qd,Qe,Qf,Qg,Qh,Qi,Qj,Qk,reduceCtorEq,reduceIte,hg,be,br]
 |succ k ih=>
  intro acc hk h;have ih':=ih (acc++ [fC v (8*k)]) (by omega) (by rw[ai,bR];omega);have c1:acc.length+1<=140737488355328:=by omega
  have hg:(0:Int)<=((k+1:Nat):Int)-1:=by omega
  have he:aW.wrap (((k+1:Nat):Int)-1)=(k:Int):=by rw[bJ];omega
  have he2:aW.wrap (8*(k:Int))=((8*k:Nat):Int):=by rw[bJ];omega
  have hs:af.wrap (((k+1:Nat):Int)-1-1)=(k:Int)-1:=wZ (by omega)
  have hm:min (8*k) 64=8*k:=by omega
  rw[aY,di]at ih';rw[aq];unfold fC at ih';simp only[go_sem,Q0,Q1,Q2,Q3,Q4,Q5,Q6,Q7,Q8,Q9,Qa,Qb,Qc,Qd,Qe,Qf,Qg,Qh,Qi,Qj,Qk,reduceCtorEq,reduceIte,c1,hg,he,he2,hs,hm,be,fC,ih']
theorem Zf(B:List UInt8)(h:B.length<=10000000000000):call T 118 [.byt B .no] [] 0=some ⟨.byt (fR B) .no,[],[]⟩:=by
 have hz:zn (B.length+1)<64:=by unfold zn;omega
 have g1:=Um B _ (B++ [128]) rfl (by simp;omega);have g2:=Ul (aW.wrap (aW.wrap B.length*8)) 8 (B++128::az (zn (B.length+1)) 0) (by omega) (by simp;omega);have e8:((8:Nat):Int)-1=7:=rfl;rw[e8]at g2;rw[ao Vz];have c3:B.length<=140737488355328:=by omega
 have c4:B.length+1<=140737488355328:=by omega
 simp only[go_sem,Q0,Q1,Q2,Q3,Q4,Q5,Q6,Q7,Q8,Q9,Qa,Qb,Qc,Qd,Qe,Qf,Qg,Qh,Qi,Qj,Qk,reduceCtorEq,reduceIte,g1,g2,c3,c4,fR]
def w4(x:Int):List UInt8:=[fC x 24,fC x 16,fC x 8,cW x]
def sp(h:List Int):List UInt8:=h.flatMap w4
theorem OR(h:List Int):(sp h).length=4*h.length:=by
 induction h with
 |nil=>rfl
 |cons x l ih=>simp only[sp,dw,ai,w4,aj,ay]at*;omega
theorem d0(h:List Int)(i:Nat)(hi:i<h.length):h.drop i=h.getD i 0::h.drop (i+1):=nJ h i hi
theorem YA(h:List Int)(hh:h.length<=1000000000000):∀(n i:Nat)(acc:List UInt8),h.length-i=n->i<=h.length->acc.length=4*i->
 run T (.loop sT) ⟨[(3,.byt acc (.id 103)),(10,.lst 1 (ws h) .no),(11,.int .i64 h.length),(12,.int .i64 i)],[],[103]⟩=
 some (.x 0,⟨[(3,.byt (acc++sp (h.drop i)) (.id 103))],[],[103]⟩):=by
 intro n;induction n with
 |zero=>
  intro i acc h0 h1 ha;have hi:i=h.length:=by omega
  subst hi;rw[aq];simp only[go_sem,Q0,Q1,Q2,Q3,Q4,Q5,Q6,Q7,Q8,Q9,Qa,Qb,Qc,Qd,Qe,Qf,Qg,Qh,Qi,Qj,Qk,reduceCtorEq,reduceIte,jf,sp,fM,br]
 |succ n ih=>
  intro i acc h0 h1 ha;have hi:i<h.length:=by omega
  have e1:=dF i (by omega);have ih':=ih (i+1) (acc++w4 (h.getD i 0)) (by omega) (by omega) (by simp[w4];omega);have hg:=cC h i hi;have hl:=eD h;have c1:acc.length+4<=140737488355328:=by omega
  rw[aq];rw[aY]at ih';simp only[w4,fC]at ih';simp only[go_sem,Q0,Q1,Q2,Q3,Q4,Q5,Q6,Q7,Q8,Q9,Qa,Qb,Qc,Qd,Qe,Qf,Qg,Qh,Qi,Qj,Qk,reduceCtorEq,reduceIte,hi,hg,hl,e1,c1,m24,m16,m8,ih',d0 h i hi,sp,dw,w4,fC]
theorem Zi(h:List Int)(hh:h.length<=1000000000000):call T 106 [.lst 1 (ws h) .no] [] 0=some ⟨.byt (sp h) .no,[],[]⟩:=by
 have g:=YA h hh _ 0 [] rfl (by omega) rfl;have hl:=eD h;rw[ao VC];have e:af.wrap (4*(h.length:Int))=((4*h.length:Nat):Int):=wZ (by omega)
 have c2:((4*h.length:Nat):Int)<=140737488355328:=by omega
 simp only[aJ,bK,aQ]at g;simp only[go_sem,Q0,Q1,Q2,Q3,Q4,Q5,Q6,Q7,Q8,Q9,Qa,Qb,Qc,Qd,Qe,Qf,Qg,Qh,Qi,Qj,Qk,reduceCtorEq,reduceIte,e,hl,c2,g]
theorem Yz(h:List Int)(hh:h.length<=1000000000000):∀(n i:Nat)(acc:List UInt8),h.length-i=n->i<=h.length->acc.length=4*i->
 run T (.loop sQ) ⟨[(0,.lst 1 (ws h) .no),(3,.byt acc (.id 103)),(4,.int .i64 i)],[],[103]⟩=
 some (.x 0,⟨[(3,.byt (acc++sp (h.drop i)) (.id 103))],[],[103]⟩):=by
 intro n;induction n with
 |zero=>
  intro i acc h0 h1 ha;have hi:i=h.length:=by omega
  have hl:=eD h;subst hi;rw[aq];simp only[go_sem,Q0,Q1,Q2,Q3,Q4,Q5,Q6,Q7,Q8,Q9,Qa,Qb,Qc,Qd,Qe,Qf,Qg,Qh,Qi,Qj,Qk,reduceCtorEq,reduceIte,hl,jf,sp,fM,br]
 |succ n ih=>
  intro i acc h0 h1 ha;have hi:i<h.length:=by omega
  have e1:=dF i (by omega);have ih':=ih (i+1) (acc++w4 (h.getD i 0)) (by omega) (by omega) (by simp[w4];omega);have hg:=cC h i hi;have hl:=eD h;have c1:acc.length+4<=140737488355328:=by omega
  rw[aq];rw[aY]at ih';simp only[w4,fC]at ih';simp only[go_sem,Q0,Q1,Q2,Q3,Q4,Q5,Q6,Q7,Q8,Q9,Qa,Qb,Qc,Qd,Qe,Qf,Qg,Qh,Qi,Qj,Qk,reduceCtorEq,reduceIte,hi,hg,hl,e1,c1,m24,m16,m8,ih',d0 h i hi,sp,dw,w4,fC]
theorem Zd(h:List Int)(hh:h.length<=1000000000000):call T 121 [.lst 1 (ws h) .no] [] 0=some ⟨.byt (sp h) .no,[],[]⟩:=by have g:=Yz h hh _ 0 [] rfl (by omega) rfl;have hl:=eD h;rw[ao Vw];simp only[aJ,bK,aQ]at g;simp only[go_sem,Q0,Q1,Q2,Q3,Q4,Q5,Q6,Q7,Q8,Q9,Qa,Qb,Qc,Qd,Qe,Qf,Qg,Qh,Qi,Qj,Qk,reduceCtorEq,reduceIte,hl,g]
def ec(h:List Int)(X:List UInt8):Nat->List Int
 |0=>h
 |n+1=>ec (comp h (X.take 64)) (X.drop 64) n
theorem jz(n:Nat):∀(h:List Int)(X:List UInt8),h.length=8->(ec h X n).length=8:=by
 induction n with
 |zero=>intro h X hh;exact hh
 |succ n ih=>intro h X hh;exact ih _ _ (mD h _ hh)
def H0:List Int:=[1779033703,3144134277,1013904242,2773480762,1359893119,2600822924,528734635,1541459225]
def sha(B:List UInt8):List UInt8:=sp (ec H0 (fR B) ((fR B).length/64))
theorem j9(B:List UInt8):(sha B).length=32:=by unfold sha;rw[OR,jz _ _ _ rfl]
theorem l64:∀(n:Nat)(h:List Int)(X:List UInt8),h.length=8->X.length=64*n->X.length<=1000000000000->
 run T (.loop sw) ⟨[(7,.ptr 107 0),(8,.byt X .no)],[(107,.arr 1 (ws h))],[]⟩=
 some (.x 3,⟨[(7,.ptr 107 0)],[(107,.arr 1 (ws (ec h X n)))],[]⟩):=by
 intro n;induction n with
 |zero=>
  intro h X hh hX hl;rw[aq];have h0:¬(0:Int)<X.length:=by omega
  simp only[go_sem,Q0,Q1,Q2,Q3,Q4,Q5,Q6,Q7,Q8,Q9,Qa,Qb,Qc,Qd,Qe,Qf,Qg,Qh,Qi,Qj,Qk,reduceCtorEq,reduceIte,h0,ec]
 |succ n ih=>
  intro h X hh hX hl;have ih':=ih (comp h (X.take 64)) (X.drop 64) (mD h _ hh) (by rw[aS];omega) (by rw[aS];omega);have g:=Zh h (X.take 64) hh (by rw[ax];omega);have h1:(0:Int)<X.length:=by omega
  have h2:(64:Int)<=X.length:=by omega
  have h3:64<=X.length:=by omega
  rw[aq];simp only[go_sem,Q0,Q1,Q2,Q3,Q4,Q5,Q6,Q7,Q8,Q9,Qa,Qb,Qc,Qd,Qe,Qf,Qg,Qh,Qi,Qj,Qk,reduceCtorEq,reduceIte,h1,h2,h3,g,V1,cf,ih',ec]
theorem f64(B:List UInt8)(hB:B.length<=100000000000):call T 64 [.int .i64 1,.byt B .no] [] 0=some ⟨.byt (sha B) .no,[],[]⟩:=by
 have g0:=Zj B (by omega);have hl:=me B;have hz:zn (B.length+1)<64:=by unfold zn;omega
 have hm:=pX B;have g1:=l64 ((fR B).length/64) H0 (fR B) rfl (by omega) (by omega);have hb:=jz ((fR B).length/64) H0 (fR B) rfl;have g2:=Zi (ec H0 (fR B) ((fR B).length/64)) (by omega);have hw:=eD (ec H0 (fR B) ((fR B).length/64));have hH:ws H0=[[.int .u32 1779033703],[.int .u32 3144134277],[.int .u32 1013904242],[.int .u32 2773480762],[.int .u32 1359893119],[.int .u32 2600822924],[.int .u32 528734635],[.int .u32 1541459225]]:=rfl;rw[hH]at g1;rw[ao ZF];unfold sha;generalize ec H0 (fR B) ((fR B).length/64)=b at*;have ht:List.take 8 (ws b)=ws b:=aT (by rw[hw,hb];exact aP 8);simp only[go_sem,Q0,Q1,Q2,Q3,Q4,Q5,Q6,Q7,Q8,Q9,Qa,Qb,Qc,Qd,Qe,Qf,Qg,Qh,Qi,Qj,Qk,reduceCtorEq,reduceIte,g0,g1,g2,V3,V2,hw,hb,c8,ht]
theorem Zg:call T 117 [] [] 0=some ⟨.agg gJ,[],[]⟩:=by rw[ao VA];simp only[go_sem,Q0,Q1,Q2,Q3,Q4,Q5,Q6,Q7,Q8,Q9,Qa,Qb,Qc,Qd,Qe,Qf,Qg,Qh,Qi,Qj,Qk,reduceCtorEq,reduceIte];rfl
def bk(X:List UInt8)(a:Nat):List UInt8:=List.drop a (List.take (a+64) X)
theorem Eh(X:List UInt8)(a:Nat)(h:a+64<=X.length):(bk X a).length=64:=by unfold bk;rw[aS,ax];omega
theorem UT(X:List UInt8)(a:Nat):bk X a=(X.drop a).take 64:=by unfold bk;rw[xM];congr 1;omega
theorem rq7(x:Int):call T 120 [.int .u32 x,.int .u64 7] [] 0=some ⟨.int .u32 (rr x 7),[],[]⟩:=qr x 7 (by omega)
theorem X9(x:Int):call T 120 [.int .u32 x,.int .u64 18] [] 0=some ⟨.int .u32 (rr x 18),[],[]⟩:=qr x 18 (by omega)
theorem Ya(x:Int):call T 120 [.int .u32 x,.int .u64 17] [] 0=some ⟨.int .u32 (rr x 17),[],[]⟩:=qr x 17 (by omega)
theorem X8(x:Int):call T 120 [.int .u32 x,.int .u64 19] [] 0=some ⟨.int .u32 (rr x 19),[],[]⟩:=qr x 19 (by omega)
theorem rq6(x:Int):call T 120 [.int .u32 x,.int .u64 6] [] 0=some ⟨.int .u32 (rr x 6),[],[]⟩:=qr x 6 (by omega)
theorem Yc(x:Int):call T 120 [.int .u32 x,.int .u64 11] [] 0=some ⟨.int .u32 (rr x 11),[],[]⟩:=qr x 11 (by omega)
theorem X6(x:Int):call T 120 [.int .u32 x,.int .u64 25] [] 0=some ⟨.int .u32 (rr x 25),[],[]⟩:=qr x 25 (by omega)
theorem rq2(x:Int):call T 120 [.int .u32 x,.int .u64 2] [] 0=some ⟨.int .u32 (rr x 2),[],[]⟩:=qr x 2 (by omega)
theorem Yb(x:Int):call T 120 [.int .u32 x,.int .u64 13] [] 0=some ⟨.int .u32 (rr x 13),[],[]⟩:=qr x 13 (by omega)
theorem X7(x:Int):call T 120 [.int .u32 x,.int .u64 22] [] 0=some ⟨.int .u32 (rr x 22),[],[]⟩:=qr x 22 (by omega)
theorem Yr(X:List UInt8)(a:Nat)(h:List Int)(ha:a+64<=X.length)(hX:X.length<=1000000000000):∀(n t:Nat),64-t=n->t<=64->
 run T (.loop sr) ⟨[(3,.ptr 103 0),(4,.psl 119 1 0 8 (some 8)),(5,.byt X .no),(6,.int .i64 a),(7,.ptr 107 0),(8,.int .i64 t)],[(103,.arr 1 (ws Kl)),(107,.arr 1 (ws (Wl (bk X a) t))),(119,.arr 1 (ws h))],[]⟩=
 some (.x 2,⟨[(3,.ptr 103 0),(4,.psl 119 1 0 8 (some 8)),(5,.byt X .no),(6,.int .i64 a),(7,.ptr 107 0)],[(103,.arr 1 (ws Kl)),(107,.arr 1 (ws (Wl (bk X a) 64))),(119,.arr 1 (ws h))],[]⟩):=by
 intro n;induction n with
 |zero=>
  intro t h0 h1;have hi:t=64:=by omega
  subst hi;rw[aq];simp only[c64,go_sem,Q0,Q1,Q2,Q3,Q4,Q5,Q6,Q7,Q8,Q9,Qa,Qb,Qc,Qd,Qe,Qf,Qg,Qh,Qi,Qj,Qk,reduceCtorEq,reduceIte]
 |succ n ih=>
  intro t h0 h1;have ih':=ih (t+1) (by omega) (by omega);have e1:=dF t (by omega);have hlt:(t:Int)<64:=by omega
  have hl:=pk (bk X a) t;have hw:=eD (Wl (bk X a) t);have hn:t<64:=by omega
  have hs:Wl (bk X a) (t+1)=(Wl (bk X a) t).set t (nw (bk X a) (Wl (bk X a) t) t):=rfl;have a1:af.wrap ((a:Int)+64)=((a+64:Nat):Int):=wZ (by omega)
  have a3:a<=a+64:=by omega
  rw[aq]
  by_cases h16:t<16
  ·have g:=Ze (bk X a) t (by rw[Eh X a ha];omega) (by rw[Eh X a ha];omega)
   have h16':(t:Int)<16:=by omega
   have hx:nw (bk X a) (Wl (bk X a) t) t=wd (bk X a) t:=by unfold nw;rw[if_pos h16]
   rw[hs,hx]at ih';generalize hb:Wl (bk X a) t=L at*;generalize hc:wd (bk X a) t=z at*;unfold bk at g;simp only[go_sem,Q0,Q1,Q2,Q3,Q4,Q5,Q6,Q7,Q8,Q9,Qa,Qb,Qc,Qd,Qe,Qf,Qg,Qh,Qi,Qj,Qk,reduceCtorEq,reduceIte,hlt,h16',e1,a1,ha,a3,g,hl,hw,VY,hn,oU,ih']
  ·have h16':¬(t:Int)<16:=by omega
   have a15:af.wrap ((t:Int)-15)=((t-15:Nat):Int):=wZ (by omega)
   have a2:af.wrap ((t:Int)-2)=((t-2:Nat):Int):=wZ (by omega)
   have a7:af.wrap ((t:Int)-7)=((t-7:Nat):Int):=wZ (by omega)
   have a16:af.wrap ((t:Int)-16)=((t-16:Nat):Int):=wZ (by omega)
   have b15:t-15<64:=by omega
   have b2:t-2<64:=by omega
   have b7:t-7<64:=by omega
   have b16:t-16<64:=by omega
   rw[hs]at ih';unfold nw at ih';rw[if_neg h16]at ih';generalize hb:Wl (bk X a) t=L at*;have d15:=cC L (t-15) (by omega);have d2:=cC L (t-2) (by omega);have d7:=cC L (t-7) (by omega);have d16:=cC L (t-16) (by omega);simp only[go_sem,Q0,Q1,Q2,Q3,Q4,Q5,Q6,Q7,Q8,Q9,Qa,Qb,Qc,Qd,Qe,Qf,Qg,Qh,Qi,Qj,Qk,reduceCtorEq,reduceIte,hlt,h16',e1,hl,hw,No,hn,a15,a2,a7,a16,b15,b2,b7,b16,d15,d2,d7,d16,rq7,X9,Ya,X8,oU,m3,m10,ih']
theorem Yq(X:List UInt8)(a:Nat)(W h:List Int)(O:aA)(hW:W.length=64)(hh:h.length=8):∀(n t:Nat)(q:Tok),64-t=n->t<=64->
 run T (.loop sn) ⟨[(3,.ptr 103 0),(4,.psl 119 1 0 8 (some 8)),(5,.byt X .no),(6,.int .i64 a),(7,.ptr 107 0),(11,.lst 1 (ws (rounds W h t)) q),(12,.int .i64 t)],[(103,.arr 1 (ws Kl)),(107,.arr 1 (ws W)),(119,O)],[194]⟩=
 some (.x 4,⟨[(3,.ptr 103 0),(4,.psl 119 1 0 8 (some 8)),(5,.byt X .no),(6,.int .i64 a),(11,.lst 1 (ws (rounds W h 64)) (if t=64 then q else .clip))],[(103,.arr 1 (ws Kl)),(107,.arr 1 (ws W)),(119,O)],[194]⟩):=by
 intro n;induction n with
 |zero=>
  intro t q h0 h1;have hi:t=64:=by omega
  subst hi;rw[aq];simp only[c64,go_sem,Q0,Q1,Q2,Q3,Q4,Q5,Q6,Q7,Q8,Q9,Qa,Qb,Qc,Qd,Qe,Qf,Qg,Qh,Qi,Qj,Qk,reduceCtorEq,reduceIte]
 |succ n ih=>
  intro t q h0 h1;have ih':=ih (t+1) .clip (by omega) (by omega);have e1:=dF t (by omega);have hlt:(t:Int)<64:=by omega
  have hn:t<64:=by omega
  have hn2:t≠64:=by omega
  have hl:=fQ W h hh t;have hw:=eD (rounds W h t);have hw2:=eD W;have hw3:=eD Kl;have hk:=tD;have hs:rounds W h (t+1)=rnd (Kl.getD t 0) (W.getD t 0) (rounds W h t):=rfl;rw[hs]at ih';simp only[rnd,ws8]at ih';rw[ite_self]at ih';generalize rounds W h t=s at*;have d0:=cC s 0 (by omega);have d1:=cC s 1 (by omega);have d2:=cC s 2 (by omega);have d3:=cC s 3 (by omega);have d4:=cC s 4 (by omega);have d5:=cC s 5 (by omega);have d6:=cC s 6 (by omega);have d7:=cC s 7 (by omega);have dW:=cC W t (by omega);have dK:=cC Kl t (by rw[tD];exact hn);rw[aq];simp only[go_sem,Q0,Q1,Q2,Q3,Q4,Q5,Q6,Q7,Q8,Q9,Qa,Qb,Qc,Qd,Qe,Qf,Qg,Qh,Qi,Qj,Qk,reduceCtorEq,reduceIte,hlt,e1,hl,hw,hw2,hw3,hk,hW,No,hn,hn2,d0,d1,d2,d3,d4,d5,d6,d7,dW,dK,rq6,Yc,X6,rq2,Yb,X7,c8,c64,ih']
theorem Yp(X:List UInt8)(a:Nat)(h s:List Int)(P Q:aA)(hh:h.length=8)(hs:s.length=8):
 run T (.loop sj) ⟨[(3,.ptr 103 0),(4,.psl 119 1 0 8 (some 8)),(5,.byt X .no),(6,.int .i64 a),(11,.lst 1 (ws s) .clip),(17,.int .i64 0)],[(103,P),(107,Q),(119,.arr 1 (ws h))],[194]⟩=
 some (.x 6,⟨[(3,.ptr 103 0),(4,.psl 119 1 0 8 (some 8)),(5,.byt X .no),(6,.int .i64 a)],[(103,P),(107,Q),(119,.arr 1 (ws (rS h s)))],[194]⟩):=by
 match h,hh with
 |[a0,a1,a2,a3,a4,a5,a6,a7],_=>match s,hs with
  |[b0,b1,b2,b3,b4,b5,b6,b7],_=>
   have k1:af.wrap 1=1:=rfl;have k2:af.wrap 2=2:=rfl;have k3:af.wrap 3=3:=rfl;have k4:af.wrap 4=4:=rfl;have k5:af.wrap 5=5:=rfl;have k6:af.wrap 6=6:=rfl;have k7:af.wrap 7=7:=rfl;have k8:af.wrap 8=8:=rfl;simp only[ws8,rS]
   iterate 9
    rw[aq];simp only[go_sem,Q0,Q1,Q2,Q3,Q4,Q5,Q6,Q7,Q8,Q9,Qa,Qb,Qc,Qd,Qe,Qf,Qg,Qh,Qi,Qj,Qk,reduceCtorEq,reduceIte,aj,ay,c8,k1,k2,k3,k4,k5,k6,k7,k8]
theorem l73(X:List UInt8)(hX:X.length<=1000000000000):∀(n a:Nat)(h:List Int),h.length=8->X.length=a+64*n->
 run T (.loop si) ⟨[(3,.ptr 103 0),(4,.psl 119 1 0 8 (some 8)),(5,.byt X .no),(6,.int .i64 a)],[(103,.arr 1 (ws Kl)),(119,.arr 1 (ws h))],[]⟩=
 some (.x 0,⟨[(4,.psl 119 1 0 8 (some 8))],[(103,.arr 1 (ws Kl)),(119,.arr 1 (ws (ec h (X.drop a) n)))],[]⟩):=by
 intro n;induction n with
 |zero=>
  intro a h hh hl;rw[aq];have h0:¬(a:Int)<X.length:=by omega
  simp only[go_sem,Q0,Q1,Q2,Q3,Q4,Q5,Q6,Q7,Q8,Q9,Qa,Qb,Qc,Qd,Qe,Qf,Qg,Qh,Qi,Qj,Qk,reduceCtorEq,reduceIte,h0,ec]
 |succ n ih=>
  intro a h hh hl;have ih':=ih (a+64) (comp h (bk X a)) (mD h _ hh) (by omega);have h0:(a:Int)<X.length:=by omega
  have a1:af.wrap ((a:Int)+64)=((a+64:Nat):Int):=wZ (by omega)
  have g1:=Yr X a h (by omega) hX _ 0 rfl (by omega);have g2:=Yq X a (Wl (bk X a) 64) h (.arr 1 (ws h)) (pk _ 64) hh _ 0 (.id 194) rfl (by omega);have g3:=Yp X a h (rounds (Wl (bk X a) 64) h 64) (.arr 1 (ws Kl)) (.arr 1 (ws (Wl (bk X a) 64))) hh (fQ _ _ hh 64);have hw:Wl (bk X a) 0=az 64 0:=rfl;have hr:rounds (Wl (bk X a) 64) h 0=h:=rfl;have hz:¬(0:Nat)=64:=by omega
  have hwl:=eD h;rw[hw,<-zJ]at g1;rw[hr,if_neg hz]at g2;simp only[aJ]at g1 g2
  have hbl:ec h (X.drop a) (n+1)=ec (comp h (bk X a)) (X.drop (a+64)) n:=by rw[ec,UT,List.drop_drop]
  rw[hbl,aq];unfold comp at ih' ⊢;have ht:List.take 8 (ws h)=ws h:=aT (by rw[hwl,hh];exact aP 8);simp only[go_sem,Q0,Q1,Q2,Q3,Q4,Q5,Q6,Q7,Q8,Q9,Qa,Qb,Qc,Qd,Qe,Qf,Qg,Qh,Qi,Qj,Qk,reduceCtorEq,reduceIte,h0,a1,g1,g2,g3,hwl,hh,ht,ih']
  trace_state
attribute [-go_sem] ij
theorem f73(B:List UInt8)(hB:B.length<=100000000000):call T 73 [.byt B .no] [] 0=some ⟨.byt (sha B) .no,[],[]⟩:=by
 have g1:=Zg;have g0:=Zf B (by omega);have ck:ij 1 64 (List.map SV.data gJ)=ws Kl:=rfl;have i3:gJ.all SV.isData=true:=rfl;have i4:=kz;have pg:SV.purgeL 103 104 gJ=gJ:=rfl;have i1:SV.idsL gJ=[]:=rfl;have i2:SV.toksL gJ=[]:=rfl;have hl:=me B;have hz:zn (B.length+1)<64:=by unfold zn;omega
 have hm:=pX B;have g3:=l73 (fR B) (by omega) ((fR B).length/64) 0 H0 rfl (by omega);have hb:=jz ((fR B).length/64) H0 (fR B) rfl;have g2:=Zd (ec H0 (fR B) ((fR B).length/64)) (by omega);have hw:=eD (ec H0 (fR B) ((fR B).length/64));have hH:ws H0=[[.int .u32 1779033703],[.int .u32 3144134277],[.int .u32 1013904242],[.int .u32 2773480762],[.int .u32 1359893119],[.int .u32 2600822924],[.int .u32 528734635],[.int .u32 1541459225]]:=rfl;rw[hH]at g3;simp only[aJ,bK]at g3;unfold sha;generalize ec H0 (fR B) ((fR B).length/64)=b at*;have ht:List.take 8 (ws b)=ws b:=aT (by rw[hw,hb];exact aP 8);rw[ao ZE];simp only[go_sem,Q0,Q1,Q2,Q3,Q4,Q5,Q6,Q7,Q8,Q9,Qa,Qb,Qc,Qd,Qe,Qf,Qg,Qh,Qi,Qj,Qk,reduceCtorEq,reduceIte,g1,g0,VZ,V0,i1,i2,List.isEmpty,ck,i3,i4,pg,g2,g3,VX,hw,hb,c8,ht]
attribute [go_sem] ij
theorem l40(v:Int):∀(k:Nat)(acc:List UInt8),k<=8->acc.length+k<=100000000000000->
 run T (.loop EG) ⟨[(2,.int .i64 v),(7,.byt acc (.id 107)),(8,.int .i64 ((k:Int)-1))],[],[107]⟩=
 some (.x 0,⟨[(7,.byt (acc++be k (aW.wrap v)) (.id 107))],[],[107]⟩):=by
 intro k;induction k with
 |zero=>
  intro acc hk h;rw[aq];have hg:¬(0:Int)<=((0:Nat):Int)-1:=by omega
  simp only[go_sem,Q0,Q1,Q2,Q3,Q4,Q5,Q6,Q7,Q8,Q9,Qa,Qb,Qc,Qd,Qe,Qf,Qg,Qh,Qi,Qj,Qk,reduceCtorEq,reduceIte,hg,be,br]
 |succ k ih=>
  intro acc hk h;have ih':=ih (acc++ [fC (aW.wrap v) (8*k)]) (by omega) (by rw[ai,bR];omega);have c1:acc.length+1<=140737488355328:=by omega
  have hg:(0:Int)<=((k+1:Nat):Int)-1:=by omega
  have he:aW.wrap (((k+1:Nat):Int)-1)=(k:Int):=by rw[bJ];omega
  have he2:af.wrap (8*(((k+1:Nat):Int)-1))=((8*k:Nat):Int):=wZ (by omega)
  have he3:aW.wrap (((8*k:Nat):Int))=((8*k:Nat):Int):=by rw[bJ];omega
  have he4:aW.wrap (8*(k:Int))=((8*k:Nat):Int):=by rw[bJ];omega
  have hs:af.wrap (((k+1:Nat):Int)-1-1)=(k:Int)-1:=wZ (by omega)
  have hm:min (8*k) 64=8*k:=by omega
  rw[aY,di]at ih';rw[aq];unfold fC at ih';simp only[go_sem,Q0,Q1,Q2,Q3,Q4,Q5,Q6,Q7,Q8,Q9,Qa,Qb,Qc,Qd,Qe,Qf,Qg,Qh,Qi,Qj,Qk,reduceCtorEq,reduceIte,c1,hg,he,he2,he3,he4,hs,hm,be,fC,ih']
theorem f40(B:List UInt8)(k:Nat)(v:Int)(h1:1<=k)(h8:k<=8)(hB:B.length<=10000000000000):
 call T 40 [.byt B .no,.int .i64 k,.int .i64 v] [] 0=some ⟨.byt (B++be k (aW.wrap v)) (.id 60),[],[60]⟩:=by
 have g:=l40 v k B h8 (by omega);have c1:¬(k:Int)<1:=by omega
 have c2:¬(8:Int)<k:=by omega
 have c3:af.wrap ((k:Int)-1)=(k:Int)-1:=w64 (by omega) (by omega);have c4:B.length<=140737488355328:=by omega
 rw[ao ZR];simp only[go_sem,Q0,Q1,Q2,Q3,Q4,Q5,Q6,Q7,Q8,Q9,Qa,Qb,Qc,Qd,Qe,Qf,Qg,Qh,Qi,Qj,Qk,reduceCtorEq,reduceIte,c1,c2,c3,c4,g]
theorem l45(v:Int):∀(k:Nat)(acc:List UInt8),k<=8->acc.length+k<=100000000000000->
 run T (.loop EC) ⟨[(2,.int .i64 v),(7,.byt acc (.id 107)),(8,.int .i64 ((k:Int)-1))],[],[107]⟩=
 some (.x 0,⟨[(7,.byt (acc++be k (aW.wrap v)) (.id 107))],[],[107]⟩):=by
 intro k;induction k with
 |zero=>
  intro acc hk h;rw[aq];have hg:¬(0:Int)<=((0:Nat):Int)-1:=by omega
  simp only[go_sem,Q0,Q1,Q2,Q3,Q4,Q5,Q6,Q7,Q8,Q9,Qa,Qb,Qc,Qd,Qe,Qf,Qg,Qh,Qi,Qj,Qk,reduceCtorEq,reduceIte,hg,be,br]
 |succ k ih=>
  intro acc hk h;have ih':=ih (acc++ [fC (aW.wrap v) (8*k)]) (by omega) (by rw[ai,bR];omega);have c1:acc.length+1<=140737488355328:=by omega
  have hg:(0:Int)<=((k+1:Nat):Int)-1:=by omega
  have he:aW.wrap (((k+1:Nat):Int)-1)=(k:Int):=by rw[bJ];omega
  have he4:aW.wrap (8*(k:Int))=((8*k:Nat):Int):=by rw[bJ];omega
  have hs:af.wrap (((k+1:Nat):Int)-1-1)=(k:Int)-1:=wZ (by omega)
  have hm:min (8*k) 64=8*k:=by omega
  rw[aY,di]at ih';rw[aq];unfold fC at ih';simp only[go_sem,Q0,Q1,Q2,Q3,Q4,Q5,Q6,Q7,Q8,Q9,Qa,Qb,Qc,Qd,Qe,Qf,Qg,Qh,Qi,Qj,Qk,reduceCtorEq,reduceIte,c1,hg,he,he4,hs,hm,be,fC,ih']
theorem f45(B:List UInt8)(k:Nat)(v:Int)(h1:1<=k)(h8:k<=8)(hB:B.length<=10000000000000):
 call T 45 [.byt B .no,.int .i64 k,.int .i64 v] [] 0=some ⟨.byt (B++be k (aW.wrap v)) (.id 60),[],[60]⟩:=by
 have g:=l45 v k B h8 (by omega);have c1:¬(k:Int)<1:=by omega
 have c2:¬(8:Int)<k:=by omega
 have c3:af.wrap ((k:Int)-1)=(k:Int)-1:=w64 (by omega) (by omega);have c4:B.length<=140737488355328:=by omega
 rw[ao ZM];simp only[go_sem,Q0,Q1,Q2,Q3,Q4,Q5,Q6,Q7,Q8,Q9,Qa,Qb,Qc,Qd,Qe,Qf,Qg,Qh,Qi,Qj,Qk,reduceCtorEq,reduceIte,c1,c2,c3,c4,g]
def frame(t:Int)(X:List UInt8):List UInt8:=cW t::(w4 (X.length:Int)++X)
theorem YU(t:Int)(X:List UInt8)(hX:X.length<=1000000000):call T 204 [.int .i64 t,.lst 1 [[.byt X .no]] .no] [] 0=some ⟨.byt (frame t X) .no,[],[]⟩:=by
 have k1:af.wrap 1=1:=rfl;have e1:cw.wrap (X.length:Int)=X.length:=by rw[IntKind.wrap_u32];omega
 have c4:1+4+X.length<=140737488355328:=by omega
 have c5:5+X.length<=140737488355328:=by omega
 rw[ao M4];simp only[go_sem,Q0,Q1,Q2,Q3,Q4,Q5,Q6,Q7,Q8,Q9,Qa,Qb,Qc,Qd,Qe,Qf,Qg,Qh,Qi,Qj,Qk,reduceCtorEq,reduceIte,aj,ay,c1,k1];rw[aq];simp only[go_sem,Q0,Q1,Q2,Q3,Q4,Q5,Q6,Q7,Q8,Q9,Qa,Qb,Qc,Qd,Qe,Qf,Qg,Qh,Qi,Qj,Qk,reduceCtorEq,reduceIte,aj,ay,c1,k1,e1,m24,m16,m8,c4,c5];rw[aq];simp only[go_sem,Q0,Q1,Q2,Q3,Q4,Q5,Q6,Q7,Q8,Q9,Qa,Qb,Qc,Qd,Qe,Qf,Qg,Qh,Qi,Qj,Qk,reduceCtorEq,reduceIte,aj,ay,c1,k1,e1,m24,m16,m8,c4,c5,frame,w4,fC]
 trace_state
theorem wH(t:Int)(X:List UInt8):(frame t X).length=X.length+5:=by simp[frame,w4]
def EW(t:Int)(X:List UInt8):List UInt8:=sha (frame t X)
theorem YZ(t:Int)(X:List UInt8)(hX:X.length<=1000000000):call T 183 [.int .i64 t,.lst 1 [[.byt X .no]] .no] [] 0=some ⟨.byt (EW t X) .no,[],[]⟩:=by have g1:=YU t X hX;have g2:=f64 (frame t X) (by rw[wH];omega);rw[ao M5];simp only[go_sem,Q0,Q1,Q2,Q3,Q4,Q5,Q6,Q7,Q8,Q9,Qa,Qb,Qc,Qd,Qe,Qf,Qg,Qh,Qi,Qj,Qk,reduceCtorEq,reduceIte,g1,g2,Na,R6,EW]
end Go.Proofs.YtkggincjigbelaaGreatDoor
