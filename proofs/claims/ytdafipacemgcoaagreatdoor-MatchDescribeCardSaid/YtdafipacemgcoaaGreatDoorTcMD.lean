/- Contracts. No condition. -/
import Derived.Test.YtdafipacemgcoaaGreatDoorTaMD
open Int renaming natCast_zero -> aH
open Go.IntKind renaming i64 -> aj, u32 -> ay, u64 -> bd, wrap_u64 -> cz
open List renaming append_assoc -> aZ, append_nil -> bK, cons_append -> bU, drop -> lm, drop_drop -> fp, drop_length -> bh, drop_zero -> bi, flatMap_cons -> dZ, getD_cons_succ -> bF, getD_cons_zero -> bp, getD_eq_getElem?_getD -> aa, getElem?_drop -> bf, getElem?_eq_getElem -> af, getElem?_map -> aR, length_append -> ah, length_cons -> av, length_drop -> aE, length_nil -> bg, length_replicate -> bQ, length_singleton -> aL, length_take -> aD, map_cons -> aO, map_nil -> ic, nil_append -> bw, replicate -> au, singleton_append -> dG, take -> dj, take_length -> bt, take_of_length_le -> cg
open Nat renaming add_zero -> fm, le_refl -> aI, mul_one -> iF
open UInt8 renaming ofInt -> dO
set_option maxRecDepth 100000
set_option maxHeartbeats 16000000
set_option linter.unusedSimpArgs false
set_option linter.unusedVariables false
namespace Go.Proofs.YtdafipacemgcoaaGreatDoor
open Go.Sy
open UInt8 renaming reduceLT -> Q0, reduceLE -> Q1
open Int renaming reduceToNat -> Q2, reduceLE -> Q3, reduceLT -> Q4, reduceEq -> Q5, reduceNe -> Q6, reduceNeg -> Q7, reduceAdd -> Q8, reduceSub -> Q9, reduceMul -> Qa
open Nat renaming reducePow -> Qb, reduceDiv -> Qc, reduceMod -> Qd, reduceAdd -> Qe, reduceSub -> Qf, reduceMul -> Qg, reduceLT -> Qh, reduceLeDiff -> Qi, reduceEqDiff -> Qj, reduceBEq -> Qk
def rr(x:Int)(n:Nat):Int:=bx .or .u32 (x.fdiv (2^n)) (ay.wrap (x*2^(32-n)))
theorem kR(k:IntKind)(x y:Int):bx .or k x y=bx .or k y x:=by simp only[bx,BitVec.or_comm]
theorem f129(x:Int)(n:Nat)(h:n<=32):call T 129 [.int .u32 x,.int .u64 n] [] 0=some ⟨.int .u32 (rr x n),[],[]⟩:=by
 rw[az xgA];have e:bd.wrap (32-(n:Int))=((32-n:Nat):Int):=by rw[cz];omega
 have C:min n 32=n:=by omega
 have B:min (32-n) 32=32-n:=by omega
 have z:(0:Int)<=((32-n:Nat):Int):=by omega
 simp only[go_sem,Q0,Q1,Q2,Q3,Q4,Q5,Q6,Q7,Q8,Q9,Qa,Qb,Qc,Qd,Qe,Qf,Qg,Qh,Qi,Qj,Qk,reduceCtorEq,reduceIte,e,C,B,z,rr]
theorem pV(x k:Int)(n:Nat)(h:n<=32)(z:bx .and .u64 (bd.wrap k) 31=((32-n:Nat):Int)):call T 142 [.int .u32 x,.int .i64 k] [] 0=some ⟨.int .u32 (rr x n),[],[]⟩:=by
 rw[az xgp];have e:bd.wrap (32-((32-n:Nat):Int))=(n:Int):=by rw[cz];omega
 have C:min n 32=n:=by omega
 have B:min (32-n) 32=32-n:=by omega
 simp only[go_sem,Q0,Q1,Q2,Q3,Q4,Q5,Q6,Q7,Q8,Q9,Qa,Qb,Qc,Qd,Qe,Qf,Qg,Qh,Qi,Qj,Qk,reduceCtorEq,reduceIte,z,e,C,B,rr,kR]
theorem m24:min 24 32=24:=rfl
theorem m16:min 16 32=16:=rfl
theorem m8:min 8 32=8:=rfl
theorem m3:min 3 32=3:=rfl
theorem m10:min 10 32=10:=rfl
def wd(B:t6)(t:Nat):Int:=
 bx .or .u32 (bx .or .u32 (bx .or .u32 (ay.wrap (((B.getD (4*t) 0).toNat:Int)*2^24)) (ay.wrap (((B.getD (4*t+1) 0).toNat:Int)*2^16)))
  (ay.wrap (((B.getD (4*t+2) 0).toNat:Int)*2^8))) ((B.getD (4*t+3) 0).toNat:Int)
theorem xii(B:t6)(t:Nat)(h:4*t+3<B.length)(L:B.length<=1000000000000):call T 141 [.byt B .no,.int .i64 t] [] 0=some ⟨.int .u32 (wd B t),[],[]⟩:=by
 rw[az xgq];have E:aj.wrap (4*(t:Int))=((4*t:Nat):Int):=wZ (by omega)
 have I:aj.wrap (((4*t:Nat):Int)+1)=((4*t+1:Nat):Int):=wZ (by omega)
 have C:aj.wrap (((4*t:Nat):Int)+2)=((4*t+2:Nat):Int):=wZ (by omega)
 have z:aj.wrap (((4*t:Nat):Int)+3)=((4*t+3:Nat):Int):=wZ (by omega)
 have H:4*t<B.length:=by omega
 have F:4*t+1<B.length:=by omega
 have J:4*t+2<B.length:=by omega
 simp only[go_sem,Q0,Q1,Q2,Q3,Q4,Q5,Q6,Q7,Q8,Q9,Qa,Qb,Qc,Qd,Qe,Qf,Qg,Qh,Qi,Qj,Qk,reduceCtorEq,reduceIte,E,I,C,z,h,H,F,J,wd,m24,m16,m8]
theorem f128(B:t6)(t:Nat)(h:4*t+3<B.length)(L:B.length<=1000000000000):call T 128 [.byt B .no,.int .i64 t] [] 0=some ⟨.int .u32 (wd B t),[],[]⟩:=by
 rw[az xgB];have E:aj.wrap (4*(t:Int))=((4*t:Nat):Int):=wZ (by omega)
 have I:aj.wrap (((4*t:Nat):Int)+1)=((4*t+1:Nat):Int):=wZ (by omega)
 have C:aj.wrap (((4*t:Nat):Int)+2)=((4*t+2:Nat):Int):=wZ (by omega)
 have z:aj.wrap (((4*t:Nat):Int)+3)=((4*t+3:Nat):Int):=wZ (by omega)
 have H:4*t<B.length:=by omega
 have F:4*t+1<B.length:=by omega
 have J:4*t+2<B.length:=by omega
 simp only[go_sem,Q0,Q1,Q2,Q3,Q4,Q5,Q6,Q7,Q8,Q9,Qa,Qb,Qc,Qd,Qe,Qf,Qg,Qh,Qi,Qj,Qk,reduceCtorEq,reduceIte,E,I,C,z,h,H,F,J,wd,m24,m16,m8]
def nw(B:t6)(L:List Int)(t:Nat):Int:=
 if t<16 then wd B t else
  let x:=L.getD (t-15) 0
  let y:=L.getD (t-2) 0
  ay.wrap (ay.wrap (ay.wrap (bx .xor .u32 (bx .xor .u32 (rr y 17) (rr y 19)) (y.fdiv (2^10))+L.getD (t-7) 0)+
   bx .xor .u32 (bx .xor .u32 (rr x 7) (rr x 18)) (x.fdiv (2^3)))+L.getD (t-16) 0)
def Wl(B:t6):Nat->List Int
 |0=>au 64 0
 |t+1=>(Wl B t).set t (nw B (Wl B t) t)
theorem tC(B:t6)(t:Nat):(Wl B t).length=64:=by
 induction t with
 |zero=>simp[Wl]
 |succ n h=>simp[Wl,h]
def ws(L:List Int):f8:=L.map fun x=> [.int .u32 x]
theorem dr(L:List Int):(ws L).length=L.length:=by simp[ws]
theorem bV(L:List Int)(i:Nat)(h:i<L.length):(ws L).getD i []=[.int .u32 (L.getD i 0)]:=by simp[ws,aa,aR,af h]
theorem kF(L:List Int)(i:Nat)(x:Int):(ws L).set i [.int .u32 x]=ws (L.set i x):=by unfold ws;rw[List.map_set]
theorem sS(n:Nat):au n [SV.int .u32 0]=ws (au n 0):=by unfold ws;rw[List.map_replicate]
theorem xfO(B:t6)(O:aC)(hB:B.length=64):∀(n t:Nat),64-t=n->t<=64->
 run T (.loop rR) ⟨[(0,.ptr 0 0),(1,.byt B .no),(4,.ptr 104 0),(17,.int .i64 t)],[(0,O),(104,.arr 1 (ws (Wl B t)))],[]⟩=
 some (.x 0,⟨[(0,.ptr 0 0),(4,.ptr 104 0)],[(0,O),(104,.arr 1 (ws (Wl B 64)))],[]⟩):=by
 intro n;induction n with
 |zero=>
  intro t h0 h1;have hi:t=64:=by omega
  subst hi;rw[al];simp only[c64,go_sem,Q0,Q1,Q2,Q3,Q4,Q5,Q6,Q7,Q8,Q9,Qa,Qb,Qc,Qd,Qe,Qf,Qg,Qh,Qi,Qj,Qk,reduceCtorEq,reduceIte]
 |succ n ih=>
  intro t h0 h1;have h:=ih (t+1) (by omega) (by omega);have e1:=cA t (by omega);have C:(t:Int)<64:=by omega
  have hl:=tC B t;have hw:=dr (Wl B t);have hn:t<64:=by omega
  have Z:Wl B (t+1)=(Wl B t).set t (nw B (Wl B t) t):=rfl;rw[al]
  by_cases E:t<16
  ·have g:=xii B t (by omega) (by omega)
   have z:(t:Int)<16:=by omega
   have hx:nw B (Wl B t) t=wd B t:=by unfold nw;rw[if_pos E]
   rw[Z,hx]at h;simp only[go_sem,Q0,Q1,Q2,Q3,Q4,Q5,Q6,Q7,Q8,Q9,Qa,Qb,Qc,Qd,Qe,Qf,Qg,Qh,Qi,Qj,Qk,reduceCtorEq,reduceIte,C,z,e1,g,hl,hw,YW,hn,kF,h]
  ·have z:¬(t:Int)<16:=by omega
   have W:aj.wrap ((t:Int)-15)=((t-15:Nat):Int):=wZ (by omega)
   have a2:aj.wrap ((t:Int)-2)=((t-2:Nat):Int):=wZ (by omega)
   have a7:aj.wrap ((t:Int)-7)=((t-7:Nat):Int):=wZ (by omega)
   have F:aj.wrap ((t:Int)-16)=((t-16:Nat):Int):=wZ (by omega)
   have S:t-15<64:=by omega
   have b2:t-2<64:=by omega
   have b7:t-7<64:=by omega
   have Q:t-16<64:=by omega
   have J:=bV (Wl B t) (t-15) (by omega);have d2:=bV (Wl B t) (t-2) (by omega);have d7:=bV (Wl B t) (t-7) (by omega);have L:=bV (Wl B t) (t-16) (by omega);have r7:=fun x=>pV x (-7) 7 (by omega) (by decide)
   have U:=fun x=>pV x (-18) 18 (by omega) (by decide)
   have I:=fun x=>pV x (-17) 17 (by omega) (by decide)
   have H:=fun x=>pV x (-19) 19 (by omega) (by decide)
   rw[Z]at h;unfold nw at h;rw[if_neg E]at h;simp only[go_sem,Q0,Q1,Q2,Q3,Q4,Q5,Q6,Q7,Q8,Q9,Qa,Qb,Qc,Qd,Qe,Qf,Qg,Qh,Qi,Qj,Qk,reduceCtorEq,reduceIte,C,z,e1,hl,hw,qh,hn,W,a2,a7,F,S,b2,b7,Q,J,d2,d7,L,r7,U,I,H,kF,m3,m10,h]
def Kl:List Int:=iR.map fun| .int _ x=>x|_=>0
theorem y0:Kl.length=64:=rfl
theorem mG:iR.length=64:=rfl
theorem xdo:iR=Kl.map (SV.int .u32):=rfl
theorem xcH{t:Nat}(h:t<64):(1<=(lm (t*1) iR).length)=True:=by refine eq_true ?_;rw[aE,mG];omega
theorem xcI{t:Nat}(h:t<64):(List.map SV.data (lm (t*1) iR)).getD 0 SV.undef= .int .u32 (Kl.getD t 0):=by
 rw[xdo,aa,aR,bf,aR,iF,fm,aa,
  af (show t<Kl.length from h)]
 rfl
def rnd(k w:Int)(s:List Int):List Int:=
 let a:=s.getD 0 0
 let e:=s.getD 4 0
 let h:=ay.wrap (ay.wrap (ay.wrap (ay.wrap (s.getD 7 0+bx .xor .u32 (bx .xor .u32 (rr e 6) (rr e 11)) (rr e 25))+
  bx .xor .u32 (bx .and .u32 e (s.getD 5 0)) (bx .and .u32 (bx .xor .u32 (if ay.signed=true then-1 else ay.max) e) (s.getD 6 0)))+k)+w)
 let z:=ay.wrap (bx .xor .u32 (bx .xor .u32 (rr a 2) (rr a 13)) (rr a 22)+
  bx .xor .u32 (bx .xor .u32 (bx .and .u32 a (s.getD 1 0)) (bx .and .u32 a (s.getD 2 0))) (bx .and .u32 (s.getD 1 0) (s.getD 2 0)))
 [ay.wrap (h+z),a,s.getD 1 0,s.getD 2 0,ay.wrap (s.getD 3 0+h),e,s.getD 5 0,s.getD 6 0]
theorem ws8(a b c d e f g h:Int):ws [a,b,c,d,e,f,g,h]=[[.int .u32 a],[.int .u32 b],[.int .u32 c],[.int .u32 d],[.int .u32 e],[.int .u32 f],[.int .u32 g],[.int .u32 h]]:=rfl
def rounds(W:List Int)(h:List Int):Nat->List Int
 |0=>h
 |t+1=>rnd (Kl.getD t 0) (W.getD t 0) (rounds W h t)
theorem g9(W h:List Int)(z:h.length=8)(t:Nat):(rounds W h t).length=8:=by
 cases t<;>simp[rounds,rnd,z]
theorem n6(x:Int):call T 142 [.int .u32 x,.int .i64 (-6)] [] 0=some ⟨.int .u32 (rr x 6),[],[]⟩:=pV x (-6) 6 (by omega) (by decide)
theorem n11(x:Int):call T 142 [.int .u32 x,.int .i64 (-11)] [] 0=some ⟨.int .u32 (rr x 11),[],[]⟩:=pV x (-11) 11 (by omega) (by decide)
theorem n25(x:Int):call T 142 [.int .u32 x,.int .i64 (-25)] [] 0=some ⟨.int .u32 (rr x 25),[],[]⟩:=pV x (-25) 25 (by omega) (by decide)
theorem n2(x:Int):call T 142 [.int .u32 x,.int .i64 (-2)] [] 0=some ⟨.int .u32 (rr x 2),[],[]⟩:=pV x (-2) 2 (by omega) (by decide)
theorem n13(x:Int):call T 142 [.int .u32 x,.int .i64 (-13)] [] 0=some ⟨.int .u32 (rr x 13),[],[]⟩:=pV x (-13) 13 (by omega) (by decide)
theorem n22(x:Int):call T 142 [.int .u32 x,.int .i64 (-22)] [] 0=some ⟨.int .u32 (rr x 22),[],[]⟩:=pV x (-22) 22 (by omega) (by decide)
theorem xfN(W h:List Int)(O:aC)(F:W.length=64)(hh:h.length=8):∀(n t:Nat),64-t=n->t<=64->
 run T (.loop rQ) ⟨[(0,.ptr 0 0),(4,.ptr 104 0),(10,.ptr 110 0),(70,.int .i64 t)],[(0,O),(104,.arr 1 (ws W)),(110,.arr 1 (ws (rounds W h t)))],[]⟩=
 some (.x 2,⟨[(0,.ptr 0 0),(10,.ptr 110 0)],[(0,O),(104,.arr 1 (ws W)),(110,.arr 1 (ws (rounds W h 64)))],[]⟩):=by
 intro n;induction n with
 |zero=>
  intro t I h1;have hi:t=64:=by omega
  subst hi;rw[al];simp only[c64,go_sem,Q0,Q1,Q2,Q3,Q4,Q5,Q6,Q7,Q8,Q9,Qa,Qb,Qc,Qd,Qe,Qf,Qg,Qh,Qi,Qj,Qk,reduceCtorEq,reduceIte]
 |succ n ih=>
  intro t I h1;have z:=ih (t+1) (by omega) (by omega);have L:=cA t (by omega);have C:(t:Int)<64:=by omega
  have hn:t<64:=by omega
  have H:=g9 W h hh t;have U:=dr (rounds W h t);have B:=dr W;have E:rounds W h (t+1)=rnd (Kl.getD t 0) (W.getD t 0) (rounds W h t):=rfl;rw[E]at z;simp only[rnd,ws8]at z;generalize rounds W h t=s at*;have d0:=bV s 0 (by omega);have d1:=bV s 1 (by omega);have d2:=bV s 2 (by omega);have S:=bV s 3 (by omega);have Z:=bV s 4 (by omega);have d5:=bV s 5 (by omega);have d6:=bV s 6 (by omega);have Q:=bV s 7 (by omega);have J:=bV W t (by omega);have dK:=bV Kl t (by rw[y0];exact hn);rw[al];simp only[go_sem,Q0,Q1,Q2,Q3,Q4,Q5,Q6,Q7,Q8,Q9,Qa,Qb,Qc,Qd,Qe,Qf,Qg,Qh,Qi,Qj,Qk,reduceCtorEq,reduceIte,C,L,H,U,B,F,qh,hn,d0,d1,d2,S,Z,d5,d6,Q,J,dK,n6,n11,n25,n2,n13,n22,c8,c64,mG,xcH hn,xcI hn,z]
def sM:List Int->List Int->List Int
 |x::l,y::r=>ay.wrap (x+y)::sM l r
 |_,_=> []
theorem xfM(h s:List Int)(P:aC)(F:h.length=8)(z:s.length=8):
 run T (.loop rP) ⟨[(0,.ptr 0 0),(10,.ptr 110 0),(152,.int .i64 0)],[(0,.arr 1 (ws h)),(104,P),(110,.arr 1 (ws s))],[]⟩=
 some (.x 4,⟨[],[(0,.arr 1 (ws (sM h s))),(104,P),(110,.arr 1 (ws s))],[]⟩):=by
 match h,F with
 |[a0,a1,a2,a3,a4,a5,a6,a7],_=>match s,z with
  |[b0,b1,b2,b3,b4,b5,b6,b7],_=>
   have k1:aj.wrap 1=1:=rfl;have k2:aj.wrap 2=2:=rfl;have E:aj.wrap 3=3:=rfl;have J:aj.wrap 4=4:=rfl;have B:aj.wrap 5=5:=rfl;have H:aj.wrap 6=6:=rfl;have I:aj.wrap 7=7:=rfl;have C:aj.wrap 8=8:=rfl;simp only[ws8,sM]
   iterate 9
    rw[al];simp only[go_sem,Q0,Q1,Q2,Q3,Q4,Q5,Q6,Q7,Q8,Q9,Qa,Qb,Qc,Qd,Qe,Qf,Qg,Qh,Qi,Qj,Qk,reduceCtorEq,reduceIte,av,bg,c8,k1,k2,E,J,B,H,I,C]
def comp(h:List Int)(B:t6):List Int:=sM h (rounds (Wl B 64) h 64)
theorem uZ(h s:List Int)(z:h.length<=s.length):(sM h s).length=h.length:=by
 induction h generalizing s with
 |nil=>simp[sM]
 |cons x l B=>
  cases s with
  |nil=>simp at z
  |cons y r=>simp only[sM,av];rw[B r (by simpa using z)]
theorem pw(h:List Int)(B:t6)(z:h.length=8):(comp h B).length=8:=by unfold comp;rw[uZ _ _ (by rw[g9 _ _ z,z];exact aI 8),z]
theorem xkg(h:List Int)(B:t6)(E:h.length=8)(H:B.length=64):call T 116 [.ptr 0 0,.byt B .no] [.arr 1 (ws h)] 0=some ⟨.tup [],[(0,.arr 1 (ws (comp h B)))],[]⟩:=by
 have z:=xfO B (.arr 1 (ws h)) H _ 0 rfl (by omega);have C:=xfN (Wl B 64) h (.arr 1 (ws h)) (tC B 64) E _ 0 rfl (by omega);have F:=xfM h (rounds (Wl B 64) h 64) (.arr 1 (ws (Wl B 64))) E (g9 _ _ E 64);have J:Wl B 0=au 64 0:=rfl;have I:rounds (Wl B 64) h 0=h:=rfl;rw[J,<-sS]at z;rw[I]at C;simp only[aH]at z C;rw[az xgL]
 match h,E with
 |[a0,a1,a2,a3,a4,a5,a6,a7],_=>simp only[ws8]at z C F;simp only[go_sem,Q0,Q1,Q2,Q3,Q4,Q5,Q6,Q7,Q8,Q9,Qa,Qb,Qc,Qd,Qe,Qf,Qg,Qh,Qi,Qj,Qk,reduceCtorEq,reduceIte,ws8,z,C,F,comp,List.flatten_cons,List.flatten_nil,aO,ic,bU,bw,SV.data,List.take_succ_cons,List.take_zero,av,bg]
def zn(n:Nat):Nat:=(120-n % 64) % 64
theorem xfS(B:t6):∀(n:Nat)(h:t6),zn h.length=n->h.length+n<=100000000000000->
 run T (.loop xT) ⟨[(0,.byt B .no),(3,.byt h (.id 103))],[],[103]⟩=
 some (.x 0,⟨[(0,.byt B .no),(3,.byt (h++au n 0) (.id 103))],[],[103]⟩):=by
 intro n;induction n with
 |zero=>
  intro h C F;have I:h.length % 64=56:=by unfold zn at C;omega
  have hi:(h.length:Int).tmod 64=56:=by rw[Int.tmod_eq_emod_of_nonneg (by omega)];omega
  rw[al];simp only[go_sem,Q0,Q1,Q2,Q3,Q4,Q5,Q6,Q7,Q8,Q9,Qa,Qb,Qc,Qd,Qe,Qf,Qg,Qh,Qi,Qj,Qk,reduceCtorEq,reduceIte,hi,List.replicate_zero,bK]
 |succ n H=>
  intro h C F;have I:h.length % 64≠56:=by unfold zn at C;omega
  have hi:¬(h.length:Int).tmod 64=56:=by rw[Int.tmod_eq_emod_of_nonneg (by omega)];omega
  have z:=H (h++ [0]) (by unfold zn at*;rw[ah,aL];omega) (by rw[ah,aL];omega);have E:h.length+1<=140737488355328:=by omega
  rw[aZ,dG,<-List.replicate_succ]at z;rw[al];simp only[go_sem,Q0,Q1,Q2,Q3,Q4,Q5,Q6,Q7,Q8,Q9,Qa,Qb,Qc,Qd,Qe,Qf,Qg,Qh,Qi,Qj,Qk,reduceCtorEq,reduceIte,hi,E,z]
def iV(v:Int)(s:Nat):UInt8:=dO (v.fdiv (2^s))
def be:Nat->Int->t6
 |0,_=> []
 |k+1,v=>iV v (8*k)::be k v
theorem eg(n:Nat)(v:Int):(be n v).length=n:=by induction n with
 |zero=>rfl
 |succ n h=>simp[be,h]
theorem xfR(v:Int):∀(k:Nat)(z:t6),k<=8->z.length+k<=100000000000000->
 run T (.loop rT) ⟨[(3,.byt z (.id 103)),(4,.int .u64 v),(5,.int .i64 (8*(k:Int)-8))],[],[103]⟩=
 some (.x 2,⟨[(3,.byt (z++be k v) (.id 103))],[],[103]⟩):=by
 intro k;induction k with
 |zero=>
  intro z J h;rw[al];have C:¬(0:Int)<=8*((0:Nat):Int)-8:=by omega
  simp only[go_sem,Q0,Q1,Q2,Q3,Q4,Q5,Q6,Q7,Q8,Q9,Qa,Qb,Qc,Qd,Qe,Qf,Qg,Qh,Qi,Qj,Qk,reduceCtorEq,reduceIte,C,be,bK]
 |succ k H=>
  intro z J h;have B:=H (z++ [iV v (8*k)]) (by omega) (by rw[ah,aL];omega);have c1:z.length+1<=140737488355328:=by omega
  have C:(0:Int)<=8*((k+1:Nat):Int)-8:=by omega
  have F:bd.wrap (8*((k+1:Nat):Int)-8)=((8*k:Nat):Int):=by rw[cz];omega
  have E:aj.wrap (8*((k+1:Nat):Int)-8-8)=8*(k:Int)-8:=wZ (by omega)
  have I:min (8*k) 64=8*k:=by omega
  rw[aZ,dG]at B;rw[al];unfold iV at B;simp only[go_sem,Q0,Q1,Q2,Q3,Q4,Q5,Q6,Q7,Q8,Q9,Qa,Qb,Qc,Qd,Qe,Qf,Qg,Qh,Qi,Qj,Qk,reduceCtorEq,reduceIte,c1,C,F,E,I,be,iV,B]
def ek(B:t6):t6:=B++128::(au (zn (B.length+1)) 0++be 8 (bd.wrap (bd.wrap B.length*8)))
theorem j9(B:t6):(ek B).length=B.length+1+zn (B.length+1)+8:=by simp only[ek,ah,av,bQ,eg];omega
theorem lO(B:t6):(ek B).length % 64=0:=by rw[j9];unfold zn;omega
theorem xiq(B:t6)(h:B.length<=10000000000000):call T 113 [.byt B .no] [] 0=some ⟨.byt (ek B) .no,[],[]⟩:=by
 have hz:zn (B.length+1)<64:=by unfold zn;omega
 have E:=xfS B _ (B++ [128]) rfl (by simp;omega);have z:=xfR (bd.wrap (bd.wrap B.length*8)) 8 (B++128::au (zn (B.length+1)) 0) (by omega) (by simp;omega);have H:8*((8:Nat):Int)-8=56:=rfl;rw[H]at z;rw[az xgO];have e:aj.wrap ((B.length:Int)+72)=((B.length+72:Nat):Int):=wZ (by omega)
 have c2:((B.length+72:Nat):Int)<=140737488355328:=by omega
 have C:B.length<=140737488355328:=by omega
 have F:B.length+1<=140737488355328:=by omega
 simp only[go_sem,Q0,Q1,Q2,Q3,Q4,Q5,Q6,Q7,Q8,Q9,Qa,Qb,Qc,Qd,Qe,Qf,Qg,Qh,Qi,Qj,Qk,reduceCtorEq,reduceIte,e,E,z,c2,C,F,ek]
theorem xfL(B:t6):∀(n:Nat)(h:t6),zn h.length=n->h.length+n<=100000000000000->
 run T (.loop xO) ⟨[(0,.byt B .no),(3,.byt h (.id 103))],[],[103]⟩=
 some (.x 0,⟨[(0,.byt B .no),(3,.byt (h++au n 0) (.id 103))],[],[103]⟩):=by
 intro n;induction n with
 |zero=>
  intro h C F;have I:h.length % 64=56:=by unfold zn at C;omega
  have hi:(h.length:Int).tmod 64=56:=by rw[Int.tmod_eq_emod_of_nonneg (by omega)];omega
  rw[al];simp only[go_sem,Q0,Q1,Q2,Q3,Q4,Q5,Q6,Q7,Q8,Q9,Qa,Qb,Qc,Qd,Qe,Qf,Qg,Qh,Qi,Qj,Qk,reduceCtorEq,reduceIte,hi,List.replicate_zero,bK]
 |succ n H=>
  intro h C F;have I:h.length % 64≠56:=by unfold zn at C;omega
  have hi:¬(h.length:Int).tmod 64=56:=by rw[Int.tmod_eq_emod_of_nonneg (by omega)];omega
  have z:=H (h++ [0]) (by unfold zn at*;rw[ah,aL];omega) (by rw[ah,aL];omega);have E:h.length+1<=140737488355328:=by omega
  rw[aZ,dG,<-List.replicate_succ]at z;rw[al];simp only[go_sem,Q0,Q1,Q2,Q3,Q4,Q5,Q6,Q7,Q8,Q9,Qa,Qb,Qc,Qd,Qe,Qf,Qg,Qh,Qi,Qj,Qk,reduceCtorEq,reduceIte,hi,E,z]
theorem xfK(v:Int):∀(k:Nat)(z:t6),k<=8->z.length+k<=100000000000000->
 run T (.loop rO) ⟨[(3,.byt z (.id 103)),(4,.int .u64 v),(5,.int .i64 ((k:Int)-1))],[],[103]⟩=
 some (.x 2,⟨[(3,.byt (z++be k v) (.id 103))],[],[103]⟩):=by
 intro k;induction k with
 |zero=>
  intro z L h;rw[al];have E:¬(0:Int)<=((0:Nat):Int)-1:=by omega
  simp only[go_sem,Q0,Q1,Q2,Q3,Q4,Q5,Q6,Q7,Q8,Q9,Qa,Qb,Qc,Qd,Qe,Qf,Qg,Qh,Qi,Qj,Qk,reduceCtorEq,reduceIte,E,be,bK]
 |succ k I=>
  intro z L h;have B:=I (z++ [iV v (8*k)]) (by omega) (by rw[ah,aL];omega);have c1:z.length+1<=140737488355328:=by omega
  have E:(0:Int)<=((k+1:Nat):Int)-1:=by omega
  have H:bd.wrap (((k+1:Nat):Int)-1)=(k:Int):=by rw[cz];omega
  have C:bd.wrap (8*(k:Int))=((8*k:Nat):Int):=by rw[cz];omega
  have F:aj.wrap (((k+1:Nat):Int)-1-1)=(k:Int)-1:=wZ (by omega)
  have J:min (8*k) 64=8*k:=by omega
  rw[aZ,dG]at B;rw[al];unfold iV at B;simp only[go_sem,Q0,Q1,Q2,Q3,Q4,Q5,Q6,Q7,Q8,Q9,Qa,Qb,Qc,Qd,Qe,Qf,Qg,Qh,Qi,Qj,Qk,reduceCtorEq,reduceIte,c1,E,H,C,F,J,be,iV,B]
theorem xim(B:t6)(h:B.length<=10000000000000):call T 127 [.byt B .no] [] 0=some ⟨.byt (ek B) .no,[],[]⟩:=by
 have hz:zn (B.length+1)<64:=by unfold zn;omega
 have E:=xfL B _ (B++ [128]) rfl (by simp;omega);have z:=xfK (bd.wrap (bd.wrap B.length*8)) 8 (B++128::au (zn (B.length+1)) 0) (by omega) (by simp;omega);have F:((8:Nat):Int)-1=7:=rfl;rw[F]at z;rw[az xgC];have C:B.length<=140737488355328:=by omega
 have H:B.length+1<=140737488355328:=by omega
 simp only[go_sem,Q0,Q1,Q2,Q3,Q4,Q5,Q6,Q7,Q8,Q9,Qa,Qb,Qc,Qd,Qe,Qf,Qg,Qh,Qi,Qj,Qk,reduceCtorEq,reduceIte,E,z,C,H,ek]
def w4(x:Int):t6:=[iV x 24,iV x 16,iV x 8,dO x]
def sp(h:List Int):t6:=h.flatMap w4
theorem GE(h:List Int):(sp h).length=4*h.length:=by
 induction h with
 |nil=>rfl
 |cons x l z=>simp only[sp,dZ,ah,w4,av,bg]at*;omega
theorem d0(h:List Int)(i:Nat)(hi:i<h.length):h.drop i=h.getD i 0::h.drop (i+1):=mM h i hi
theorem xjE(h:List Int)(O:h.length<=1000000000000):∀(n i:Nat)(z:t6),h.length-i=n->i<=h.length->z.length=4*i->
 run T (.loop xR) ⟨[(3,.byt z (.id 103)),(10,.lst 1 (ws h) .no),(11,.int .i64 h.length),(12,.int .i64 i)],[],[103]⟩=
 some (.x 0,⟨[(3,.byt (z++sp (h.drop i)) (.id 103))],[],[103]⟩):=by
 intro n;induction n with
 |zero=>
  intro i z H F C;have hi:i=h.length:=by omega
  subst hi;rw[al];simp only[go_sem,Q0,Q1,Q2,Q3,Q4,Q5,Q6,Q7,Q8,Q9,Qa,Qb,Qc,Qd,Qe,Qf,Qg,Qh,Qi,Qj,Qk,reduceCtorEq,reduceIte,bh,sp,List.flatMap_nil,bK]
 |succ n L=>
  intro i z H F C;have hi:i<h.length:=by omega
  have J:=cA i (by omega);have B:=L (i+1) (z++w4 (h.getD i 0)) (by omega) (by omega) (by simp[w4];omega);have I:=bV h i hi;have E:=dr h;have c1:z.length+4<=140737488355328:=by omega
  rw[al];rw[aZ]at B;simp only[w4,iV]at B;simp only[go_sem,Q0,Q1,Q2,Q3,Q4,Q5,Q6,Q7,Q8,Q9,Qa,Qb,Qc,Qd,Qe,Qf,Qg,Qh,Qi,Qj,Qk,reduceCtorEq,reduceIte,hi,I,E,J,c1,m24,m16,m8,B,d0 h i hi,sp,dZ,w4,iV]
theorem xip(h:List Int)(z:h.length<=1000000000000):call T 115 [.lst 1 (ws h) .no] [] 0=some ⟨.byt (sp h) .no,[],[]⟩:=by
 have g:=xjE h z _ 0 [] rfl (by omega) rfl;have B:=dr h;rw[az xgM];have e:aj.wrap (4*(h.length:Int))=((4*h.length:Nat):Int):=wZ (by omega)
 have c2:((4*h.length:Nat):Int)<=140737488355328:=by omega
 simp only[aH,bi,bw]at g;simp only[go_sem,Q0,Q1,Q2,Q3,Q4,Q5,Q6,Q7,Q8,Q9,Qa,Qb,Qc,Qd,Qe,Qf,Qg,Qh,Qi,Qj,Qk,reduceCtorEq,reduceIte,e,B,c2,g]
theorem xjC(h:List Int)(O:h.length<=1000000000000):∀(n i:Nat)(z:t6),h.length-i=n->i<=h.length->z.length=4*i->
 run T (.loop xM) ⟨[(0,.lst 1 (ws h) .no),(3,.byt z (.id 103)),(4,.int .i64 i)],[],[103]⟩=
 some (.x 0,⟨[(3,.byt (z++sp (h.drop i)) (.id 103))],[],[103]⟩):=by
 intro n;induction n with
 |zero=>
  intro i z H F E;have hi:i=h.length:=by omega
  have C:=dr h;subst hi;rw[al];simp only[go_sem,Q0,Q1,Q2,Q3,Q4,Q5,Q6,Q7,Q8,Q9,Qa,Qb,Qc,Qd,Qe,Qf,Qg,Qh,Qi,Qj,Qk,reduceCtorEq,reduceIte,C,bh,sp,List.flatMap_nil,bK]
 |succ n L=>
  intro i z H F E;have hi:i<h.length:=by omega
  have J:=cA i (by omega);have B:=L (i+1) (z++w4 (h.getD i 0)) (by omega) (by omega) (by simp[w4];omega);have I:=bV h i hi;have C:=dr h;have c1:z.length+4<=140737488355328:=by omega
  rw[al];rw[aZ]at B;simp only[w4,iV]at B;simp only[go_sem,Q0,Q1,Q2,Q3,Q4,Q5,Q6,Q7,Q8,Q9,Qa,Qb,Qc,Qd,Qe,Qf,Qg,Qh,Qi,Qj,Qk,reduceCtorEq,reduceIte,hi,I,C,J,c1,m24,m16,m8,B,d0 h i hi,sp,dZ,w4,iV]
theorem xil(h:List Int)(z:h.length<=1000000000000):call T 130 [.lst 1 (ws h) .no] [] 0=some ⟨.byt (sp h) .no,[],[]⟩:=by have g:=xjC h z _ 0 [] rfl (by omega) rfl;have B:=dr h;rw[az xgz];simp only[aH,bi,bw]at g;simp only[go_sem,Q0,Q1,Q2,Q3,Q4,Q5,Q6,Q7,Q8,Q9,Qa,Qb,Qc,Qd,Qe,Qf,Qg,Qh,Qi,Qj,Qk,reduceCtorEq,reduceIte,B,g]
def fd(h:List Int)(X:t6):Nat->List Int
 |0=>h
 |n+1=>fd (comp h (X.take 64)) (X.drop 64) n
theorem li(n:Nat):∀(h:List Int)(X:t6),h.length=8->(fd h X n).length=8:=by
 induction n with
 |zero=>intro h X z;exact z
 |succ n B=>intro h X z;exact B _ _ (pw h _ z)
def H0:List Int:=[1779033703,3144134277,1013904242,2773480762,1359893119,2600822924,528734635,1541459225]
def sha(B:t6):t6:=sp (fd H0 (ek B) ((ek B).length/64))
theorem eZ(B:t6):(sha B).length=32:=by unfold sha;rw[GE,li _ _ _ rfl]
theorem l69:∀(n:Nat)(h:List Int)(X:t6),h.length=8->X.length=64*n->X.length<=1000000000000->
 run T (.loop xq) ⟨[(7,.ptr 107 0),(8,.byt X .no)],[(107,.arr 1 (ws h))],[]⟩=
 some (.x 3,⟨[(7,.ptr 107 0)],[(107,.arr 1 (ws (fd h X n)))],[]⟩):=by
 intro n;induction n with
 |zero=>
  intro h X B hX C;rw[al];have F:¬(0:Int)<X.length:=by omega
  simp only[go_sem,Q0,Q1,Q2,Q3,Q4,Q5,Q6,Q7,Q8,Q9,Qa,Qb,Qc,Qd,Qe,Qf,Qg,Qh,Qi,Qj,Qk,reduceCtorEq,reduceIte,F,fd]
 |succ n H=>
  intro h X B hX C;have z:=H (comp h (X.take 64)) (X.drop 64) (pw h _ B) (by rw[aE];omega) (by rw[aE];omega);have g:=xkg h (X.take 64) B (by rw[aD];omega);have E:(0:Int)<X.length:=by omega
  have I:(64:Int)<=X.length:=by omega
  have J:64<=X.length:=by omega
  rw[al];simp only[go_sem,Q0,Q1,Q2,Q3,Q4,Q5,Q6,Q7,Q8,Q9,Qa,Qb,Qc,Qd,Qe,Qf,Qg,Qh,Qi,Qj,Qk,reduceCtorEq,reduceIte,E,I,J,g,xg8,bt,z,fd]
theorem f69(B:t6)(I:B.length<=100000000000):call T 69 [.int .i64 1,.byt B .no] [] 0=some ⟨.byt (sha B) .no,[],[]⟩:=by
 have g0:=xiq B (by omega);have J:=j9 B;have hz:zn (B.length+1)<64:=by unfold zn;omega
 have L:=lO B;have h:=l69 ((ek B).length/64) H0 (ek B) rfl (by omega) (by omega);have z:=li ((ek B).length/64) H0 (ek B) rfl;have E:=xip (fd H0 (ek B) ((ek B).length/64)) (by omega);have C:=dr (fd H0 (ek B) ((ek B).length/64));have H:ws H0=[[.int .u32 1779033703],[.int .u32 3144134277],[.int .u32 1013904242],[.int .u32 2773480762],[.int .u32 1359893119],[.int .u32 2600822924],[.int .u32 528734635],[.int .u32 1541459225]]:=rfl;rw[H]at h;rw[az xiC];unfold sha;generalize fd H0 (ek B) ((ek B).length/64)=b at*;have F:dj 8 (ws b)=ws b:=cg (by rw[C,z];exact aI 8);simp only[go_sem,Q0,Q1,Q2,Q3,Q4,Q5,Q6,Q7,Q8,Q9,Qa,Qb,Qc,Qd,Qe,Qf,Qg,Qh,Qi,Qj,Qk,reduceCtorEq,reduceIte,g0,h,E,Y6,Y5,C,z,c8,F]
theorem xkc:call T 126 [] [] 0=some ⟨.agg iR,[],[]⟩:=by rw[az xgD];simp only[go_sem,Q0,Q1,Q2,Q3,Q4,Q5,Q6,Q7,Q8,Q9,Qa,Qb,Qc,Qd,Qe,Qf,Qg,Qh,Qi,Qj,Qk,reduceCtorEq,reduceIte];rfl
def bk(X:t6)(a:Nat):t6:=lm a (dj (a+64) X)
theorem tz(X:t6)(a:Nat)(h:a+64<=X.length):(bk X a).length=64:=by unfold bk;rw[aE,aD];omega
theorem YD(X:t6)(a:Nat):bk X a=(X.drop a).take 64:=by unfold bk;rw[List.drop_take];congr 1;omega
theorem rq7(x:Int):call T 129 [.int .u32 x,.int .u64 7] [] 0=some ⟨.int .u32 (rr x 7),[],[]⟩:=f129 x 7 (by omega)
theorem xi6(x:Int):call T 129 [.int .u32 x,.int .u64 18] [] 0=some ⟨.int .u32 (rr x 18),[],[]⟩:=f129 x 18 (by omega)
theorem xi7(x:Int):call T 129 [.int .u32 x,.int .u64 17] [] 0=some ⟨.int .u32 (rr x 17),[],[]⟩:=f129 x 17 (by omega)
theorem xi5(x:Int):call T 129 [.int .u32 x,.int .u64 19] [] 0=some ⟨.int .u32 (rr x 19),[],[]⟩:=f129 x 19 (by omega)
theorem rq6(x:Int):call T 129 [.int .u32 x,.int .u64 6] [] 0=some ⟨.int .u32 (rr x 6),[],[]⟩:=f129 x 6 (by omega)
theorem xi9(x:Int):call T 129 [.int .u32 x,.int .u64 11] [] 0=some ⟨.int .u32 (rr x 11),[],[]⟩:=f129 x 11 (by omega)
theorem xi3(x:Int):call T 129 [.int .u32 x,.int .u64 25] [] 0=some ⟨.int .u32 (rr x 25),[],[]⟩:=f129 x 25 (by omega)
theorem rq2(x:Int):call T 129 [.int .u32 x,.int .u64 2] [] 0=some ⟨.int .u32 (rr x 2),[],[]⟩:=f129 x 2 (by omega)
theorem xi8(x:Int):call T 129 [.int .u32 x,.int .u64 13] [] 0=some ⟨.int .u32 (rr x 13),[],[]⟩:=f129 x 13 (by omega)
theorem xi4(x:Int):call T 129 [.int .u32 x,.int .u64 22] [] 0=some ⟨.int .u32 (rr x 22),[],[]⟩:=f129 x 22 (by omega)
theorem xjn(X:t6)(a:Nat)(h:List Int)(S:a+64<=X.length)(hX:X.length<=1000000000000):∀(n t:Nat),64-t=n->t<=64->
 run T (.loop xj) ⟨[(3,.ptr 103 0),(4,.psl 119 1 0 8 (some 8)),(5,.byt X .no),(6,.int .i64 a),(7,.ptr 107 0),(8,.int .i64 t)],[(103,.arr 1 (ws Kl)),(107,.arr 1 (ws (Wl (bk X a) t))),(119,.arr 1 (ws h))],[]⟩=
 some (.x 2,⟨[(3,.ptr 103 0),(4,.psl 119 1 0 8 (some 8)),(5,.byt X .no),(6,.int .i64 a),(7,.ptr 107 0)],[(103,.arr 1 (ws Kl)),(107,.arr 1 (ws (Wl (bk X a) 64))),(119,.arr 1 (ws h))],[]⟩):=by
 intro n;induction n with
 |zero=>
  intro t h0 h1;have hi:t=64:=by omega
  subst hi;rw[al];simp only[c64,go_sem,Q0,Q1,Q2,Q3,Q4,Q5,Q6,Q7,Q8,Q9,Qa,Qb,Qc,Qd,Qe,Qf,Qg,Qh,Qi,Qj,Qk,reduceCtorEq,reduceIte]
 |succ n ih=>
  intro t h0 h1;have B:=ih (t+1) (by omega) (by omega);have e1:=cA t (by omega);have E:(t:Int)<64:=by omega
  have hl:=tC (bk X a) t;have Z:=dr (Wl (bk X a) t);have hn:t<64:=by omega
  have W:Wl (bk X a) (t+1)=(Wl (bk X a) t).set t (nw (bk X a) (Wl (bk X a) t) t):=rfl;have a1:aj.wrap ((a:Int)+64)=((a+64:Nat):Int):=wZ (by omega)
  have a3:a<=a+64:=by omega
  rw[al]
  by_cases F:t<16
  ·have g:=f128 (bk X a) t (by rw[tz X a S];omega) (by rw[tz X a S];omega)
   have C:(t:Int)<16:=by omega
   have hx:nw (bk X a) (Wl (bk X a) t) t=wd (bk X a) t:=by unfold nw;rw[if_pos F]
   rw[W,hx]at B;generalize hb:Wl (bk X a) t=L at*;generalize hc:wd (bk X a) t=z at*;unfold bk at g;simp only[go_sem,Q0,Q1,Q2,Q3,Q4,Q5,Q6,Q7,Q8,Q9,Qa,Qb,Qc,Qd,Qe,Qf,Qg,Qh,Qi,Qj,Qk,reduceCtorEq,reduceIte,E,C,e1,a1,S,a3,g,hl,Z,Y1,hn,kF,B]
  ·have C:¬(t:Int)<16:=by omega
   have U:aj.wrap ((t:Int)-15)=((t-15:Nat):Int):=wZ (by omega)
   have a2:aj.wrap ((t:Int)-2)=((t-2:Nat):Int):=wZ (by omega)
   have a7:aj.wrap ((t:Int)-7)=((t-7:Nat):Int):=wZ (by omega)
   have H:aj.wrap ((t:Int)-16)=((t-16:Nat):Int):=wZ (by omega)
   have Q:t-15<64:=by omega
   have b2:t-2<64:=by omega
   have b7:t-7<64:=by omega
   have O:t-16<64:=by omega
   rw[W]at B;unfold nw at B;rw[if_neg F]at B;generalize hb:Wl (bk X a) t=L at*;have I:=bV L (t-15) (by omega);have d2:=bV L (t-2) (by omega);have d7:=bV L (t-7) (by omega);have J:=bV L (t-16) (by omega);simp only[go_sem,Q0,Q1,Q2,Q3,Q4,Q5,Q6,Q7,Q8,Q9,Qa,Qb,Qc,Qd,Qe,Qf,Qg,Qh,Qi,Qj,Qk,reduceCtorEq,reduceIte,E,C,e1,hl,Z,Y0,hn,U,a2,a7,H,Q,b2,b7,O,I,d2,d7,J,rq7,xi6,xi7,xi5,kF,m3,m10,B]
theorem xjm(X:t6)(a:Nat)(W h:List Int)(O:aC)(I:W.length=64)(hh:h.length=8):∀(n t:Nat)(q:Tok),64-t=n->t<=64->
 run T (.loop xh) ⟨[(3,.ptr 103 0),(4,.psl 119 1 0 8 (some 8)),(5,.byt X .no),(6,.int .i64 a),(7,.ptr 107 0),(11,.lst 1 (ws (rounds W h t)) q),(12,.int .i64 t)],[(103,.arr 1 (ws Kl)),(107,.arr 1 (ws W)),(119,O)],[194]⟩=
 some (.x 4,⟨[(3,.ptr 103 0),(4,.psl 119 1 0 8 (some 8)),(5,.byt X .no),(6,.int .i64 a),(11,.lst 1 (ws (rounds W h 64)) (if t=64 then q else .clip))],[(103,.arr 1 (ws Kl)),(107,.arr 1 (ws W)),(119,O)],[194]⟩):=by
 intro n;induction n with
 |zero=>
  intro t q L h1;have hi:t=64:=by omega
  subst hi;rw[al];simp only[c64,go_sem,Q0,Q1,Q2,Q3,Q4,Q5,Q6,Q7,Q8,Q9,Qa,Qb,Qc,Qd,Qe,Qf,Qg,Qh,Qi,Qj,Qk,reduceCtorEq,reduceIte]
 |succ n ih=>
  intro t q L h1;have z:=ih (t+1) .clip (by omega) (by omega);have S:=cA t (by omega);have E:(t:Int)<64:=by omega
  have hn:t<64:=by omega
  have F:t≠64:=by omega
  have J:=g9 W h hh t;have hw:=dr (rounds W h t);have B:=dr W;have C:=dr Kl;have Z:=y0;have H:rounds W h (t+1)=rnd (Kl.getD t 0) (W.getD t 0) (rounds W h t):=rfl;rw[H]at z;simp only[rnd,ws8]at z;rw[ite_self]at z;generalize rounds W h t=s at*;have d0:=bV s 0 (by omega);have d1:=bV s 1 (by omega);have d2:=bV s 2 (by omega);have U:=bV s 3 (by omega);have d4:=bV s 4 (by omega);have d5:=bV s 5 (by omega);have d6:=bV s 6 (by omega);have d7:=bV s 7 (by omega);have Q:=bV W t (by omega);have dK:=bV Kl t (by rw[y0];exact hn);rw[al];simp only[go_sem,Q0,Q1,Q2,Q3,Q4,Q5,Q6,Q7,Q8,Q9,Qa,Qb,Qc,Qd,Qe,Qf,Qg,Qh,Qi,Qj,Qk,reduceCtorEq,reduceIte,E,S,J,hw,B,C,Z,I,Y0,hn,F,d0,d1,d2,U,d4,d5,d6,d7,Q,dK,rq6,xi9,xi3,rq2,xi8,xi4,c8,c64,z]
theorem xjl(X:t6)(a:Nat)(h s:List Int)(P Q:aC)(F:h.length=8)(z:s.length=8):
 run T (.loop xf) ⟨[(3,.ptr 103 0),(4,.psl 119 1 0 8 (some 8)),(5,.byt X .no),(6,.int .i64 a),(11,.lst 1 (ws s) .clip),(17,.int .i64 0)],[(103,P),(107,Q),(119,.arr 1 (ws h))],[194]⟩=
 some (.x 6,⟨[(3,.ptr 103 0),(4,.psl 119 1 0 8 (some 8)),(5,.byt X .no),(6,.int .i64 a)],[(103,P),(107,Q),(119,.arr 1 (ws (sM h s)))],[194]⟩):=by
 match h,F with
 |[a0,a1,a2,a3,a4,a5,a6,a7],_=>match s,z with
  |[b0,b1,b2,b3,b4,b5,b6,b7],_=>
   have k1:aj.wrap 1=1:=rfl;have k2:aj.wrap 2=2:=rfl;have E:aj.wrap 3=3:=rfl;have J:aj.wrap 4=4:=rfl;have B:aj.wrap 5=5:=rfl;have H:aj.wrap 6=6:=rfl;have I:aj.wrap 7=7:=rfl;have C:aj.wrap 8=8:=rfl;simp only[ws8,sM]
   iterate 9
    rw[al];simp only[go_sem,Q0,Q1,Q2,Q3,Q4,Q5,Q6,Q7,Q8,Q9,Qa,Qb,Qc,Qd,Qe,Qf,Qg,Qh,Qi,Qj,Qk,reduceCtorEq,reduceIte,av,bg,c8,k1,k2,E,J,B,H,I,C]
theorem l80(X:t6)(hX:X.length<=1000000000000):∀(n a:Nat)(h:List Int),h.length=8->X.length=a+64*n->
 run T (.loop xe) ⟨[(3,.ptr 103 0),(4,.psl 119 1 0 8 (some 8)),(5,.byt X .no),(6,.int .i64 a)],[(103,.arr 1 (ws Kl)),(119,.arr 1 (ws h))],[]⟩=
 some (.x 0,⟨[(4,.psl 119 1 0 8 (some 8))],[(103,.arr 1 (ws Kl)),(119,.arr 1 (ws (fd h (X.drop a) n)))],[]⟩):=by
 intro n;induction n with
 |zero=>
  intro a h z L;rw[al];have E:¬(a:Int)<X.length:=by omega
  simp only[go_sem,Q0,Q1,Q2,Q3,Q4,Q5,Q6,Q7,Q8,Q9,Qa,Qb,Qc,Qd,Qe,Qf,Qg,Qh,Qi,Qj,Qk,reduceCtorEq,reduceIte,E,fd]
 |succ n W=>
  intro a h z L;have B:=W (a+64) (comp h (bk X a)) (pw h _ z) (by omega);have E:(a:Int)<X.length:=by omega
  have J:aj.wrap ((a:Int)+64)=((a+64:Nat):Int):=wZ (by omega)
  have F:=xjn X a h (by omega) hX _ 0 rfl (by omega);have I:=xjm X a (Wl (bk X a) 64) h (.arr 1 (ws h)) (tC _ 64) z _ 0 (.id 194) rfl (by omega);have O:=xjl X a h (rounds (Wl (bk X a) 64) h 64) (.arr 1 (ws Kl)) (.arr 1 (ws (Wl (bk X a) 64))) z (g9 _ _ z 64);have S:Wl (bk X a) 0=au 64 0:=rfl;have Q:rounds (Wl (bk X a) 64) h 0=h:=rfl;have hz:¬(0:Nat)=64:=by omega
  have C:=dr h;rw[S,<-sS]at F;rw[Q,if_neg hz]at I;simp only[aH]at F I
  have H:fd h (X.drop a) (n+1)=fd (comp h (bk X a)) (X.drop (a+64)) n:=by rw[fd,YD,fp]
  rw[H,al];unfold comp at B ⊢;have U:dj 8 (ws h)=ws h:=cg (by rw[C,z];exact aI 8);simp only[go_sem,Q0,Q1,Q2,Q3,Q4,Q5,Q6,Q7,Q8,Q9,Qa,Qb,Qc,Qd,Qe,Qf,Qg,Qh,Qi,Qj,Qk,reduceCtorEq,reduceIte,E,J,F,I,O,C,z,U,B]
  trace_state
attribute [-go_sem] jw
theorem f80(B:t6)(W:B.length<=100000000000):call T 80 [.byt B .no] [] 0=some ⟨.byt (sha B) .no,[],[]⟩:=by
 have H:=xkc;have g0:=xim B (by omega);have E:jw 1 64 (List.map SV.data iR)=ws Kl:=rfl;have F:iR.all SV.isData=true:=rfl;have L:=mG;have I:SV.purgeL 103 104 iR=iR:=rfl;have S:SV.idsL iR=[]:=rfl;have Q:SV.toksL iR=[]:=rfl;have Z:=j9 B;have hz:zn (B.length+1)<64:=by unfold zn;omega
 have hm:=lO B;have h:=l80 (ek B) (by omega) ((ek B).length/64) 0 H0 rfl (by omega);have C:=li ((ek B).length/64) H0 (ek B) rfl;have J:=xil (fd H0 (ek B) ((ek B).length/64)) (by omega);have z:=dr (fd H0 (ek B) ((ek B).length/64));have U:ws H0=[[.int .u32 1779033703],[.int .u32 3144134277],[.int .u32 1013904242],[.int .u32 2773480762],[.int .u32 1359893119],[.int .u32 2600822924],[.int .u32 528734635],[.int .u32 1541459225]]:=rfl;rw[U]at h;simp only[aH,bi]at h;unfold sha;generalize fd H0 (ek B) ((ek B).length/64)=b at*;have O:dj 8 (ws b)=ws b:=cg (by rw[z,C];exact aI 8);rw[az xkL];simp only[go_sem,Q0,Q1,Q2,Q3,Q4,Q5,Q6,Q7,Q8,Q9,Qa,Qb,Qc,Qd,Qe,Qf,Qg,Qh,Qi,Qj,Qk,reduceCtorEq,reduceIte,H,g0,Y2,xg3,S,Q,List.isEmpty,E,F,L,I,J,h,YZ,z,C,c8,O]
attribute [go_sem] jw
theorem xjD(v:Int):∀(k:Nat)(z:t6),k<=8->z.length+k<=100000000000000->
 run T (.loop xQ) ⟨[(2,.int .i64 v),(7,.byt z (.id 107)),(8,.int .i64 ((k:Int)-1))],[],[107]⟩=
 some (.x 0,⟨[(7,.byt (z++be k (bd.wrap v)) (.id 107))],[],[107]⟩):=by
 intro k;induction k with
 |zero=>
  intro z Q h;rw[al];have H:¬(0:Int)<=((0:Nat):Int)-1:=by omega
  simp only[go_sem,Q0,Q1,Q2,Q3,Q4,Q5,Q6,Q7,Q8,Q9,Qa,Qb,Qc,Qd,Qe,Qf,Qg,Qh,Qi,Qj,Qk,reduceCtorEq,reduceIte,H,be,bK]
 |succ k L=>
  intro z Q h;have B:=L (z++ [iV (bd.wrap v) (8*k)]) (by omega) (by rw[ah,aL];omega);have c1:z.length+1<=140737488355328:=by omega
  have H:(0:Int)<=((k+1:Nat):Int)-1:=by omega
  have J:bd.wrap (((k+1:Nat):Int)-1)=(k:Int):=by rw[cz];omega
  have C:aj.wrap (8*(((k+1:Nat):Int)-1))=((8*k:Nat):Int):=wZ (by omega)
  have E:bd.wrap (((8*k:Nat):Int))=((8*k:Nat):Int):=by rw[cz];omega
  have F:bd.wrap (8*(k:Int))=((8*k:Nat):Int):=by rw[cz];omega
  have I:aj.wrap (((k+1:Nat):Int)-1-1)=(k:Int)-1:=wZ (by omega)
  have O:min (8*k) 64=8*k:=by omega
  rw[aZ,dG]at B;rw[al];unfold iV at B;simp only[go_sem,Q0,Q1,Q2,Q3,Q4,Q5,Q6,Q7,Q8,Q9,Qa,Qb,Qc,Qd,Qe,Qf,Qg,Qh,Qi,Qj,Qk,reduceCtorEq,reduceIte,c1,H,J,C,E,F,I,O,be,iV,B]
theorem Yv(B:t6)(k:Nat)(v:Int)(F:1<=k)(C:k<=8)(E:B.length<=10000000000000):
 call T 117 [.byt B .no,.int .i64 k,.int .i64 v] [] 0=some ⟨.byt (B++be k (bd.wrap v)) (.id 60),[],[60]⟩:=by
 have g:=xjD v k B C (by omega);have c1:¬(k:Int)<1:=by omega
 have c2:¬(8:Int)<k:=by omega
 have h:aj.wrap ((k:Int)-1)=(k:Int)-1:=w64 (by omega) (by omega);have z:B.length<=140737488355328:=by omega
 rw[az xgK];simp only[go_sem,Q0,Q1,Q2,Q3,Q4,Q5,Q6,Q7,Q8,Q9,Qa,Qb,Qc,Qd,Qe,Qf,Qg,Qh,Qi,Qj,Qk,reduceCtorEq,reduceIte,c1,c2,h,z,g]
theorem l82(v:Int):∀(k:Nat)(z:t6),k<=8->z.length+k<=100000000000000->
 run T (.loop Nf) ⟨[(2,.int .i64 v),(7,.byt z (.id 107)),(8,.int .i64 ((k:Int)-1))],[],[107]⟩=
 some (.x 0,⟨[(7,.byt (z++be k (bd.wrap v)) (.id 107))],[],[107]⟩):=by
 intro k;induction k with
 |zero=>
  intro z L h;rw[al];have E:¬(0:Int)<=((0:Nat):Int)-1:=by omega
  simp only[go_sem,Q0,Q1,Q2,Q3,Q4,Q5,Q6,Q7,Q8,Q9,Qa,Qb,Qc,Qd,Qe,Qf,Qg,Qh,Qi,Qj,Qk,reduceCtorEq,reduceIte,E,be,bK]
 |succ k I=>
  intro z L h;have B:=I (z++ [iV (bd.wrap v) (8*k)]) (by omega) (by rw[ah,aL];omega);have c1:z.length+1<=140737488355328:=by omega
  have E:(0:Int)<=((k+1:Nat):Int)-1:=by omega
  have H:bd.wrap (((k+1:Nat):Int)-1)=(k:Int):=by rw[cz];omega
  have C:bd.wrap (8*(k:Int))=((8*k:Nat):Int):=by rw[cz];omega
  have F:aj.wrap (((k+1:Nat):Int)-1-1)=(k:Int)-1:=wZ (by omega)
  have J:min (8*k) 64=8*k:=by omega
  rw[aZ,dG]at B;rw[al];unfold iV at B;simp only[go_sem,Q0,Q1,Q2,Q3,Q4,Q5,Q6,Q7,Q8,Q9,Qa,Qb,Qc,Qd,Qe,Qf,Qg,Qh,Qi,Qj,Qk,reduceCtorEq,reduceIte,c1,E,H,C,F,J,be,iV,B]
theorem f82(B:t6)(k:Nat)(v:Int)(F:1<=k)(C:k<=8)(E:B.length<=10000000000000):
 call T 82 [.byt B .no,.int .i64 k,.int .i64 v] [] 0=some ⟨.byt (B++be k (bd.wrap v)) (.id 60),[],[60]⟩:=by
 have g:=l82 v k B C (by omega);have c1:¬(k:Int)<1:=by omega
 have c2:¬(8:Int)<k:=by omega
 have h:aj.wrap ((k:Int)-1)=(k:Int)-1:=w64 (by omega) (by omega);have z:B.length<=140737488355328:=by omega
 rw[az xkJ];simp only[go_sem,Q0,Q1,Q2,Q3,Q4,Q5,Q6,Q7,Q8,Q9,Qa,Qb,Qc,Qd,Qe,Qf,Qg,Qh,Qi,Qj,Qk,reduceCtorEq,reduceIte,c1,c2,h,z,g]
def kU(B X:t6):t6:=B++be 2 (bd.wrap (X.take 65535).length)++X.take 65535
theorem f83(B X:t6)(H:B.length<=1000000000000)(hX:X.length<=1000000000000):call T 83 [.byt B .no,.byt X .no] [] 0=some ⟨.byt (kU B X) (.id 60),[],[60]⟩:=by
 have g:=f82 B 2 (X.take 65535).length (by omega) (by omega) (by omega);rw[c2]at g;rw[az xkI];have I:(X.take 65535).length<=65535:=by rw[aD];omega
 have z:(B++be 2 (bd.wrap (X.take 65535).length)).length+(X.take 65535).length<=140737488355328:=by rw[ah,eg];omega
 by_cases h:(65535:Int)<X.length
 ·have F:(65535:Int)<=X.length:=by omega
  have E:65535<=X.length:=by omega
  simp only[ah]at z;simp only[go_sem,Q0,Q1,Q2,Q3,Q4,Q5,Q6,Q7,Q8,Q9,Qa,Qb,Qc,Qd,Qe,Qf,Qg,Qh,Qi,Qj,Qk,reduceCtorEq,reduceIte,h,F,E,g,xdx,kU,z,aZ]
 ·have C:X.take 65535=X:=cg (by omega)
  rw[C]at g z;simp only[ah]at z;simp only[go_sem,Q0,Q1,Q2,Q3,Q4,Q5,Q6,Q7,Q8,Q9,Qa,Qb,Qc,Qd,Qe,Qf,Qg,Qh,Qi,Qj,Qk,reduceCtorEq,reduceIte,h,g,xdx,kU,C,z,aZ]
theorem P0(B X:t6)(J:B.length<=1000000000000)(hX:X.length<=1000000000000):call T 118 [.byt B .no,.byt X .no] [] 0=some ⟨.byt (kU B X) (.id 60),[],[60]⟩:=by
 have g:=Yv B 2 (X.take 65535).length (by omega) (by omega) (by omega);rw[c2]at g;rw[az xgJ];have L:(X.take 65535).length<=65535:=by rw[aD];omega
 have z:(B++be 2 (bd.wrap (X.take 65535).length)).length+(X.take 65535).length<=140737488355328:=by rw[ah,eg];omega
 simp only[ah]at z
 by_cases h:(65535:Int)<X.length
 ·have I:min (X.length:Int) 65535=65535:=by omega
  have H:(65535:Int)<=X.length:=by omega
  have F:65535<=X.length:=by omega
  simp only[go_sem,Q0,Q1,Q2,Q3,Q4,Q5,Q6,Q7,Q8,Q9,Qa,Qb,Qc,Qd,Qe,Qf,Qg,Qh,Qi,Qj,Qk,reduceCtorEq,reduceIte,h,H,F,g,jK,kU,z,aZ]
 ·have I:min (X.length:Int) 65535=X.length:=by omega
  have E:X.take 65535=X:=cg (by omega);have C:X.take X.length=X:=bt;rw[E]at g z;simp only[go_sem,Q0,Q1,Q2,Q3,Q4,Q5,Q6,Q7,Q8,Q9,Qa,Qb,Qc,Qd,Qe,Qf,Qg,Qh,Qi,Qj,Qk,reduceCtorEq,reduceIte,h,C,g,jK,kU,E,z,aZ]
def frame(t:Int)(X:t6):t6:=dO t::(w4 (X.length:Int)++X)
theorem xj8(t:Int)(X:t6)(hX:X.length<=1000000000):call T 137 [.int .i64 t,.lst 1 [[.byt X .no]] .no] [] 0=some ⟨.byt (frame t X) .no,[],[]⟩:=by
 have k1:aj.wrap 1=1:=rfl;have h:ay.wrap (X.length:Int)=X.length:=by rw[IntKind.wrap_u32];omega
 have z:1+4+X.length<=140737488355328:=by omega
 have c5:5+X.length<=140737488355328:=by omega
 rw[az xgt];simp only[go_sem,Q0,Q1,Q2,Q3,Q4,Q5,Q6,Q7,Q8,Q9,Qa,Qb,Qc,Qd,Qe,Qf,Qg,Qh,Qi,Qj,Qk,reduceCtorEq,reduceIte,av,bg,c1,k1];rw[al];simp only[go_sem,Q0,Q1,Q2,Q3,Q4,Q5,Q6,Q7,Q8,Q9,Qa,Qb,Qc,Qd,Qe,Qf,Qg,Qh,Qi,Qj,Qk,reduceCtorEq,reduceIte,av,bg,c1,k1,h,m24,m16,m8,z,c5];rw[al];simp only[go_sem,Q0,Q1,Q2,Q3,Q4,Q5,Q6,Q7,Q8,Q9,Qa,Qb,Qc,Qd,Qe,Qf,Qg,Qh,Qi,Qj,Qk,reduceCtorEq,reduceIte,av,bg,c1,k1,h,m24,m16,m8,z,c5,frame,w4,iV]
 trace_state
theorem Dw(t:Int)(X:t6):(frame t X).length=X.length+5:=by simp[frame,w4]
def NG(t:Int)(X:t6):t6:=sha (frame t X)
theorem xkk(t:Int)(X:t6)(hX:X.length<=1000000000):call T 102 [.int .i64 t,.lst 1 [[.byt X .no]] .no] [] 0=some ⟨.byt (NG t X) .no,[],[]⟩:=by have h:=xj8 t X hX;have z:=f69 (frame t X) (by rw[Dw];omega);rw[az xgT];simp only[go_sem,Q0,Q1,Q2,Q3,Q4,Q5,Q6,Q7,Q8,Q9,Qa,Qb,Qc,Qd,Qe,Qf,Qg,Qh,Qi,Qj,Qk,reduceCtorEq,reduceIte,h,z,xgZ,wO,NG]
theorem xdq(x:Int)(n m:Nat)(h:n+m=32):call T 169 [.int .u32 x,.int .u64 n] [] 0=some ⟨.int .u32 (rr x m),[],[]⟩:=by
 rw[az xgg];have e:bd.wrap (32-(n:Int))=(m:Int):=by rw[cz];omega
 have C:min n 32=n:=by omega
 have B:min m 32=m:=by omega
 have z:32-m=n:=by omega
 simp only[go_sem,Q0,Q1,Q2,Q3,Q4,Q5,Q6,Q7,Q8,Q9,Qa,Qb,Qc,Qd,Qe,Qf,Qg,Qh,Qi,Qj,Qk,reduceCtorEq,reduceIte,e,C,B,rr,z,kR]
def nw1(B:t6)(L:List Int)(t:Nat):Int:=
 if t<16 then wd B t else
  rr (bx .xor .u32 (bx .xor .u32 (bx .xor .u32 (L.getD (t-3) 0) (L.getD (t-8) 0)) (L.getD (t-14) 0)) (L.getD (t-16) 0)) 31
def Wl1(B:t6):Nat->List Int
 |0=>au 80 0
 |t+1=>(Wl1 B t).set t (nw1 B (Wl1 B t) t)
theorem oQ(B:t6)(t:Nat):(Wl1 B t).length=80:=by
 induction t with
 |zero=>simp[Wl1]
 |succ n h=>simp[Wl1,h]
theorem p1(x:Int):call T 142 [.int .u32 x,.int .i64 1] [] 0=some ⟨.int .u32 (rr x 31),[],[]⟩:=pV x 1 31 (by omega) (by decide)
theorem p5(x:Int):call T 142 [.int .u32 x,.int .i64 5] [] 0=some ⟨.int .u32 (rr x 27),[],[]⟩:=pV x 5 27 (by omega) (by decide)
theorem p30(x:Int):call T 142 [.int .u32 x,.int .i64 30] [] 0=some ⟨.int .u32 (rr x 2),[],[]⟩:=pV x 30 2 (by omega) (by decide)
theorem z1(x:Int):call T 169 [.int .u32 x,.int .u64 1] [] 0=some ⟨.int .u32 (rr x 31),[],[]⟩:=xdq x 1 31 rfl
theorem z5(x:Int):call T 169 [.int .u32 x,.int .u64 5] [] 0=some ⟨.int .u32 (rr x 27),[],[]⟩:=xdq x 5 27 rfl
theorem z30(x:Int):call T 169 [.int .u32 x,.int .u64 30] [] 0=some ⟨.int .u32 (rr x 2),[],[]⟩:=xdq x 30 2 rfl
theorem xfQ(B:t6)(O:aC)(hB:B.length=64):∀(n t:Nat),80-t=n->t<=80->
 run T (.loop xS) ⟨[(0,.ptr 0 0),(1,.byt B .no),(4,.ptr 104 0),(14,.int .i64 t)],[(0,O),(104,.arr 1 (ws (Wl1 B t)))],[]⟩=
 some (.x 0,⟨[(0,.ptr 0 0),(4,.ptr 104 0)],[(0,O),(104,.arr 1 (ws (Wl1 B 80)))],[]⟩):=by
 intro n;induction n with
 |zero=>
  intro t h0 h1;have hi:t=80:=by omega
  subst hi;rw[al];simp only[c80,go_sem,Q0,Q1,Q2,Q3,Q4,Q5,Q6,Q7,Q8,Q9,Qa,Qb,Qc,Qd,Qe,Qf,Qg,Qh,Qi,Qj,Qk,reduceCtorEq,reduceIte]
 |succ n ih=>
  intro t h0 h1;have h:=ih (t+1) (by omega) (by omega);have W:=cA t (by omega);have C:(t:Int)<80:=by omega
  have U:=oQ B t;have Z:=dr (Wl1 B t);have hn:t<80:=by omega
  have S:Wl1 B (t+1)=(Wl1 B t).set t (nw1 B (Wl1 B t) t):=rfl;rw[al]
  by_cases E:t<16
  ·have g:=xii B t (by omega) (by omega)
   have z:(t:Int)<16:=by omega
   have hx:nw1 B (Wl1 B t) t=wd B t:=by unfold nw1;rw[if_pos E]
   rw[S,hx]at h;simp only[go_sem,Q0,Q1,Q2,Q3,Q4,Q5,Q6,Q7,Q8,Q9,Qa,Qb,Qc,Qd,Qe,Qf,Qg,Qh,Qi,Qj,Qk,reduceCtorEq,reduceIte,C,z,W,g,U,Z,YW,hn,kF,h]
  ·have z:¬(t:Int)<16:=by omega
   have a3:aj.wrap ((t:Int)-3)=((t-3:Nat):Int):=wZ (by omega)
   have a8:aj.wrap ((t:Int)-8)=((t-8:Nat):Int):=wZ (by omega)
   have H:aj.wrap ((t:Int)-14)=((t-14:Nat):Int):=wZ (by omega)
   have F:aj.wrap ((t:Int)-16)=((t-16:Nat):Int):=wZ (by omega)
   have b3:t-3<80:=by omega
   have iV:t-8<80:=by omega
   have I:t-14<80:=by omega
   have L:t-16<80:=by omega
   have d3:=bV (Wl1 B t) (t-3) (by omega);have d8:=bV (Wl1 B t) (t-8) (by omega);have Q:=bV (Wl1 B t) (t-14) (by omega);have J:=bV (Wl1 B t) (t-16) (by omega);rw[S]at h;unfold nw1 at h;rw[if_neg E]at h;simp only[go_sem,Q0,Q1,Q2,Q3,Q4,Q5,Q6,Q7,Q8,Q9,Qa,Qb,Qc,Qd,Qe,Qf,Qg,Qh,Qi,Qj,Qk,reduceCtorEq,reduceIte,C,z,W,U,Z,qh,hn,a3,a8,H,F,b3,iV,I,L,d3,d8,Q,J,p1,kF,h]
def ff(t:Nat)(b c d:Int):Int:=
 if t<20 then bx .xor .u32 (bx .and .u32 b c) (bx .and .u32 (bx .xor .u32 (if ay.signed=true then-1 else ay.max) b) d)
 else if t<40 then bx .xor .u32 (bx .xor .u32 b c) d
 else if t<60 then bx .xor .u32 (bx .xor .u32 (bx .and .u32 b c) (bx .and .u32 b d)) (bx .and .u32 c d)
 else bx .xor .u32 (bx .xor .u32 b c) d
def kk(t:Nat):Int:=if t<20 then 1518500249 else if t<40 then 1859775393 else if t<60 then 2400959708 else 3395469782
def GK(t:Nat)(w:Int)(s:List Int):List Int:=
 [ay.wrap (ay.wrap (ay.wrap (ay.wrap (rr (s.getD 0 0) 27+ff t (s.getD 1 0) (s.getD 2 0) (s.getD 3 0))+s.getD 4 0)+kk t)+w),s.getD 0 0,rr (s.getD 1 0) 2,s.getD 2 0,s.getD 3 0]
def bZ(W:List Int)(h:List Int):Nat->List Int
 |0=>h
 |t+1=>GK t (W.getD t 0) (bZ W h t)
theorem jT(W h:List Int)(z:h.length=5)(t:Nat):(bZ W h t).length=5:=by
 cases t<;>simp[bZ,GK,z]
theorem xaF(W:List Int)(O:aC)(E:W.length=80)(t:Nat)(hn:t<80)(hd:t/20=0)(a b c d e:Int):
 run T (.loop fJ) ⟨[(0,.ptr 0 0),(4,.ptr 104 0),(6,.int .u32 a),(7,.int .u32 b),(8,.int .u32 c),(9,.int .u32 d),(10,.int .u32 e),(67,.int .i64 t)],[(0,O),(104,.arr 1 (ws W))],[]⟩=
 run T (.loop fJ) ⟨[(0,.ptr 0 0),(4,.ptr 104 0),(6,.int .u32 (ay.wrap (ay.wrap (ay.wrap (ay.wrap (rr a 27+bx .xor .u32 (bx .and .u32 b c) (bx .and .u32 (bx .xor .u32 (if ay.signed=true then-1 else ay.max) b) d))+e)+1518500249)+W.getD t 0))),(7,.int .u32 a),(8,.int .u32 (rr b 2)),(9,.int .u32 c),(10,.int .u32 d),(67,.int .i64 ((t+1:Nat):Int))],[(0,O),(104,.arr 1 (ws W))],[]⟩:=by
 have H:=cA t (by omega);have B:(t:Int)<80:=by omega
 have z:=dr W;have F:=bV W t (by omega)
 have C:(t:Int).tdiv 20=0:=by
  have h:(t:Int).tdiv 20=((t/20:Nat):Int):=by rw[Int.tdiv_eq_ediv_of_nonneg (by omega)];omega
  rw[h,hd];rfl
 have J:aj.wrap 0=0:=rfl;have k1:aj.wrap 1=1:=rfl;have k2:aj.wrap 2=2:=rfl;have I:aj.wrap 3=3:=rfl;rw[al];simp only[go_sem,Q0,Q1,Q2,Q3,Q4,Q5,Q6,Q7,Q8,Q9,Qa,Qb,Qc,Qd,Qe,Qf,Qg,Qh,Qi,Qj,Qk,reduceCtorEq,reduceIte,B,H,z,E,qh,hn,C,J,k1,k2,I,F,p5,p30]
theorem xaE(W:List Int)(O:aC)(E:W.length=80)(t:Nat)(hn:t<80)(hd:t/20=1)(a b c d e:Int):
 run T (.loop fJ) ⟨[(0,.ptr 0 0),(4,.ptr 104 0),(6,.int .u32 a),(7,.int .u32 b),(8,.int .u32 c),(9,.int .u32 d),(10,.int .u32 e),(67,.int .i64 t)],[(0,O),(104,.arr 1 (ws W))],[]⟩=
 run T (.loop fJ) ⟨[(0,.ptr 0 0),(4,.ptr 104 0),(6,.int .u32 (ay.wrap (ay.wrap (ay.wrap (ay.wrap (rr a 27+bx .xor .u32 (bx .xor .u32 b c) d)+e)+1859775393)+W.getD t 0))),(7,.int .u32 a),(8,.int .u32 (rr b 2)),(9,.int .u32 c),(10,.int .u32 d),(67,.int .i64 ((t+1:Nat):Int))],[(0,O),(104,.arr 1 (ws W))],[]⟩:=by
 have H:=cA t (by omega);have B:(t:Int)<80:=by omega
 have z:=dr W;have F:=bV W t (by omega)
 have C:(t:Int).tdiv 20=1:=by
  have h:(t:Int).tdiv 20=((t/20:Nat):Int):=by rw[Int.tdiv_eq_ediv_of_nonneg (by omega)];omega
  rw[h,hd];rfl
 have J:aj.wrap 0=0:=rfl;have k1:aj.wrap 1=1:=rfl;have k2:aj.wrap 2=2:=rfl;have I:aj.wrap 3=3:=rfl;rw[al];simp only[go_sem,Q0,Q1,Q2,Q3,Q4,Q5,Q6,Q7,Q8,Q9,Qa,Qb,Qc,Qd,Qe,Qf,Qg,Qh,Qi,Qj,Qk,reduceCtorEq,reduceIte,B,H,z,E,qh,hn,C,J,k1,k2,I,F,p5,p30]
theorem xaD(W:List Int)(O:aC)(E:W.length=80)(t:Nat)(hn:t<80)(hd:t/20=2)(a b c d e:Int):
 run T (.loop fJ) ⟨[(0,.ptr 0 0),(4,.ptr 104 0),(6,.int .u32 a),(7,.int .u32 b),(8,.int .u32 c),(9,.int .u32 d),(10,.int .u32 e),(67,.int .i64 t)],[(0,O),(104,.arr 1 (ws W))],[]⟩=
 run T (.loop fJ) ⟨[(0,.ptr 0 0),(4,.ptr 104 0),(6,.int .u32 (ay.wrap (ay.wrap (ay.wrap (ay.wrap (rr a 27+bx .xor .u32 (bx .xor .u32 (bx .and .u32 b c) (bx .and .u32 b d)) (bx .and .u32 c d))+e)+2400959708)+W.getD t 0))),(7,.int .u32 a),(8,.int .u32 (rr b 2)),(9,.int .u32 c),(10,.int .u32 d),(67,.int .i64 ((t+1:Nat):Int))],[(0,O),(104,.arr 1 (ws W))],[]⟩:=by
 have H:=cA t (by omega);have B:(t:Int)<80:=by omega
 have z:=dr W;have F:=bV W t (by omega)
 have C:(t:Int).tdiv 20=2:=by
  have h:(t:Int).tdiv 20=((t/20:Nat):Int):=by rw[Int.tdiv_eq_ediv_of_nonneg (by omega)];omega
  rw[h,hd];rfl
 have J:aj.wrap 0=0:=rfl;have k1:aj.wrap 1=1:=rfl;have k2:aj.wrap 2=2:=rfl;have I:aj.wrap 3=3:=rfl;rw[al];simp only[go_sem,Q0,Q1,Q2,Q3,Q4,Q5,Q6,Q7,Q8,Q9,Qa,Qb,Qc,Qd,Qe,Qf,Qg,Qh,Qi,Qj,Qk,reduceCtorEq,reduceIte,B,H,z,E,qh,hn,C,J,k1,k2,I,F,p5,p30]
theorem xaC(W:List Int)(O:aC)(E:W.length=80)(t:Nat)(hn:t<80)(hd:t/20=3)(a b c d e:Int):
 run T (.loop fJ) ⟨[(0,.ptr 0 0),(4,.ptr 104 0),(6,.int .u32 a),(7,.int .u32 b),(8,.int .u32 c),(9,.int .u32 d),(10,.int .u32 e),(67,.int .i64 t)],[(0,O),(104,.arr 1 (ws W))],[]⟩=
 run T (.loop fJ) ⟨[(0,.ptr 0 0),(4,.ptr 104 0),(6,.int .u32 (ay.wrap (ay.wrap (ay.wrap (ay.wrap (rr a 27+bx .xor .u32 (bx .xor .u32 b c) d)+e)+3395469782)+W.getD t 0))),(7,.int .u32 a),(8,.int .u32 (rr b 2)),(9,.int .u32 c),(10,.int .u32 d),(67,.int .i64 ((t+1:Nat):Int))],[(0,O),(104,.arr 1 (ws W))],[]⟩:=by
 have H:=cA t (by omega);have B:(t:Int)<80:=by omega
 have z:=dr W;have F:=bV W t (by omega)
 have C:(t:Int).tdiv 20=3:=by
  have h:(t:Int).tdiv 20=((t/20:Nat):Int):=by rw[Int.tdiv_eq_ediv_of_nonneg (by omega)];omega
  rw[h,hd];rfl
 have J:aj.wrap 0=0:=rfl;have k1:aj.wrap 1=1:=rfl;have k2:aj.wrap 2=2:=rfl;have I:aj.wrap 3=3:=rfl;rw[al];simp only[go_sem,Q0,Q1,Q2,Q3,Q4,Q5,Q6,Q7,Q8,Q9,Qa,Qb,Qc,Qd,Qe,Qf,Qg,Qh,Qi,Qj,Qk,reduceCtorEq,reduceIte,B,H,z,E,qh,hn,C,J,k1,k2,I,F,p5,p30]
theorem xfP(W h:List Int)(O:aC)(H:W.length=80)(S:h.length=5):∀(n t:Nat),80-t=n->t<=80->
 run T (.loop fJ) ⟨[(0,.ptr 0 0),(4,.ptr 104 0),(6,.int .u32 ((bZ W h t).getD 0 0)),(7,.int .u32 ((bZ W h t).getD 1 0)),(8,.int .u32 ((bZ W h t).getD 2 0)),(9,.int .u32 ((bZ W h t).getD 3 0)),(10,.int .u32 ((bZ W h t).getD 4 0)),(67,.int .i64 t)],[(0,O),(104,.arr 1 (ws W))],[]⟩=
 some (.x 2,⟨[(0,.ptr 0 0),(6,.int .u32 ((bZ W h 80).getD 0 0)),(7,.int .u32 ((bZ W h 80).getD 1 0)),(8,.int .u32 ((bZ W h 80).getD 2 0)),(9,.int .u32 ((bZ W h 80).getD 3 0)),(10,.int .u32 ((bZ W h 80).getD 4 0))],[(0,O),(104,.arr 1 (ws W))],[]⟩):=by
 intro n;induction n with
 |zero=>
  intro t L J;have hi:t=80:=by omega
  subst hi;rw[al];simp only[c80,go_sem,Q0,Q1,Q2,Q3,Q4,Q5,Q6,Q7,Q8,Q9,Qa,Qb,Qc,Qd,Qe,Qf,Qg,Qh,Qi,Qj,Qk,reduceCtorEq,reduceIte]
 |succ n Q=>
  intro t L J;have z:=Q (t+1) (by omega) (by omega);have I:bZ W h (t+1)=GK t (W.getD t 0) (bZ W h t):=rfl;rw[I]at z;simp only[GK,bp,bF]at z
  by_cases B:t<20
  ·have F:kk t=1518500249:=by unfold kk;rw[if_pos B]
   unfold ff at z;rw[if_pos B,F]at z;rw[xaF W O H t (by omega) (by omega)];rw[z]
  ·by_cases C:t<40
   ·have F:kk t=1859775393:=by unfold kk;rw[if_neg B,if_pos C]
    unfold ff at z;rw[if_neg B,if_pos C,F]at z;rw[xaE W O H t (by omega) (by omega)];rw[z]
   ·by_cases E:t<60
    ·have F:kk t=2400959708:=by unfold kk;rw[if_neg B,if_neg C,if_pos E]
     unfold ff at z;rw[if_neg B,if_neg C,if_pos E,F]at z;rw[xaD W O H t (by omega) (by omega)];rw[z]
    ·have F:kk t=3395469782:=by unfold kk;rw[if_neg B,if_neg C,if_neg E]
     unfold ff at z;rw[if_neg B,if_neg C,if_neg E,F]at z;rw[xaC W O H t (by omega) (by omega)];rw[z]
theorem ws5(a b c d e:Int):ws [a,b,c,d,e]=[[.int .u32 a],[.int .u32 b],[.int .u32 c],[.int .u32 d],[.int .u32 e]]:=rfl
def nu(h:List Int)(B:t6):List Int:=sM h (bZ (Wl1 B 80) h 80)
theorem mN(h:List Int)(B:t6)(z:h.length=5):(nu h B).length=5:=by unfold nu;rw[uZ _ _ (by rw[jT _ _ z,z];exact aI 5),z]
theorem D9(l:List Int)(h:l.length=5):∃a b c d e,l=[a,b,c,d,e]:=by
 match l,h with
 |[a,b,c,d,e],_=>exact⟨a,b,c,d,e,rfl⟩
theorem YG(a b c d e p q r s t:Int):sM [a,b,c,d,e] [p,q,r,s,t]=[ay.wrap (a+p),ay.wrap (b+q),ay.wrap (c+r),ay.wrap (d+s),ay.wrap (e+t)]:=rfl
theorem xkh(h:List Int)(B:t6)(E:h.length=5)(I:B.length=64):call T 114 [.ptr 0 0,.byt B .no] [.arr 1 (ws h)] 0=some ⟨.tup [],[(0,.arr 1 (ws (nu h B)))],[]⟩:=by
 have z:=xfQ B (.arr 1 (ws h)) I _ 0 rfl (by omega);have C:=xfP (Wl1 B 80) h (.arr 1 (ws h)) (oQ B 80) E _ 0 rfl (by omega);have H:Wl1 B 0=au 80 0:=by rw[Wl1]
 have F:bZ (Wl1 B 80) h 0=h:=by rw[bZ]
 have J:=jT (Wl1 B 80) h E 80;rw[H,<-sS]at z;rw[F]at C;simp only[aH]at z C;unfold nu;generalize bZ (Wl1 B 80) h 80=s at*;generalize Wl1 B 80=W at*;clear H F;obtain⟨O,L,Q,S,U,rfl⟩:=D9 h E;obtain⟨s0,s1,s2,s3,s4,rfl⟩:=D9 s J;rw[az xgN];simp only[ws5,bp,bF]at z C;simp only[go_sem,Q0,Q1,Q2,Q3,Q4,Q5,Q6,Q7,Q8,Q9,Qa,Qb,Qc,Qd,Qe,Qf,Qg,Qh,Qi,Qj,Qk,reduceCtorEq,reduceIte,ws5,YG,z,C,av,bg,c5]
def eh(h:List Int)(X:t6):Nat->List Int
 |0=>h
 |n+1=>eh (nu h (X.take 64)) (X.drop 64) n
theorem jY(n:Nat):∀(h:List Int)(X:t6),h.length=5->(eh h X n).length=5:=by
 induction n with
 |zero=>intro h X z;exact z
 |succ n B=>intro h X z;exact B _ _ (mN h _ z)
def H1:List Int:=[1732584193,4023233417,2562383102,271733878,3285377520]
def jx(B:t6):t6:=sp (eh H1 (ek B) ((ek B).length/64))
theorem ue(B:t6):(jx B).length=20:=by unfold jx;rw[GE,jY _ _ _ rfl]
theorem xjq:∀(n:Nat)(h:List Int)(X:t6),h.length=5->X.length=64*n->X.length<=1000000000000->
 run T (.loop Nk) ⟨[(5,.ptr 105 0),(6,.byt X .no)],[(105,.arr 1 (ws h))],[]⟩=
 some (.x 1,⟨[(5,.ptr 105 0)],[(105,.arr 1 (ws (eh h X n)))],[]⟩):=by
 intro n;induction n with
 |zero=>
  intro h X B hX C;rw[al];have F:¬(0:Int)<X.length:=by omega
  simp only[go_sem,Q0,Q1,Q2,Q3,Q4,Q5,Q6,Q7,Q8,Q9,Qa,Qb,Qc,Qd,Qe,Qf,Qg,Qh,Qi,Qj,Qk,reduceCtorEq,reduceIte,F,eh]
 |succ n H=>
  intro h X B hX C;have z:=H (nu h (X.take 64)) (X.drop 64) (mN h _ B) (by rw[aE];omega) (by rw[aE];omega);have g:=xkh h (X.take 64) B (by rw[aD];omega);have E:(0:Int)<X.length:=by omega
  have I:(64:Int)<=X.length:=by omega
  have J:64<=X.length:=by omega
  rw[al];simp only[go_sem,Q0,Q1,Q2,Q3,Q4,Q5,Q6,Q7,Q8,Q9,Qa,Qb,Qc,Qd,Qe,Qf,Qg,Qh,Qi,Qj,Qk,reduceCtorEq,reduceIte,E,I,J,g,xg9,bt,z,eh]
theorem xjQ(B:t6)(I:B.length<=100000000000):call T 69 [.int .i64 0,.byt B .no] [] 0=some ⟨.byt (jx B) .no,[],[]⟩:=by
 have g0:=xiq B (by omega);have J:=j9 B;have hz:zn (B.length+1)<64:=by unfold zn;omega
 have L:=lO B;have h:=xjq ((ek B).length/64) H1 (ek B) rfl (by omega) (by omega);have z:=jY ((ek B).length/64) H1 (ek B) rfl;have E:=xip (eh H1 (ek B) ((ek B).length/64)) (by omega);have c8:((5:Nat):Int)=5:=rfl;have C:=dr (eh H1 (ek B) ((ek B).length/64));have H:ws H1=[[.int .u32 1732584193],[.int .u32 4023233417],[.int .u32 2562383102],[.int .u32 271733878],[.int .u32 3285377520]]:=rfl;rw[H]at h;rw[az xiC];unfold jx;generalize eh H1 (ek B) ((ek B).length/64)=b at*;have F:dj 5 (ws b)=ws b:=cg (by rw[C,z];exact aI 5);simp only[go_sem,Q0,Q1,Q2,Q3,Q4,Q5,Q6,Q7,Q8,Q9,Qa,Qb,Qc,Qd,Qe,Qf,Qg,Qh,Qi,Qj,Qk,reduceCtorEq,reduceIte,g0,h,E,Y6,Y5,C,z,c8,F]
theorem xfJ(X:t6)(a:Nat)(h:f8)(S:a+64<=X.length)(hX:X.length<=1000000000000):∀(n t:Nat),80-t=n->t<=80->
 run T (.loop rN) ⟨[(3,.lst 1 h .clip),(4,.byt X .no),(5,.int .i64 a),(6,.ptr 106 0),(7,.int .i64 t)],[(106,.arr 1 (ws (Wl1 (bk X a) t)))],[]⟩=
 some (.x 2,⟨[(3,.lst 1 h .clip),(4,.byt X .no),(5,.int .i64 a),(6,.ptr 106 0)],[(106,.arr 1 (ws (Wl1 (bk X a) 80)))],[]⟩):=by
 intro n;induction n with
 |zero=>
  intro t h0 h1;have hi:t=80:=by omega
  subst hi;rw[al];simp only[c80,go_sem,Q0,Q1,Q2,Q3,Q4,Q5,Q6,Q7,Q8,Q9,Qa,Qb,Qc,Qd,Qe,Qf,Qg,Qh,Qi,Qj,Qk,reduceCtorEq,reduceIte]
 |succ n ih=>
  intro t h0 h1;have B:=ih (t+1) (by omega) (by omega);have e1:=cA t (by omega);have E:(t:Int)<80:=by omega
  have hl:=oQ (bk X a) t;have hw:=dr (Wl1 (bk X a) t);have hn:t<80:=by omega
  have Z:Wl1 (bk X a) (t+1)=(Wl1 (bk X a) t).set t (nw1 (bk X a) (Wl1 (bk X a) t) t):=rfl;have a1:aj.wrap ((a:Int)+64)=((a+64:Nat):Int):=wZ (by omega)
  have U:a<=a+64:=by omega
  rw[al]
  by_cases F:t<16
  ·have g:=f128 (bk X a) t (by rw[tz X a S];omega) (by rw[tz X a S];omega)
   have C:(t:Int)<16:=by omega
   have hx:nw1 (bk X a) (Wl1 (bk X a) t) t=wd (bk X a) t:=by unfold nw1;rw[if_pos F]
   rw[Z,hx]at B;generalize hb:Wl1 (bk X a) t=L at*;generalize hc:wd (bk X a) t=z at*;unfold bk at g;simp only[go_sem,Q0,Q1,Q2,Q3,Q4,Q5,Q6,Q7,Q8,Q9,Qa,Qb,Qc,Qd,Qe,Qf,Qg,Qh,Qi,Qj,Qk,reduceCtorEq,reduceIte,E,C,e1,a1,S,U,g,hl,hw,Y1,hn,kF,B]
  ·have C:¬(t:Int)<16:=by omega
   have U:aj.wrap ((t:Int)-3)=((t-3:Nat):Int):=wZ (by omega)
   have a8:aj.wrap ((t:Int)-8)=((t-8:Nat):Int):=wZ (by omega)
   have I:aj.wrap ((t:Int)-14)=((t-14:Nat):Int):=wZ (by omega)
   have H:aj.wrap ((t:Int)-16)=((t-16:Nat):Int):=wZ (by omega)
   have b3:t-3<80:=by omega
   have iV:t-8<80:=by omega
   have J:t-14<80:=by omega
   have Q:t-16<80:=by omega
   rw[Z]at B;unfold nw1 at B;rw[if_neg F]at B;generalize hb:Wl1 (bk X a) t=L at*;have d3:=bV L (t-3) (by omega);have d8:=bV L (t-8) (by omega);have W:=bV L (t-14) (by omega);have O:=bV L (t-16) (by omega);simp only[go_sem,Q0,Q1,Q2,Q3,Q4,Q5,Q6,Q7,Q8,Q9,Qa,Qb,Qc,Qd,Qe,Qf,Qg,Qh,Qi,Qj,Qk,reduceCtorEq,reduceIte,E,C,e1,hl,hw,wP,hn,U,a8,I,H,b3,iV,J,Q,d3,d8,W,O,z1,kF,B]
theorem xaB(W:List Int)(X Y:SV)(h:f8)(E:W.length=80)(t:Nat)(hn:t<80)(I:t<20)(a b c d e:Int):
 run T (.loop fI) ⟨[(3,.lst 1 h .clip),(4,X),(5,Y),(6,.ptr 106 0),(8,.int .u32 a),(9,.int .u32 b),(10,.int .u32 c),(11,.int .u32 d),(12,.int .u32 e),(13,.int .i64 t)],[(106,.arr 1 (ws W))],[]⟩=
 run T (.loop fI) ⟨[(3,.lst 1 h .clip),(4,X),(5,Y),(6,.ptr 106 0),(8,.int .u32 (ay.wrap (ay.wrap (ay.wrap (ay.wrap (rr a 27+bx .xor .u32 (bx .and .u32 b c) (bx .and .u32 (bx .xor .u32 (if ay.signed=true then-1 else ay.max) b) d))+e)+1518500249)+W.getD t 0))),(9,.int .u32 a),(10,.int .u32 (rr b 2)),(11,.int .u32 c),(12,.int .u32 d),(13,.int .i64 ((t+1:Nat):Int))],[(106,.arr 1 (ws W))],[]⟩:=by
 have H:=cA t (by omega);have B:(t:Int)<80:=by omega
 have z:=dr W;have F:=bV W t (by omega);have C:(t:Int)<20:=by omega
 rw[al];simp only[go_sem,Q0,Q1,Q2,Q3,Q4,Q5,Q6,Q7,Q8,Q9,Qa,Qb,Qc,Qd,Qe,Qf,Qg,Qh,Qi,Qj,Qk,reduceCtorEq,reduceIte,B,H,z,E,wP,hn,C,F,z5,z30]
theorem xaA(W:List Int)(X Y:SV)(h:f8)(E:W.length=80)(t:Nat)(hn:t<80)(J:¬t<20)(I:t<40)(a b c d e:Int):
 run T (.loop fI) ⟨[(3,.lst 1 h .clip),(4,X),(5,Y),(6,.ptr 106 0),(8,.int .u32 a),(9,.int .u32 b),(10,.int .u32 c),(11,.int .u32 d),(12,.int .u32 e),(13,.int .i64 t)],[(106,.arr 1 (ws W))],[]⟩=
 run T (.loop fI) ⟨[(3,.lst 1 h .clip),(4,X),(5,Y),(6,.ptr 106 0),(8,.int .u32 (ay.wrap (ay.wrap (ay.wrap (ay.wrap (rr a 27+bx .xor .u32 (bx .xor .u32 b c) d)+e)+1859775393)+W.getD t 0))),(9,.int .u32 a),(10,.int .u32 (rr b 2)),(11,.int .u32 c),(12,.int .u32 d),(13,.int .i64 ((t+1:Nat):Int))],[(106,.arr 1 (ws W))],[]⟩:=by
 have H:=cA t (by omega);have B:(t:Int)<80:=by omega
 have z:=dr W;have F:=bV W t (by omega);have C:¬(t:Int)<20:=by omega
 have p1:(t:Int)<40:=by omega
 rw[al];simp only[go_sem,Q0,Q1,Q2,Q3,Q4,Q5,Q6,Q7,Q8,Q9,Qa,Qb,Qc,Qd,Qe,Qf,Qg,Qh,Qi,Qj,Qk,reduceCtorEq,reduceIte,B,H,z,E,wP,hn,C,p1,F,z5,z30]
theorem xaz(W:List Int)(X Y:SV)(h:f8)(E:W.length=80)(t:Nat)(hn:t<80)(L:¬t<20)(J:¬t<40)(O:t<60)(a b c d e:Int):
 run T (.loop fI) ⟨[(3,.lst 1 h .clip),(4,X),(5,Y),(6,.ptr 106 0),(8,.int .u32 a),(9,.int .u32 b),(10,.int .u32 c),(11,.int .u32 d),(12,.int .u32 e),(13,.int .i64 t)],[(106,.arr 1 (ws W))],[]⟩=
 run T (.loop fI) ⟨[(3,.lst 1 h .clip),(4,X),(5,Y),(6,.ptr 106 0),(8,.int .u32 (ay.wrap (ay.wrap (ay.wrap (ay.wrap (rr a 27+bx .xor .u32 (bx .xor .u32 (bx .and .u32 b c) (bx .and .u32 b d)) (bx .and .u32 c d))+e)+2400959708)+W.getD t 0))),(9,.int .u32 a),(10,.int .u32 (rr b 2)),(11,.int .u32 c),(12,.int .u32 d),(13,.int .i64 ((t+1:Nat):Int))],[(106,.arr 1 (ws W))],[]⟩:=by
 have H:=cA t (by omega);have B:(t:Int)<80:=by omega
 have z:=dr W;have F:=bV W t (by omega);have C:¬(t:Int)<20:=by omega
 have p1:¬(t:Int)<40:=by omega
 have I:(t:Int)<60:=by omega
 rw[al];simp only[go_sem,Q0,Q1,Q2,Q3,Q4,Q5,Q6,Q7,Q8,Q9,Qa,Qb,Qc,Qd,Qe,Qf,Qg,Qh,Qi,Qj,Qk,reduceCtorEq,reduceIte,B,H,z,E,wP,hn,C,p1,I,F,z5,z30]
theorem xay(W:List Int)(X Y:SV)(h:f8)(E:W.length=80)(t:Nat)(hn:t<80)(L:¬t<20)(J:¬t<40)(O:¬t<60)(a b c d e:Int):
 run T (.loop fI) ⟨[(3,.lst 1 h .clip),(4,X),(5,Y),(6,.ptr 106 0),(8,.int .u32 a),(9,.int .u32 b),(10,.int .u32 c),(11,.int .u32 d),(12,.int .u32 e),(13,.int .i64 t)],[(106,.arr 1 (ws W))],[]⟩=
 run T (.loop fI) ⟨[(3,.lst 1 h .clip),(4,X),(5,Y),(6,.ptr 106 0),(8,.int .u32 (ay.wrap (ay.wrap (ay.wrap (ay.wrap (rr a 27+bx .xor .u32 (bx .xor .u32 b c) d)+e)+3395469782)+W.getD t 0))),(9,.int .u32 a),(10,.int .u32 (rr b 2)),(11,.int .u32 c),(12,.int .u32 d),(13,.int .i64 ((t+1:Nat):Int))],[(106,.arr 1 (ws W))],[]⟩:=by
 have H:=cA t (by omega);have B:(t:Int)<80:=by omega
 have z:=dr W;have F:=bV W t (by omega);have C:¬(t:Int)<20:=by omega
 have p1:¬(t:Int)<40:=by omega
 have I:¬(t:Int)<60:=by omega
 rw[al];simp only[go_sem,Q0,Q1,Q2,Q3,Q4,Q5,Q6,Q7,Q8,Q9,Qa,Qb,Qc,Qd,Qe,Qf,Qg,Qh,Qi,Qj,Qk,reduceCtorEq,reduceIte,B,H,z,E,wP,hn,C,p1,I,F,z5,z30]
theorem xfI(W k:List Int)(X Y:SV)(h:f8)(H:W.length=80):∀(n t:Nat),80-t=n->t<=80->
 run T (.loop fI) ⟨[(3,.lst 1 h .clip),(4,X),(5,Y),(6,.ptr 106 0),(8,.int .u32 ((bZ W k t).getD 0 0)),(9,.int .u32 ((bZ W k t).getD 1 0)),(10,.int .u32 ((bZ W k t).getD 2 0)),(11,.int .u32 ((bZ W k t).getD 3 0)),(12,.int .u32 ((bZ W k t).getD 4 0)),(13,.int .i64 t)],[(106,.arr 1 (ws W))],[]⟩=some (.x 4,⟨[(3,.lst 1 h .clip),(4,X),(5,Y),(8,.int .u32 ((bZ W k 80).getD 0 0)),(9,.int .u32 ((bZ W k 80).getD 1 0)),(10,.int .u32 ((bZ W k 80).getD 2 0)),(11,.int .u32 ((bZ W k 80).getD 3 0)),(12,.int .u32 ((bZ W k 80).getD 4 0))],[(106,.arr 1 (ws W))],[]⟩):=by
 intro n;induction n with
 |zero=>
  intro t J L;have hi:t=80:=by omega
  subst hi;rw[al];simp only[c80,go_sem,Q0,Q1,Q2,Q3,Q4,Q5,Q6,Q7,Q8,Q9,Qa,Qb,Qc,Qd,Qe,Qf,Qg,Qh,Qi,Qj,Qk,reduceCtorEq,reduceIte]
 |succ n O=>
  intro t J L;have z:=O (t+1) (by omega) (by omega);have I:bZ W k (t+1)=GK t (W.getD t 0) (bZ W k t):=rfl;rw[I]at z;simp only[GK,bp,bF]at z
  by_cases B:t<20
  ·have F:kk t=1518500249:=by unfold kk;rw[if_pos B]
   unfold ff at z;rw[if_pos B,F]at z;rw[xaB W X Y h H t (by omega) B,z]
  ·by_cases C:t<40
   ·have F:kk t=1859775393:=by unfold kk;rw[if_neg B,if_pos C]
    unfold ff at z;rw[if_neg B,if_pos C,F]at z;rw[xaA W X Y h H t (by omega) B C,z]
   ·by_cases E:t<60
    ·have F:kk t=2400959708:=by unfold kk;rw[if_neg B,if_neg C,if_pos E]
     unfold ff at z;rw[if_neg B,if_neg C,if_pos E,F]at z;rw[xaz W X Y h H t (by omega) B C E,z]
    ·have F:kk t=3395469782:=by unfold kk;rw[if_neg B,if_neg C,if_neg E]
     unfold ff at z;rw[if_neg B,if_neg C,if_neg E,F]at z;rw[xay W X Y h H t (by omega) B C E,z]
theorem xjB(X:t6)(hX:X.length<=1000000000000):∀(n a:Nat)(h:List Int),h.length=5->X.length=a+64*n->
 run T (.loop rM) ⟨[(3,.lst 1 (ws h) .clip),(4,.byt X .no),(5,.int .i64 a)],[],[]⟩=
 some (.x 0,⟨[(3,.lst 1 (ws (eh h (X.drop a) n)) .clip)],[],[]⟩):=by
 intro n;induction n with
 |zero=>
  intro a h E L;rw[al];have F:¬(a:Int)<X.length:=by omega
  simp only[go_sem,Q0,Q1,Q2,Q3,Q4,Q5,Q6,Q7,Q8,Q9,Qa,Qb,Qc,Qd,Qe,Qf,Qg,Qh,Qi,Qj,Qk,reduceCtorEq,reduceIte,F,eh]
 |succ n S=>
  intro a h E L;have z:=S (a+64) (nu h (bk X a)) (mN h _ E) (by omega);have F:(a:Int)<X.length:=by omega
  have J:aj.wrap ((a:Int)+64)=((a+64:Nat):Int):=wZ (by omega)
  have B:=xfJ X a (ws h) (by omega) hX _ 0 rfl (by omega);have C:=xfI (Wl1 (bk X a) 80) h (.byt X .no) (.int .i64 a) (ws h) (oQ _ 80) _ 0 rfl (by omega);have Q:Wl1 (bk X a) 0=au 80 0:=by rw[Wl1]
  have O:bZ (Wl1 (bk X a) 80) h 0=h:=by rw[bZ]
  have H:=jT (Wl1 (bk X a) 80) h E 80;rw[Q,<-sS]at B;rw[O]at C;simp only[aH]at B C
  have I:eh h (X.drop a) (n+1)=eh (nu h (bk X a)) (X.drop (a+64)) n:=by rw[eh,YD,fp]
  rw[I,al];unfold nu at z ⊢;generalize bZ (Wl1 (bk X a) 80) h 80=s at*;generalize Wl1 (bk X a) 80=W at*;obtain⟨Z,U,a2,a3,a4,rfl⟩:=D9 h E;obtain⟨s0,s1,s2,s3,s4,rfl⟩:=D9 s H;simp only[ws5,bp,bF,YG]at B C z ⊢;simp only[go_sem,Q0,Q1,Q2,Q3,Q4,Q5,Q6,Q7,Q8,Q9,Qa,Qb,Qc,Qd,Qe,Qf,Qg,Qh,Qi,Qj,Qk,reduceCtorEq,reduceIte,F,J,B,C,av,bg,c5,z]
theorem xj9(B:t6)(E:B.length<=100000000000):call T 136 [.byt B .no] [] 0=some ⟨.byt (jx B) .no,[],[]⟩:=by
 have g0:=xim B (by omega);have F:=j9 B;have hz:zn (B.length+1)<64:=by unfold zn;omega
 have H:=lO B;have h:=xjB (ek B) (by omega) ((ek B).length/64) 0 H1 rfl (by omega);have I:=jY ((ek B).length/64) H1 (ek B) rfl;have z:=xil (eh H1 (ek B) ((ek B).length/64)) (by omega);have C:ws H1=[[.int .u32 1732584193],[.int .u32 4023233417],[.int .u32 2562383102],[.int .u32 271733878],[.int .u32 3285377520]]:=rfl;rw[C]at h;simp only[aH,bi]at h;unfold jx;generalize eh H1 (ek B) ((ek B).length/64)=b at*;rw[az xgu];simp only[go_sem,Q0,Q1,Q2,Q3,Q4,Q5,Q6,Q7,Q8,Q9,Qa,Qb,Qc,Qd,Qe,Qf,Qg,Qh,Qi,Qj,Qk,reduceCtorEq,reduceIte,g0,Y2,z,h,YZ]
theorem xid(B:t6)(h:B.length<=100000000000):call T 99 [.int .i64 0,.byt B .no] [] 0=some ⟨.byt (jx B) .no,[],[]⟩:=by have g:=xj9 B h;rw[az xiz];simp only[go_sem,Q0,Q1,Q2,Q3,Q4,Q5,Q6,Q7,Q8,Q9,Qa,Qb,Qc,Qd,Qe,Qf,Qg,Qh,Qi,Qj,Qk,reduceCtorEq,reduceIte,g,xg0]
theorem xic(B:t6)(h:B.length<=100000000000):call T 99 [.int .i64 1,.byt B .no] [] 0=some ⟨.byt (sha B) .no,[],[]⟩:=by have g:=f80 B h;rw[az xiz];simp only[go_sem,Q0,Q1,Q2,Q3,Q4,Q5,Q6,Q7,Q8,Q9,Qa,Qb,Qc,Qd,Qe,Qf,Qg,Qh,Qi,Qj,Qk,reduceCtorEq,reduceIte,g,Et]
end Go.Proofs.YtdafipacemgcoaaGreatDoor
