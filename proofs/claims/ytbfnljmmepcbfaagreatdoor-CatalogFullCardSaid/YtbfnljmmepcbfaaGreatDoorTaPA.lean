/- What the functions come to. No condition. -/
import Derived.Test.YtbfnljmmepcbfaaGreatDoorCoPA
import Derived.Deep.Slices
import Derived.Ground.NamesProg
import Derived.KernelRfl
import Derived.LoopTactic
import Derived.Maps.AppendAt
import Derived.Maps.RangeWalk
import Derived.Shelf.Slices.In.SortNone
import Derived.Shelf.Sort.Plain
import Derived.Sort.OwnSortedInts
import Derived.WalkKit
import Derived.WalkSmall
open Int renaming natCast_zero -> aD, tmod_eq_emod_of_nonneg -> ib
open Go.IntKind renaming i64 -> ah, u32 -> c9, u64 -> aU, wrap_i64 -> dh, wrap_u64 -> bM
open List renaming append_assoc -> ay, append_nil -> bG, cons -> kZ, cons_append -> bg, drop_eq_getElem_cons -> bE, drop_length -> bP, drop_zero -> bh, flatMap_cons -> eo, flatMap_nil -> fp, flatten_cons -> cr, getD_eq_getElem?_getD -> aa, getElem?_drop -> bi, getElem?_eq_getElem -> ac, getElem?_map -> aR, length_append -> af, length_cons -> am, length_drop -> aL, length_nil -> aB, length_replicate -> jS, length_singleton -> br, length_take -> ax, map_cons -> aF, map_nil -> bX, nil_append -> aI, replicate -> aH, singleton_append -> eI, take_length -> kp, take_of_length_le -> bj
open Nat renaming add_zero -> gx, le_refl -> aK, mul_one -> iJ
open UInt8 renaming ofInt -> cQ
set_option maxRecDepth 100000
set_option maxHeartbeats 16000000
set_option linter.unusedSimpArgs false
set_option linter.unusedVariables false
namespace Go.Proofs.YtbfnljmmepcbfaaGreatDoor
open Go.Sy
open UInt8 renaming reduceLT -> Q0, reduceLE -> Q1
open Int renaming reduceToNat -> Q2, reduceLE -> Q3, reduceLT -> Q4, reduceEq -> Q5, reduceNe -> Q6, reduceNeg -> Q7, reduceAdd -> Q8, reduceSub -> Q9, reduceMul -> Qa
open Nat renaming reducePow -> Qb, reduceDiv -> Qc, reduceMod -> Qd, reduceAdd -> Qe, reduceSub -> Qf, reduceMul -> Qg, reduceLT -> Qh, reduceLeDiff -> Qi, reduceEqDiff -> Qj, reduceBEq -> Qk
theorem c0:((0:Nat):Int)=0:=rfl
theorem c1:((1:Nat):Int)=1:=rfl
theorem c15:((15:Nat):Int)=15:=rfl
theorem c16:((16:Nat):Int)=16:=rfl
theorem c2:((2:Nat):Int)=2:=rfl
theorem c32:((32:Nat):Int)=32:=rfl
theorem c35:((35:Nat):Int)=35:=rfl
theorem c6:((6:Nat):Int)=6:=rfl
theorem c64:((64:Nat):Int)=64:=rfl
theorem c8:((8:Nat):Int)=8:=rfl
attribute [go_sem] qP tC tD
theorem w64{n:Int}(h1: -9223372036854775808<=n)(h2:n<=9223372036854775807):ah.wrap n=n:=by rw[dh];omega
theorem wZ{a b:Int}(h:-9223372036854775808<=a/\a<=9223372036854775807/\a=b):ah.wrap a=b:=by rw[w64 h.1 h.2.1];exact h.2.2
theorem cZ(i:Nat)(h:i<9223372036854775807):ah.wrap ((i:Int)+1)=((i+1:Nat):Int):=wZ (by omega)
theorem rA{α:Type}[Inhabited α](l:List α)(i:Nat)(h:i<l.length):l.drop i=l.getD i default::l.drop (i+1):=by rw[bE h,aa,ac h];rfl
theorem eg(l:List UInt8)(i:Nat)(h:i<l.length):l.drop i=l.getD i 0::l.drop (i+1):=rA l i h
theorem l31(a b:List UInt8)(hl:a.length<=140737488355328)(hab:a.length=b.length):∀(n i:Nat),a.length-i=n->i<=a.length->
 run T (.loop N3) ⟨[(0,.byt a .no),(1,.byt b .no),(5,.int .i64 i)],[],[]⟩=if a.drop i=b.drop i then some (.x 0,⟨[],[],[]⟩)else some (.r,⟨[(4,.bool false)],[],[]⟩):=by
 intro n;induction n with
 |zero=>
  intro i h0 h1;have hi:i=a.length:=by omega
  subst hi;rw[ai];have e:List.drop a.length b=[]:=by rw[hab,bP]
  simp only[go_sem,Qh,Qj,Qk,reduceCtorEq,reduceIte,bP,e]
 |succ n ih=>
  intro i h0 h1;have hi:i<a.length:=by omega
  have hi2:i<b.length:=by omega
  rw[ai,eg a i hi,eg b i hi2];have e3:ah.wrap ((i:Int)+1)=((i+1:Nat):Int):=wZ (by omega)
  simp only[go_sem,Qh,Qj,Qk,reduceCtorEq,reduceIte,hi,hi2,e3,ih (i+1) (by omega) (by omega),kZ.injEq]
  by_cases hc:a.getD i 0=b.getD i 0<;>simp only[hc,go_sem,reduceIte]
theorem f31(a b:List UInt8)(hl:a.length<=140737488355328):call T 31 [.byt a .no,.byt b .no] [] 0=some ⟨.bool (decide (a=b)),[],[]⟩:=by
 rw[an xmR]
 by_cases hab:a.length=b.length
 ·have h:=l31 a b hl hab _ 0 rfl (by omega)
  simp only[aD,bh]at h;simp only[go_sem,Qe,Qh,Qi,Qj,Qk,reduceCtorEq,reduceIte,hab,h]
  by_cases hc:a=b<;>simp only[hc,go_sem,reduceIte]
 ·have hc:a≠b:=fun e=>hab (by rw[e])
  simp only[go_sem,Qe,Qh,Qi,Qj,Qk,reduceCtorEq,reduceIte,hab,hc]
def gN(n m:Int):Int:=if m<1 then 0 else if n.tmod m<0 then n.tmod m+m else n.tmod m
theorem f21(a b:Int)(ha: -9223372036854775808<=a)(ha2:a<=9223372036854775807)(hb:b<=9223372036854775807):call T 21 [.int .i64 a,.int .i64 b] [] 0=some ⟨.int .i64 (gN a b),[],[]⟩:=by
 rw[an xmV]
 by_cases h:b<1
 ·simp only[go_sem,Qe,Qh,Qi,Qj,Qk,reduceCtorEq,reduceIte,h,gN]
 ·have h0:¬b=0:=by omega
  simp only[go_sem,Qe,Qh,Qi,Qj,Qk,reduceCtorEq,reduceIte,h,h0,gN]
  by_cases h2:a.tmod b<0
  ·have h3: -b<a.tmod b:=by
    have:=Int.lt_tmod_of_pos a (b:=b) (by omega);omega
   have h4:ah.wrap (a.tmod b+b)=a.tmod b+b:=w64 (by omega) (by omega);simp only[h2,go_sem,reduceIte,h4]
  ·simp only[h2,go_sem,reduceIte]
def rr(x:Int)(n:Nat):Int:=bZ .or .u32 (x.fdiv (2^n)) (c9.wrap (x*2^(32-n)))
theorem qd(k:IntKind)(x y:Int):bZ .or k x y=bZ .or k y x:=by simp only[bZ,BitVec.or_comm]
theorem vR(x:Int)(n:Nat)(h:n<=32):call T 118 [.int .u32 x,.int .u64 n] [] 0=some ⟨.int .u32 (rr x n),[],[]⟩:=by
 rw[an xhn];have e:aU.wrap (32-(n:Int))=((32-n:Nat):Int):=by rw[bM];omega
 have e2:min n 32=n:=by omega
 have e3:min (32-n) 32=32-n:=by omega
 have e4:(0:Int)<=((32-n:Nat):Int):=by omega
 simp only[go_sem,Qe,Qh,Qi,Qj,Qk,reduceCtorEq,reduceIte,e,e2,e3,e4,rr]
theorem vQ(x k:Int)(n:Nat)(h:n<=32)(hk:bZ .and .u64 (aU.wrap k) 31=((32-n:Nat):Int)):call T 165 [.int .u32 x,.int .i64 k] [] 0=some ⟨.int .u32 (rr x n),[],[]⟩:=by
 rw[an xgY];have e:aU.wrap (32-((32-n:Nat):Int))=(n:Int):=by rw[bM];omega
 have e2:min n 32=n:=by omega
 have e3:min (32-n) 32=32-n:=by omega
 simp only[go_sem,Qe,Qh,Qi,Qj,Qk,reduceCtorEq,reduceIte,hk,e,e2,e3,rr,qd]
theorem m24:min 24 32=24:=rfl
theorem m16:min 16 32=16:=rfl
theorem m8:min 8 32=8:=rfl
theorem m3:min 3 32=3:=rfl
theorem m10:min 10 32=10:=rfl
def wd(B:List UInt8)(t:Nat):Int:=
 bZ .or .u32 (bZ .or .u32 (bZ .or .u32 (c9.wrap (((B.getD (4*t) 0).toNat:Int)*2^24)) (c9.wrap (((B.getD (4*t+1) 0).toNat:Int)*2^16)))
  (c9.wrap (((B.getD (4*t+2) 0).toNat:Int)*2^8))) ((B.getD (4*t+3) 0).toNat:Int)
theorem xlK(B:List UInt8)(t:Nat)(h:4*t+3<B.length)(hl:B.length<=1000000000000):call T 164 [.byt B .no,.int .i64 t] [] 0=some ⟨.int .u32 (wd B t),[],[]⟩:=by
 rw[an xgZ];have e0:ah.wrap (4*(t:Int))=((4*t:Nat):Int):=wZ (by omega)
 have e1:ah.wrap (((4*t:Nat):Int)+1)=((4*t+1:Nat):Int):=wZ (by omega)
 have e2:ah.wrap (((4*t:Nat):Int)+2)=((4*t+2:Nat):Int):=wZ (by omega)
 have e3:ah.wrap (((4*t:Nat):Int)+3)=((4*t+3:Nat):Int):=wZ (by omega)
 have h0:4*t<B.length:=by omega
 have h1:4*t+1<B.length:=by omega
 have h2:4*t+2<B.length:=by omega
 simp only[go_sem,Q2,Q3,Qe,Qh,Qi,Qj,Qk,reduceCtorEq,reduceIte,e0,e1,e2,e3,h,h0,h1,h2,wd,m24,m16,m8]
theorem xlZ(B:List UInt8)(t:Nat)(h:4*t+3<B.length)(hl:B.length<=1000000000000):call T 117 [.byt B .no,.int .i64 t] [] 0=some ⟨.int .u32 (wd B t),[],[]⟩:=by
 rw[an xho];have e0:ah.wrap (4*(t:Int))=((4*t:Nat):Int):=wZ (by omega)
 have e1:ah.wrap (((4*t:Nat):Int)+1)=((4*t+1:Nat):Int):=wZ (by omega)
 have e2:ah.wrap (((4*t:Nat):Int)+2)=((4*t+2:Nat):Int):=wZ (by omega)
 have e3:ah.wrap (((4*t:Nat):Int)+3)=((4*t+3:Nat):Int):=wZ (by omega)
 have h0:4*t<B.length:=by omega
 have h1:4*t+1<B.length:=by omega
 have h2:4*t+2<B.length:=by omega
 simp only[go_sem,Q2,Q3,Qe,Qh,Qi,Qj,Qk,reduceCtorEq,reduceIte,e0,e1,e2,e3,h,h0,h1,h2,wd,m24,m16,m8]
def nw(B:List UInt8)(L:List Int)(t:Nat):Int:=
 if t<16 then wd B t else
  let x:=L.getD (t-15) 0
  let y:=L.getD (t-2) 0
  c9.wrap (c9.wrap (c9.wrap (bZ .xor .u32 (bZ .xor .u32 (rr y 17) (rr y 19)) (y.fdiv (2^10))+L.getD (t-7) 0)+
   bZ .xor .u32 (bZ .xor .u32 (rr x 7) (rr x 18)) (x.fdiv (2^3)))+L.getD (t-16) 0)
def Wl(B:List UInt8):Nat->List Int
 |0=>aH 64 0
 |t+1=>(Wl B t).set t (nw B (Wl B t) t)
theorem ul(B:List UInt8)(t:Nat):(Wl B t).length=64:=by
 induction t with
 |zero=>simp[Wl]
 |succ n ih=>simp[Wl,ih]
def ws(L:List Int):List (List SV):=L.map fun x=> [.int .u32 x]
theorem fE(L:List Int):(ws L).length=L.length:=by simp[ws]
theorem dj(L:List Int)(i:Nat)(h:i<L.length):(ws L).getD i []=[.int .u32 (L.getD i 0)]:=by simp[ws,aa,aR,ac h]
theorem tv(L:List Int)(i:Nat)(x:Int):(ws L).set i [.int .u32 x]=ws (L.set i x):=by unfold ws;rw[List.map_set]
theorem GI(n:Nat):aH n [SV.int .u32 0]=ws (aH n 0):=by unfold ws;rw[List.map_replicate]
theorem xf3(B:List UInt8)(O:aC)(hB:B.length=64):∀(n t:Nat),64-t=n->t<=64->
 run T (.loop sf) ⟨[(0,.ptr 0 0),(1,.byt B .no),(4,.ptr 104 0),(17,.int .i64 t)],[(0,O),(104,.arr 1 (ws (Wl B t)))],[]⟩=
 some (.x 0,⟨[(0,.ptr 0 0),(4,.ptr 104 0)],[(0,O),(104,.arr 1 (ws (Wl B 64)))],[]⟩):=by
 intro n;induction n with
 |zero=>
  intro t h0 h1;have hi:t=64:=by omega
  subst hi;rw[ai];simp only[c64,go_sem,Q4,Q7,Qh,Qj,Qk,reduceCtorEq,reduceIte]
 |succ n ih=>
  intro t h0 h1;have ih':=ih (t+1) (by omega) (by omega);have e1:=cZ t (by omega);have hlt:(t:Int)<64:=by omega
  have hl:=ul B t;have hw:=fE (Wl B t);have hn:t<64:=by omega
  have hs:Wl B (t+1)=(Wl B t).set t (nw B (Wl B t) t):=rfl;rw[ai]
  by_cases h16:t<16
  ·have g:=xlK B t (by omega) (by omega)
   have h16':(t:Int)<16:=by omega
   have hx:nw B (Wl B t) t=wd B t:=by unfold nw;rw[if_pos h16]
   rw[hs,hx]at ih';simp only[go_sem,Q7,Qh,Qj,Qk,reduceCtorEq,reduceIte,hlt,h16',e1,g,hl,hw,xhN,hn,tv,ih']
  ·have h16':¬(t:Int)<16:=by omega
   have a15:ah.wrap ((t:Int)-15)=((t-15:Nat):Int):=wZ (by omega)
   have a2:ah.wrap ((t:Int)-2)=((t-2:Nat):Int):=wZ (by omega)
   have a7:ah.wrap ((t:Int)-7)=((t-7:Nat):Int):=wZ (by omega)
   have a16:ah.wrap ((t:Int)-16)=((t-16:Nat):Int):=wZ (by omega)
   have b15:t-15<64:=by omega
   have b2:t-2<64:=by omega
   have b7:t-7<64:=by omega
   have b16:t-16<64:=by omega
   have d15:=dj (Wl B t) (t-15) (by omega);have d2:=dj (Wl B t) (t-2) (by omega);have d7:=dj (Wl B t) (t-7) (by omega);have d16:=dj (Wl B t) (t-16) (by omega);have r7:=fun x=>vQ x (-7) 7 (by omega) (by decide)
   have r18:=fun x=>vQ x (-18) 18 (by omega) (by decide)
   have r17:=fun x=>vQ x (-17) 17 (by omega) (by decide)
   have r19:=fun x=>vQ x (-19) 19 (by omega) (by decide)
   rw[hs]at ih';unfold nw at ih';rw[if_neg h16]at ih';simp only[go_sem,Q2,Q3,Q7,Qb,Qc,Qd,Qh,Qj,Qk,reduceCtorEq,reduceIte,hlt,h16',e1,hl,hw,YM,hn,a15,a2,a7,a16,b15,b2,b7,b16,d15,d2,d7,d16,r7,r18,r17,r19,tv,m3,m10,ih']
def Kl:List Int:=iR.map fun| .int _ x=>x|_=>0
theorem zJ:Kl.length=64:=rfl
theorem mz:iR.length=64:=rfl
theorem xdv:iR=Kl.map (SV.int .u32):=rfl
theorem xcV{t:Nat}(h:t<64):(1<=(List.drop (t*1) iR).length)=True:=by refine eq_true ?_;rw[aL,mz];omega
theorem xcW{t:Nat}(h:t<64):(List.map SV.data (List.drop (t*1) iR)).getD 0 SV.undef= .int .u32 (Kl.getD t 0):=by
 rw[xdv,aa,aR,bi,aR,iJ,gx,aa,
  ac (show t<Kl.length from h)]
 rfl
def rnd(k w:Int)(s:List Int):List Int:=
 let a:=s.getD 0 0
 let e:=s.getD 4 0
 let t1:=c9.wrap (c9.wrap (c9.wrap (c9.wrap (s.getD 7 0+bZ .xor .u32 (bZ .xor .u32 (rr e 6) (rr e 11)) (rr e 25))+
  bZ .xor .u32 (bZ .and .u32 e (s.getD 5 0)) (bZ .and .u32 (bZ .xor .u32 (if c9.signed=true then-1 else c9.max) e) (s.getD 6 0)))+k)+w)
 let t2:=c9.wrap (bZ .xor .u32 (bZ .xor .u32 (rr a 2) (rr a 13)) (rr a 22)+
  bZ .xor .u32 (bZ .xor .u32 (bZ .and .u32 a (s.getD 1 0)) (bZ .and .u32 a (s.getD 2 0))) (bZ .and .u32 (s.getD 1 0) (s.getD 2 0)))
 [c9.wrap (t1+t2),a,s.getD 1 0,s.getD 2 0,c9.wrap (s.getD 3 0+t1),e,s.getD 5 0,s.getD 6 0]
theorem ws8(a b c d e f g h:Int):ws [a,b,c,d,e,f,g,h]=[[.int .u32 a],[.int .u32 b],[.int .u32 c],[.int .u32 d],[.int .u32 e],[.int .u32 f],[.int .u32 g],[.int .u32 h]]:=rfl
def rounds(W:List Int)(h:List Int):Nat->List Int
 |0=>h
 |t+1=>rnd (Kl.getD t 0) (W.getD t 0) (rounds W h t)
theorem gV(W h:List Int)(hh:h.length=8)(t:Nat):(rounds W h t).length=8:=by
 cases t<;>simp[rounds,rnd,hh]
theorem n6(x:Int):call T 165 [.int .u32 x,.int .i64 (-6)] [] 0=some ⟨.int .u32 (rr x 6),[],[]⟩:=vQ x (-6) 6 (by omega) (by decide)
theorem n11(x:Int):call T 165 [.int .u32 x,.int .i64 (-11)] [] 0=some ⟨.int .u32 (rr x 11),[],[]⟩:=vQ x (-11) 11 (by omega) (by decide)
theorem n25(x:Int):call T 165 [.int .u32 x,.int .i64 (-25)] [] 0=some ⟨.int .u32 (rr x 25),[],[]⟩:=vQ x (-25) 25 (by omega) (by decide)
theorem n2(x:Int):call T 165 [.int .u32 x,.int .i64 (-2)] [] 0=some ⟨.int .u32 (rr x 2),[],[]⟩:=vQ x (-2) 2 (by omega) (by decide)
theorem n13(x:Int):call T 165 [.int .u32 x,.int .i64 (-13)] [] 0=some ⟨.int .u32 (rr x 13),[],[]⟩:=vQ x (-13) 13 (by omega) (by decide)
theorem n22(x:Int):call T 165 [.int .u32 x,.int .i64 (-22)] [] 0=some ⟨.int .u32 (rr x 22),[],[]⟩:=vQ x (-22) 22 (by omega) (by decide)
theorem xf2(W h:List Int)(O:aC)(hW:W.length=64)(hh:h.length=8):∀(n t:Nat),64-t=n->t<=64->
 run T (.loop se) ⟨[(0,.ptr 0 0),(4,.ptr 104 0),(10,.ptr 110 0),(70,.int .i64 t)],[(0,O),(104,.arr 1 (ws W)),(110,.arr 1 (ws (rounds W h t)))],[]⟩=
 some (.x 2,⟨[(0,.ptr 0 0),(10,.ptr 110 0)],[(0,O),(104,.arr 1 (ws W)),(110,.arr 1 (ws (rounds W h 64)))],[]⟩):=by
 intro n;induction n with
 |zero=>
  intro t h0 h1;have hi:t=64:=by omega
  subst hi;rw[ai];simp only[c64,go_sem,Q4,Q7,Qh,Qj,Qk,reduceCtorEq,reduceIte]
 |succ n ih=>
  intro t h0 h1;have ih':=ih (t+1) (by omega) (by omega);have e1:=cZ t (by omega);have hlt:(t:Int)<64:=by omega
  have hn:t<64:=by omega
  have hl:=gV W h hh t;have hw:=fE (rounds W h t);have hw2:=fE W;have hs:rounds W h (t+1)=rnd (Kl.getD t 0) (W.getD t 0) (rounds W h t):=rfl;rw[hs]at ih';simp only[rnd,ws8]at ih';generalize rounds W h t=s at*;have d0:=dj s 0 (by omega);have d1:=dj s 1 (by omega);have d2:=dj s 2 (by omega);have d3:=dj s 3 (by omega);have d4:=dj s 4 (by omega);have d5:=dj s 5 (by omega);have d6:=dj s 6 (by omega);have d7:=dj s 7 (by omega);have dW:=dj W t (by omega);have dK:=dj Kl t (by rw[zJ];exact hn);rw[ai];simp only[go_sem,Q2,Q3,Q4,Q7,Qb,Qc,Qd,Qe,Qg,Qh,Qi,Qj,Qk,reduceCtorEq,reduceIte,hlt,e1,hl,hw,hw2,hW,YM,hn,d0,d1,d2,d3,d4,d5,d6,d7,dW,n6,n11,n25,n2,n13,n22,c8,c64,mz,xcV hn,xcW hn,ih']
def xP:List Int->List Int->List Int
 |x::l,y::r=>c9.wrap (x+y)::xP l r
 |_,_=> []
theorem xf1(h s:List Int)(P:aC)(hh:h.length=8)(hs:s.length=8):
 run T (.loop sd) ⟨[(0,.ptr 0 0),(10,.ptr 110 0),(152,.int .i64 0)],[(0,.arr 1 (ws h)),(104,P),(110,.arr 1 (ws s))],[]⟩=
 some (.x 4,⟨[],[(0,.arr 1 (ws (xP h s))),(104,P),(110,.arr 1 (ws s))],[]⟩):=by
 match h,hh with
 |[a0,a1,a2,a3,a4,a5,a6,a7],_=>match s,hs with
  |[b0,b1,b2,b3,b4,b5,b6,b7],_=>
   have k1:ah.wrap 1=1:=rfl;have k2:ah.wrap 2=2:=rfl;have k3:ah.wrap 3=3:=rfl;have k4:ah.wrap 4=4:=rfl;have k5:ah.wrap 5=5:=rfl;have k6:ah.wrap 6=6:=rfl;have k7:ah.wrap 7=7:=rfl;have k8:ah.wrap 8=8:=rfl;simp only[ws8,xP]
   iterate 9
    rw[ai];simp only[go_sem,Q2,Q3,Q4,Q8,Qb,Qc,Qd,Qe,Qh,Qj,Qk,reduceCtorEq,reduceIte,am,aB,c8,k1,k2,k3,k4,k5,k6,k7,k8]
def comp(h:List Int)(B:List UInt8):List Int:=xP h (rounds (Wl B 64) h 64)
theorem GH(h s:List Int)(hs:h.length<=s.length):(xP h s).length=h.length:=by
 induction h generalizing s with
 |nil=>simp[xP]
 |cons x l ih=>
  cases s with
  |nil=>simp at hs
  |cons y r=>simp only[xP,am];rw[ih r (by simpa using hs)]
theorem pG(h:List Int)(B:List UInt8)(hh:h.length=8):(comp h B).length=8:=by unfold comp;rw[GH _ _ (by rw[gV _ _ hh,hh];exact aK 8),hh]
theorem xlR(h:List Int)(B:List UInt8)(hh:h.length=8)(hB:B.length=64):call T 144 [.ptr 0 0,.byt B .no] [.arr 1 (ws h)] 0=some ⟨.tup [],[(0,.arr 1 (ws (comp h B)))],[]⟩:=by
 have g1:=xf3 B (.arr 1 (ws h)) hB _ 0 rfl (by omega);have g2:=xf2 (Wl B 64) h (.arr 1 (ws h)) (ul B 64) hh _ 0 rfl (by omega);have g3:=xf1 h (rounds (Wl B 64) h 64) (.arr 1 (ws (Wl B 64))) hh (gV _ _ hh 64);have hw:Wl B 0=aH 64 0:=rfl;have hr:rounds (Wl B 64) h 0=h:=rfl;rw[hw,<-GI]at g1;rw[hr]at g2;simp only[aD]at g1 g2;rw[an xhb]
 match h,hh with
 |[a0,a1,a2,a3,a4,a5,a6,a7],_=>simp only[ws8]at g1 g2 g3;simp only[go_sem,Qe,Qg,Qh,Qi,Qj,Qk,reduceCtorEq,reduceIte,ws8,g1,g2,g3,comp,cr,List.flatten_nil,aF,bX,bg,aI,SV.data,List.take_succ_cons,List.take_zero,am,aB]
def zn(n:Nat):Nat:=(120-n % 64) % 64
theorem xf5(B:List UInt8):∀(n:Nat)(acc:List UInt8),zn acc.length=n->acc.length+n<=100000000000000->
 run T (.loop yy) ⟨[(0,.byt B .no),(3,.byt acc (.id 103))],[],[103]⟩=
 some (.x 0,⟨[(0,.byt B .no),(3,.byt (acc++aH n 0) (.id 103))],[],[103]⟩):=by
 intro n;induction n with
 |zero=>
  intro acc h0 h1;have hm:acc.length % 64=56:=by unfold zn at h0;omega
  have hi:(acc.length:Int).tmod 64=56:=by rw[ib (by omega)];omega
  rw[ai];simp only[go_sem,Q5,Qh,Qj,Qk,reduceCtorEq,reduceIte,hi,List.replicate_zero,bG]
 |succ n ih=>
  intro acc h0 h1;have hm:acc.length % 64≠56:=by unfold zn at h0;omega
  have hi:¬(acc.length:Int).tmod 64=56:=by rw[ib (by omega)];omega
  have ih':=ih (acc++ [0]) (by unfold zn at*;rw[af,br];omega) (by rw[af,br];omega);have hc:acc.length+1<=140737488355328:=by omega
  rw[ay,eI,<-List.replicate_succ]at ih';rw[ai];simp only[go_sem,Q5,Qe,Qh,Qi,Qj,Qk,reduceCtorEq,reduceIte,hi,hc,ih']
def gI(v:Int)(s:Nat):UInt8:=cQ (v.fdiv (2^s))
def be:Nat->Int->List UInt8
 |0,_=> []
 |k+1,v=>gI v (8*k)::be k v
theorem kJ(n:Nat)(v:Int):(be n v).length=n:=by induction n with
 |zero=>rfl
 |succ n ih=>simp[be,ih]
theorem xf4(v:Int):∀(k:Nat)(acc:List UInt8),k<=8->acc.length+k<=100000000000000->
 run T (.loop sh) ⟨[(3,.byt acc (.id 103)),(4,.int .u64 v),(5,.int .i64 (8*(k:Int)-8))],[],[103]⟩=
 some (.x 2,⟨[(3,.byt (acc++be k v) (.id 103))],[],[103]⟩):=by
 intro k;induction k with
 |zero=>
  intro acc hk h;rw[ai];have hg:¬(0:Int)<=8*((0:Nat):Int)-8:=by omega
  simp only[go_sem,Qh,Qj,Qk,reduceIte,hg,be,bG]
 |succ k ih=>
  intro acc hk h;have ih':=ih (acc++ [gI v (8*k)]) (by omega) (by rw[af,br];omega);have c1:acc.length+1<=140737488355328:=by omega
  have hg:(0:Int)<=8*((k+1:Nat):Int)-8:=by omega
  have he:aU.wrap (8*((k+1:Nat):Int)-8)=((8*k:Nat):Int):=by rw[bM];omega
  have hs:ah.wrap (8*((k+1:Nat):Int)-8-8)=8*(k:Int)-8:=wZ (by omega)
  have hm:min (8*k) 64=8*k:=by omega
  rw[ay,eI]at ih';rw[ai];unfold gI at ih';simp only[go_sem,Qe,Qh,Qi,Qj,Qk,reduceIte,c1,hg,he,hs,hm,be,gI,ih']
def gW(B:List UInt8):List UInt8:=B++128::(aH (zn (B.length+1)) 0++be 8 (aU.wrap (aU.wrap B.length*8)))
theorem pe(B:List UInt8):(gW B).length=B.length+1+zn (B.length+1)+8:=by simp only[gW,af,am,jS,kJ];omega
theorem vj(B:List UInt8):(gW B).length % 64=0:=by rw[pe];unfold zn;omega
theorem xlT(B:List UInt8)(h:B.length<=10000000000000):call T 141 [.byt B .no] [] 0=some ⟨.byt (gW B) .no,[],[]⟩:=by
 have hz:zn (B.length+1)<64:=by unfold zn;omega
 have g1:=xf5 B _ (B++ [128]) rfl (by simp;omega);have g2:=xf4 (aU.wrap (aU.wrap B.length*8)) 8 (B++128::aH (zn (B.length+1)) 0) (by omega) (by simp;omega);have e8:8*((8:Nat):Int)-8=56:=rfl;rw[e8]at g2;rw[an xhd];have e:ah.wrap ((B.length:Int)+72)=((B.length+72:Nat):Int):=wZ (by omega)
 have c2:((B.length+72:Nat):Int)<=140737488355328:=by omega
 have c3:B.length<=140737488355328:=by omega
 have c4:B.length+1<=140737488355328:=by omega
 simp only[go_sem,Q2,Q3,Qe,Qh,Qi,Qj,Qk,reduceCtorEq,reduceIte,e,g1,g2,c2,c3,c4,gW]
theorem xf7(B:List UInt8):∀(n:Nat)(acc:List UInt8),zn acc.length=n->acc.length+n<=100000000000000->
 run T (.loop yF) ⟨[(0,.byt B .no),(3,.byt acc (.id 103))],[],[103]⟩=
 some (.x 0,⟨[(0,.byt B .no),(3,.byt (acc++aH n 0) (.id 103))],[],[103]⟩):=by
 intro n;induction n with
 |zero=>
  intro acc h0 h1;have hm:acc.length % 64=56:=by unfold zn at h0;omega
  have hi:(acc.length:Int).tmod 64=56:=by rw[ib (by omega)];omega
  rw[ai];simp only[go_sem,Q5,Qh,Qj,Qk,reduceCtorEq,reduceIte,hi,List.replicate_zero,bG]
 |succ n ih=>
  intro acc h0 h1;have hm:acc.length % 64≠56:=by unfold zn at h0;omega
  have hi:¬(acc.length:Int).tmod 64=56:=by rw[ib (by omega)];omega
  have ih':=ih (acc++ [0]) (by unfold zn at*;rw[af,br];omega) (by rw[af,br];omega);have hc:acc.length+1<=140737488355328:=by omega
  rw[ay,eI,<-List.replicate_succ]at ih';rw[ai];simp only[go_sem,Q5,Qe,Qh,Qi,Qj,Qk,reduceCtorEq,reduceIte,hi,hc,ih']
theorem xf6(v:Int):∀(k:Nat)(acc:List UInt8),k<=8->acc.length+k<=100000000000000->
 run T (.loop sk) ⟨[(3,.byt acc (.id 103)),(4,.int .u64 v),(5,.int .i64 ((k:Int)-1))],[],[103]⟩=
 some (.x 2,⟨[(3,.byt (acc++be k v) (.id 103))],[],[103]⟩):=by
 intro k;induction k with
 |zero=>
  intro acc hk h;rw[ai];have hg:¬(0:Int)<=((0:Nat):Int)-1:=by omega
  simp only[go_sem,Qh,Qj,Qk,reduceIte,hg,be,bG]
 |succ k ih=>
  intro acc hk h;have ih':=ih (acc++ [gI v (8*k)]) (by omega) (by rw[af,br];omega);have c1:acc.length+1<=140737488355328:=by omega
  have hg:(0:Int)<=((k+1:Nat):Int)-1:=by omega
  have he:aU.wrap (((k+1:Nat):Int)-1)=(k:Int):=by rw[bM];omega
  have he2:aU.wrap (8*(k:Int))=((8*k:Nat):Int):=by rw[bM];omega
  have hs:ah.wrap (((k+1:Nat):Int)-1-1)=(k:Int)-1:=wZ (by omega)
  have hm:min (8*k) 64=8*k:=by omega
  rw[ay,eI]at ih';rw[ai];unfold gI at ih';simp only[go_sem,Qe,Qh,Qi,Qj,Qk,reduceIte,c1,hg,he,he2,hs,hm,be,gI,ih']
theorem xl0(B:List UInt8)(h:B.length<=10000000000000):call T 116 [.byt B .no] [] 0=some ⟨.byt (gW B) .no,[],[]⟩:=by
 have hz:zn (B.length+1)<64:=by unfold zn;omega
 have g1:=xf7 B _ (B++ [128]) rfl (by simp;omega);have g2:=xf6 (aU.wrap (aU.wrap B.length*8)) 8 (B++128::aH (zn (B.length+1)) 0) (by omega) (by simp;omega);have e8:((8:Nat):Int)-1=7:=rfl;rw[e8]at g2;rw[an xhp];have c3:B.length<=140737488355328:=by omega
 have c4:B.length+1<=140737488355328:=by omega
 simp only[go_sem,Qe,Qh,Qi,Qj,Qk,reduceCtorEq,reduceIte,g1,g2,c3,c4,gW]
def w4(x:Int):List UInt8:=[gI x 24,gI x 16,gI x 8,cQ x]
def sp(h:List Int):List UInt8:=h.flatMap w4
theorem xaG(h:List Int):(sp h).length=4*h.length:=by
 induction h with
 |nil=>rfl
 |cons x l ih=>simp only[sp,eo,af,w4,am,aB]at*;omega
theorem d0(h:List Int)(i:Nat)(hi:i<h.length):h.drop i=h.getD i 0::h.drop (i+1):=rA h i hi
theorem xk9(h:List Int)(hh:h.length<=1000000000000):∀(n i:Nat)(acc:List UInt8),h.length-i=n->i<=h.length->acc.length=4*i->
 run T (.loop yx) ⟨[(3,.byt acc (.id 103)),(10,.lst 1 (ws h) .no),(11,.int .i64 h.length),(12,.int .i64 i)],[],[103]⟩=
 some (.x 0,⟨[(3,.byt (acc++sp (h.drop i)) (.id 103))],[],[103]⟩):=by
 intro n;induction n with
 |zero=>
  intro i acc h0 h1 ha;have hi:i=h.length:=by omega
  subst hi;rw[ai];simp only[go_sem,Qh,Qj,Qk,reduceIte,bP,sp,fp,bG]
 |succ n ih=>
  intro i acc h0 h1 ha;have hi:i<h.length:=by omega
  have e1:=cZ i (by omega);have ih':=ih (i+1) (acc++w4 (h.getD i 0)) (by omega) (by omega) (by simp[w4];omega);have hg:=dj h i hi;have hl:=fE h;have c1:acc.length+4<=140737488355328:=by omega
  rw[ai];rw[ay]at ih';simp only[w4,gI]at ih';simp only[go_sem,Q2,Q3,Qe,Qh,Qi,Qj,Qk,reduceCtorEq,reduceIte,hi,hg,hl,e1,c1,m24,m16,m8,ih',d0 h i hi,sp,eo,w4,gI]
theorem xlS(h:List Int)(hh:h.length<=1000000000000):call T 143 [.lst 1 (ws h) .no] [] 0=some ⟨.byt (sp h) .no,[],[]⟩:=by
 have g:=xk9 h hh _ 0 [] rfl (by omega) rfl;have hl:=fE h;rw[an xhc];have e:ah.wrap (4*(h.length:Int))=((4*h.length:Nat):Int):=wZ (by omega)
 have c2:((4*h.length:Nat):Int)<=140737488355328:=by omega
 simp only[aD,bh,aI]at g;simp only[go_sem,Q2,Q3,Qe,Qh,Qi,Qj,Qk,reduceCtorEq,reduceIte,e,hl,c2,g]
theorem xlf(h:List Int)(hh:h.length<=1000000000000):∀(n i:Nat)(acc:List UInt8),h.length-i=n->i<=h.length->acc.length=4*i->
 run T (.loop yD) ⟨[(0,.lst 1 (ws h) .no),(3,.byt acc (.id 103)),(4,.int .i64 i)],[],[103]⟩=
 some (.x 0,⟨[(3,.byt (acc++sp (h.drop i)) (.id 103))],[],[103]⟩):=by
 intro n;induction n with
 |zero=>
  intro i acc h0 h1 ha;have hi:i=h.length:=by omega
  have hl:=fE h;subst hi;rw[ai];simp only[go_sem,Qh,Qj,Qk,reduceCtorEq,reduceIte,hl,bP,sp,fp,bG]
 |succ n ih=>
  intro i acc h0 h1 ha;have hi:i<h.length:=by omega
  have e1:=cZ i (by omega);have ih':=ih (i+1) (acc++w4 (h.getD i 0)) (by omega) (by omega) (by simp[w4];omega);have hg:=dj h i hi;have hl:=fE h;have c1:acc.length+4<=140737488355328:=by omega
  rw[ai];rw[ay]at ih';simp only[w4,gI]at ih';simp only[go_sem,Q2,Q3,Qb,Qc,Qd,Qe,Qh,Qi,Qj,Qk,reduceCtorEq,reduceIte,hi,hg,hl,e1,c1,m24,m16,m8,ih',d0 h i hi,sp,eo,w4,gI]
theorem xlY(h:List Int)(hh:h.length<=1000000000000):call T 119 [.lst 1 (ws h) .no] [] 0=some ⟨.byt (sp h) .no,[],[]⟩:=by have g:=xlf h hh _ 0 [] rfl (by omega) rfl;have hl:=fE h;rw[an xhm];simp only[aD,bh,aI]at g;simp only[go_sem,Qh,Qi,Qj,Qk,reduceCtorEq,reduceIte,g]
def ff(h:List Int)(X:List UInt8):Nat->List Int
 |0=>h
 |n+1=>ff (comp h (X.take 64)) (X.drop 64) n
theorem kW(n:Nat):∀(h:List Int)(X:List UInt8),h.length=8->(ff h X n).length=8:=by
 induction n with
 |zero=>intro h X hh;exact hh
 |succ n ih=>intro h X hh;exact ih _ _ (pG h _ hh)
def H0:List Int:=[1779033703,3144134277,1013904242,2773480762,1359893119,2600822924,528734635,1541459225]
def sha(B:List UInt8):List UInt8:=sp (ff H0 (gW B) ((gW B).length/64))
theorem lV(B:List UInt8):(sha B).length=32:=by unfold sha;rw[xaG,kW _ _ _ rfl]
theorem xll:∀(n:Nat)(h:List Int)(X:List UInt8),h.length=8->X.length=64*n->X.length<=1000000000000->
 run T (.loop sn) ⟨[(7,.ptr 107 0),(8,.byt X .no)],[(107,.arr 1 (ws h))],[]⟩=
 some (.x 3,⟨[(7,.ptr 107 0)],[(107,.arr 1 (ws (ff h X n)))],[]⟩):=by
 intro n;induction n with
 |zero=>
  intro h X hh hX hl;rw[ai];have h0:¬(0:Int)<X.length:=by omega
  simp only[go_sem,Qh,Qj,Qk,reduceIte,h0,ff]
 |succ n ih=>
  intro h X hh hX hl;have ih':=ih (comp h (X.take 64)) (X.drop 64) (pG h _ hh) (by rw[aL];omega) (by rw[aL];omega);have g:=xlR h (X.take 64) hh (by rw[ax];omega);have h1:(0:Int)<X.length:=by omega
  have h2:(64:Int)<=X.length:=by omega
  have h3:64<=X.length:=by omega
  rw[ai];simp only[go_sem,Q2,Q3,Qe,Qg,Qh,Qi,Qj,Qk,reduceIte,h1,h2,g,xhR,kp,ih',ff]
theorem xjJ(B:List UInt8)(hB:B.length<=100000000000):call T 103 [.int .i64 1,.byt B .no] [] 0=some ⟨.byt (sha B) .no,[],[]⟩:=by
 have g0:=xlT B (by omega);have hl:=pe B;have hz:zn (B.length+1)<64:=by unfold zn;omega
 have hm:=vj B;have g1:=xll ((gW B).length/64) H0 (gW B) rfl (by omega) (by omega);have hb:=kW ((gW B).length/64) H0 (gW B) rfl;have g2:=xlS (ff H0 (gW B) ((gW B).length/64)) (by omega);have hw:=fE (ff H0 (gW B) ((gW B).length/64));have hH:ws H0=[[.int .u32 1779033703],[.int .u32 3144134277],[.int .u32 1013904242],[.int .u32 2773480762],[.int .u32 1359893119],[.int .u32 2600822924],[.int .u32 528734635],[.int .u32 1541459225]]:=rfl;rw[hH]at g1;rw[an xhy];unfold sha;generalize ff H0 (gW B) ((gW B).length/64)=b at*;have ht:List.take 8 (ws b)=ws b:=bj (by rw[hw,hb];exact aK 8);simp only[go_sem,Q2,Q3,Q5,Qe,Qf,Qg,Qh,Qi,Qj,Qk,reduceCtorEq,reduceIte,g0,g1,g2,xhT,xhS,hw,hb,c8,ht]
theorem xl1:call T 115 [] [] 0=some ⟨.agg iR,[],[]⟩:=by rw[an xhq];simp only[go_sem,Qe,Qg,Qi,Qj,Qk,reduceCtorEq,reduceIte];rfl
def bk(X:List UInt8)(a:Nat):List UInt8:=List.drop a (List.take (a+64) X)
theorem Nt(X:List UInt8)(a:Nat)(h:a+64<=X.length):(bk X a).length=64:=by unfold bk;rw[aL,ax];omega
theorem xgG(X:List UInt8)(a:Nat):bk X a=(X.drop a).take 64:=by unfold bk;rw[List.drop_take];congr 1;omega
theorem rq7(x:Int):call T 118 [.int .u32 x,.int .u64 7] [] 0=some ⟨.int .u32 (rr x 7),[],[]⟩:=vR x 7 (by omega)
theorem xku(x:Int):call T 118 [.int .u32 x,.int .u64 18] [] 0=some ⟨.int .u32 (rr x 18),[],[]⟩:=vR x 18 (by omega)
theorem xkv(x:Int):call T 118 [.int .u32 x,.int .u64 17] [] 0=some ⟨.int .u32 (rr x 17),[],[]⟩:=vR x 17 (by omega)
theorem xkt(x:Int):call T 118 [.int .u32 x,.int .u64 19] [] 0=some ⟨.int .u32 (rr x 19),[],[]⟩:=vR x 19 (by omega)
theorem rq6(x:Int):call T 118 [.int .u32 x,.int .u64 6] [] 0=some ⟨.int .u32 (rr x 6),[],[]⟩:=vR x 6 (by omega)
theorem xkx(x:Int):call T 118 [.int .u32 x,.int .u64 11] [] 0=some ⟨.int .u32 (rr x 11),[],[]⟩:=vR x 11 (by omega)
theorem xkr(x:Int):call T 118 [.int .u32 x,.int .u64 25] [] 0=some ⟨.int .u32 (rr x 25),[],[]⟩:=vR x 25 (by omega)
theorem rq2(x:Int):call T 118 [.int .u32 x,.int .u64 2] [] 0=some ⟨.int .u32 (rr x 2),[],[]⟩:=vR x 2 (by omega)
theorem xkw(x:Int):call T 118 [.int .u32 x,.int .u64 13] [] 0=some ⟨.int .u32 (rr x 13),[],[]⟩:=vR x 13 (by omega)
theorem xks(x:Int):call T 118 [.int .u32 x,.int .u64 22] [] 0=some ⟨.int .u32 (rr x 22),[],[]⟩:=vR x 22 (by omega)
theorem xkT(X:List UInt8)(a:Nat)(h:List Int)(ha:a+64<=X.length)(hX:X.length<=1000000000000):∀(n t:Nat),64-t=n->t<=64->
 run T (.loop yj) ⟨[(3,.ptr 103 0),(4,.psl 119 1 0 8 (some 8)),(5,.byt X .no),(6,.int .i64 a),(7,.ptr 107 0),(8,.int .i64 t)],[(103,.arr 1 (ws Kl)),(107,.arr 1 (ws (Wl (bk X a) t))),(119,.arr 1 (ws h))],[]⟩=
 some (.x 2,⟨[(3,.ptr 103 0),(4,.psl 119 1 0 8 (some 8)),(5,.byt X .no),(6,.int .i64 a),(7,.ptr 107 0)],[(103,.arr 1 (ws Kl)),(107,.arr 1 (ws (Wl (bk X a) 64))),(119,.arr 1 (ws h))],[]⟩):=by
 intro n;induction n with
 |zero=>
  intro t h0 h1;have hi:t=64:=by omega
  subst hi;rw[ai];simp only[c64,go_sem,Q4,Qh,Qj,Qk,reduceIte]
 |succ n ih=>
  intro t h0 h1;have ih':=ih (t+1) (by omega) (by omega);have e1:=cZ t (by omega);have hlt:(t:Int)<64:=by omega
  have hl:=ul (bk X a) t;have hw:=fE (Wl (bk X a) t);have hn:t<64:=by omega
  have hs:Wl (bk X a) (t+1)=(Wl (bk X a) t).set t (nw (bk X a) (Wl (bk X a) t) t):=rfl;have a1:ah.wrap ((a:Int)+64)=((a+64:Nat):Int):=wZ (by omega)
  have a3:a<=a+64:=by omega
  rw[ai]
  by_cases h16:t<16
  ·have g:=xlZ (bk X a) t (by rw[Nt X a ha];omega) (by rw[Nt X a ha];omega)
   have h16':(t:Int)<16:=by omega
   have hx:nw (bk X a) (Wl (bk X a) t) t=wd (bk X a) t:=by unfold nw;rw[if_pos h16]
   rw[hs,hx]at ih';generalize hb:Wl (bk X a) t=L at*;generalize hc:wd (bk X a) t=z at*;unfold bk at g;simp only[go_sem,Qh,Qj,Qk,reduceIte,hlt,h16',e1,a1,ha,a3,g,hl,hw,xhV,hn,tv,ih']
  ·have h16':¬(t:Int)<16:=by omega
   have a15:ah.wrap ((t:Int)-15)=((t-15:Nat):Int):=wZ (by omega)
   have a2:ah.wrap ((t:Int)-2)=((t-2:Nat):Int):=wZ (by omega)
   have a7:ah.wrap ((t:Int)-7)=((t-7:Nat):Int):=wZ (by omega)
   have a16:ah.wrap ((t:Int)-16)=((t-16:Nat):Int):=wZ (by omega)
   have b15:t-15<64:=by omega
   have b2:t-2<64:=by omega
   have b7:t-7<64:=by omega
   have b16:t-16<64:=by omega
   rw[hs]at ih';unfold nw at ih';rw[if_neg h16]at ih';generalize hb:Wl (bk X a) t=L at*;have d15:=dj L (t-15) (by omega);have d2:=dj L (t-2) (by omega);have d7:=dj L (t-7) (by omega);have d16:=dj L (t-16) (by omega);simp only[go_sem,Q2,Q3,Qb,Qc,Qd,Qh,Qj,Qk,reduceCtorEq,reduceIte,hlt,h16',e1,hl,hw,YZ,hn,a15,a2,a7,a16,b15,b2,b7,b16,d15,d2,d7,d16,rq7,xku,xkv,xkt,tv,m3,m10,ih']
theorem xkS(X:List UInt8)(a:Nat)(W h:List Int)(O:aC)(hW:W.length=64)(hh:h.length=8):∀(n t:Nat)(q:Tok),64-t=n->t<=64->
 run T (.loop yi) ⟨[(3,.ptr 103 0),(4,.psl 119 1 0 8 (some 8)),(5,.byt X .no),(6,.int .i64 a),(7,.ptr 107 0),(11,.lst 1 (ws (rounds W h t)) q),(12,.int .i64 t)],[(103,.arr 1 (ws Kl)),(107,.arr 1 (ws W)),(119,O)],[194]⟩=
 some (.x 4,⟨[(3,.ptr 103 0),(4,.psl 119 1 0 8 (some 8)),(5,.byt X .no),(6,.int .i64 a),(11,.lst 1 (ws (rounds W h 64)) (if t=64 then q else .clip))],[(103,.arr 1 (ws Kl)),(107,.arr 1 (ws W)),(119,O)],[194]⟩):=by
 intro n;induction n with
 |zero=>
  intro t q h0 h1;have hi:t=64:=by omega
  subst hi;rw[ai];simp only[c64,go_sem,Q4,Qh,Qj,Qk,reduceIte]
 |succ n ih=>
  intro t q h0 h1;have ih':=ih (t+1) .clip (by omega) (by omega);have e1:=cZ t (by omega);have hlt:(t:Int)<64:=by omega
  have hn:t<64:=by omega
  have hn2:t≠64:=by omega
  have hl:=gV W h hh t;have hw:=fE (rounds W h t);have hw2:=fE W;have hw3:=fE Kl;have hk:=zJ;have hs:rounds W h (t+1)=rnd (Kl.getD t 0) (W.getD t 0) (rounds W h t):=rfl;rw[hs]at ih';simp only[rnd,ws8]at ih';rw[ite_self]at ih';generalize rounds W h t=s at*;have d0:=dj s 0 (by omega);have d1:=dj s 1 (by omega);have d2:=dj s 2 (by omega);have d3:=dj s 3 (by omega);have d4:=dj s 4 (by omega);have d5:=dj s 5 (by omega);have d6:=dj s 6 (by omega);have d7:=dj s 7 (by omega);have dW:=dj W t (by omega);have dK:=dj Kl t (by rw[zJ];exact hn);rw[ai];simp only[go_sem,Q2,Q3,Q4,Q7,Qb,Qc,Qd,Qh,Qj,Qk,reduceCtorEq,reduceIte,hlt,e1,hl,hw,hw2,hw3,hk,hW,YZ,hn,hn2,d0,d1,d2,d3,d4,d5,d6,d7,dW,dK,rq6,xkx,xkr,rq2,xkw,xks,c8,c64,ih']
theorem xkR(X:List UInt8)(a:Nat)(h s:List Int)(P Q:aC)(hh:h.length=8)(hs:s.length=8):
 run T (.loop yg) ⟨[(3,.ptr 103 0),(4,.psl 119 1 0 8 (some 8)),(5,.byt X .no),(6,.int .i64 a),(11,.lst 1 (ws s) .clip),(17,.int .i64 0)],[(103,P),(107,Q),(119,.arr 1 (ws h))],[194]⟩=
 some (.x 6,⟨[(3,.ptr 103 0),(4,.psl 119 1 0 8 (some 8)),(5,.byt X .no),(6,.int .i64 a)],[(103,P),(107,Q),(119,.arr 1 (ws (xP h s)))],[194]⟩):=by
 match h,hh with
 |[a0,a1,a2,a3,a4,a5,a6,a7],_=>match s,hs with
  |[b0,b1,b2,b3,b4,b5,b6,b7],_=>
   have k1:ah.wrap 1=1:=rfl;have k2:ah.wrap 2=2:=rfl;have k3:ah.wrap 3=3:=rfl;have k4:ah.wrap 4=4:=rfl;have k5:ah.wrap 5=5:=rfl;have k6:ah.wrap 6=6:=rfl;have k7:ah.wrap 7=7:=rfl;have k8:ah.wrap 8=8:=rfl;simp only[ws8,xP]
   iterate 9
    rw[ai];simp only[go_sem,Q2,Q3,Q4,Q8,Qb,Qc,Qd,Qe,Qh,Qj,Qk,reduceIte,am,aB,c8,k1,k2,k3,k4,k5,k6,k7,k8]
theorem l68(X:List UInt8)(hX:X.length<=1000000000000):∀(n a:Nat)(h:List Int),h.length=8->X.length=a+64*n->
 run T (.loop ye) ⟨[(3,.ptr 103 0),(4,.psl 119 1 0 8 (some 8)),(5,.byt X .no),(6,.int .i64 a)],[(103,.arr 1 (ws Kl)),(119,.arr 1 (ws h))],[]⟩=
 some (.x 0,⟨[(4,.psl 119 1 0 8 (some 8))],[(103,.arr 1 (ws Kl)),(119,.arr 1 (ws (ff h (X.drop a) n)))],[]⟩):=by
 intro n;induction n with
 |zero=>
  intro a h hh hl;rw[ai];have h0:¬(a:Int)<X.length:=by omega
  simp only[go_sem,Qh,Qj,Qk,reduceIte,h0,ff]
 |succ n ih=>
  intro a h hh hl;have ih':=ih (a+64) (comp h (bk X a)) (pG h _ hh) (by omega);have h0:(a:Int)<X.length:=by omega
  have a1:ah.wrap ((a:Int)+64)=((a+64:Nat):Int):=wZ (by omega)
  have g1:=xkT X a h (by omega) hX _ 0 rfl (by omega);have g2:=xkS X a (Wl (bk X a) 64) h (.arr 1 (ws h)) (ul _ 64) hh _ 0 (.id 194) rfl (by omega);have g3:=xkR X a h (rounds (Wl (bk X a) 64) h 64) (.arr 1 (ws Kl)) (.arr 1 (ws (Wl (bk X a) 64))) hh (gV _ _ hh 64);have hw:Wl (bk X a) 0=aH 64 0:=rfl;have hr:rounds (Wl (bk X a) 64) h 0=h:=rfl;have hz:¬(0:Nat)=64:=by omega
  have hwl:=fE h;rw[hw,<-GI]at g1;rw[hr,if_neg hz]at g2;simp only[aD]at g1 g2
  have hbl:ff h (X.drop a) (n+1)=ff (comp h (bk X a)) (X.drop (a+64)) n:=by rw[ff,xgG,List.drop_drop]
  rw[hbl,ai];unfold comp at ih' ⊢;have ht:List.take 8 (ws h)=ws h:=bj (by rw[hwl,hh];exact aK 8);simp only[go_sem,Qe,Qg,Qh,Qi,Qj,Qk,reduceCtorEq,reduceIte,h0,a1,g1,g2,g3,hwl,hh,ht,ih']
  trace_state
attribute [-go_sem] jq
theorem f68(B:List UInt8)(hB:B.length<=100000000000):call T 68 [.byt B .no] [] 0=some ⟨.byt (sha B) .no,[],[]⟩:=by
 have g1:=xl1;have g0:=xl0 B (by omega);have ck:jq 1 64 (List.map SV.data iR)=ws Kl:=rfl;have i3:iR.all SV.isData=true:=rfl;have i4:=mz;have pg:SV.purgeL 103 104 iR=iR:=rfl;have i1:SV.idsL iR=[]:=rfl;have i2:SV.toksL iR=[]:=rfl;have hl:=pe B;have hz:zn (B.length+1)<64:=by unfold zn;omega
 have hm:=vj B;have g3:=l68 (gW B) (by omega) ((gW B).length/64) 0 H0 rfl (by omega);have hb:=kW ((gW B).length/64) H0 (gW B) rfl;have g2:=xlY (ff H0 (gW B) ((gW B).length/64)) (by omega);have hw:=fE (ff H0 (gW B) ((gW B).length/64));have hH:ws H0=[[.int .u32 1779033703],[.int .u32 3144134277],[.int .u32 1013904242],[.int .u32 2773480762],[.int .u32 1359893119],[.int .u32 2600822924],[.int .u32 528734635],[.int .u32 1541459225]]:=rfl;rw[hH]at g3;simp only[aD,bh]at g3;unfold sha;generalize ff H0 (gW B) ((gW B).length/64)=b at*;have ht:List.take 8 (ws b)=ws b:=bj (by rw[hw,hb];exact aK 8);rw[an xmz];simp only[go_sem,Qe,Qg,Qh,Qi,Qj,Qk,reduceCtorEq,reduceIte,g1,g0,xhW,xhX,i1,i2,List.isEmpty,ck,i3,i4,pg,g2,g3,xhU,hw,hb,ht]
attribute [go_sem] jq
theorem xlm(v:Int):∀(k:Nat)(acc:List UInt8),k<=8->acc.length+k<=100000000000000->
 run T (.loop yQ) ⟨[(2,.int .i64 v),(7,.byt acc (.id 107)),(8,.int .i64 ((k:Int)-1))],[],[107]⟩=
 some (.x 0,⟨[(7,.byt (acc++be k (aU.wrap v)) (.id 107))],[],[107]⟩):=by
 intro k;induction k with
 |zero=>
  intro acc hk h;rw[ai];have hg:¬(0:Int)<=((0:Nat):Int)-1:=by omega
  simp only[go_sem,Qh,Qj,Qk,reduceIte,hg,be,bG]
 |succ k ih=>
  intro acc hk h;have ih':=ih (acc++ [gI (aU.wrap v) (8*k)]) (by omega) (by rw[af,br];omega);have c1:acc.length+1<=140737488355328:=by omega
  have hg:(0:Int)<=((k+1:Nat):Int)-1:=by omega
  have he:aU.wrap (((k+1:Nat):Int)-1)=(k:Int):=by rw[bM];omega
  have he2:ah.wrap (8*(((k+1:Nat):Int)-1))=((8*k:Nat):Int):=wZ (by omega)
  have he3:aU.wrap (((8*k:Nat):Int))=((8*k:Nat):Int):=by rw[bM];omega
  have he4:aU.wrap (8*(k:Int))=((8*k:Nat):Int):=by rw[bM];omega
  have hs:ah.wrap (((k+1:Nat):Int)-1-1)=(k:Int)-1:=wZ (by omega)
  have hm:min (8*k) 64=8*k:=by omega
  rw[ay,eI]at ih';rw[ai];unfold gI at ih';simp only[go_sem,Qe,Qh,Qi,Qj,Qk,reduceIte,c1,hg,he2,he3,hs,hm,be,gI,ih']
theorem xjK(B:List UInt8)(k:Nat)(v:Int)(h1:1<=k)(h8:k<=8)(hB:B.length<=10000000000000):
 call T 101 [.byt B .no,.int .i64 k,.int .i64 v] [] 0=some ⟨.byt (B++be k (aU.wrap v)) (.id 60),[],[60]⟩:=by
 have g:=xlm v k B h8 (by omega);have c1:¬(k:Int)<1:=by omega
 have c2:¬(8:Int)<k:=by omega
 have c3:ah.wrap ((k:Int)-1)=(k:Int)-1:=w64 (by omega) (by omega);have c4:B.length<=140737488355328:=by omega
 rw[an xhA];simp only[go_sem,Qe,Qh,Qi,Qj,Qk,reduceCtorEq,reduceIte,c1,c2,c3,c4,g]
theorem l64(v:Int):∀(k:Nat)(acc:List UInt8),k<=8->acc.length+k<=100000000000000->
 run T (.loop NY) ⟨[(2,.int .i64 v),(7,.byt acc (.id 107)),(8,.int .i64 ((k:Int)-1))],[],[107]⟩=
 some (.x 0,⟨[(7,.byt (acc++be k (aU.wrap v)) (.id 107))],[],[107]⟩):=by
 intro k;induction k with
 |zero=>
  intro acc hk h;rw[ai];have hg:¬(0:Int)<=((0:Nat):Int)-1:=by omega
  simp only[go_sem,Qh,Qj,Qk,reduceIte,hg,be,bG]
 |succ k ih=>
  intro acc hk h;have ih':=ih (acc++ [gI (aU.wrap v) (8*k)]) (by omega) (by rw[af,br];omega);have c1:acc.length+1<=140737488355328:=by omega
  have hg:(0:Int)<=((k+1:Nat):Int)-1:=by omega
  have he:aU.wrap (((k+1:Nat):Int)-1)=(k:Int):=by rw[bM];omega
  have he4:aU.wrap (8*(k:Int))=((8*k:Nat):Int):=by rw[bM];omega
  have hs:ah.wrap (((k+1:Nat):Int)-1-1)=(k:Int)-1:=wZ (by omega)
  have hm:min (8*k) 64=8*k:=by omega
  rw[ay,eI]at ih';rw[ai];unfold gI at ih';simp only[go_sem,Qe,Qh,Qi,Qj,Qk,reduceIte,c1,hg,he,he4,hs,hm,be,gI,ih']
theorem f64(B:List UInt8)(k:Nat)(v:Int)(h1:1<=k)(h8:k<=8)(hB:B.length<=10000000000000):
 call T 64 [.byt B .no,.int .i64 k,.int .i64 v] [] 0=some ⟨.byt (B++be k (aU.wrap v)) (.id 60),[],[60]⟩:=by
 have g:=l64 v k B h8 (by omega);have c1:¬(k:Int)<1:=by omega
 have c2:¬(8:Int)<k:=by omega
 have c3:ah.wrap ((k:Int)-1)=(k:Int)-1:=w64 (by omega) (by omega);have c4:B.length<=140737488355328:=by omega
 rw[an xmB];simp only[go_sem,Qe,Qh,Qi,Qj,Qk,reduceCtorEq,reduceIte,c1,c2,c3,c4,g]
def jz(B X:List UInt8):List UInt8:=B++be 2 (aU.wrap (X.take 65535).length)++X.take 65535
theorem f63(B X:List UInt8)(hB:B.length<=1000000000000)(hX:X.length<=1000000000000):call T 63 [.byt B .no,.byt X .no] [] 0=some ⟨.byt (jz B X) (.id 60),[],[60]⟩:=by
 have g:=f64 B 2 (X.take 65535).length (by omega) (by omega) (by omega);rw[c2]at g;rw[an xmC];have hl:(X.take 65535).length<=65535:=by rw[ax];omega
 have c4:(B++be 2 (aU.wrap (X.take 65535).length)).length+(X.take 65535).length<=140737488355328:=by rw[af,kJ];omega
 by_cases h:(65535:Int)<X.length
 ·have h3:(65535:Int)<=X.length:=by omega
  have h4:65535<=X.length:=by omega
  simp only[af]at c4;simp only[go_sem,Q2,Q3,Qe,Qg,Qh,Qi,Qj,Qk,reduceCtorEq,reduceIte,h,h3,g,Eu,jz,c4,ay]
 ·have ht:X.take 65535=X:=bj (by omega)
  rw[ht]at g c4;simp only[af]at c4;simp only[go_sem,Q2,Q3,Qe,Qg,Qh,Qi,Qj,Qk,reduceCtorEq,reduceIte,h,g,Eu,jz,ht,c4,ay]
theorem xdI(B X:List UInt8)(hB:B.length<=1000000000000)(hX:X.length<=1000000000000):call T 102 [.byt B .no,.byt X .no] [] 0=some ⟨.byt (jz B X) (.id 60),[],[60]⟩:=by
 have g:=xjK B 2 (X.take 65535).length (by omega) (by omega) (by omega);rw[c2]at g;rw[an xhz];have hl:(X.take 65535).length<=65535:=by rw[ax];omega
 have c4:(B++be 2 (aU.wrap (X.take 65535).length)).length+(X.take 65535).length<=140737488355328:=by rw[af,kJ];omega
 simp only[af]at c4
 by_cases h:(65535:Int)<X.length
 ·have h3:min (X.length:Int) 65535=65535:=by omega
  have h4:(65535:Int)<=X.length:=by omega
  have h5:65535<=X.length:=by omega
  simp only[go_sem,Q2,Q3,Qe,Qg,Qh,Qi,Qj,Qk,reduceCtorEq,reduceIte,h,h4,g,ko,jz,c4,ay]
 ·have h3:min (X.length:Int) 65535=X.length:=by omega
  have ht:X.take 65535=X:=bj (by omega);have ht2:X.take X.length=X:=kp;rw[ht]at g c4;simp only[go_sem,Q2,Q3,Qe,Qg,Qh,Qi,Qj,Qk,reduceCtorEq,reduceIte,h,ht2,g,ko,jz,ht,c4,ay]
def frame(t:Int)(X:List UInt8):List UInt8:=cQ t::(w4 (X.length:Int)++X)
theorem xl6(t:Int)(X:List UInt8)(hX:X.length<=1000000000):call T 104 [.int .i64 t,.lst 1 [[.byt X .no]] .no] [] 0=some ⟨.byt (frame t X) .no,[],[]⟩:=by
 have k1:ah.wrap 1=1:=rfl;have e1:c9.wrap (X.length:Int)=X.length:=by rw[IntKind.wrap_u32];omega
 have c4:1+4+X.length<=140737488355328:=by omega
 have c5:5+X.length<=140737488355328:=by omega
 rw[an Yv];simp only[go_sem,Qe,Qh,Qi,Qj,Qk,reduceCtorEq,reduceIte,am,aB,c1];rw[ai];simp only[go_sem,Q2,Q3,Q4,Q8,Qe,Qh,Qi,Qj,Qk,reduceCtorEq,reduceIte,am,aB,c1,k1,e1,m24,m16,m8,c4];rw[ai];simp only[go_sem,Q4,Qh,Qj,Qk,reduceIte,frame,w4,gI]
 trace_state
theorem xl2(t:Int)(X:List UInt8)(hX:X.length<=1000000000):call T 109 [.int .i64 t,.lst 1 [[.byt X .no]] .no] [] 0=some ⟨.byt (frame t X) .no,[],[]⟩:=by
 have k1:ah.wrap 1=1:=rfl;have c4:1+4+X.length<=140737488355328:=by omega
 have c5:5+X.length<=140737488355328:=by omega
 have m24':min 24 64=24:=rfl;have m16':min 16 64=16:=rfl;have m8':min 8 64=8:=rfl;rw[an Yu];simp only[go_sem,Qe,Qh,Qi,Qj,Qk,reduceCtorEq,reduceIte,am,aB];rw[ai];simp only[go_sem,Q2,Q3,Q4,Q8,Qe,Qh,Qi,Qj,Qk,reduceCtorEq,reduceIte,am,aB,c1,k1,m24',m16',m8',c4];rw[ai];simp only[go_sem,Q4,Qh,Qj,Qk,reduceIte,am,aB,c1,frame,w4,gI]
theorem rm(t:Int)(X:List UInt8):(frame t X).length=X.length+5:=by simp[frame,w4]
def uf(t:Int)(X:List UInt8):List UInt8:=sha (frame t X)
theorem f60(t:Int)(X:List UInt8)(hX:X.length<=1000000000):call T 60 [.int .i64 t,.lst 1 [[.byt X .no]] .no] [] 0=some ⟨.byt (uf t X) .no,[],[]⟩:=by have g1:=xl6 t X hX;have g2:=xjJ (frame t X) (by rw[rm];omega);rw[an xjV];simp only[go_sem,Qe,Qh,Qi,Qj,Qk,reduceCtorEq,reduceIte,g1,g2,Y2,Y3,uf]
theorem f65(t:Int)(X:List UInt8)(hX:X.length<=1000000000):call T 65 [.int .i64 t,.lst 1 [[.byt X .no]] .no] [] 0=some ⟨.byt (uf t X) .no,[],[]⟩:=by have g1:=xl2 t X hX;have g2:=f68 (frame t X) (by rw[rm];omega);rw[an xjU];simp only[go_sem,Qe,Qh,Qi,Qj,Qk,reduceCtorEq,reduceIte,g1,g2,Y0,YC,uf]
end Go.Proofs.YtbfnljmmepcbfaaGreatDoor
