/- Contracts. No condition. -/
import Derived.Test.YtbfnljmmepcbfaaGreatDoorCoPC
import Derived.Ground.NamesProg
import Derived.KernelRfl
import Derived.LoopTactic
import Derived.Maps.AppendAt
import Derived.Maps.RangeWalk
import Derived.Shelf.Slices.In.SortNone
import Derived.Shelf.Sort.Plain
import Derived.Sort.OwnSortedInts
import Derived.WalkKit
import Derived.WalkSmall
open Int renaming natCast_zero -> az, tmod_eq_emod_of_nonneg -> fq
open Go.IntKind renaming i64 -> af, u32 -> dr, u64 -> aQ, wrap_i64 -> dA, wrap_u64 -> bV
open List renaming append_assoc -> ay, append_nil -> bA, cons -> mU, cons_append -> bp, drop -> iH, drop_eq_getElem_cons -> bz, drop_length -> bK, drop_take -> fW, drop_zero -> bj, flatMap_cons -> ek, flatMap_nil -> fS, flatten_cons -> cK, getD_eq_getElem?_getD -> aa, getElem?_drop -> bB, getElem?_eq_getElem -> ac, getElem?_map -> aU, length_append -> ae, length_cons -> al, length_drop -> aE, length_map -> aV, length_nil -> aB, length_replicate -> dG, length_singleton -> aG, length_take -> an, map_cons -> aI, map_nil -> bO, nil_append -> aF, replicate -> aL, singleton_append -> eF, take -> eS, take_length -> dy, take_of_length_le -> aT
open Nat renaming add_zero -> fm, le_refl -> aK, mod_lt -> vq, mul_one -> dq, zero_add -> bY
open UInt8 renaming ofInt -> cf
set_option maxRecDepth 100000
set_option maxHeartbeats 16000000
set_option linter.unusedSimpArgs false
set_option linter.unusedVariables false
namespace Go.Proofs.YtbfnljmmepcbfaaGreatDoor
open Go.Sy
open UInt8 renaming reduceLT -> Q0, reduceLE -> Q3
open Int renaming reduceToNat -> Q4, reduceLE -> Q5, reduceLT -> Q6, reduceEq -> Q7, reduceNe -> Q8, reduceNeg -> Q9, reduceAdd -> Qa, reduceSub -> Qb, reduceMul -> Qc
open Nat renaming reducePow -> Qd, reduceDiv -> Qe, reduceMod -> Qf, reduceAdd -> Qg, reduceSub -> Qh, reduceMul -> Qi, reduceLT -> Qj, reduceLeDiff -> Qk, reduceEqDiff -> Ql, reduceBEq -> Qm
theorem c0:((0:Nat):Int)=0:=rfl
theorem c1:((1:Nat):Int)=1:=rfl
theorem c12:((12:Nat):Int)=12:=rfl
theorem c15:((15:Nat):Int)=15:=rfl
theorem c16:((16:Nat):Int)=16:=rfl
theorem c2:((2:Nat):Int)=2:=rfl
theorem c20:((20:Nat):Int)=20:=rfl
theorem xx7:((200:Nat):Int)=200:=rfl
theorem xx6:((256:Nat):Int)=256:=rfl
theorem c30:((30:Nat):Int)=30:=rfl
theorem c32:((32:Nat):Int)=32:=rfl
theorem c35:((35:Nat):Int)=35:=rfl
theorem c4:((4:Nat):Int)=4:=rfl
theorem c6:((6:Nat):Int)=6:=rfl
theorem c64:((64:Nat):Int)=64:=rfl
theorem c8:((8:Nat):Int)=8:=rfl
theorem c9:((9:Nat):Int)=9:=rfl
attribute [go_sem] tZ xa xb
theorem w64{n:Int}(y: -9223372036854775808<=n)(C:n<=9223372036854775807):af.wrap n=n:=by rw[dA];omega
theorem wZ{a b:Int}(h:-9223372036854775808<=a/\a<=9223372036854775807/\a=b):af.wrap a=b:=by rw[w64 h.1 h.2.1];exact h.2.2
theorem cr(i:Nat)(h:i<9223372036854775807):af.wrap ((i:Int)+1)=((i+1:Nat):Int):=wZ (by omega)
theorem uP{α:Type}[Inhabited α](l:List α)(i:Nat)(h:i<l.length):l.drop i=l.getD i default::l.drop (i+1):=by rw[bz h,aa,ac h];rfl
theorem dz(l:d9)(i:Nat)(h:i<l.length):l.drop i=l.getD i 0::l.drop (i+1):=uP l i h
theorem l31(a b:d9)(O:a.length<=140737488355328)(C:a.length=b.length):∀(n i:Nat),a.length-i=n->i<=a.length->
 run T (.loop VF) ⟨[(0,.byt a .no),(1,.byt b .no),(5,.int .i64 i)],[],[]⟩=if a.drop i=b.drop i then some (.x 0,⟨[],[],[]⟩)else some (.r,⟨[(4,.bool false)],[],[]⟩):=by
 intro n;induction n with
 |zero=>
  intro i E J;have hi:i=a.length:=by omega
  subst hi;rw[ai];have e:iH a.length b=[]:=by rw[C,bK]
  simp only[go_sem,Qj,Ql,Qm,reduceCtorEq,reduceIte,bK,e]
 |succ n I=>
  intro i E J;have hi:i<a.length:=by omega
  have y:i<b.length:=by omega
  rw[ai,dz a i hi,dz b i y];have L:af.wrap ((i:Int)+1)=((i+1:Nat):Int):=wZ (by omega)
  simp only[go_sem,Qj,Ql,Qm,reduceCtorEq,reduceIte,hi,y,L,I (i+1) (by omega) (by omega),mU.injEq]
  by_cases F:a.getD i 0=b.getD i 0<;>simp only[F,go_sem,reduceIte]
theorem f31(a b:d9)(E:a.length<=140737488355328):call T 31 [.byt a .no,.byt b .no] [] 0=some ⟨.bool (decide (a=b)),[],[]⟩:=by
 rw[aj xy0]
 by_cases y:a.length=b.length
 ·have h:=l31 a b E y _ 0 rfl (by omega)
  simp only[az,bj]at h;simp only[go_sem,Qg,Qj,Qk,Ql,Qm,reduceCtorEq,reduceIte,y,h]
  by_cases C:a=b<;>simp only[C,go_sem,reduceIte]
 ·have C:a≠b:=fun e=>y (by rw[e])
  simp only[go_sem,Qg,Qj,Qk,Ql,Qm,reduceCtorEq,reduceIte,y,C]
def iv(n m:Int):Int:=if m<1 then 0 else if n.tmod m<0 then n.tmod m+m else n.tmod m
theorem f21(a b:Int)(J: -9223372036854775808<=a)(E:a<=9223372036854775807)(I:b<=9223372036854775807):call T 21 [.int .i64 a,.int .i64 b] [] 0=some ⟨.int .i64 (iv a b),[],[]⟩:=by
 rw[aj xy6]
 by_cases h:b<1
 ·simp only[go_sem,Qg,Qj,Qk,Ql,Qm,reduceCtorEq,reduceIte,h,iv]
 ·have C:¬b=0:=by omega
  simp only[go_sem,Qg,Qj,Qk,Ql,Qm,reduceCtorEq,reduceIte,h,C,iv]
  by_cases y:a.tmod b<0
  ·have L: -b<a.tmod b:=by
    have:=Int.lt_tmod_of_pos a (b:=b) (by omega);omega
   have F:af.wrap (a.tmod b+b)=a.tmod b+b:=w64 (by omega) (by omega);simp only[y,go_sem,reduceIte,F]
  ·simp only[y,go_sem,reduceIte]
def aX(B:d9)(y:Nat):aH:= .rc [.byt B .no,.int .i64 y]
theorem f16(a:d9)(n:Nat):call T 16 [.byt a .no,.int .i64 n] [] 0=some ⟨.ptr 100 0,[(100,aX (a.take n) 0)],[]⟩:=by
 rw[aj xza]
 by_cases h:n<a.length
 ·have y:n<=a.length:=by omega
  simp only[go_sem,Q4,Q5,Qg,Qj,Qk,Ql,Qm,reduceCtorEq,reduceIte,h,y,aX];rfl
 ·simp only[go_sem,Q4,Q5,Qg,Qj,Qk,Ql,Qm,reduceCtorEq,reduceIte,h,aX,aT (Nat.le_of_not_lt h)]
  rfl
def dZ(a:d9)(b n:Nat):Nat:=if b<a.length then(a.getD b 0).toNat % n else 0
def cI(a:d9)(b:Nat):Nat:=if b<a.length then b+1 else b
theorem f17(a:d9)(b n:Nat)(hn:0<n)(I:a.length<=1000000000000):call T 17 [.ptr 0 0,.int .i64 n] [aX a b] 0=some ⟨.int .i64 (dZ a b n),[(0,aX a (cI a b))],[]⟩:=by
 rw[aj xy9]
 by_cases h:b<a.length
 ·have y:¬a.length<=b:=by omega
  have C:af.wrap ((b:Int)+1)=((b+1:Nat):Int):=wZ (by omega)
  have F:af.wrap (((b+1:Nat):Int)-1)=(b:Int):=wZ (by omega)
  have E:¬(n:Int)=0:=by omega
  simp only[go_sem,Qg,Qj,Qk,Ql,Qm,reduceCtorEq,reduceIte,aX,h,y,C,F,E,dZ,cI,<-Int.ofNat_tmod]
 ·have y:a.length<=b:=by omega
  simp only[go_sem,Qg,Qj,Qk,Ql,Qm,reduceCtorEq,reduceIte,aX,h,y,dZ,cI,az]
def rr(x:Int)(n:Nat):Int:=cx .or .u32 (x.fdiv (2^n)) (dr.wrap (x*2^(32-n)))
theorem tn(k:IntKind)(x y:Int):cx .or k x y=cx .or k y x:=by simp only[cx,BitVec.or_comm]
theorem zE(x:Int)(n:Nat)(h:n<=32):call T 118 [.int .u32 x,.int .u64 n] [] 0=some ⟨.int .u32 (rr x n),[],[]⟩:=by
 rw[aj xsR];have e:aQ.wrap (32-(n:Int))=((32-n:Nat):Int):=by rw[bV];omega
 have C:min n 32=n:=by omega
 have y:min (32-n) 32=32-n:=by omega
 have E:(0:Int)<=((32-n:Nat):Int):=by omega
 simp only[go_sem,Qg,Qj,Qk,Ql,Qm,reduceCtorEq,reduceIte,e,C,y,E,rr]
theorem zD(x k:Int)(n:Nat)(h:n<=32)(E:cx .and .u64 (aQ.wrap k) 31=((32-n:Nat):Int)):call T 165 [.int .u32 x,.int .i64 k] [] 0=some ⟨.int .u32 (rr x n),[],[]⟩:=by
 rw[aj xsm];have e:aQ.wrap (32-((32-n:Nat):Int))=(n:Int):=by rw[bV];omega
 have C:min n 32=n:=by omega
 have y:min (32-n) 32=32-n:=by omega
 simp only[go_sem,Qg,Qj,Qk,Ql,Qm,reduceCtorEq,reduceIte,E,e,C,y,rr,tn]
theorem m24:min 24 32=24:=rfl
theorem m16:min 16 32=16:=rfl
theorem m8:min 8 32=8:=rfl
theorem m3:min 3 32=3:=rfl
theorem m10:min 10 32=10:=rfl
def wd(B:d9)(t:Nat):Int:=
 cx .or .u32 (cx .or .u32 (cx .or .u32 (dr.wrap (((B.getD (4*t) 0).toNat:Int)*2^24)) (dr.wrap (((B.getD (4*t+1) 0).toNat:Int)*2^16)))
  (dr.wrap (((B.getD (4*t+2) 0).toNat:Int)*2^8))) ((B.getD (4*t+3) 0).toNat:Int)
theorem xxC(B:d9)(t:Nat)(h:4*t+3<B.length)(O:B.length<=1000000000000):call T 164 [.byt B .no,.int .i64 t] [] 0=some ⟨.int .u32 (wd B t),[],[]⟩:=by
 rw[aj xsn];have F:af.wrap (4*(t:Int))=((4*t:Nat):Int):=wZ (by omega)
 have E:af.wrap (((4*t:Nat):Int)+1)=((4*t+1:Nat):Int):=wZ (by omega)
 have L:af.wrap (((4*t:Nat):Int)+2)=((4*t+2:Nat):Int):=wZ (by omega)
 have J:af.wrap (((4*t:Nat):Int)+3)=((4*t+3:Nat):Int):=wZ (by omega)
 have y:4*t<B.length:=by omega
 have I:4*t+1<B.length:=by omega
 have C:4*t+2<B.length:=by omega
 simp only[go_sem,Q4,Q5,Qg,Qj,Qk,Ql,Qm,reduceCtorEq,reduceIte,F,E,L,J,h,y,I,C,wd,m24,m16,m8]
theorem xxT(B:d9)(t:Nat)(h:4*t+3<B.length)(O:B.length<=1000000000000):call T 117 [.byt B .no,.int .i64 t] [] 0=some ⟨.int .u32 (wd B t),[],[]⟩:=by
 rw[aj xsS];have F:af.wrap (4*(t:Int))=((4*t:Nat):Int):=wZ (by omega)
 have E:af.wrap (((4*t:Nat):Int)+1)=((4*t+1:Nat):Int):=wZ (by omega)
 have L:af.wrap (((4*t:Nat):Int)+2)=((4*t+2:Nat):Int):=wZ (by omega)
 have J:af.wrap (((4*t:Nat):Int)+3)=((4*t+3:Nat):Int):=wZ (by omega)
 have y:4*t<B.length:=by omega
 have I:4*t+1<B.length:=by omega
 have C:4*t+2<B.length:=by omega
 simp only[go_sem,Q4,Q5,Qg,Qj,Qk,Ql,Qm,reduceCtorEq,reduceIte,F,E,L,J,h,y,I,C,wd,m24,m16,m8]
def nw(B:d9)(L:List Int)(t:Nat):Int:=
 if t<16 then wd B t else
  let x:=L.getD (t-15) 0
  let y:=L.getD (t-2) 0
  dr.wrap (dr.wrap (dr.wrap (cx .xor .u32 (cx .xor .u32 (rr y 17) (rr y 19)) (y.fdiv (2^10))+L.getD (t-7) 0)+
   cx .xor .u32 (cx .xor .u32 (rr x 7) (rr x 18)) (x.fdiv (2^3)))+L.getD (t-16) 0)
def Wl(B:d9):Nat->List Int
 |0=>aL 64 0
 |t+1=>(Wl B t).set t (nw B (Wl B t) t)
theorem xV(B:d9)(t:Nat):(Wl B t).length=64:=by
 induction t with
 |zero=>simp[Wl]
 |succ n y=>simp[Wl,y]
def ws(L:List Int):d8:=L.map fun x=> [.int .u32 x]
theorem gk(L:List Int):(ws L).length=L.length:=by simp[ws]
theorem dD(L:List Int)(i:Nat)(h:i<L.length):(ws L).getD i []=[.int .u32 (L.getD i 0)]:=by simp[ws,aa,aU,ac h]
theorem w7(L:List Int)(i:Nat)(x:Int):(ws L).set i [.int .u32 x]=ws (L.set i x):=by unfold ws;rw[List.map_set]
theorem LA(n:Nat):aL n [SV.int .u32 0]=ws (aL n 0):=by unfold ws;rw[List.map_replicate]
theorem xrn(B:d9)(O:aH)(hB:B.length=64):∀(n t:Nat),64-t=n->t<=64->
 run T (.loop vJ) ⟨[(0,.ptr 0 0),(1,.byt B .no),(4,.ptr 104 0),(17,.int .i64 t)],[(0,O),(104,.arr 1 (ws (Wl B t)))],[]⟩=
 some (.x 0,⟨[(0,.ptr 0 0),(4,.ptr 104 0)],[(0,O),(104,.arr 1 (ws (Wl B 64)))],[]⟩):=by
 intro n;induction n with
 |zero=>
  intro t h0 h1;have hi:t=64:=by omega
  subst hi;rw[ai];simp only[c64,go_sem,Q6,Q9,Qj,Ql,Qm,reduceCtorEq,reduceIte]
 |succ n ih=>
  intro t h0 h1;have y:=ih (t+1) (by omega) (by omega);have e1:=cr t (by omega);have E:(t:Int)<64:=by omega
  have hl:=xV B t;have hw:=gk (Wl B t);have hn:t<64:=by omega
  have hs:Wl B (t+1)=(Wl B t).set t (nw B (Wl B t) t):=rfl;rw[ai]
  by_cases h16:t<16
  ·have g:=xxC B t (by omega) (by omega)
   have C:(t:Int)<16:=by omega
   have hx:nw B (Wl B t) t=wd B t:=by unfold nw;rw[if_pos h16]
   rw[hs,hx]at y;simp only[go_sem,Q9,Qj,Ql,Qm,reduceCtorEq,reduceIte,E,C,e1,g,hl,hw,xtg,hn,w7,y]
  ·have C:¬(t:Int)<16:=by omega
   have F:af.wrap ((t:Int)-15)=((t-15:Nat):Int):=wZ (by omega)
   have a2:af.wrap ((t:Int)-2)=((t-2:Nat):Int):=wZ (by omega)
   have a7:af.wrap ((t:Int)-7)=((t-7:Nat):Int):=wZ (by omega)
   have a6:af.wrap ((t:Int)-16)=((t-16:Nat):Int):=wZ (by omega)
   have W:t-15<64:=by omega
   have b2:t-2<64:=by omega
   have b7:t-7<64:=by omega
   have J:t-16<64:=by omega
   have a1:=dD (Wl B t) (t-15) (by omega);have d2:=dD (Wl B t) (t-2) (by omega);have d7:=dD (Wl B t) (t-7) (by omega);have Q:=dD (Wl B t) (t-16) (by omega);have r7:=fun x=>zD x (-7) 7 (by omega) (by decide)
   have L:=fun x=>zD x (-18) 18 (by omega) (by decide)
   have Z:=fun x=>zD x (-17) 17 (by omega) (by decide)
   have I:=fun x=>zD x (-19) 19 (by omega) (by decide)
   rw[hs]at y;unfold nw at y;rw[if_neg h16]at y;simp only[go_sem,Q4,Q5,Q9,Qd,Qe,Qf,Qj,Ql,Qm,reduceCtorEq,reduceIte,E,C,e1,hl,hw,xiM,hn,F,a2,a7,a6,W,b2,b7,J,a1,d2,d7,Q,r7,L,Z,I,w7,m3,m10,y]
def Kl:List Int:=jQ.map fun| .int _ x=>x|_=>0
theorem DT:Kl.length=64:=rfl
theorem oM:jQ.length=64:=rfl
theorem xn7:jQ=Kl.map (SV.int .u32):=rfl
theorem xnx{t:Nat}(h:t<64):(1<=(iH (t*1) jQ).length)=True:=by refine eq_true ?_;rw[aE,oM];omega
theorem xny{t:Nat}(h:t<64):(List.map SV.data (iH (t*1) jQ)).getD 0 SV.undef= .int .u32 (Kl.getD t 0):=by
 rw[xn7,aa,aU,bB,aU,dq,fm,aa,
  ac (show t<Kl.length from h)]
 rfl
def rnd(k w:Int)(s:List Int):List Int:=
 let a:=s.getD 0 0
 let e:=s.getD 4 0
 let y:=dr.wrap (dr.wrap (dr.wrap (dr.wrap (s.getD 7 0+cx .xor .u32 (cx .xor .u32 (rr e 6) (rr e 11)) (rr e 25))+
  cx .xor .u32 (cx .and .u32 e (s.getD 5 0)) (cx .and .u32 (cx .xor .u32 (if dr.signed=true then-1 else dr.max) e) (s.getD 6 0)))+k)+w)
 let C:=dr.wrap (cx .xor .u32 (cx .xor .u32 (rr a 2) (rr a 13)) (rr a 22)+
  cx .xor .u32 (cx .xor .u32 (cx .and .u32 a (s.getD 1 0)) (cx .and .u32 a (s.getD 2 0))) (cx .and .u32 (s.getD 1 0) (s.getD 2 0)))
 [dr.wrap (y+C),a,s.getD 1 0,s.getD 2 0,dr.wrap (s.getD 3 0+y),e,s.getD 5 0,s.getD 6 0]
theorem ws8(a b c d e f g h:Int):ws [a,b,c,d,e,f,g,h]=[[.int .u32 a],[.int .u32 b],[.int .u32 c],[.int .u32 d],[.int .u32 e],[.int .u32 f],[.int .u32 g],[.int .u32 h]]:=rfl
def rounds(W:List Int)(h:List Int):Nat->List Int
 |0=>h
 |t+1=>rnd (Kl.getD t 0) (W.getD t 0) (rounds W h t)
theorem iX(W h:List Int)(y:h.length=8)(t:Nat):(rounds W h t).length=8:=by
 cases t<;>simp[rounds,rnd,y]
theorem n6(x:Int):call T 165 [.int .u32 x,.int .i64 (-6)] [] 0=some ⟨.int .u32 (rr x 6),[],[]⟩:=zD x (-6) 6 (by omega) (by decide)
theorem n11(x:Int):call T 165 [.int .u32 x,.int .i64 (-11)] [] 0=some ⟨.int .u32 (rr x 11),[],[]⟩:=zD x (-11) 11 (by omega) (by decide)
theorem n25(x:Int):call T 165 [.int .u32 x,.int .i64 (-25)] [] 0=some ⟨.int .u32 (rr x 25),[],[]⟩:=zD x (-25) 25 (by omega) (by decide)
theorem n2(x:Int):call T 165 [.int .u32 x,.int .i64 (-2)] [] 0=some ⟨.int .u32 (rr x 2),[],[]⟩:=zD x (-2) 2 (by omega) (by decide)
theorem n13(x:Int):call T 165 [.int .u32 x,.int .i64 (-13)] [] 0=some ⟨.int .u32 (rr x 13),[],[]⟩:=zD x (-13) 13 (by omega) (by decide)
theorem n22(x:Int):call T 165 [.int .u32 x,.int .i64 (-22)] [] 0=some ⟨.int .u32 (rr x 22),[],[]⟩:=zD x (-22) 22 (by omega) (by decide)
theorem xrm(W h:List Int)(O:aH)(hW:W.length=64)(Q:h.length=8):∀(n t:Nat),64-t=n->t<=64->
 run T (.loop vI) ⟨[(0,.ptr 0 0),(4,.ptr 104 0),(10,.ptr 110 0),(70,.int .i64 t)],[(0,O),(104,.arr 1 (ws W)),(110,.arr 1 (ws (rounds W h t)))],[]⟩=
 some (.x 2,⟨[(0,.ptr 0 0),(10,.ptr 110 0)],[(0,O),(104,.arr 1 (ws W)),(110,.arr 1 (ws (rounds W h 64)))],[]⟩):=by
 intro n;induction n with
 |zero=>
  intro t F h1;have hi:t=64:=by omega
  subst hi;rw[ai];simp only[c64,go_sem,Q6,Q9,Qj,Ql,Qm,reduceCtorEq,reduceIte]
 |succ n ih=>
  intro t F h1;have y:=ih (t+1) (by omega) (by omega);have L:=cr t (by omega);have E:(t:Int)<64:=by omega
  have hn:t<64:=by omega
  have Z:=iX W h Q t;have J:=gk (rounds W h t);have C:=gk W;have hs:rounds W h (t+1)=rnd (Kl.getD t 0) (W.getD t 0) (rounds W h t):=rfl;rw[hs]at y;simp only[rnd,ws8]at y;generalize rounds W h t=s at*;have d0:=dD s 0 (by omega);have d1:=dD s 1 (by omega);have d2:=dD s 2 (by omega);have d3:=dD s 3 (by omega);have d4:=dD s 4 (by omega);have d5:=dD s 5 (by omega);have I:=dD s 6 (by omega);have d7:=dD s 7 (by omega);have dW:=dD W t (by omega);have dK:=dD Kl t (by rw[DT];exact hn);rw[ai];simp only[go_sem,Q4,Q5,Q6,Q9,Qd,Qe,Qf,Qg,Qi,Qj,Qk,Ql,Qm,reduceCtorEq,reduceIte,E,L,Z,J,C,hW,xiM,hn,d0,d1,d2,d3,d4,d5,I,d7,dW,n6,n11,n25,n2,n13,n22,c8,c64,oM,xnx hn,xny hn,y]
def Bz:List Int->List Int->List Int
 |x::l,y::r=>dr.wrap (x+y)::Bz l r
 |_,_=> []
theorem xrl(h s:List Int)(P:aH)(I:h.length=8)(L:s.length=8):
 run T (.loop vH) ⟨[(0,.ptr 0 0),(10,.ptr 110 0),(152,.int .i64 0)],[(0,.arr 1 (ws h)),(104,P),(110,.arr 1 (ws s))],[]⟩=
 some (.x 4,⟨[],[(0,.arr 1 (ws (Bz h s))),(104,P),(110,.arr 1 (ws s))],[]⟩):=by
 match h,I with
 |[a0,a1,a2,a3,a4,a5,a6,a7],_=>match s,L with
  |[b0,b1,b2,b3,b4,b5,b6,b7],_=>
   have k1:af.wrap 1=1:=rfl;have k2:af.wrap 2=2:=rfl;have y:af.wrap 3=3:=rfl;have C:af.wrap 4=4:=rfl;have E:af.wrap 5=5:=rfl;have J:af.wrap 6=6:=rfl;have F:af.wrap 7=7:=rfl;have O:af.wrap 8=8:=rfl;simp only[ws8,Bz]
   iterate 9
    rw[ai];simp only[go_sem,Q4,Q5,Q6,Qa,Qd,Qe,Qf,Qg,Qj,Ql,Qm,reduceCtorEq,reduceIte,al,aB,c8,k1,k2,y,C,E,J,F,O]
def comp(h:List Int)(B:d9):List Int:=Bz h (rounds (Wl B 64) h 64)
theorem Ly(h s:List Int)(C:h.length<=s.length):(Bz h s).length=h.length:=by
 induction h generalizing s with
 |nil=>simp[Bz]
 |cons x l E=>
  cases s with
  |nil=>simp at C
  |cons y r=>simp only[Bz,al];rw[E r (by simpa using C)]
theorem sE(h:List Int)(B:d9)(y:h.length=8):(comp h B).length=8:=by unfold comp;rw[Ly _ _ (by rw[iX _ _ y,y];exact aK 8),y]
theorem xxJ(h:List Int)(B:d9)(E:h.length=8)(L:B.length=64):call T 144 [.ptr 0 0,.byt B .no] [.arr 1 (ws h)] 0=some ⟨.tup [],[(0,.arr 1 (ws (comp h B)))],[]⟩:=by
 have C:=xrn B (.arr 1 (ws h)) L _ 0 rfl (by omega);have y:=xrm (Wl B 64) h (.arr 1 (ws h)) (xV B 64) E _ 0 rfl (by omega);have F:=xrl h (rounds (Wl B 64) h 64) (.arr 1 (ws (Wl B 64))) E (iX _ _ E 64);have I:Wl B 0=aL 64 0:=rfl;have J:rounds (Wl B 64) h 0=h:=rfl;rw[I,<-LA]at C;rw[J]at y;simp only[az]at C y;rw[aj xsA]
 match h,E with
 |[a0,a1,a2,a3,a4,a5,a6,a7],_=>simp only[ws8]at C y F;simp only[go_sem,Qg,Qi,Qj,Qk,Ql,Qm,reduceCtorEq,reduceIte,ws8,C,y,F,comp,cK,List.flatten_nil,aI,bO,bp,aF,SV.data,List.take_succ_cons,List.take_zero,al,aB]
def zn(n:Nat):Nat:=(120-n % 64) % 64
theorem xrp(B:d9):∀(n:Nat)(y:d9),zn y.length=n->y.length+n<=100000000000000->
 run T (.loop Cx) ⟨[(0,.byt B .no),(3,.byt y (.id 103))],[],[103]⟩=
 some (.x 0,⟨[(0,.byt B .no),(3,.byt (y++aL n 0) (.id 103))],[],[103]⟩):=by
 intro n;induction n with
 |zero=>
  intro y E L;have I:y.length % 64=56:=by unfold zn at E;omega
  have hi:(y.length:Int).tmod 64=56:=by rw[fq (by omega)];omega
  rw[ai];simp only[go_sem,Q7,Qj,Ql,Qm,reduceCtorEq,reduceIte,hi,List.replicate_zero,bA]
 |succ n J=>
  intro y E L;have I:y.length % 64≠56:=by unfold zn at E;omega
  have hi:¬(y.length:Int).tmod 64=56:=by rw[fq (by omega)];omega
  have C:=J (y++ [0]) (by unfold zn at*;rw[ae,aG];omega) (by rw[ae,aG];omega);have F:y.length+1<=140737488355328:=by omega
  rw[ay,eF,<-List.replicate_succ]at C;rw[ai];simp only[go_sem,Q7,Qg,Qj,Qk,Ql,Qm,reduceCtorEq,reduceIte,hi,F,C]
def iJ(v:Int)(s:Nat):UInt8:=cf (v.fdiv (2^s))
def be:Nat->Int->d9
 |0,_=> []
 |k+1,v=>iJ v (8*k)::be k v
theorem gr(n:Nat)(v:Int):(be n v).length=n:=by induction n with
 |zero=>rfl
 |succ n y=>simp[be,y]
theorem xro(v:Int):∀(k:Nat)(y:d9),k<=8->y.length+k<=100000000000000->
 run T (.loop vK) ⟨[(3,.byt y (.id 103)),(4,.int .u64 v),(5,.int .i64 (8*(k:Int)-8))],[],[103]⟩=
 some (.x 2,⟨[(3,.byt (y++be k v) (.id 103))],[],[103]⟩):=by
 intro k;induction k with
 |zero=>
  intro y O h;rw[ai];have E:¬(0:Int)<=8*((0:Nat):Int)-8:=by omega
  simp only[go_sem,Qj,Ql,Qm,reduceIte,E,be,bA]
 |succ k I=>
  intro y O h;have C:=I (y++ [iJ v (8*k)]) (by omega) (by rw[ae,aG];omega);have c1:y.length+1<=140737488355328:=by omega
  have E:(0:Int)<=8*((k+1:Nat):Int)-8:=by omega
  have L:aQ.wrap (8*((k+1:Nat):Int)-8)=((8*k:Nat):Int):=by rw[bV];omega
  have J:af.wrap (8*((k+1:Nat):Int)-8-8)=8*(k:Int)-8:=wZ (by omega)
  have F:min (8*k) 64=8*k:=by omega
  rw[ay,eF]at C;rw[ai];unfold iJ at C;simp only[go_sem,Qg,Qj,Qk,Ql,Qm,reduceIte,c1,E,L,J,F,be,iJ,C]
def i5(B:d9):d9:=B++128::(aL (zn (B.length+1)) 0++be 8 (aQ.wrap (aQ.wrap B.length*8)))
theorem rL(B:d9):(i5 B).length=B.length+1+zn (B.length+1)+8:=by simp only[i5,ae,al,dG,gr];omega
theorem yS(B:d9):(i5 B).length % 64=0:=by rw[rL];unfold zn;omega
theorem xxL(B:d9)(h:B.length<=10000000000000):call T 141 [.byt B .no] [] 0=some ⟨.byt (i5 B) .no,[],[]⟩:=by
 have hz:zn (B.length+1)<64:=by unfold zn;omega
 have C:=xrp B _ (B++ [128]) rfl (by simp;omega);have y:=xro (aQ.wrap (aQ.wrap B.length*8)) 8 (B++128::aL (zn (B.length+1)) 0) (by omega) (by simp;omega);have F:8*((8:Nat):Int)-8=56:=rfl;rw[F]at y;rw[aj xsC];have e:af.wrap ((B.length:Int)+72)=((B.length+72:Nat):Int):=wZ (by omega)
 have c2:((B.length+72:Nat):Int)<=140737488355328:=by omega
 have E:B.length<=140737488355328:=by omega
 have c4:B.length+1<=140737488355328:=by omega
 simp only[go_sem,Q4,Q5,Qg,Qj,Qk,Ql,Qm,reduceCtorEq,reduceIte,e,C,y,c2,E,c4,i5]
theorem xrr(B:d9):∀(n:Nat)(y:d9),zn y.length=n->y.length+n<=100000000000000->
 run T (.loop CG) ⟨[(0,.byt B .no),(3,.byt y (.id 103))],[],[103]⟩=
 some (.x 0,⟨[(0,.byt B .no),(3,.byt (y++aL n 0) (.id 103))],[],[103]⟩):=by
 intro n;induction n with
 |zero=>
  intro y E L;have I:y.length % 64=56:=by unfold zn at E;omega
  have hi:(y.length:Int).tmod 64=56:=by rw[fq (by omega)];omega
  rw[ai];simp only[go_sem,Q7,Qj,Ql,Qm,reduceCtorEq,reduceIte,hi,List.replicate_zero,bA]
 |succ n J=>
  intro y E L;have I:y.length % 64≠56:=by unfold zn at E;omega
  have hi:¬(y.length:Int).tmod 64=56:=by rw[fq (by omega)];omega
  have C:=J (y++ [0]) (by unfold zn at*;rw[ae,aG];omega) (by rw[ae,aG];omega);have F:y.length+1<=140737488355328:=by omega
  rw[ay,eF,<-List.replicate_succ]at C;rw[ai];simp only[go_sem,Q7,Qg,Qj,Qk,Ql,Qm,reduceCtorEq,reduceIte,hi,F,C]
theorem xrq(v:Int):∀(k:Nat)(y:d9),k<=8->y.length+k<=100000000000000->
 run T (.loop vN) ⟨[(3,.byt y (.id 103)),(4,.int .u64 v),(5,.int .i64 ((k:Int)-1))],[],[103]⟩=
 some (.x 2,⟨[(3,.byt (y++be k v) (.id 103))],[],[103]⟩):=by
 intro k;induction k with
 |zero=>
  intro y Q h;rw[ai];have F:¬(0:Int)<=((0:Nat):Int)-1:=by omega
  simp only[go_sem,Qj,Ql,Qm,reduceIte,F,be,bA]
 |succ k J=>
  intro y Q h;have C:=J (y++ [iJ v (8*k)]) (by omega) (by rw[ae,aG];omega);have c1:y.length+1<=140737488355328:=by omega
  have F:(0:Int)<=((k+1:Nat):Int)-1:=by omega
  have O:aQ.wrap (((k+1:Nat):Int)-1)=(k:Int):=by rw[bV];omega
  have E:aQ.wrap (8*(k:Int))=((8*k:Nat):Int):=by rw[bV];omega
  have L:af.wrap (((k+1:Nat):Int)-1-1)=(k:Int)-1:=wZ (by omega)
  have I:min (8*k) 64=8*k:=by omega
  rw[ay,eF]at C;rw[ai];unfold iJ at C;simp only[go_sem,Qg,Qj,Qk,Ql,Qm,reduceIte,c1,F,O,E,L,I,be,iJ,C]
theorem xxU(B:d9)(h:B.length<=10000000000000):call T 116 [.byt B .no] [] 0=some ⟨.byt (i5 B) .no,[],[]⟩:=by
 have hz:zn (B.length+1)<64:=by unfold zn;omega
 have C:=xrr B _ (B++ [128]) rfl (by simp;omega);have y:=xrq (aQ.wrap (aQ.wrap B.length*8)) 8 (B++128::aL (zn (B.length+1)) 0) (by omega) (by simp;omega);have F:((8:Nat):Int)-1=7:=rfl;rw[F]at y;rw[aj xsT];have E:B.length<=140737488355328:=by omega
 have c4:B.length+1<=140737488355328:=by omega
 simp only[go_sem,Qg,Qj,Qk,Ql,Qm,reduceCtorEq,reduceIte,C,y,E,c4,i5]
def w4(x:Int):d9:=[iJ x 24,iJ x 16,iJ x 8,cf x]
def sp(h:List Int):d9:=h.flatMap w4
theorem xkU(h:List Int):(sp h).length=4*h.length:=by
 induction h with
 |nil=>rfl
 |cons x l y=>simp only[sp,ek,ae,w4,al,aB]at*;omega
theorem d0(h:List Int)(i:Nat)(hi:i<h.length):h.drop i=h.getD i 0::h.drop (i+1):=uP h i hi
theorem xwX(h:List Int)(W:h.length<=1000000000000):∀(n i:Nat)(y:d9),h.length-i=n->i<=h.length->y.length=4*i->
 run T (.loop Cw) ⟨[(3,.byt y (.id 103)),(10,.lst 1 (ws h) .no),(11,.int .i64 h.length),(12,.int .i64 i)],[],[103]⟩=
 some (.x 0,⟨[(3,.byt (y++sp (h.drop i)) (.id 103))],[],[103]⟩):=by
 intro n;induction n with
 |zero=>
  intro i y E O Q;have hi:i=h.length:=by omega
  subst hi;rw[ai];simp only[go_sem,Qj,Ql,Qm,reduceIte,bK,sp,fS,bA]
 |succ n L=>
  intro i y E O Q;have hi:i<h.length:=by omega
  have I:=cr i (by omega);have C:=L (i+1) (y++w4 (h.getD i 0)) (by omega) (by omega) (by simp[w4];omega);have F:=dD h i hi;have J:=gk h;have c1:y.length+4<=140737488355328:=by omega
  rw[ai];rw[ay]at C;simp only[w4,iJ]at C;simp only[go_sem,Q4,Q5,Qg,Qj,Qk,Ql,Qm,reduceCtorEq,reduceIte,hi,F,J,I,c1,m24,m16,m8,C,d0 h i hi,sp,ek,w4,iJ]
theorem xxK(h:List Int)(y:h.length<=1000000000000):call T 143 [.lst 1 (ws h) .no] [] 0=some ⟨.byt (sp h) .no,[],[]⟩:=by
 have g:=xwX h y _ 0 [] rfl (by omega) rfl;have C:=gk h;rw[aj xsB];have e:af.wrap (4*(h.length:Int))=((4*h.length:Nat):Int):=wZ (by omega)
 have c2:((4*h.length:Nat):Int)<=140737488355328:=by omega
 simp only[az,bj,aF]at g;simp only[go_sem,Q4,Q5,Qg,Qj,Qk,Ql,Qm,reduceCtorEq,reduceIte,e,C,c2,g]
theorem xw4(h:List Int)(W:h.length<=1000000000000):∀(n i:Nat)(y:d9),h.length-i=n->i<=h.length->y.length=4*i->
 run T (.loop CE) ⟨[(0,.lst 1 (ws h) .no),(3,.byt y (.id 103)),(4,.int .i64 i)],[],[103]⟩=
 some (.x 0,⟨[(3,.byt (y++sp (h.drop i)) (.id 103))],[],[103]⟩):=by
 intro n;induction n with
 |zero=>
  intro i y F O Q;have hi:i=h.length:=by omega
  have E:=gk h;subst hi;rw[ai];simp only[go_sem,Qj,Ql,Qm,reduceCtorEq,reduceIte,E,bK,sp,fS,bA]
 |succ n L=>
  intro i y F O Q;have hi:i<h.length:=by omega
  have J:=cr i (by omega);have C:=L (i+1) (y++w4 (h.getD i 0)) (by omega) (by omega) (by simp[w4];omega);have I:=dD h i hi;have E:=gk h;have c1:y.length+4<=140737488355328:=by omega
  rw[ai];rw[ay]at C;simp only[w4,iJ]at C;simp only[go_sem,Q4,Q5,Qd,Qe,Qf,Qg,Qj,Qk,Ql,Qm,reduceCtorEq,reduceIte,hi,I,E,J,c1,m24,m16,m8,C,d0 h i hi,sp,ek,w4,iJ]
theorem xxS(h:List Int)(y:h.length<=1000000000000):call T 119 [.lst 1 (ws h) .no] [] 0=some ⟨.byt (sp h) .no,[],[]⟩:=by have g:=xw4 h y _ 0 [] rfl (by omega) rfl;have C:=gk h;rw[aj xsQ];simp only[az,bj,aF]at g;simp only[go_sem,Qj,Qk,Ql,Qm,reduceCtorEq,reduceIte,g]
def fL(h:List Int)(X:d9):Nat->List Int
 |0=>h
 |n+1=>fL (comp h (X.take 64)) (X.drop 64) n
theorem mQ(n:Nat):∀(h:List Int)(X:d9),h.length=8->(fL h X n).length=8:=by
 induction n with
 |zero=>intro h X y;exact y
 |succ n C=>intro h X y;exact C _ _ (sE h _ y)
def H0:List Int:=[1779033703,3144134277,1013904242,2773480762,1359893119,2600822924,528734635,1541459225]
def sha(B:d9):d9:=sp (fL H0 (i5 B) ((i5 B).length/64))
theorem iu(B:d9):(sha B).length=32:=by unfold sha;rw[xkU,mQ _ _ _ rfl]
theorem xxa:∀(n:Nat)(h:List Int)(X:d9),h.length=8->X.length=64*n->X.length<=1000000000000->
 run T (.loop vO) ⟨[(7,.ptr 107 0),(8,.byt X .no)],[(107,.arr 1 (ws h))],[]⟩=
 some (.x 3,⟨[(7,.ptr 107 0)],[(107,.arr 1 (ws (fL h X n)))],[]⟩):=by
 intro n;induction n with
 |zero=>
  intro h X C hX I;rw[ai];have E:¬(0:Int)<X.length:=by omega
  simp only[go_sem,Qj,Ql,Qm,reduceIte,E,fL]
 |succ n J=>
  intro h X C hX I;have y:=J (comp h (X.take 64)) (X.drop 64) (sE h _ C) (by rw[aE];omega) (by rw[aE];omega);have g:=xxJ h (X.take 64) C (by rw[an];omega);have L:(0:Int)<X.length:=by omega
  have F:(64:Int)<=X.length:=by omega
  have O:64<=X.length:=by omega
  rw[ai];simp only[go_sem,Q4,Q5,Qg,Qi,Qj,Qk,Ql,Qm,reduceIte,L,F,g,xti,dy,y,fL]
theorem xve(B:d9)(Q:B.length<=100000000000):call T 103 [.int .i64 1,.byt B .no] [] 0=some ⟨.byt (sha B) .no,[],[]⟩:=by
 have g0:=xxL B (by omega);have O:=rL B;have hz:zn (B.length+1)<64:=by unfold zn;omega
 have L:=yS B;have C:=xxa ((i5 B).length/64) H0 (i5 B) rfl (by omega) (by omega);have E:=mQ ((i5 B).length/64) H0 (i5 B) rfl;have F:=xxK (fL H0 (i5 B) ((i5 B).length/64)) (by omega);have y:=gk (fL H0 (i5 B) ((i5 B).length/64));have I:ws H0=[[.int .u32 1779033703],[.int .u32 3144134277],[.int .u32 1013904242],[.int .u32 2773480762],[.int .u32 1359893119],[.int .u32 2600822924],[.int .u32 528734635],[.int .u32 1541459225]]:=rfl;rw[I]at C;rw[aj xs2];unfold sha;generalize fL H0 (i5 B) ((i5 B).length/64)=b at*;have J:eS 8 (ws b)=ws b:=aT (by rw[y,E];exact aK 8);simp only[go_sem,Q4,Q5,Q7,Qg,Qh,Qi,Qj,Qk,Ql,Qm,reduceCtorEq,reduceIte,g0,C,F,xtk,xtj,y,E,c8,J]
theorem xxV:call T 115 [] [] 0=some ⟨.agg jQ,[],[]⟩:=by rw[aj xsU];simp only[go_sem,Qg,Qi,Qk,Ql,Qm,reduceCtorEq,reduceIte];rfl
def bk(X:d9)(a:Nat):d9:=iH a (eS (a+64) X)
theorem UL(X:d9)(a:Nat)(h:a+64<=X.length):(bk X a).length=64:=by unfold bk;rw[aE,an];omega
theorem xr1(X:d9)(a:Nat):bk X a=(X.drop a).take 64:=by unfold bk;rw[fW];congr 1;omega
theorem rq7(x:Int):call T 118 [.int .u32 x,.int .u64 7] [] 0=some ⟨.int .u32 (rr x 7),[],[]⟩:=zE x 7 (by omega)
theorem xv7(x:Int):call T 118 [.int .u32 x,.int .u64 18] [] 0=some ⟨.int .u32 (rr x 18),[],[]⟩:=zE x 18 (by omega)
theorem xv8(x:Int):call T 118 [.int .u32 x,.int .u64 17] [] 0=some ⟨.int .u32 (rr x 17),[],[]⟩:=zE x 17 (by omega)
theorem xv6(x:Int):call T 118 [.int .u32 x,.int .u64 19] [] 0=some ⟨.int .u32 (rr x 19),[],[]⟩:=zE x 19 (by omega)
theorem rq6(x:Int):call T 118 [.int .u32 x,.int .u64 6] [] 0=some ⟨.int .u32 (rr x 6),[],[]⟩:=zE x 6 (by omega)
theorem xwa(x:Int):call T 118 [.int .u32 x,.int .u64 11] [] 0=some ⟨.int .u32 (rr x 11),[],[]⟩:=zE x 11 (by omega)
theorem xv4(x:Int):call T 118 [.int .u32 x,.int .u64 25] [] 0=some ⟨.int .u32 (rr x 25),[],[]⟩:=zE x 25 (by omega)
theorem rq2(x:Int):call T 118 [.int .u32 x,.int .u64 2] [] 0=some ⟨.int .u32 (rr x 2),[],[]⟩:=zE x 2 (by omega)
theorem xv9(x:Int):call T 118 [.int .u32 x,.int .u64 13] [] 0=some ⟨.int .u32 (rr x 13),[],[]⟩:=zE x 13 (by omega)
theorem xv5(x:Int):call T 118 [.int .u32 x,.int .u64 22] [] 0=some ⟨.int .u32 (rr x 22),[],[]⟩:=zE x 22 (by omega)
theorem xwy(X:d9)(a:Nat)(h:List Int)(Q:a+64<=X.length)(hX:X.length<=1000000000000):∀(n t:Nat),64-t=n->t<=64->
 run T (.loop Cd) ⟨[(3,.ptr 103 0),(4,.psl 119 1 0 8 (some 8)),(5,.byt X .no),(6,.int .i64 a),(7,.ptr 107 0),(8,.int .i64 t)],[(103,.arr 1 (ws Kl)),(107,.arr 1 (ws (Wl (bk X a) t))),(119,.arr 1 (ws h))],[]⟩=
 some (.x 2,⟨[(3,.ptr 103 0),(4,.psl 119 1 0 8 (some 8)),(5,.byt X .no),(6,.int .i64 a),(7,.ptr 107 0)],[(103,.arr 1 (ws Kl)),(107,.arr 1 (ws (Wl (bk X a) 64))),(119,.arr 1 (ws h))],[]⟩):=by
 intro n;induction n with
 |zero=>
  intro t h0 h1;have hi:t=64:=by omega
  subst hi;rw[ai];simp only[c64,go_sem,Q6,Qj,Ql,Qm,reduceIte]
 |succ n ih=>
  intro t h0 h1;have y:=ih (t+1) (by omega) (by omega);have e1:=cr t (by omega);have E:(t:Int)<64:=by omega
  have hl:=xV (bk X a) t;have hw:=gk (Wl (bk X a) t);have hn:t<64:=by omega
  have hs:Wl (bk X a) (t+1)=(Wl (bk X a) t).set t (nw (bk X a) (Wl (bk X a) t) t):=rfl;have a1:af.wrap ((a:Int)+64)=((a+64:Nat):Int):=wZ (by omega)
  have a3:a<=a+64:=by omega
  rw[ai]
  by_cases h16:t<16
  ·have g:=xxT (bk X a) t (by rw[UL X a Q];omega) (by rw[UL X a Q];omega)
   have C:(t:Int)<16:=by omega
   have hx:nw (bk X a) (Wl (bk X a) t) t=wd (bk X a) t:=by unfold nw;rw[if_pos h16]
   rw[hs,hx]at y;generalize hb:Wl (bk X a) t=L at*;generalize hc:wd (bk X a) t=z at*;unfold bk at g;simp only[go_sem,Qj,Ql,Qm,reduceIte,E,C,e1,a1,Q,a3,g,hl,hw,xtm,hn,w7,y]
  ·have C:¬(t:Int)<16:=by omega
   have F:af.wrap ((t:Int)-15)=((t-15:Nat):Int):=wZ (by omega)
   have a2:af.wrap ((t:Int)-2)=((t-2:Nat):Int):=wZ (by omega)
   have a7:af.wrap ((t:Int)-7)=((t-7:Nat):Int):=wZ (by omega)
   have Z:af.wrap ((t:Int)-16)=((t-16:Nat):Int):=wZ (by omega)
   have O:t-15<64:=by omega
   have b2:t-2<64:=by omega
   have b7:t-7<64:=by omega
   have I:t-16<64:=by omega
   rw[hs]at y;unfold nw at y;rw[if_neg h16]at y;generalize hb:Wl (bk X a) t=L at*;have W:=dD L (t-15) (by omega);have d2:=dD L (t-2) (by omega);have d7:=dD L (t-7) (by omega);have J:=dD L (t-16) (by omega);simp only[go_sem,Q4,Q5,Qd,Qe,Qf,Qj,Ql,Qm,reduceCtorEq,reduceIte,E,C,e1,hl,hw,xi3,hn,F,a2,a7,Z,O,b2,b7,I,W,d2,d7,J,rq7,xv7,xv8,xv6,w7,m3,m10,y]
theorem xwx(X:d9)(a:Nat)(W h:List Int)(O:aH)(hW:W.length=64)(hh:h.length=8):∀(n t:Nat)(q:Tok),64-t=n->t<=64->
 run T (.loop Cc) ⟨[(3,.ptr 103 0),(4,.psl 119 1 0 8 (some 8)),(5,.byt X .no),(6,.int .i64 a),(7,.ptr 107 0),(11,.lst 1 (ws (rounds W h t)) q),(12,.int .i64 t)],[(103,.arr 1 (ws Kl)),(107,.arr 1 (ws W)),(119,O)],[194]⟩=
 some (.x 4,⟨[(3,.ptr 103 0),(4,.psl 119 1 0 8 (some 8)),(5,.byt X .no),(6,.int .i64 a),(11,.lst 1 (ws (rounds W h 64)) (if t=64 then q else .clip))],[(103,.arr 1 (ws Kl)),(107,.arr 1 (ws W)),(119,O)],[194]⟩):=by
 intro n;induction n with
 |zero=>
  intro t q J h1;have hi:t=64:=by omega
  subst hi;rw[ai];simp only[c64,go_sem,Q6,Qj,Ql,Qm,reduceIte]
 |succ n ih=>
  intro t q J h1;have y:=ih (t+1) .clip (by omega) (by omega);have e1:=cr t (by omega);have I:(t:Int)<64:=by omega
  have hn:t<64:=by omega
  have F:t≠64:=by omega
  have hl:=iX W h hh t;have Q:=gk (rounds W h t);have C:=gk W;have E:=gk Kl;have hk:=DT;have hs:rounds W h (t+1)=rnd (Kl.getD t 0) (W.getD t 0) (rounds W h t):=rfl;rw[hs]at y;simp only[rnd,ws8]at y;rw[ite_self]at y;generalize rounds W h t=s at*;have d0:=dD s 0 (by omega);have d1:=dD s 1 (by omega);have d2:=dD s 2 (by omega);have d3:=dD s 3 (by omega);have d4:=dD s 4 (by omega);have d5:=dD s 5 (by omega);have L:=dD s 6 (by omega);have d7:=dD s 7 (by omega);have dW:=dD W t (by omega);have Z:=dD Kl t (by rw[DT];exact hn);rw[ai];simp only[go_sem,Q4,Q5,Q6,Q9,Qd,Qe,Qf,Qj,Ql,Qm,reduceCtorEq,reduceIte,I,e1,hl,Q,C,E,hk,hW,xi3,hn,F,d0,d1,d2,d3,d4,d5,L,d7,dW,Z,rq6,xwa,xv4,rq2,xv9,xv5,c8,c64,y]
theorem xww(X:d9)(a:Nat)(h s:List Int)(P Q:aH)(J:h.length=8)(O:s.length=8):
 run T (.loop B0) ⟨[(3,.ptr 103 0),(4,.psl 119 1 0 8 (some 8)),(5,.byt X .no),(6,.int .i64 a),(11,.lst 1 (ws s) .clip),(17,.int .i64 0)],[(103,P),(107,Q),(119,.arr 1 (ws h))],[194]⟩=
 some (.x 6,⟨[(3,.ptr 103 0),(4,.psl 119 1 0 8 (some 8)),(5,.byt X .no),(6,.int .i64 a)],[(103,P),(107,Q),(119,.arr 1 (ws (Bz h s)))],[194]⟩):=by
 match h,J with
 |[a0,a1,a2,a3,a4,a5,a6,a7],_=>match s,O with
  |[b0,b1,b2,b3,b4,b5,b6,b7],_=>
   have k1:af.wrap 1=1:=rfl;have k2:af.wrap 2=2:=rfl;have C:af.wrap 3=3:=rfl;have E:af.wrap 4=4:=rfl;have F:af.wrap 5=5:=rfl;have L:af.wrap 6=6:=rfl;have I:af.wrap 7=7:=rfl;have y:af.wrap 8=8:=rfl;simp only[ws8,Bz]
   iterate 9
    rw[ai];simp only[go_sem,Q4,Q5,Q6,Qa,Qd,Qe,Qf,Qg,Qj,Ql,Qm,reduceIte,al,aB,c8,k1,k2,C,E,F,L,I,y]
theorem l68(X:d9)(hX:X.length<=1000000000000):∀(n a:Nat)(h:List Int),h.length=8->X.length=a+64*n->
 run T (.loop BZ) ⟨[(3,.ptr 103 0),(4,.psl 119 1 0 8 (some 8)),(5,.byt X .no),(6,.int .i64 a)],[(103,.arr 1 (ws Kl)),(119,.arr 1 (ws h))],[]⟩=
 some (.x 0,⟨[(4,.psl 119 1 0 8 (some 8))],[(103,.arr 1 (ws Kl)),(119,.arr 1 (ws (fL h (X.drop a) n)))],[]⟩):=by
 intro n;induction n with
 |zero=>
  intro a h y hl;rw[ai];have F:¬(a:Int)<X.length:=by omega
  simp only[go_sem,Qj,Ql,Qm,reduceIte,F,fL]
 |succ n Z=>
  intro a h y hl;have E:=Z (a+64) (comp h (bk X a)) (sE h _ y) (by omega);have F:(a:Int)<X.length:=by omega
  have a1:af.wrap ((a:Int)+64)=((a+64:Nat):Int):=wZ (by omega)
  have J:=xwy X a h (by omega) hX _ 0 rfl (by omega);have I:=xwx X a (Wl (bk X a) 64) h (.arr 1 (ws h)) (xV _ 64) y _ 0 (.id 194) rfl (by omega);have O:=xww X a h (rounds (Wl (bk X a) 64) h 64) (.arr 1 (ws Kl)) (.arr 1 (ws (Wl (bk X a) 64))) y (iX _ _ y 64);have Q:Wl (bk X a) 0=aL 64 0:=rfl;have hr:rounds (Wl (bk X a) 64) h 0=h:=rfl;have hz:¬(0:Nat)=64:=by omega
  have C:=gk h;rw[Q,<-LA]at J;rw[hr,if_neg hz]at I;simp only[az]at J I
  have L:fL h (X.drop a) (n+1)=fL (comp h (bk X a)) (X.drop (a+64)) n:=by rw[fL,xr1,List.drop_drop]
  rw[L,ai];unfold comp at E ⊢;have W:eS 8 (ws h)=ws h:=aT (by rw[C,y];exact aK 8);simp only[go_sem,Qg,Qi,Qj,Qk,Ql,Qm,reduceCtorEq,reduceIte,F,a1,J,I,O,C,y,W,E]
  trace_state
attribute [-go_sem] kH
theorem f68(B:d9)(hB:B.length<=100000000000):call T 68 [.byt B .no] [] 0=some ⟨.byt (sha B) .no,[],[]⟩:=by
 have J:=xxV;have g0:=xxU B (by omega);have W:kH 1 64 (List.map SV.data jQ)=ws Kl:=rfl;have i3:jQ.all SV.isData=true:=rfl;have i4:=oM;have Q:SV.purgeL 103 104 jQ=jQ:=rfl;have I:SV.idsL jQ=[]:=rfl;have Z:SV.toksL jQ=[]:=rfl;have hl:=rL B;have hz:zn (B.length+1)<64:=by unfold zn;omega
 have hm:=yS B;have y:=l68 (i5 B) (by omega) ((i5 B).length/64) 0 H0 rfl (by omega);have E:=mQ ((i5 B).length/64) H0 (i5 B) rfl;have F:=xxS (fL H0 (i5 B) ((i5 B).length/64)) (by omega);have C:=gk (fL H0 (i5 B) ((i5 B).length/64));have L:ws H0=[[.int .u32 1779033703],[.int .u32 3144134277],[.int .u32 1013904242],[.int .u32 2773480762],[.int .u32 1359893119],[.int .u32 2600822924],[.int .u32 528734635],[.int .u32 1541459225]]:=rfl;rw[L]at y;simp only[az,bj]at y;unfold sha;generalize fL H0 (i5 B) ((i5 B).length/64)=b at*;have O:eS 8 (ws b)=ws b:=aT (by rw[C,E];exact aK 8);rw[aj xyE];simp only[go_sem,Qg,Qi,Qj,Qk,Ql,Qm,reduceCtorEq,reduceIte,J,g0,xtn,xto,I,Z,List.isEmpty,W,i3,i4,Q,F,y,xtl,C,E,O]
attribute [go_sem] kH
theorem xxb(v:Int):∀(k:Nat)(y:d9),k<=8->y.length+k<=100000000000000->
 run T (.loop CR) ⟨[(2,.int .i64 v),(7,.byt y (.id 107)),(8,.int .i64 ((k:Int)-1))],[],[107]⟩=
 some (.x 0,⟨[(7,.byt (y++be k (aQ.wrap v)) (.id 107))],[],[107]⟩):=by
 intro k;induction k with
 |zero=>
  intro y Q h;rw[ai];have F:¬(0:Int)<=((0:Nat):Int)-1:=by omega
  simp only[go_sem,Qj,Ql,Qm,reduceIte,F,be,bA]
 |succ k L=>
  intro y Q h;have C:=L (y++ [iJ (aQ.wrap v) (8*k)]) (by omega) (by rw[ae,aG];omega);have c1:y.length+1<=140737488355328:=by omega
  have F:(0:Int)<=((k+1:Nat):Int)-1:=by omega
  have Z:aQ.wrap (((k+1:Nat):Int)-1)=(k:Int):=by rw[bV];omega
  have E:af.wrap (8*(((k+1:Nat):Int)-1))=((8*k:Nat):Int):=wZ (by omega)
  have I:aQ.wrap (((8*k:Nat):Int))=((8*k:Nat):Int):=by rw[bV];omega
  have W:aQ.wrap (8*(k:Int))=((8*k:Nat):Int):=by rw[bV];omega
  have O:af.wrap (((k+1:Nat):Int)-1-1)=(k:Int)-1:=wZ (by omega)
  have J:min (8*k) 64=8*k:=by omega
  rw[ay,eF]at C;rw[ai];unfold iJ at C;simp only[go_sem,Qg,Qj,Qk,Ql,Qm,reduceIte,c1,F,E,I,O,J,be,iJ,C]
theorem xvf(B:d9)(k:Nat)(v:Int)(E:1<=k)(y:k<=8)(F:B.length<=10000000000000):
 call T 101 [.byt B .no,.int .i64 k,.int .i64 v] [] 0=some ⟨.byt (B++be k (aQ.wrap v)) (.id 60),[],[60]⟩:=by
 have g:=xxb v k B y (by omega);have c1:¬(k:Int)<1:=by omega
 have c2:¬(8:Int)<k:=by omega
 have C:af.wrap ((k:Int)-1)=(k:Int)-1:=w64 (by omega) (by omega);have c4:B.length<=140737488355328:=by omega
 rw[aj xs4];simp only[go_sem,Qg,Qj,Qk,Ql,Qm,reduceCtorEq,reduceIte,c1,c2,C,c4,g]
theorem l64(v:Int):∀(k:Nat)(y:d9),k<=8->y.length+k<=100000000000000->
 run T (.loop Vq) ⟨[(2,.int .i64 v),(7,.byt y (.id 107)),(8,.int .i64 ((k:Int)-1))],[],[107]⟩=
 some (.x 0,⟨[(7,.byt (y++be k (aQ.wrap v)) (.id 107))],[],[107]⟩):=by
 intro k;induction k with
 |zero=>
  intro y Q h;rw[ai];have E:¬(0:Int)<=((0:Nat):Int)-1:=by omega
  simp only[go_sem,Qj,Ql,Qm,reduceIte,E,be,bA]
 |succ k J=>
  intro y Q h;have C:=J (y++ [iJ (aQ.wrap v) (8*k)]) (by omega) (by rw[ae,aG];omega);have c1:y.length+1<=140737488355328:=by omega
  have E:(0:Int)<=((k+1:Nat):Int)-1:=by omega
  have O:aQ.wrap (((k+1:Nat):Int)-1)=(k:Int):=by rw[bV];omega
  have F:aQ.wrap (8*(k:Int))=((8*k:Nat):Int):=by rw[bV];omega
  have L:af.wrap (((k+1:Nat):Int)-1-1)=(k:Int)-1:=wZ (by omega)
  have I:min (8*k) 64=8*k:=by omega
  rw[ay,eF]at C;rw[ai];unfold iJ at C;simp only[go_sem,Qg,Qj,Qk,Ql,Qm,reduceIte,c1,E,O,F,L,I,be,iJ,C]
theorem f64(B:d9)(k:Nat)(v:Int)(E:1<=k)(y:k<=8)(F:B.length<=10000000000000):
 call T 64 [.byt B .no,.int .i64 k,.int .i64 v] [] 0=some ⟨.byt (B++be k (aQ.wrap v)) (.id 60),[],[60]⟩:=by
 have g:=l64 v k B y (by omega);have c1:¬(k:Int)<1:=by omega
 have c2:¬(8:Int)<k:=by omega
 have C:af.wrap ((k:Int)-1)=(k:Int)-1:=w64 (by omega) (by omega);have c4:B.length<=140737488355328:=by omega
 rw[aj xyG];simp only[go_sem,Qg,Qj,Qk,Ql,Qm,reduceCtorEq,reduceIte,c1,c2,C,c4,g]
def jM(B X:d9):d9:=B++be 2 (aQ.wrap (X.take 65535).length)++X.take 65535
theorem f63(B X:d9)(I:B.length<=1000000000000)(hX:X.length<=1000000000000):call T 63 [.byt B .no,.byt X .no] [] 0=some ⟨.byt (jM B X) (.id 60),[],[60]⟩:=by
 have g:=f64 B 2 (X.take 65535).length (by omega) (by omega) (by omega);rw[c2]at g;rw[aj xyH];have F:(X.take 65535).length<=65535:=by rw[an];omega
 have c4:(B++be 2 (aQ.wrap (X.take 65535).length)).length+(X.take 65535).length<=140737488355328:=by rw[ae,gr];omega
 by_cases h:(65535:Int)<X.length
 ·have C:(65535:Int)<=X.length:=by omega
  have E:65535<=X.length:=by omega
  simp only[ae]at c4;simp only[go_sem,Q4,Q5,Qg,Qi,Qj,Qk,Ql,Qm,reduceCtorEq,reduceIte,h,C,g,GK,jM,c4,ay]
 ·have y:X.take 65535=X:=aT (by omega)
  rw[y]at g c4;simp only[ae]at c4;simp only[go_sem,Q4,Q5,Qg,Qi,Qj,Qk,Ql,Qm,reduceCtorEq,reduceIte,h,g,GK,jM,y,c4,ay]
theorem xoq(B X:d9)(L:B.length<=1000000000000)(hX:X.length<=1000000000000):call T 102 [.byt B .no,.byt X .no] [] 0=some ⟨.byt (jM B X) (.id 60),[],[60]⟩:=by
 have g:=xvf B 2 (X.take 65535).length (by omega) (by omega) (by omega);rw[c2]at g;rw[aj xs3];have J:(X.take 65535).length<=65535:=by rw[an];omega
 have c4:(B++be 2 (aQ.wrap (X.take 65535).length)).length+(X.take 65535).length<=140737488355328:=by rw[ae,gr];omega
 simp only[ae]at c4
 by_cases h:(65535:Int)<X.length
 ·have F:min (X.length:Int) 65535=65535:=by omega
  have E:(65535:Int)<=X.length:=by omega
  have I:65535<=X.length:=by omega
  simp only[go_sem,Q4,Q5,Qg,Qi,Qj,Qk,Ql,Qm,reduceCtorEq,reduceIte,h,E,g,mb,jM,c4,ay]
 ·have F:min (X.length:Int) 65535=X.length:=by omega
  have C:X.take 65535=X:=aT (by omega);have y:X.take X.length=X:=dy;rw[C]at g c4;simp only[go_sem,Q4,Q5,Qg,Qi,Qj,Qk,Ql,Qm,reduceCtorEq,reduceIte,h,y,g,mb,jM,C,c4,ay]
def frame(t:Int)(X:d9):d9:=cf t::(w4 (X.length:Int)++X)
theorem xx0(t:Int)(X:d9)(hX:X.length<=1000000000):call T 104 [.int .i64 t,.lst 1 [[.byt X .no]] .no] [] 0=some ⟨.byt (frame t X) .no,[],[]⟩:=by
 have k1:af.wrap 1=1:=rfl;have y:dr.wrap (X.length:Int)=X.length:=by rw[IntKind.wrap_u32];omega
 have c4:1+4+X.length<=140737488355328:=by omega
 have C:5+X.length<=140737488355328:=by omega
 rw[aj xir];simp only[go_sem,Qg,Qj,Qk,Ql,Qm,reduceCtorEq,reduceIte,al,aB,c1];rw[ai];simp only[go_sem,Q4,Q5,Q6,Qa,Qg,Qj,Qk,Ql,Qm,reduceCtorEq,reduceIte,al,aB,c1,k1,y,m24,m16,m8,c4];rw[ai];simp only[go_sem,Q6,Qj,Ql,Qm,reduceIte,frame,w4,iJ]
 trace_state
theorem xxX(t:Int)(X:d9)(hX:X.length<=1000000000):call T 109 [.int .i64 t,.lst 1 [[.byt X .no]] .no] [] 0=some ⟨.byt (frame t X) .no,[],[]⟩:=by
 have k1:af.wrap 1=1:=rfl;have c4:1+4+X.length<=140737488355328:=by omega
 have F:5+X.length<=140737488355328:=by omega
 have y:min 24 64=24:=rfl;have C:min 16 64=16:=rfl;have E:min 8 64=8:=rfl;rw[aj xiq];simp only[go_sem,Qg,Qj,Qk,Ql,Qm,reduceCtorEq,reduceIte,al,aB];rw[ai];simp only[go_sem,Q4,Q5,Q6,Qa,Qg,Qj,Qk,Ql,Qm,reduceCtorEq,reduceIte,al,aB,c1,k1,y,C,E,c4];rw[ai];simp only[go_sem,Q6,Qj,Ql,Qm,reduceIte,al,aB,c1,frame,w4,iJ]
theorem uE(t:Int)(X:d9):(frame t X).length=X.length+5:=by simp[frame,w4]
def xO(t:Int)(X:d9):d9:=sha (frame t X)
theorem f60(t:Int)(X:d9)(hX:X.length<=1000000000):call T 60 [.int .i64 t,.lst 1 [[.byt X .no]] .no] [] 0=some ⟨.byt (xO t X) .no,[],[]⟩:=by have C:=xx0 t X hX;have y:=xve (frame t X) (by rw[uE];omega);rw[aj xvr];simp only[go_sem,Qg,Qj,Qk,Ql,Qm,reduceCtorEq,reduceIte,C,y,xi6,xi7,xO]
theorem f65(t:Int)(X:d9)(hX:X.length<=1000000000):call T 65 [.int .i64 t,.lst 1 [[.byt X .no]] .no] [] 0=some ⟨.byt (xO t X) .no,[],[]⟩:=by have C:=xxX t X hX;have y:=f68 (frame t X) (by rw[uE];omega);rw[aj xvq];simp only[go_sem,Qg,Qj,Qk,Ql,Qm,reduceCtorEq,reduceIte,C,y,xi5,GJ,xO]
def prn:d9->Bool
 |[]=>true
 |c::r=>if c<32 then false else if 126<c then false else prn r
def chk(k:Int)(t:d9)(lo hi:Int):Int:=
 if k<1 then 1 else if 4<k then 1 else if prn t then
  (if k=4 then(if lo<0 then 1 else if hi<lo then 1 else if 1000000000<hi then 1 else if 32<t.length then 4 else 0)
   else if lo=0 then(if hi=0 then(if k=1 then(if t=[]then 0 else 1)else if 32<t.length then 4 else 0)else 1)else 1)
 else 1
theorem xw2(k:Int)(t:d9)(lo hi:Int)(O:t.length<=1000000000000):∀(n i:Nat),t.length-i=n->i<=t.length->
 run T (.loop vL) ⟨[(1,.ptr 101 0),(15,.int .i64 t.length),(16,.int .i64 i)],[(101,.rc [.int .i64 k,.str t,.int .i64 lo,.int .i64 hi])],[]⟩=
 if prn (t.drop i)then some (.x 0,⟨[(1,.ptr 101 0)],[(101,.rc [.int .i64 k,.str t,.int .i64 lo,.int .i64 hi])],[]⟩)
 else some (.r,⟨[(2,.int .i64 1)],[(101,.rc [.int .i64 k,.str t,.int .i64 lo,.int .i64 hi])],[]⟩):=by
 intro n;induction n with
 |zero=>
  intro i F L;have hi:i=t.length:=by omega
  subst hi;rw[ai];simp only[go_sem,Qj,Ql,Qm,reduceIte,bK,prn]
 |succ n J=>
  intro i F L;have hi:i<t.length:=by omega
  have I:=cr i (by omega);have y:=J (i+1) (by omega) (by omega);rw[ai,dz t i hi]
  by_cases C:t.getD i 0<32
  ·simp only[go_sem,Qg,Qj,Qk,Ql,Qm,reduceIte,hi,prn,C]
  ·by_cases E:126<t.getD i 0
   ·simp only[go_sem,Qg,Qj,Qk,Ql,Qm,reduceIte,hi,prn,C,E]
   ·simp only[go_sem,Qg,Qj,Qk,Ql,Qm,reduceIte,hi,I,prn,C,E,y]
theorem xw7(k:Int)(t:d9)(lo hi:Int)(O:t.length<=1000000000000):∀(n i:Nat),t.length-i=n->i<=t.length->
 run T (.loop CL) ⟨[(1,.ptr 101 0),(3,.int .i64 i)],[(101,.rc [.int .i64 k,.str t,.int .i64 lo,.int .i64 hi])],[]⟩=
 if prn (t.drop i)then some (.x 0,⟨[(1,.ptr 101 0)],[(101,.rc [.int .i64 k,.str t,.int .i64 lo,.int .i64 hi])],[]⟩)
 else some (.r,⟨[(2,.int .i64 1)],[(101,.rc [.int .i64 k,.str t,.int .i64 lo,.int .i64 hi])],[]⟩):=by
 intro n;induction n with
 |zero=>
  intro i F L;have hi:i=t.length:=by omega
  subst hi;rw[ai];simp only[go_sem,Qg,Qj,Qk,Ql,Qm,reduceIte,bK,prn]
 |succ n J=>
  intro i F L;have hi:i<t.length:=by omega
  have I:=cr i (by omega);have y:=J (i+1) (by omega) (by omega);rw[ai,dz t i hi]
  by_cases C:t.getD i 0<32
  ·simp only[go_sem,Qg,Qj,Qk,Ql,Qm,reduceIte,hi,prn,C]
  ·by_cases E:126<t.getD i 0
   ·simp only[go_sem,Qg,Qj,Qk,Ql,Qm,reduceIte,hi,prn,C,E]
   ·simp only[go_sem,Qg,Qj,Qk,Ql,Qm,reduceIte,hi,I,prn,C,E,y]
theorem qE(t:d9):((32:Int)<(t.length:Int))↔32<t.length:=by omega
theorem f129(k:Int)(t:d9)(lo hi:Int)(E:t.length<=1000000000000):call T 129 [.agg [.int .i64 k,.str t,.int .i64 lo,.int .i64 hi]] [] 0=some ⟨.int .i64 (chk k t lo hi),[],[]⟩:=by
 rw[aj xsI];have h:=xw2 k t lo hi E _ 0 rfl (by omega);simp only[az,bj]at h;unfold chk
 by_cases c1:k<1
 ·simp only[go_sem,Qg,Qj,Qk,Ql,Qm,reduceCtorEq,reduceIte,c1]
 by_cases c2:4<k
 ·simp only[go_sem,Qg,Qj,Qk,Ql,Qm,reduceCtorEq,reduceIte,c1,c2]
 cases c3:prn t with
 |false=>simp only[go_sem,Qg,Qj,Qk,Ql,Qm,reduceCtorEq,reduceIte,h,c1,c2,c3]
 |true=>
  by_cases c4:k=4
  ·subst c4
   by_cases y:lo<0
   ·simp only[go_sem,Q6,Q7,Qg,Qj,Qk,Ql,Qm,reduceCtorEq,reduceIte,h,c3,y]
   by_cases c6:hi<lo
   ·simp only[go_sem,Q6,Q7,Qg,Qj,Qk,Ql,Qm,reduceCtorEq,reduceIte,h,c3,y,c6]
   by_cases C:1000000000<hi
   ·simp only[go_sem,Q6,Q7,Qg,Qj,Qk,Ql,Qm,reduceCtorEq,reduceIte,h,c3,y,c6,C]
   by_cases c8:32<t.length
   ·simp only[go_sem,Q6,Q7,Qg,Qj,Qk,Ql,Qm,reduceCtorEq,reduceIte,h,c3,y,c6,C,c8,qE]
   ·simp only[go_sem,Q6,Q7,Qg,Qj,Qk,Ql,Qm,reduceCtorEq,reduceIte,h,c3,y,c6,C,c8,qE]
  ·by_cases y:lo=0
   ·subst y
    by_cases c6:hi=0
    ·subst c6
     by_cases C:k=1
     ·subst C
      by_cases c8:t=[]
      ·subst c8
       try simp only[aB,az]at h
       simp only[go_sem,Q6,Q7,Qg,Qj,Qk,Ql,Qm,reduceCtorEq,reduceIte,h,c3,aB,az]
      ·simp only[go_sem,Q6,Q7,Qg,Qj,Qk,Ql,Qm,reduceCtorEq,reduceIte,h,c3,c8]
     ·by_cases c8:32<t.length
      ·simp only[go_sem,Q6,Qg,Qj,Qk,Ql,Qm,reduceCtorEq,reduceIte,h,c1,c2,c3,c4,C,c8,qE]
      ·simp only[go_sem,Q6,Qg,Qj,Qk,Ql,Qm,reduceCtorEq,reduceIte,h,c1,c2,c3,c4,C,c8,qE]
    ·simp only[go_sem,Q6,Qg,Qj,Qk,Ql,Qm,reduceCtorEq,reduceIte,h,c1,c2,c3,c4,c6]
   ·simp only[go_sem,Qg,Qj,Qk,Ql,Qm,reduceCtorEq,reduceIte,h,c1,c2,c3,c4,y]
theorem xxY(k:Int)(t:d9)(lo hi:Int)(E:t.length<=1000000000000):call T 108 [.agg [.int .i64 k,.str t,.int .i64 lo,.int .i64 hi]] [] 0=some ⟨.int .i64 (chk k t lo hi),[],[]⟩:=by
 rw[aj xsZ];have h:=xw7 k t lo hi E _ 0 rfl (by omega);simp only[az,bj]at h;unfold chk
 by_cases c1:k<1
 ·simp only[go_sem,Qg,Qj,Qk,Ql,Qm,reduceCtorEq,reduceIte,c1]
 by_cases c2:4<k
 ·simp only[go_sem,Qg,Qj,Qk,Ql,Qm,reduceCtorEq,reduceIte,c1,c2]
 cases c3:prn t with
 |false=>simp only[go_sem,Qg,Qj,Qk,Ql,Qm,reduceCtorEq,reduceIte,h,c1,c2,c3]
 |true=>
  by_cases c4:k=4
  ·subst c4
   by_cases y:lo<0
   ·simp only[go_sem,Q6,Q7,Qg,Qj,Qk,Ql,Qm,reduceCtorEq,reduceIte,h,c3,y]
   by_cases c6:hi<lo
   ·simp only[go_sem,Q6,Q7,Qg,Qj,Qk,Ql,Qm,reduceCtorEq,reduceIte,h,c3,y,c6]
   by_cases C:1000000000<hi
   ·simp only[go_sem,Q6,Q7,Qg,Qj,Qk,Ql,Qm,reduceCtorEq,reduceIte,h,c3,y,c6,C]
   by_cases c8:32<t.length
   ·simp only[go_sem,Q6,Q7,Qg,Qj,Qk,Ql,Qm,reduceCtorEq,reduceIte,h,c3,y,c6,C,c8,qE]
   ·simp only[go_sem,Q6,Q7,Qg,Qj,Qk,Ql,Qm,reduceCtorEq,reduceIte,h,c3,y,c6,C,c8,qE]
  ·by_cases y:lo=0
   ·subst y
    by_cases c6:hi=0
    ·subst c6
     by_cases C:k=1
     ·subst C
      by_cases c8:t=[]
      ·subst c8
       try simp only[aB,az]at h
       simp only[go_sem,Q6,Q7,Qg,Qj,Qk,Ql,Qm,reduceCtorEq,reduceIte,h,c3,aB,az]
      ·simp only[go_sem,Q6,Q7,Qg,Qj,Qk,Ql,Qm,reduceCtorEq,reduceIte,h,c3,c8]
     ·by_cases c8:32<t.length
      ·simp only[go_sem,Q6,Qg,Qj,Qk,Ql,Qm,reduceCtorEq,reduceIte,h,c1,c2,c3,c4,C,c8,qE]
      ·simp only[go_sem,Q6,Qg,Qj,Qk,Ql,Qm,reduceCtorEq,reduceIte,h,c1,c2,c3,c4,C,c8,qE]
    ·simp only[go_sem,Q6,Qg,Qj,Qk,Ql,Qm,reduceCtorEq,reduceIte,h,c1,c2,c3,c4,c6]
   ·simp only[go_sem,Qg,Qj,Qk,Ql,Qm,reduceCtorEq,reduceIte,h,c1,c2,c3,c4,y]
theorem eH(B:d9)(i n:Nat)(h:0<n):dZ B i n<n:=by
 unfold dZ;split
 ·exact vq _ h
 ·exact h
def i7:Nat->d9
 |0=> [97,61,49]
 |1=> [99,111,117,110,116,61,53]
 |2=> [99,111,117,110,116,61,49,55]
 |3=> [104,111,115,116,61,120]
 |4=> [109,111,100,101,32,98]
 |_=> [126]
def IS:Nat->d9
 |0=> []
 |1=> [42]
 |2=> [97,61,63]
 |3=> [42,61,42]
 |4=> [63,111,42,53]
 |5=> [99,111,117,110,116,61,63,63]
 |_=> [42,97,42,42,49,42]
def xhQ:Nat->d9
 |0=> [99,111,117,110,116,61]
 |1=> [97,61]
 |_=> []
theorem ze:∀v,v<6->chk 2 (i7 v) 0 0=0/\(i7 v).length<=20:=by decide
theorem zr:∀v,v<7->chk 3 (IS v) 0 0=0/\(IS v).length<=20:=by decide
theorem vT:∀v,v<3->prn (xhQ v)=true/\(xhQ v).length<=20:=by decide
theorem cz0:((0:Nat):Int)=0:=rfl
theorem cz1:((1:Nat):Int)=1:=rfl
theorem cz2:((2:Nat):Int)=2:=rfl
theorem cz3:((3:Nat):Int)=3:=rfl
theorem cz4:((4:Nat):Int)=4:=rfl
theorem cz5:((5:Nat):Int)=5:=rfl
theorem cz6:((6:Nat):Int)=6:=rfl
theorem cz7:((7:Nat):Int)=7:=rfl
theorem xvc(B:d9)(i:Nat)(C:B.length<=1000):call T 121 [.ptr 0 0] [aX B i] 0=some ⟨.byt (i7 (dZ B i 6)) .no,[(0,aX B (cI B i))],[]⟩:=by
 rw[aj xsO];have g:=f17 B i 6 (by omega) (by omega);have y:=eH B i 6 (by omega);rw[cz6]at g;generalize dZ B i 6=v at g y;simp only[aX]at g;have:v=0\/v=1\/v=2\/v=3\/v=4\/v=5:=by omega
 rcases this with rfl|rfl|rfl|rfl|rfl|rfl<;>simp only[cz0,cz1,cz2,cz3,cz4,cz5]at g<;>simp only[go_sem,Q4,Q5,Q6,Qg,Qi,Qj,Qk,Ql,Qm,reduceCtorEq,reduceIte,List.all_replicate,cz6,aX,g,gO,i7]
theorem xaL(t:d9)(y:prn t=true)(F:t.length<=20)(a b:Nat)(E:a<1000)(C:b<1000):chk 4 t a ((a:Int)+b)=0:=by unfold chk;rw[if_neg (by omega),if_neg (by omega),if_pos y,if_pos rfl,if_neg (by omega),if_neg (by omega),if_neg (by omega),if_neg (by omega)]
theorem f70(B:d9)(i:Nat)(hB:B.length<=1000):∃(k:Int)(t:d9)(lo hi:Int)(j:Nat),chk k t lo hi=0/\t.length<=20/\
 call T 70 [.ptr 0 0] [aX B i] 0=some ⟨.agg [.int .i64 k,.str t,.int .i64 lo,.int .i64 hi],[(0,aX B j)],[]⟩:=by
 rw[aj xij];have g:=f17 B i 5 (by omega) (by omega);have hm:=eH B i 5 (by omega);rw[cz5]at g;generalize dZ B i 5=v at g hm;simp only[aX]at g;have W:v=0\/v=1\/v=2\/v=3\/v=4:=by omega
 generalize cI B i=y at g;have O:=f17 B y 7 (by omega) (by omega);have h7:=eH B y 7 (by omega);have J:=f17 B y 20 (by omega) (by omega);have a1:=eH B y 20 (by omega);have L:=f17 B (cI B y) 3 (by omega) (by omega);have Q:=eH B (cI B y) 3 (by omega);have I:=f17 B (cI B (cI B y)) 30 (by omega) (by omega);have a2:=eH B (cI B (cI B y)) 30 (by omega);have Z:=xvc B y hB;have h6:=eH B y 6 (by omega);simp only[aX]at O J L I Z;rw[cz7]at O;rw[c20]at J;rw[cz3]at L;rw[c30]at I;generalize dZ B y 6=v6 at*;generalize dZ B y 7=E at*;generalize dZ B y 20=C at*;generalize dZ B (cI B y) 3=v3 at*;generalize dZ B (cI B (cI B y)) 30=F at*
 have hN:v=3\/v=4->∃(k:Int)(t:d9)(lo hi:Int)(j:Nat),chk k t lo hi=0/\t.length<=20/\
  call T 70 [.ptr 0 0] [aX B i] 0=some ⟨.agg [.int .i64 k,.str t,.int .i64 lo,.int .i64 hi],[(0,aX B j)],[]⟩:=by
  intro W;refine⟨4,xhQ v3,C,(C:Int)+F,cI B (cI B (cI B y)),xaL _ (vT _ Q).1 (vT _ Q).2 _ _ (by omega) (by omega),(vT _ Q).2, ?_⟩;have e:af.wrap ((C:Int)+(F:Int))=(C:Int)+F:=w64 (by omega) (by omega);rw[aj xij];have:v3=0\/v3=1\/v3=2:=by omega
  rcases W with rfl|rfl<;>rcases this with rfl|rfl|rfl<;>simp only[cz0,cz1,cz2,cz3,cz4]at g L<;>simp only[go_sem,Q4,Q5,Q6,Q7,Qd,Qe,Qf,Qg,Qi,Qj,Qk,Ql,Qm,reduceCtorEq,reduceIte,List.all_replicate,cz3,aX,g,J,L,I,gO,e,xhQ]
 rcases W with rfl|rfl|rfl|rfl|rfl
 ·refine⟨1,[],0,0,y,by decide,by decide, ?_⟩
  simp only[cz0]at g;simp only[go_sem,Q7,Qg,Qi,Qj,Qk,Ql,Qm,reduceCtorEq,reduceIte,List.all_replicate,aX,g,gO]
 ·refine⟨2,i7 v6,0,0,cI B y,(ze _ h6).1,(ze _ h6).2, ?_⟩
  simp only[cz1]at g;simp only[go_sem,Q7,Qg,Qi,Qj,Qk,Ql,Qm,reduceCtorEq,reduceIte,List.all_replicate,aX,g,gO,Z,xi2]
 ·refine⟨3,IS E,0,0,cI B y,(zr _ h7).1,(zr _ h7).2, ?_⟩
  simp only[cz2]at g;have:E=0\/E=1\/E=2\/E=3\/E=4\/E=5\/E=6:=by omega
  rcases this with rfl|rfl|rfl|rfl|rfl|rfl|rfl<;>simp only[cz0,cz1,cz2,cz3,cz4,cz5,cz6]at O<;>simp only[go_sem,Q4,Q5,Q6,Q7,Qg,Qi,Qj,Qk,Ql,Qm,reduceCtorEq,reduceIte,List.all_replicate,cz7,aX,g,O,gO,IS]
 ·rw[<-aj xij];exact hN (.inl rfl)
 ·rw[<-aj xij];exact hN (.inr rfl)
structure Au where
 id:Int
 key:List UInt8
def Au.sv(a:Au):f8:=[.int .i64 a.id,.byt a.key .no]
def au0:Au:=⟨0,[]⟩
structure Tr where
 au:List Au
 thr:Int
def o8(l:List Au):d8:=l.map Au.sv
def Tr.sv(t:Tr):f8:=[.lst 2 (o8 t.au) .no,.int .i64 t.thr]
theorem fB(l:List Au):(o8 l).length=l.length:=aV ..
theorem iE(l:List Au)(i:Nat)(h:i<l.length):(o8 l).getD i []=(l.getD i au0).sv:=by simp[o8,aa,h]
def auE(l:List Au)(i:Nat):Int:=
 if(l.getD i au0).id<1 then 1 else if 1000<(l.getD i au0).id then 1 else if((l.getD i au0).key.length:Int)=17 then(if i=0 then 0 else if(l.getD i au0).id<=(l.getD (i-1) au0).id then 41 else 0)else 1
def mT(l:List Au):Nat->Nat->Int
 |0,_=>0
 |n+1,i=>if auE l i=0 then mT l n (i+1)else auE l i
def trE(t:Tr):Int:=
 if(4:Int)<t.au.length then 4 else if mT t.au t.au.length 0=0 then(if t.thr<1 then 1 else if(t.au.length:Int)<t.thr then 1 else 0)else mT t.au t.au.length 0
def At(t:Tr)(i:Nat):CSt:=⟨[(1,.ptr 101 0),(10,.lst 2 (o8 t.au) .no),(11,.int .i64 t.au.length),(12,.int .i64 i)],[(101,.rc t.sv)],[]⟩
theorem s23(t:Tr)(hn:t.au.length<=100)(i:Nat)(hi:i<t.au.length):
 (auE t.au i=0->run T (.loop nt) (At t i)=run T (.loop nt) (At t (i+1)))/\
 (auE t.au i≠0->∃ob,run T (.loop nt) (At t i)=some (.r,⟨[(2,.int .i64 (auE t.au i))],ob,[]⟩)):=by
 have e1:=cr i (by omega);have J:=fB t.au;have I:=iE t.au i hi;have es:0<i->af.wrap ((i:Int)-1)=((i-1:Nat):Int):=fun h=>by rw[w64 (by omega) (by omega)];omega
 have F:i-1<t.au.length:=by omega
 have L:=iE t.au (i-1) F;unfold auE;obtain⟨au,W⟩:=t;simp only[At,Tr.sv]at*;generalize au.getD i au0=x at*;generalize au.getD (i-1) au0=y at*;obtain⟨d,k⟩:=x;obtain⟨d2,k2⟩:=y;simp only[Au.sv]at*
 by_cases C:d<1
 ·refine⟨fun h=>by simp[C]at h,fun _=>⟨[(101,.rc [.lst 2 (o8 au) .no,.int .i64 W]),(104,.rc [.int .i64 d,.byt k .no])], ?_⟩⟩
  rw[ai];simp only[go_sem,Qg,Qj,Qk,Ql,Qm,reduceIte,hi,J,I,C]
 by_cases E:1000<d
 ·refine⟨fun h=>by simp[C,E]at h,fun _=>⟨[(101,.rc [.lst 2 (o8 au) .no,.int .i64 W]),(104,.rc [.int .i64 d,.byt k .no])], ?_⟩⟩
  rw[ai];simp only[go_sem,Qg,Qj,Qk,Ql,Qm,reduceIte,hi,J,I,C,E]
 by_cases a3:(k.length:Int)=17
 ·by_cases Z:i=0
  ·subst Z
   have hp:(0:Int)<au.length:=by omega
   refine⟨fun _=> ?_,fun h=>by simp[C,E,a3]at h⟩;simp only[az]at*;have k1:af.wrap 1=((0+1:Nat):Int):=rfl;rw[ai];simp only[go_sem,Q4,Q5,Q6,Qa,Qg,Qj,Qk,Ql,Qm,reduceIte,hp,J,I,C,E,a3,k1]
  ·have hp:0<i:=by omega
   have Q:(0:Int)<(i:Int):=by omega
   have O:(i:Int)<(au.length:Int):=by omega
   have e2:=es hp
   by_cases a8:d<=d2
   ·refine⟨fun h=>by simp[C,E,a3,Z,a8]at h,fun _=>⟨[(101,.rc [.lst 2 (o8 au) .no,.int .i64 W]),(104,.rc [.int .i64 d,.byt k .no])], ?_⟩⟩
    rw[ai];simp only[go_sem,Qg,Qj,Qk,Ql,Qm,reduceIte,O,Q,e2,F,J,I,L,C,E,a3,Z,a8]
   ·refine⟨fun _=> ?_,fun h=>by simp[C,E,a3,Z,a8]at h⟩
    rw[ai];simp only[go_sem,Qg,Qj,Qk,Ql,Qm,reduceIte,O,Q,e1,e2,F,J,I,L,C,E,a3,a8]
 ·refine⟨fun h=>by simp[C,E,a3]at h,fun _=>⟨[(101,.rc [.lst 2 (o8 au) .no,.int .i64 W]),(104,.rc [.int .i64 d,.byt k .no])], ?_⟩⟩
  rw[ai];simp only[go_sem,Qg,Qj,Qk,Ql,Qm,reduceIte,hi,J,I,C,E,a3]
theorem l39(t:Tr)(hn:t.au.length<=100):∀(n i:Nat),i+n=t.au.length->
 (mT t.au n i=0->run T (.loop nt) (At t i)=some (.x 0,⟨[(1,.ptr 101 0)],[(101,.rc t.sv)],[]⟩))/\
 (mT t.au n i≠0->∃ob,run T (.loop nt) (At t i)=some (.r,⟨[(2,.int .i64 (mT t.au n i))],ob,[]⟩))
 |0,i,h=>by
  have hi:i=t.au.length:=by omega
  refine⟨fun _=> ?_,fun h=>absurd rfl h⟩;subst hi;unfold At;rw[ai];simp only[go_sem,Qj,Ql,Qm,reduceIte]
 |n+1,i,h=>by
  obtain⟨C,y⟩:=s23 t hn i (by omega);obtain⟨k1,k2⟩:=l39 t hn n (i+1) (by omega);show(_->_)/\(_->_);simp only[mT]
  by_cases e:auE t.au i=0
  ·rw[if_pos e,C e];exact⟨k1,k2⟩
  ·rw[if_neg e];exact⟨fun h=>absurd h e,fun _=>y e⟩
theorem f39(t:Tr):call T 39 [.agg t.sv] [] 0=some ⟨.int .i64 (trE t),[],[]⟩:=by
 have C:=fB t.au;rw[aj xyT];unfold trE
 by_cases y:(4:Int)<t.au.length
 ·rw[if_pos y]
  have F:4<t.au.length:=by omega
  simp only[Tr.sv,go_sem,Qg,Qj,Qk,Ql,Qm,reduceCtorEq,reduceIte,C,y]
 ·rw[if_neg y]
  have F:¬4<t.au.length:=by omega
  obtain⟨k1,k2⟩:=l39 t (by omega) t.au.length 0 (bY _)
  by_cases e:mT t.au t.au.length 0=0
  ·have k:=k1 e
   rw[if_pos e];simp only[At,Tr.sv,az]at k
   by_cases E:t.thr<1
   ·simp only[Tr.sv,go_sem,Qg,Qj,Qk,Ql,Qm,reduceCtorEq,reduceIte,C,y,k,E]
   ·by_cases b2:(t.au.length:Int)<t.thr
    ·simp only[Tr.sv,go_sem,Qg,Qj,Qk,Ql,Qm,reduceCtorEq,reduceIte,C,y,k,E,b2]
    ·simp only[Tr.sv,go_sem,Qg,Qj,Qk,Ql,Qm,reduceCtorEq,reduceIte,C,y,k,E,b2]
  ·obtain⟨ob,k⟩:=k2 e
   rw[if_neg e];simp only[At,Tr.sv,az]at k;simp only[Tr.sv,go_sem,Qg,Qj,Qk,Ql,Qm,reduceCtorEq,reduceIte,C,y,k]
def As(t:Tr)(i:Nat):CSt:=⟨[(1,.ptr 101 0),(3,.int .i64 i)],[(101,.rc t.sv)],[]⟩
theorem s24(t:Tr)(hn:t.au.length<=100)(i:Nat)(hi:i<t.au.length):
 (auE t.au i=0->run T (.loop nq) (As t i)=run T (.loop nq) (As t (i+1)))/\
 (auE t.au i≠0->∃ob,run T (.loop nq) (As t i)=some (.r,⟨[(2,.int .i64 (auE t.au i))],ob,[]⟩)):=by
 have e1:=cr i (by omega);have J:=fB t.au;have I:=iE t.au i hi;have es:0<i->af.wrap ((i:Int)-1)=((i-1:Nat):Int):=fun h=>by rw[w64 (by omega) (by omega)];omega
 have F:i-1<t.au.length:=by omega
 have L:=iE t.au (i-1) F;unfold auE;obtain⟨au,W⟩:=t;simp only[As,Tr.sv]at*;generalize au.getD i au0=x at*;generalize au.getD (i-1) au0=y at*;obtain⟨d,k⟩:=x;obtain⟨d2,k2⟩:=y;simp only[Au.sv]at*
 by_cases C:d<1
 ·refine⟨fun h=>by simp[C]at h,fun _=>⟨[(101,.rc [.lst 2 (o8 au) .no,.int .i64 W]),(104,.rc [.int .i64 d,.byt k .no])], ?_⟩⟩
  rw[ai];simp only[go_sem,Qg,Qj,Qk,Ql,Qm,reduceIte,hi,J,I,C]
 by_cases E:1000<d
 ·refine⟨fun h=>by simp[C,E]at h,fun _=>⟨[(101,.rc [.lst 2 (o8 au) .no,.int .i64 W]),(104,.rc [.int .i64 d,.byt k .no])], ?_⟩⟩
  rw[ai];simp only[go_sem,Qg,Qj,Qk,Ql,Qm,reduceIte,hi,J,I,C,E]
 by_cases a3:(k.length:Int)=17
 ·by_cases Z:i=0
  ·subst Z
   have hp:(0:Int)<au.length:=by omega
   refine⟨fun _=> ?_,fun h=>by simp[C,E,a3]at h⟩;simp only[az]at*;have k1:af.wrap 1=((0+1:Nat):Int):=rfl;rw[ai];simp only[go_sem,Q4,Q5,Q6,Qa,Qg,Qj,Qk,Ql,Qm,reduceIte,hp,J,I,C,E,a3,k1]
  ·have hp:0<i:=by omega
   have Q:(0:Int)<(i:Int):=by omega
   have O:(i:Int)<(au.length:Int):=by omega
   have e2:=es hp
   by_cases a8:d<=d2
   ·refine⟨fun h=>by simp[C,E,a3,Z,a8]at h,fun _=>⟨[(101,.rc [.lst 2 (o8 au) .no,.int .i64 W]),(104,.rc [.int .i64 d,.byt k .no])], ?_⟩⟩
    rw[ai];simp only[go_sem,Qg,Qj,Qk,Ql,Qm,reduceIte,O,Q,e2,F,J,I,L,C,E,a3,Z,a8]
   ·refine⟨fun _=> ?_,fun h=>by simp[C,E,a3,Z,a8]at h⟩
    rw[ai];simp only[go_sem,Qg,Qj,Qk,Ql,Qm,reduceIte,O,Q,e1,e2,F,J,I,L,C,E,a3,a8]
 ·refine⟨fun h=>by simp[C,E,a3]at h,fun _=>⟨[(101,.rc [.lst 2 (o8 au) .no,.int .i64 W]),(104,.rc [.int .i64 d,.byt k .no])], ?_⟩⟩
  rw[ai];simp only[go_sem,Qg,Qj,Qk,Ql,Qm,reduceIte,hi,J,I,C,E,a3]
theorem l40(t:Tr)(hn:t.au.length<=100):∀(n i:Nat),i+n=t.au.length->
 (mT t.au n i=0->run T (.loop nq) (As t i)=some (.x 0,⟨[(1,.ptr 101 0)],[(101,.rc t.sv)],[]⟩))/\
 (mT t.au n i≠0->∃ob,run T (.loop nq) (As t i)=some (.r,⟨[(2,.int .i64 (mT t.au n i))],ob,[]⟩))
 |0,i,h=>by
  have hi:i=t.au.length:=by omega
  have C:=fB t.au;refine⟨fun _=> ?_,fun h=>absurd rfl h⟩;subst hi;unfold As Tr.sv;rw[ai];simp only[go_sem,Qg,Qj,Qk,Ql,Qm,reduceIte,C]
 |n+1,i,h=>by
  obtain⟨E,y⟩:=s24 t hn i (by omega);obtain⟨k1,k2⟩:=l40 t hn n (i+1) (by omega);show(_->_)/\(_->_);simp only[mT]
  by_cases e:auE t.au i=0
  ·rw[if_pos e,E e];exact⟨k1,k2⟩
  ·rw[if_neg e];exact⟨fun h=>absurd h e,fun _=>y e⟩
theorem f40(t:Tr):call T 40 [.agg t.sv] [] 0=some ⟨.int .i64 (trE t),[],[]⟩:=by
 have C:=fB t.au;rw[aj xyS];unfold trE
 by_cases y:(4:Int)<t.au.length
 ·rw[if_pos y]
  have F:4<t.au.length:=by omega
  simp only[Tr.sv,go_sem,Qg,Qj,Qk,Ql,Qm,reduceCtorEq,reduceIte,C,y]
 ·rw[if_neg y]
  have F:¬4<t.au.length:=by omega
  obtain⟨k1,k2⟩:=l40 t (by omega) t.au.length 0 (bY _)
  by_cases e:mT t.au t.au.length 0=0
  ·have k:=k1 e
   rw[if_pos e];simp only[As,Tr.sv,az]at k
   by_cases E:t.thr<1
   ·simp only[Tr.sv,go_sem,Qg,Qj,Qk,Ql,Qm,reduceCtorEq,reduceIte,C,y,k,E]
   ·by_cases b2:(t.au.length:Int)<t.thr
    ·simp only[Tr.sv,go_sem,Qg,Qj,Qk,Ql,Qm,reduceCtorEq,reduceIte,C,y,k,E,b2]
    ·simp only[Tr.sv,go_sem,Qg,Qj,Qk,Ql,Qm,reduceCtorEq,reduceIte,C,y,k,E,b2]
  ·obtain⟨ob,k⟩:=k2 e
   rw[if_neg e];simp only[As,Tr.sv,az]at k;simp only[Tr.sv,go_sem,Qg,Qj,Qk,Ql,Qm,reduceCtorEq,reduceIte,C,y,k]
end Go.Proofs.YtbfnljmmepcbfaaGreatDoor
