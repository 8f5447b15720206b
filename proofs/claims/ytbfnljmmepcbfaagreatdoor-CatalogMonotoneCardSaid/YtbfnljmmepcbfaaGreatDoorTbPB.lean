/- Contracts. No condition. -/
import Derived.Test.YtbfnljmmepcbfaaGreatDoorCoPB
import Derived.Ground.NamesProg
import Derived.Maps.AppendAt
import Derived.Maps.RangeWalk
import Derived.Shelf.Slices.In.SortNone
import Derived.Shelf.Sort.Plain
import Derived.Sort.OwnSortedInts
import Derived.WalkSmall
open Int renaming natCast_zero -> ay, tmod_eq_emod_of_nonneg -> fx
open Go.IntKind renaming i64 -> af, u32 -> dq, u64 -> aQ, wrap_i64 -> dC, wrap_u64 -> bO
open List renaming append_assoc -> az, append_nil -> bx, cons -> mP, cons_append -> bi, drop -> iD, drop_eq_getElem_cons -> bt, drop_length -> bw, drop_take -> fY, drop_zero -> aW, flatMap_cons -> eo, flatMap_nil -> fV, flatten_cons -> cD, getD_eq_getElem?_getD -> aa, getElem?_drop -> bz, getElem?_eq_getElem -> ac, getElem?_map -> aT, length_append -> ae, length_cons -> al, length_drop -> aG, length_map -> aY, length_nil -> aA, length_replicate -> dJ, length_singleton -> aF, length_take -> aq, map_cons -> aI, map_nil -> bJ, nil_append -> aE, replicate -> aL, singleton_append -> dI, take -> eT, take_length -> dA, take_of_length_le -> aV
open Nat renaming add_zero -> ft, le_refl -> aJ, mul_one -> dp, zero_add -> bT
open UInt8 renaming ofInt -> b8
set_option maxRecDepth 100000
set_option maxHeartbeats 16000000
set_option linter.unusedSimpArgs false
set_option linter.unusedVariables false
namespace Go.Proofs.YtbfnljmmepcbfaaGreatDoor
open Go.Sy
open UInt8 renaming reduceLT -> Q0, reduceLE -> Q1
open Int renaming reduceToNat -> Q2, reduceLE -> Q3, reduceLT -> Q4, reduceEq -> Q5, reduceNe -> Q6, reduceNeg -> Q7, reduceAdd -> Q8, reduceSub -> Q9, reduceMul -> Qa
open Nat renaming reducePow -> Qb, reduceDiv -> Qc, reduceMod -> Qd, reduceAdd -> Qe, reduceSub -> Qf, reduceMul -> Qg, reduceLT -> Qh, reduceLeDiff -> Qi, reduceEqDiff -> Qj, reduceBEq -> Qk
theorem c0:((0:Nat):Int)=0:=rfl
theorem c1:((1:Nat):Int)=1:=rfl
theorem c12:((12:Nat):Int)=12:=rfl
theorem c15:((15:Nat):Int)=15:=rfl
theorem c16:((16:Nat):Int)=16:=rfl
theorem c2:((2:Nat):Int)=2:=rfl
theorem c20:((20:Nat):Int)=20:=rfl
theorem xyd:((200:Nat):Int)=200:=rfl
theorem xyc:((256:Nat):Int)=256:=rfl
theorem c30:((30:Nat):Int)=30:=rfl
theorem c32:((32:Nat):Int)=32:=rfl
theorem c35:((35:Nat):Int)=35:=rfl
theorem c4:((4:Nat):Int)=4:=rfl
theorem c6:((6:Nat):Int)=6:=rfl
theorem c64:((64:Nat):Int)=64:=rfl
theorem c8:((8:Nat):Int)=8:=rfl
theorem c9:((9:Nat):Int)=9:=rfl
attribute [go_sem] tN wW wX
theorem w64{n:Int}(h: -9223372036854775808<=n)(y:n<=9223372036854775807):af.wrap n=n:=by rw[dC];omega
theorem wZ{a b:Int}(h:-9223372036854775808<=a/\a<=9223372036854775807/\a=b):af.wrap a=b:=by rw[w64 h.1 h.2.1];exact h.2.2
theorem cg(i:Nat)(h:i<9223372036854775807):af.wrap ((i:Int)+1)=((i+1:Nat):Int):=wZ (by omega)
theorem uG{α:Type}[Inhabited α](l:List α)(i:Nat)(h:i<l.length):l.drop i=l.getD i default::l.drop (i+1):=by rw[bt h,aa,ac h];rfl
theorem dB(l:d9)(i:Nat)(h:i<l.length):l.drop i=l.getD i 0::l.drop (i+1):=uG l i h
theorem l31(a b:d9)(L:a.length<=140737488355328)(y:a.length=b.length):∀(n i:Nat),a.length-i=n->i<=a.length->
 run T (.loop Vl) ⟨[(0,.byt a .no),(1,.byt b .no),(5,.int .i64 i)],[],[]⟩=if a.drop i=b.drop i then some (.x 0,⟨[],[],[]⟩)else some (.r,⟨[(4,.bool false)],[],[]⟩):=by
 intro n;induction n with
 |zero=>
  intro i C E;have hi:i=a.length:=by omega
  subst hi;rw[ai];have e:iD a.length b=[]:=by rw[y,bw]
  simp only[go_sem,Qh,Qj,Qk,reduceCtorEq,reduceIte,bw,e]
 |succ n I=>
  intro i C E;have hi:i<a.length:=by omega
  have h:i<b.length:=by omega
  rw[ai,dB a i hi,dB b i h];have F:af.wrap ((i:Int)+1)=((i+1:Nat):Int):=wZ (by omega)
  simp only[go_sem,Qh,Qj,Qk,reduceCtorEq,reduceIte,hi,h,F,I (i+1) (by omega) (by omega),mP.injEq]
  by_cases J:a.getD i 0=b.getD i 0<;>simp only[J,go_sem,reduceIte]
theorem f31(a b:d9)(E:a.length<=140737488355328):call T 31 [.byt a .no,.byt b .no] [] 0=some ⟨.bool (decide (a=b)),[],[]⟩:=by
 rw[aj xy7]
 by_cases y:a.length=b.length
 ·have h:=l31 a b E y _ 0 rfl (by omega)
  simp only[ay,aW]at h;simp only[go_sem,Qe,Qh,Qi,Qj,Qk,reduceCtorEq,reduceIte,y,h]
  by_cases C:a=b<;>simp only[C,go_sem,reduceIte]
 ·have C:a≠b:=fun e=>y (by rw[e])
  simp only[go_sem,Qe,Qh,Qi,Qj,Qk,reduceCtorEq,reduceIte,y,C]
def gO(n m:Int):Int:=if m<1 then 0 else if n.tmod m<0 then n.tmod m+m else n.tmod m
theorem f21(a b:Int)(L: -9223372036854775808<=a)(E:a<=9223372036854775807)(I:b<=9223372036854775807):call T 21 [.int .i64 a,.int .i64 b] [] 0=some ⟨.int .i64 (gO a b),[],[]⟩:=by
 rw[aj xzf]
 by_cases h:b<1
 ·simp only[go_sem,Qe,Qh,Qi,Qj,Qk,reduceCtorEq,reduceIte,h,gO]
 ·have C:¬b=0:=by omega
  simp only[go_sem,Qe,Qh,Qi,Qj,Qk,reduceCtorEq,reduceIte,h,C,gO]
  by_cases y:a.tmod b<0
  ·have J: -b<a.tmod b:=by
    have:=Int.lt_tmod_of_pos a (b:=b) (by omega);omega
   have F:af.wrap (a.tmod b+b)=a.tmod b+b:=w64 (by omega) (by omega);simp only[y,go_sem,reduceIte,F]
  ·simp only[y,go_sem,reduceIte]
def bq(B:d9)(h:Nat):aH:= .rc [.byt B .no,.int .i64 h]
theorem f16(a:d9)(n:Nat):call T 16 [.byt a .no,.int .i64 n] [] 0=some ⟨.ptr 100 0,[(100,bq (a.take n) 0)],[]⟩:=by
 rw[aj xzi]
 by_cases h:n<a.length
 ·have y:n<=a.length:=by omega
  simp only[go_sem,Q2,Q3,Qe,Qh,Qi,Qj,Qk,reduceCtorEq,reduceIte,h,y,bq];rfl
 ·simp only[go_sem,Q2,Q3,Qe,Qh,Qi,Qj,Qk,reduceCtorEq,reduceIte,h,bq,aV (Nat.le_of_not_lt h)]
  rfl
def ec(a:d9)(b n:Nat):Nat:=if b<a.length then(a.getD b 0).toNat % n else 0
def cC(a:d9)(b:Nat):Nat:=if b<a.length then b+1 else b
theorem f17(a:d9)(b n:Nat)(hn:0<n)(I:a.length<=1000000000000):call T 17 [.ptr 0 0,.int .i64 n] [bq a b] 0=some ⟨.int .i64 (ec a b n),[(0,bq a (cC a b))],[]⟩:=by
 rw[aj xzh]
 by_cases h:b<a.length
 ·have y:¬a.length<=b:=by omega
  have C:af.wrap ((b:Int)+1)=((b+1:Nat):Int):=wZ (by omega)
  have F:af.wrap (((b+1:Nat):Int)-1)=(b:Int):=wZ (by omega)
  have E:¬(n:Int)=0:=by omega
  simp only[go_sem,Qe,Qh,Qi,Qj,Qk,reduceCtorEq,reduceIte,bq,h,y,C,F,E,ec,cC,<-Int.ofNat_tmod]
 ·have y:a.length<=b:=by omega
  simp only[go_sem,Qe,Qh,Qi,Qj,Qk,reduceCtorEq,reduceIte,bq,h,y,ec,cC,ay]
def rr(x:Int)(n:Nat):Int:=cn .or .u32 (x.fdiv (2^n)) (dq.wrap (x*2^(32-n)))
theorem sY(k:IntKind)(x y:Int):cn .or k x y=cn .or k y x:=by simp only[cn,BitVec.or_comm]
theorem zu(x:Int)(n:Nat)(h:n<=32):call T 118 [.int .u32 x,.int .u64 n] [] 0=some ⟨.int .u32 (rr x n),[],[]⟩:=by
 rw[aj xsM];have e:aQ.wrap (32-(n:Int))=((32-n:Nat):Int):=by rw[bO];omega
 have C:min n 32=n:=by omega
 have y:min (32-n) 32=32-n:=by omega
 have E:(0:Int)<=((32-n:Nat):Int):=by omega
 simp only[go_sem,Qe,Qh,Qi,Qj,Qk,reduceCtorEq,reduceIte,e,C,y,E,rr]
theorem zr(x k:Int)(n:Nat)(h:n<=32)(E:cn .and .u64 (aQ.wrap k) 31=((32-n:Nat):Int)):call T 165 [.int .u32 x,.int .i64 k] [] 0=some ⟨.int .u32 (rr x n),[],[]⟩:=by
 rw[aj xsh];have e:aQ.wrap (32-((32-n:Nat):Int))=(n:Int):=by rw[bO];omega
 have C:min n 32=n:=by omega
 have y:min (32-n) 32=32-n:=by omega
 simp only[go_sem,Qe,Qh,Qi,Qj,Qk,reduceCtorEq,reduceIte,E,e,C,y,rr,sY]
theorem m24:min 24 32=24:=rfl
theorem m16:min 16 32=16:=rfl
theorem m8:min 8 32=8:=rfl
theorem m3:min 3 32=3:=rfl
theorem m10:min 10 32=10:=rfl
def wd(B:d9)(t:Nat):Int:=
 cn .or .u32 (cn .or .u32 (cn .or .u32 (dq.wrap (((B.getD (4*t) 0).toNat:Int)*2^24)) (dq.wrap (((B.getD (4*t+1) 0).toNat:Int)*2^16)))
  (dq.wrap (((B.getD (4*t+2) 0).toNat:Int)*2^8))) ((B.getD (4*t+3) 0).toNat:Int)
theorem xxI(B:d9)(t:Nat)(h:4*t+3<B.length)(O:B.length<=1000000000000):call T 164 [.byt B .no,.int .i64 t] [] 0=some ⟨.int .u32 (wd B t),[],[]⟩:=by
 rw[aj xsi];have y:af.wrap (4*(t:Int))=((4*t:Nat):Int):=wZ (by omega)
 have E:af.wrap (((4*t:Nat):Int)+1)=((4*t+1:Nat):Int):=wZ (by omega)
 have L:af.wrap (((4*t:Nat):Int)+2)=((4*t+2:Nat):Int):=wZ (by omega)
 have I:af.wrap (((4*t:Nat):Int)+3)=((4*t+3:Nat):Int):=wZ (by omega)
 have C:4*t<B.length:=by omega
 have F:4*t+1<B.length:=by omega
 have J:4*t+2<B.length:=by omega
 simp only[go_sem,Q2,Q3,Qe,Qh,Qi,Qj,Qk,reduceCtorEq,reduceIte,y,E,L,I,h,C,F,J,wd,m24,m16,m8]
theorem xx0(B:d9)(t:Nat)(h:4*t+3<B.length)(O:B.length<=1000000000000):call T 117 [.byt B .no,.int .i64 t] [] 0=some ⟨.int .u32 (wd B t),[],[]⟩:=by
 rw[aj xsN];have y:af.wrap (4*(t:Int))=((4*t:Nat):Int):=wZ (by omega)
 have E:af.wrap (((4*t:Nat):Int)+1)=((4*t+1:Nat):Int):=wZ (by omega)
 have L:af.wrap (((4*t:Nat):Int)+2)=((4*t+2:Nat):Int):=wZ (by omega)
 have I:af.wrap (((4*t:Nat):Int)+3)=((4*t+3:Nat):Int):=wZ (by omega)
 have C:4*t<B.length:=by omega
 have F:4*t+1<B.length:=by omega
 have J:4*t+2<B.length:=by omega
 simp only[go_sem,Q2,Q3,Qe,Qh,Qi,Qj,Qk,reduceCtorEq,reduceIte,y,E,L,I,h,C,F,J,wd,m24,m16,m8]
def nw(B:d9)(L:List Int)(t:Nat):Int:=
 if t<16 then wd B t else
  let x:=L.getD (t-15) 0
  let y:=L.getD (t-2) 0
  dq.wrap (dq.wrap (dq.wrap (cn .xor .u32 (cn .xor .u32 (rr y 17) (rr y 19)) (y.fdiv (2^10))+L.getD (t-7) 0)+
   cn .xor .u32 (cn .xor .u32 (rr x 7) (rr x 18)) (x.fdiv (2^3)))+L.getD (t-16) 0)
def Wl(B:d9):Nat->List Int
 |0=>aL 64 0
 |t+1=>(Wl B t).set t (nw B (Wl B t) t)
theorem xN(B:d9)(t:Nat):(Wl B t).length=64:=by
 induction t with
 |zero=>simp[Wl]
 |succ n h=>simp[Wl,h]
def ws(L:List Int):d8:=L.map fun x=> [.int .u32 x]
theorem gk(L:List Int):(ws L).length=L.length:=by simp[ws]
theorem dG(L:List Int)(i:Nat)(h:i<L.length):(ws L).getD i []=[.int .u32 (L.getD i 0)]:=by simp[ws,aa,aT,ac h]
theorem wS(L:List Int)(i:Nat)(x:Int):(ws L).set i [.int .u32 x]=ws (L.set i x):=by unfold ws;rw[List.map_set]
theorem Ll(n:Nat):aL n [SV.int .u32 0]=ws (aL n 0):=by unfold ws;rw[List.map_replicate]
theorem xrk(B:d9)(O:aH)(hB:B.length=64):∀(n t:Nat),64-t=n->t<=64->
 run T (.loop vB) ⟨[(0,.ptr 0 0),(1,.byt B .no),(4,.ptr 104 0),(17,.int .i64 t)],[(0,O),(104,.arr 1 (ws (Wl B t)))],[]⟩=
 some (.x 0,⟨[(0,.ptr 0 0),(4,.ptr 104 0)],[(0,O),(104,.arr 1 (ws (Wl B 64)))],[]⟩):=by
 intro n;induction n with
 |zero=>
  intro t h0 h1;have hi:t=64:=by omega
  subst hi;rw[ai];simp only[c64,go_sem,Q4,Q7,Qh,Qj,Qk,reduceCtorEq,reduceIte]
 |succ n ih=>
  intro t h0 h1;have h:=ih (t+1) (by omega) (by omega);have e1:=cg t (by omega);have C:(t:Int)<64:=by omega
  have hl:=xN B t;have hw:=gk (Wl B t);have hn:t<64:=by omega
  have hs:Wl B (t+1)=(Wl B t).set t (nw B (Wl B t) t):=rfl;rw[ai]
  by_cases h16:t<16
  ·have g:=xxI B t (by omega) (by omega)
   have y:(t:Int)<16:=by omega
   have hx:nw B (Wl B t) t=wd B t:=by unfold nw;rw[if_pos h16]
   rw[hs,hx]at h;simp only[go_sem,Q7,Qh,Qj,Qk,reduceCtorEq,reduceIte,C,y,e1,g,hl,hw,xtb,hn,wS,h]
  ·have y:¬(t:Int)<16:=by omega
   have L:af.wrap ((t:Int)-15)=((t-15:Nat):Int):=wZ (by omega)
   have a2:af.wrap ((t:Int)-2)=((t-2:Nat):Int):=wZ (by omega)
   have a7:af.wrap ((t:Int)-7)=((t-7:Nat):Int):=wZ (by omega)
   have Q:af.wrap ((t:Int)-16)=((t-16:Nat):Int):=wZ (by omega)
   have J:t-15<64:=by omega
   have b2:t-2<64:=by omega
   have b7:t-7<64:=by omega
   have F:t-16<64:=by omega
   have a1:=dG (Wl B t) (t-15) (by omega);have d2:=dG (Wl B t) (t-2) (by omega);have d7:=dG (Wl B t) (t-7) (by omega);have Z:=dG (Wl B t) (t-16) (by omega);have r7:=fun x=>zr x (-7) 7 (by omega) (by decide)
   have I:=fun x=>zr x (-18) 18 (by omega) (by decide)
   have E:=fun x=>zr x (-17) 17 (by omega) (by decide)
   have W:=fun x=>zr x (-19) 19 (by omega) (by decide)
   rw[hs]at h;unfold nw at h;rw[if_neg h16]at h;simp only[go_sem,Q2,Q3,Q7,Qb,Qc,Qd,Qh,Qj,Qk,reduceCtorEq,reduceIte,C,y,e1,hl,hw,xiI,hn,L,a2,a7,Q,J,b2,b7,F,a1,d2,d7,Z,r7,I,E,W,wS,m3,m10,h]
def Kl:List Int:=jP.map fun| .int _ x=>x|_=>0
theorem DG:Kl.length=64:=rfl
theorem oH:jP.length=64:=rfl
theorem xnY:jP=Kl.map (SV.int .u32):=rfl
theorem xnp{t:Nat}(h:t<64):(1<=(iD (t*1) jP).length)=True:=by refine eq_true ?_;rw[aG,oH];omega
theorem xnq{t:Nat}(h:t<64):(List.map SV.data (iD (t*1) jP)).getD 0 SV.undef= .int .u32 (Kl.getD t 0):=by
 rw[xnY,aa,aT,bz,aT,dp,ft,aa,
  ac (show t<Kl.length from h)]
 rfl
def rnd(k w:Int)(s:List Int):List Int:=
 let a:=s.getD 0 0
 let e:=s.getD 4 0
 let h:=dq.wrap (dq.wrap (dq.wrap (dq.wrap (s.getD 7 0+cn .xor .u32 (cn .xor .u32 (rr e 6) (rr e 11)) (rr e 25))+
  cn .xor .u32 (cn .and .u32 e (s.getD 5 0)) (cn .and .u32 (cn .xor .u32 (if dq.signed=true then-1 else dq.max) e) (s.getD 6 0)))+k)+w)
 let y:=dq.wrap (cn .xor .u32 (cn .xor .u32 (rr a 2) (rr a 13)) (rr a 22)+
  cn .xor .u32 (cn .xor .u32 (cn .and .u32 a (s.getD 1 0)) (cn .and .u32 a (s.getD 2 0))) (cn .and .u32 (s.getD 1 0) (s.getD 2 0)))
 [dq.wrap (h+y),a,s.getD 1 0,s.getD 2 0,dq.wrap (s.getD 3 0+h),e,s.getD 5 0,s.getD 6 0]
theorem ws8(a b c d e f g h:Int):ws [a,b,c,d,e,f,g,h]=[[.int .u32 a],[.int .u32 b],[.int .u32 c],[.int .u32 d],[.int .u32 e],[.int .u32 f],[.int .u32 g],[.int .u32 h]]:=rfl
def rounds(W:List Int)(h:List Int):Nat->List Int
 |0=>h
 |t+1=>rnd (Kl.getD t 0) (W.getD t 0) (rounds W h t)
theorem iV(W h:List Int)(y:h.length=8)(t:Nat):(rounds W h t).length=8:=by
 cases t<;>simp[rounds,rnd,y]
theorem n6(x:Int):call T 165 [.int .u32 x,.int .i64 (-6)] [] 0=some ⟨.int .u32 (rr x 6),[],[]⟩:=zr x (-6) 6 (by omega) (by decide)
theorem n11(x:Int):call T 165 [.int .u32 x,.int .i64 (-11)] [] 0=some ⟨.int .u32 (rr x 11),[],[]⟩:=zr x (-11) 11 (by omega) (by decide)
theorem n25(x:Int):call T 165 [.int .u32 x,.int .i64 (-25)] [] 0=some ⟨.int .u32 (rr x 25),[],[]⟩:=zr x (-25) 25 (by omega) (by decide)
theorem n2(x:Int):call T 165 [.int .u32 x,.int .i64 (-2)] [] 0=some ⟨.int .u32 (rr x 2),[],[]⟩:=zr x (-2) 2 (by omega) (by decide)
theorem n13(x:Int):call T 165 [.int .u32 x,.int .i64 (-13)] [] 0=some ⟨.int .u32 (rr x 13),[],[]⟩:=zr x (-13) 13 (by omega) (by decide)
theorem n22(x:Int):call T 165 [.int .u32 x,.int .i64 (-22)] [] 0=some ⟨.int .u32 (rr x 22),[],[]⟩:=zr x (-22) 22 (by omega) (by decide)
theorem xrj(W h:List Int)(O:aH)(I:W.length=64)(hh:h.length=8):∀(n t:Nat),64-t=n->t<=64->
 run T (.loop vz) ⟨[(0,.ptr 0 0),(4,.ptr 104 0),(10,.ptr 110 0),(70,.int .i64 t)],[(0,O),(104,.arr 1 (ws W)),(110,.arr 1 (ws (rounds W h t)))],[]⟩=
 some (.x 2,⟨[(0,.ptr 0 0),(10,.ptr 110 0)],[(0,O),(104,.arr 1 (ws W)),(110,.arr 1 (ws (rounds W h 64)))],[]⟩):=by
 intro n;induction n with
 |zero=>
  intro t h0 h1;have hi:t=64:=by omega
  subst hi;rw[ai];simp only[c64,go_sem,Q4,Q7,Qh,Qj,Qk,reduceCtorEq,reduceIte]
 |succ n ih=>
  intro t h0 h1;have y:=ih (t+1) (by omega) (by omega);have e1:=cg t (by omega);have C:(t:Int)<64:=by omega
  have hn:t<64:=by omega
  have hl:=iV W h hh t;have hw:=gk (rounds W h t);have E:=gk W;have hs:rounds W h (t+1)=rnd (Kl.getD t 0) (W.getD t 0) (rounds W h t):=rfl;rw[hs]at y;simp only[rnd,ws8]at y;generalize rounds W h t=s at*;have d0:=dG s 0 (by omega);have F:=dG s 1 (by omega);have Z:=dG s 2 (by omega);have J:=dG s 3 (by omega);have d4:=dG s 4 (by omega);have Q:=dG s 5 (by omega);have L:=dG s 6 (by omega);have d7:=dG s 7 (by omega);have dW:=dG W t (by omega);have dK:=dG Kl t (by rw[DG];exact hn);rw[ai];simp only[go_sem,Q2,Q3,Q4,Q7,Qb,Qc,Qd,Qe,Qg,Qh,Qi,Qj,Qk,reduceCtorEq,reduceIte,C,e1,hl,hw,E,I,xiI,hn,d0,F,Z,J,d4,Q,L,d7,dW,n6,n11,n25,n2,n13,n22,c8,c64,oH,xnp hn,xnq hn,y]
def Bo:List Int->List Int->List Int
 |x::l,y::r=>dq.wrap (x+y)::Bo l r
 |_,_=> []
theorem xri(h s:List Int)(P:aH)(C:h.length=8)(J:s.length=8):
 run T (.loop vy) ⟨[(0,.ptr 0 0),(10,.ptr 110 0),(152,.int .i64 0)],[(0,.arr 1 (ws h)),(104,P),(110,.arr 1 (ws s))],[]⟩=
 some (.x 4,⟨[],[(0,.arr 1 (ws (Bo h s))),(104,P),(110,.arr 1 (ws s))],[]⟩):=by
 match h,C with
 |[a0,a1,a2,a3,a4,a5,a6,a7],_=>match s,J with
  |[b0,b1,b2,b3,b4,b5,b6,b7],_=>
   have k1:af.wrap 1=1:=rfl;have k2:af.wrap 2=2:=rfl;have F:af.wrap 3=3:=rfl;have O:af.wrap 4=4:=rfl;have I:af.wrap 5=5:=rfl;have L:af.wrap 6=6:=rfl;have E:af.wrap 7=7:=rfl;have y:af.wrap 8=8:=rfl;simp only[ws8,Bo]
   iterate 9
    rw[ai];simp only[go_sem,Q2,Q3,Q4,Q8,Qb,Qc,Qd,Qe,Qh,Qj,Qk,reduceCtorEq,reduceIte,al,aA,c8,k1,k2,F,O,I,L,E,y]
def comp(h:List Int)(B:d9):List Int:=Bo h (rounds (Wl B 64) h 64)
theorem Lk(h s:List Int)(C:h.length<=s.length):(Bo h s).length=h.length:=by
 induction h generalizing s with
 |nil=>simp[Bo]
 |cons x l E=>
  cases s with
  |nil=>simp at C
  |cons y r=>simp only[Bo,al];rw[E r (by simpa using C)]
theorem sn(h:List Int)(B:d9)(y:h.length=8):(comp h B).length=8:=by unfold comp;rw[Lk _ _ (by rw[iV _ _ y,y];exact aJ 8),y]
theorem xxP(h:List Int)(B:d9)(y:h.length=8)(L:B.length=64):call T 144 [.ptr 0 0,.byt B .no] [.arr 1 (ws h)] 0=some ⟨.tup [],[(0,.arr 1 (ws (comp h B)))],[]⟩:=by
 have E:=xrk B (.arr 1 (ws h)) L _ 0 rfl (by omega);have C:=xrj (Wl B 64) h (.arr 1 (ws h)) (xN B 64) y _ 0 rfl (by omega);have F:=xri h (rounds (Wl B 64) h 64) (.arr 1 (ws (Wl B 64))) y (iV _ _ y 64);have I:Wl B 0=aL 64 0:=rfl;have J:rounds (Wl B 64) h 0=h:=rfl;rw[I,<-Ll]at E;rw[J]at C;simp only[ay]at E C;rw[aj xsv]
 match h,y with
 |[a0,a1,a2,a3,a4,a5,a6,a7],_=>simp only[ws8]at E C F;simp only[go_sem,Qe,Qg,Qh,Qi,Qj,Qk,reduceCtorEq,reduceIte,ws8,E,C,F,comp,cD,List.flatten_nil,aI,bJ,bi,aE,SV.data,List.take_succ_cons,List.take_zero,al,aA]
def zn(n:Nat):Nat:=(120-n % 64) % 64
theorem xrm(B:d9):∀(n:Nat)(h:d9),zn h.length=n->h.length+n<=100000000000000->
 run T (.loop Cm) ⟨[(0,.byt B .no),(3,.byt h (.id 103))],[],[103]⟩=
 some (.x 0,⟨[(0,.byt B .no),(3,.byt (h++aL n 0) (.id 103))],[],[103]⟩):=by
 intro n;induction n with
 |zero=>
  intro h C F;have E:h.length % 64=56:=by unfold zn at C;omega
  have hi:(h.length:Int).tmod 64=56:=by rw[fx (by omega)];omega
  rw[ai];simp only[go_sem,Q5,Qh,Qj,Qk,reduceCtorEq,reduceIte,hi,List.replicate_zero,bx]
 |succ n I=>
  intro h C F;have E:h.length % 64≠56:=by unfold zn at C;omega
  have hi:¬(h.length:Int).tmod 64=56:=by rw[fx (by omega)];omega
  have y:=I (h++ [0]) (by unfold zn at*;rw[ae,aF];omega) (by rw[ae,aF];omega);have J:h.length+1<=140737488355328:=by omega
  rw[az,dI,<-List.replicate_succ]at y;rw[ai];simp only[go_sem,Q5,Qe,Qh,Qi,Qj,Qk,reduceCtorEq,reduceIte,hi,J,y]
def iF(v:Int)(s:Nat):UInt8:=b8 (v.fdiv (2^s))
def be:Nat->Int->d9
 |0,_=> []
 |k+1,v=>iF v (8*k)::be k v
theorem gr(n:Nat)(v:Int):(be n v).length=n:=by induction n with
 |zero=>rfl
 |succ n h=>simp[be,h]
theorem xrl(v:Int):∀(k:Nat)(y:d9),k<=8->y.length+k<=100000000000000->
 run T (.loop vC) ⟨[(3,.byt y (.id 103)),(4,.int .u64 v),(5,.int .i64 (8*(k:Int)-8))],[],[103]⟩=
 some (.x 2,⟨[(3,.byt (y++be k v) (.id 103))],[],[103]⟩):=by
 intro k;induction k with
 |zero=>
  intro y I h;rw[ai];have E:¬(0:Int)<=8*((0:Nat):Int)-8:=by omega
  simp only[go_sem,Qh,Qj,Qk,reduceIte,E,be,bx]
 |succ k O=>
  intro y I h;have C:=O (y++ [iF v (8*k)]) (by omega) (by rw[ae,aF];omega);have c1:y.length+1<=140737488355328:=by omega
  have E:(0:Int)<=8*((k+1:Nat):Int)-8:=by omega
  have J:aQ.wrap (8*((k+1:Nat):Int)-8)=((8*k:Nat):Int):=by rw[bO];omega
  have L:af.wrap (8*((k+1:Nat):Int)-8-8)=8*(k:Int)-8:=wZ (by omega)
  have F:min (8*k) 64=8*k:=by omega
  rw[az,dI]at C;rw[ai];unfold iF at C;simp only[go_sem,Qe,Qh,Qi,Qj,Qk,reduceIte,c1,E,J,L,F,be,iF,C]
def iY(B:d9):d9:=B++128::(aL (zn (B.length+1)) 0++be 8 (aQ.wrap (aQ.wrap B.length*8)))
theorem rH(B:d9):(iY B).length=B.length+1+zn (B.length+1)+8:=by simp only[iY,ae,al,dJ,gr];omega
theorem yG(B:d9):(iY B).length % 64=0:=by rw[rH];unfold zn;omega
theorem xxR(B:d9)(h:B.length<=10000000000000):call T 141 [.byt B .no] [] 0=some ⟨.byt (iY B) .no,[],[]⟩:=by
 have hz:zn (B.length+1)<64:=by unfold zn;omega
 have F:=xrm B _ (B++ [128]) rfl (by simp;omega);have y:=xrl (aQ.wrap (aQ.wrap B.length*8)) 8 (B++128::aL (zn (B.length+1)) 0) (by omega) (by simp;omega);have E:8*((8:Nat):Int)-8=56:=rfl;rw[E]at y;rw[aj xsx];have e:af.wrap ((B.length:Int)+72)=((B.length+72:Nat):Int):=wZ (by omega)
 have c2:((B.length+72:Nat):Int)<=140737488355328:=by omega
 have C:B.length<=140737488355328:=by omega
 have c4:B.length+1<=140737488355328:=by omega
 simp only[go_sem,Q2,Q3,Qe,Qh,Qi,Qj,Qk,reduceCtorEq,reduceIte,e,F,y,c2,C,c4,iY]
theorem xro(B:d9):∀(n:Nat)(h:d9),zn h.length=n->h.length+n<=100000000000000->
 run T (.loop Cv) ⟨[(0,.byt B .no),(3,.byt h (.id 103))],[],[103]⟩=
 some (.x 0,⟨[(0,.byt B .no),(3,.byt (h++aL n 0) (.id 103))],[],[103]⟩):=by
 intro n;induction n with
 |zero=>
  intro h C F;have E:h.length % 64=56:=by unfold zn at C;omega
  have hi:(h.length:Int).tmod 64=56:=by rw[fx (by omega)];omega
  rw[ai];simp only[go_sem,Q5,Qh,Qj,Qk,reduceCtorEq,reduceIte,hi,List.replicate_zero,bx]
 |succ n I=>
  intro h C F;have E:h.length % 64≠56:=by unfold zn at C;omega
  have hi:¬(h.length:Int).tmod 64=56:=by rw[fx (by omega)];omega
  have y:=I (h++ [0]) (by unfold zn at*;rw[ae,aF];omega) (by rw[ae,aF];omega);have J:h.length+1<=140737488355328:=by omega
  rw[az,dI,<-List.replicate_succ]at y;rw[ai];simp only[go_sem,Q5,Qe,Qh,Qi,Qj,Qk,reduceCtorEq,reduceIte,hi,J,y]
theorem xrn(v:Int):∀(k:Nat)(y:d9),k<=8->y.length+k<=100000000000000->
 run T (.loop vG) ⟨[(3,.byt y (.id 103)),(4,.int .u64 v),(5,.int .i64 ((k:Int)-1))],[],[103]⟩=
 some (.x 2,⟨[(3,.byt (y++be k v) (.id 103))],[],[103]⟩):=by
 intro k;induction k with
 |zero=>
  intro y J h;rw[ai];have E:¬(0:Int)<=((0:Nat):Int)-1:=by omega
  simp only[go_sem,Qh,Qj,Qk,reduceIte,E,be,bx]
 |succ k Q=>
  intro y J h;have C:=Q (y++ [iF v (8*k)]) (by omega) (by rw[ae,aF];omega);have c1:y.length+1<=140737488355328:=by omega
  have E:(0:Int)<=((k+1:Nat):Int)-1:=by omega
  have L:aQ.wrap (((k+1:Nat):Int)-1)=(k:Int):=by rw[bO];omega
  have F:aQ.wrap (8*(k:Int))=((8*k:Nat):Int):=by rw[bO];omega
  have O:af.wrap (((k+1:Nat):Int)-1-1)=(k:Int)-1:=wZ (by omega)
  have I:min (8*k) 64=8*k:=by omega
  rw[az,dI]at C;rw[ai];unfold iF at C;simp only[go_sem,Qe,Qh,Qi,Qj,Qk,reduceIte,c1,E,L,F,O,I,be,iF,C]
theorem xx1(B:d9)(h:B.length<=10000000000000):call T 116 [.byt B .no] [] 0=some ⟨.byt (iY B) .no,[],[]⟩:=by
 have hz:zn (B.length+1)<64:=by unfold zn;omega
 have F:=xro B _ (B++ [128]) rfl (by simp;omega);have y:=xrn (aQ.wrap (aQ.wrap B.length*8)) 8 (B++128::aL (zn (B.length+1)) 0) (by omega) (by simp;omega);have C:((8:Nat):Int)-1=7:=rfl;rw[C]at y;rw[aj xsO];have E:B.length<=140737488355328:=by omega
 have c4:B.length+1<=140737488355328:=by omega
 simp only[go_sem,Qe,Qh,Qi,Qj,Qk,reduceCtorEq,reduceIte,F,y,E,c4,iY]
def w4(x:Int):d9:=[iF x 24,iF x 16,iF x 8,b8 x]
def sp(h:List Int):d9:=h.flatMap w4
theorem xkR(h:List Int):(sp h).length=4*h.length:=by
 induction h with
 |nil=>rfl
 |cons x l y=>simp only[sp,eo,ae,w4,al,aA]at*;omega
theorem d0(h:List Int)(i:Nat)(hi:i<h.length):h.drop i=h.getD i 0::h.drop (i+1):=uG h i hi
theorem xw3(h:List Int)(W:h.length<=1000000000000):∀(n i:Nat)(y:d9),h.length-i=n->i<=h.length->y.length=4*i->
 run T (.loop Cl) ⟨[(3,.byt y (.id 103)),(10,.lst 1 (ws h) .no),(11,.int .i64 h.length),(12,.int .i64 i)],[],[103]⟩=
 some (.x 0,⟨[(3,.byt (y++sp (h.drop i)) (.id 103))],[],[103]⟩):=by
 intro n;induction n with
 |zero=>
  intro i y F J L;have hi:i=h.length:=by omega
  subst hi;rw[ai];simp only[go_sem,Qh,Qj,Qk,reduceIte,bw,sp,fV,bx]
 |succ n O=>
  intro i y F J L;have hi:i<h.length:=by omega
  have I:=cg i (by omega);have C:=O (i+1) (y++w4 (h.getD i 0)) (by omega) (by omega) (by simp[w4];omega);have Q:=dG h i hi;have E:=gk h;have c1:y.length+4<=140737488355328:=by omega
  rw[ai];rw[az]at C;simp only[w4,iF]at C;simp only[go_sem,Q2,Q3,Qe,Qh,Qi,Qj,Qk,reduceCtorEq,reduceIte,hi,Q,E,I,c1,m24,m16,m8,C,d0 h i hi,sp,eo,w4,iF]
theorem xxQ(h:List Int)(C:h.length<=1000000000000):call T 143 [.lst 1 (ws h) .no] [] 0=some ⟨.byt (sp h) .no,[],[]⟩:=by
 have g:=xw3 h C _ 0 [] rfl (by omega) rfl;have y:=gk h;rw[aj xsw];have e:af.wrap (4*(h.length:Int))=((4*h.length:Nat):Int):=wZ (by omega)
 have c2:((4*h.length:Nat):Int)<=140737488355328:=by omega
 simp only[ay,aW,aE]at g;simp only[go_sem,Q2,Q3,Qe,Qh,Qi,Qj,Qk,reduceCtorEq,reduceIte,e,y,c2,g]
theorem xxa(h:List Int)(W:h.length<=1000000000000):∀(n i:Nat)(y:d9),h.length-i=n->i<=h.length->y.length=4*i->
 run T (.loop Ct) ⟨[(0,.lst 1 (ws h) .no),(3,.byt y (.id 103)),(4,.int .i64 i)],[],[103]⟩=
 some (.x 0,⟨[(3,.byt (y++sp (h.drop i)) (.id 103))],[],[103]⟩):=by
 intro n;induction n with
 |zero=>
  intro i y F J L;have hi:i=h.length:=by omega
  have E:=gk h;subst hi;rw[ai];simp only[go_sem,Qh,Qj,Qk,reduceCtorEq,reduceIte,E,bw,sp,fV,bx]
 |succ n O=>
  intro i y F J L;have hi:i<h.length:=by omega
  have I:=cg i (by omega);have C:=O (i+1) (y++w4 (h.getD i 0)) (by omega) (by omega) (by simp[w4];omega);have Q:=dG h i hi;have E:=gk h;have c1:y.length+4<=140737488355328:=by omega
  rw[ai];rw[az]at C;simp only[w4,iF]at C;simp only[go_sem,Q2,Q3,Qb,Qc,Qd,Qe,Qh,Qi,Qj,Qk,reduceCtorEq,reduceIte,hi,Q,E,I,c1,m24,m16,m8,C,d0 h i hi,sp,eo,w4,iF]
theorem xxZ(h:List Int)(y:h.length<=1000000000000):call T 119 [.lst 1 (ws h) .no] [] 0=some ⟨.byt (sp h) .no,[],[]⟩:=by have g:=xxa h y _ 0 [] rfl (by omega) rfl;have C:=gk h;rw[aj xsL];simp only[ay,aW,aE]at g;simp only[go_sem,Qh,Qi,Qj,Qk,reduceCtorEq,reduceIte,g]
def fN(h:List Int)(X:d9):Nat->List Int
 |0=>h
 |n+1=>fN (comp h (X.take 64)) (X.drop 64) n
theorem mL(n:Nat):∀(h:List Int)(X:d9),h.length=8->(fN h X n).length=8:=by
 induction n with
 |zero=>intro h X y;exact y
 |succ n C=>intro h X y;exact C _ _ (sn h _ y)
def H0:List Int:=[1779033703,3144134277,1013904242,2773480762,1359893119,2600822924,528734635,1541459225]
def sha(B:d9):d9:=sp (fN H0 (iY B) ((iY B).length/64))
theorem ir(B:d9):(sha B).length=32:=by unfold sha;rw[xkR,mL _ _ _ rfl]
theorem xxg:∀(n:Nat)(h:List Int)(X:d9),h.length=8->X.length=64*n->X.length<=1000000000000->
 run T (.loop vH) ⟨[(7,.ptr 107 0),(8,.byt X .no)],[(107,.arr 1 (ws h))],[]⟩=
 some (.x 3,⟨[(7,.ptr 107 0)],[(107,.arr 1 (ws (fN h X n)))],[]⟩):=by
 intro n;induction n with
 |zero=>
  intro h X y hX E;rw[ai];have F:¬(0:Int)<X.length:=by omega
  simp only[go_sem,Qh,Qj,Qk,reduceIte,F,fN]
 |succ n L=>
  intro h X y hX E;have C:=L (comp h (X.take 64)) (X.drop 64) (sn h _ y) (by rw[aG];omega) (by rw[aG];omega);have g:=xxP h (X.take 64) y (by rw[aq];omega);have I:(0:Int)<X.length:=by omega
  have J:(64:Int)<=X.length:=by omega
  have O:64<=X.length:=by omega
  rw[ai];simp only[go_sem,Q2,Q3,Qe,Qg,Qh,Qi,Qj,Qk,reduceIte,I,J,g,xtd,dA,C,fN]
theorem xvj(B:d9)(O:B.length<=100000000000):call T 103 [.int .i64 1,.byt B .no] [] 0=some ⟨.byt (sha B) .no,[],[]⟩:=by
 have g0:=xxR B (by omega);have J:=rH B;have hz:zn (B.length+1)<64:=by unfold zn;omega
 have L:=yG B;have C:=xxg ((iY B).length/64) H0 (iY B) rfl (by omega) (by omega);have h:=mL ((iY B).length/64) H0 (iY B) rfl;have F:=xxQ (fN H0 (iY B) ((iY B).length/64)) (by omega);have y:=gk (fN H0 (iY B) ((iY B).length/64));have E:ws H0=[[.int .u32 1779033703],[.int .u32 3144134277],[.int .u32 1013904242],[.int .u32 2773480762],[.int .u32 1359893119],[.int .u32 2600822924],[.int .u32 528734635],[.int .u32 1541459225]]:=rfl;rw[E]at C;rw[aj xsX];unfold sha;generalize fN H0 (iY B) ((iY B).length/64)=b at*;have I:eT 8 (ws b)=ws b:=aV (by rw[y,h];exact aJ 8);simp only[go_sem,Q2,Q3,Q5,Qe,Qf,Qg,Qh,Qi,Qj,Qk,reduceCtorEq,reduceIte,g0,C,F,xtf,xte,y,h,c8,I]
theorem xx2:call T 115 [] [] 0=some ⟨.agg jP,[],[]⟩:=by rw[aj xsP];simp only[go_sem,Qe,Qg,Qi,Qj,Qk,reduceCtorEq,reduceIte];rfl
def bk(X:d9)(a:Nat):d9:=iD a (eT (a+64) X)
theorem Uq(X:d9)(a:Nat)(h:a+64<=X.length):(bk X a).length=64:=by unfold bk;rw[aG,aq];omega
theorem xrW(X:d9)(a:Nat):bk X a=(X.drop a).take 64:=by unfold bk;rw[fY];congr 1;omega
theorem rq7(x:Int):call T 118 [.int .u32 x,.int .u64 7] [] 0=some ⟨.int .u32 (rr x 7),[],[]⟩:=zu x 7 (by omega)
theorem xwe(x:Int):call T 118 [.int .u32 x,.int .u64 18] [] 0=some ⟨.int .u32 (rr x 18),[],[]⟩:=zu x 18 (by omega)
theorem xwf(x:Int):call T 118 [.int .u32 x,.int .u64 17] [] 0=some ⟨.int .u32 (rr x 17),[],[]⟩:=zu x 17 (by omega)
theorem xwd(x:Int):call T 118 [.int .u32 x,.int .u64 19] [] 0=some ⟨.int .u32 (rr x 19),[],[]⟩:=zu x 19 (by omega)
theorem rq6(x:Int):call T 118 [.int .u32 x,.int .u64 6] [] 0=some ⟨.int .u32 (rr x 6),[],[]⟩:=zu x 6 (by omega)
theorem xwh(x:Int):call T 118 [.int .u32 x,.int .u64 11] [] 0=some ⟨.int .u32 (rr x 11),[],[]⟩:=zu x 11 (by omega)
theorem xwb(x:Int):call T 118 [.int .u32 x,.int .u64 25] [] 0=some ⟨.int .u32 (rr x 25),[],[]⟩:=zu x 25 (by omega)
theorem rq2(x:Int):call T 118 [.int .u32 x,.int .u64 2] [] 0=some ⟨.int .u32 (rr x 2),[],[]⟩:=zu x 2 (by omega)
theorem xwg(x:Int):call T 118 [.int .u32 x,.int .u64 13] [] 0=some ⟨.int .u32 (rr x 13),[],[]⟩:=zu x 13 (by omega)
theorem xwc(x:Int):call T 118 [.int .u32 x,.int .u64 22] [] 0=some ⟨.int .u32 (rr x 22),[],[]⟩:=zu x 22 (by omega)
theorem xwG(X:d9)(a:Nat)(h:List Int)(Z:a+64<=X.length)(hX:X.length<=1000000000000):∀(n t:Nat),64-t=n->t<=64->
 run T (.loop BR) ⟨[(3,.ptr 103 0),(4,.psl 119 1 0 8 (some 8)),(5,.byt X .no),(6,.int .i64 a),(7,.ptr 107 0),(8,.int .i64 t)],[(103,.arr 1 (ws Kl)),(107,.arr 1 (ws (Wl (bk X a) t))),(119,.arr 1 (ws h))],[]⟩=
 some (.x 2,⟨[(3,.ptr 103 0),(4,.psl 119 1 0 8 (some 8)),(5,.byt X .no),(6,.int .i64 a),(7,.ptr 107 0)],[(103,.arr 1 (ws Kl)),(107,.arr 1 (ws (Wl (bk X a) 64))),(119,.arr 1 (ws h))],[]⟩):=by
 intro n;induction n with
 |zero=>
  intro t h0 h1;have hi:t=64:=by omega
  subst hi;rw[ai];simp only[c64,go_sem,Q4,Qh,Qj,Qk,reduceIte]
 |succ n ih=>
  intro t h0 h1;have y:=ih (t+1) (by omega) (by omega);have e1:=cg t (by omega);have E:(t:Int)<64:=by omega
  have hl:=xN (bk X a) t;have hw:=gk (Wl (bk X a) t);have hn:t<64:=by omega
  have hs:Wl (bk X a) (t+1)=(Wl (bk X a) t).set t (nw (bk X a) (Wl (bk X a) t) t):=rfl;have a1:af.wrap ((a:Int)+64)=((a+64:Nat):Int):=wZ (by omega)
  have a3:a<=a+64:=by omega
  rw[ai]
  by_cases h16:t<16
  ·have g:=xx0 (bk X a) t (by rw[Uq X a Z];omega) (by rw[Uq X a Z];omega)
   have C:(t:Int)<16:=by omega
   have hx:nw (bk X a) (Wl (bk X a) t) t=wd (bk X a) t:=by unfold nw;rw[if_pos h16]
   rw[hs,hx]at y;generalize hb:Wl (bk X a) t=L at*;generalize hc:wd (bk X a) t=z at*;unfold bk at g;simp only[go_sem,Qh,Qj,Qk,reduceIte,E,C,e1,a1,Z,a3,g,hl,hw,xth,hn,wS,y]
  ·have C:¬(t:Int)<16:=by omega
   have J:af.wrap ((t:Int)-15)=((t-15:Nat):Int):=wZ (by omega)
   have a2:af.wrap ((t:Int)-2)=((t-2:Nat):Int):=wZ (by omega)
   have a7:af.wrap ((t:Int)-7)=((t-7:Nat):Int):=wZ (by omega)
   have O:af.wrap ((t:Int)-16)=((t-16:Nat):Int):=wZ (by omega)
   have I:t-15<64:=by omega
   have b2:t-2<64:=by omega
   have b7:t-7<64:=by omega
   have F:t-16<64:=by omega
   rw[hs]at y;unfold nw at y;rw[if_neg h16]at y;generalize hb:Wl (bk X a) t=L at*;have W:=dG L (t-15) (by omega);have d2:=dG L (t-2) (by omega);have d7:=dG L (t-7) (by omega);have Q:=dG L (t-16) (by omega);simp only[go_sem,Q2,Q3,Qb,Qc,Qd,Qh,Qj,Qk,reduceCtorEq,reduceIte,E,C,e1,hl,hw,xi1,hn,J,a2,a7,O,I,b2,b7,F,W,d2,d7,Q,rq7,xwe,xwf,xwd,wS,m3,m10,y]
theorem xwF(X:d9)(a:Nat)(W h:List Int)(O:aH)(L:W.length=64)(hh:h.length=8):∀(n t:Nat)(q:Tok),64-t=n->t<=64->
 run T (.loop BQ) ⟨[(3,.ptr 103 0),(4,.psl 119 1 0 8 (some 8)),(5,.byt X .no),(6,.int .i64 a),(7,.ptr 107 0),(11,.lst 1 (ws (rounds W h t)) q),(12,.int .i64 t)],[(103,.arr 1 (ws Kl)),(107,.arr 1 (ws W)),(119,O)],[194]⟩=
 some (.x 4,⟨[(3,.ptr 103 0),(4,.psl 119 1 0 8 (some 8)),(5,.byt X .no),(6,.int .i64 a),(11,.lst 1 (ws (rounds W h 64)) (if t=64 then q else .clip))],[(103,.arr 1 (ws Kl)),(107,.arr 1 (ws W)),(119,O)],[194]⟩):=by
 intro n;induction n with
 |zero=>
  intro t q h0 h1;have hi:t=64:=by omega
  subst hi;rw[ai];simp only[c64,go_sem,Q4,Qh,Qj,Qk,reduceIte]
 |succ n ih=>
  intro t q h0 h1;have y:=ih (t+1) .clip (by omega) (by omega);have e1:=cg t (by omega);have C:(t:Int)<64:=by omega
  have hn:t<64:=by omega
  have F:t≠64:=by omega
  have hl:=iV W h hh t;have hw:=gk (rounds W h t);have E:=gk W;have I:=gk Kl;have hk:=DG;have hs:rounds W h (t+1)=rnd (Kl.getD t 0) (W.getD t 0) (rounds W h t):=rfl;rw[hs]at y;simp only[rnd,ws8]at y;rw[ite_self]at y;generalize rounds W h t=s at*;have d0:=dG s 0 (by omega);have J:=dG s 1 (by omega);have d2:=dG s 2 (by omega);have Q:=dG s 3 (by omega);have d4:=dG s 4 (by omega);have d5:=dG s 5 (by omega);have Z:=dG s 6 (by omega);have d7:=dG s 7 (by omega);have dW:=dG W t (by omega);have dK:=dG Kl t (by rw[DG];exact hn);rw[ai];simp only[go_sem,Q2,Q3,Q4,Q7,Qb,Qc,Qd,Qh,Qj,Qk,reduceCtorEq,reduceIte,C,e1,hl,hw,E,I,hk,L,xi1,hn,F,d0,J,d2,Q,d4,d5,Z,d7,dW,dK,rq6,xwh,xwb,rq2,xwg,xwc,c8,c64,y]
theorem xwE(X:d9)(a:Nat)(h s:List Int)(P Q:aH)(C:h.length=8)(J:s.length=8):
 run T (.loop BO) ⟨[(3,.ptr 103 0),(4,.psl 119 1 0 8 (some 8)),(5,.byt X .no),(6,.int .i64 a),(11,.lst 1 (ws s) .clip),(17,.int .i64 0)],[(103,P),(107,Q),(119,.arr 1 (ws h))],[194]⟩=
 some (.x 6,⟨[(3,.ptr 103 0),(4,.psl 119 1 0 8 (some 8)),(5,.byt X .no),(6,.int .i64 a)],[(103,P),(107,Q),(119,.arr 1 (ws (Bo h s)))],[194]⟩):=by
 match h,C with
 |[a0,a1,a2,a3,a4,a5,a6,a7],_=>match s,J with
  |[b0,b1,b2,b3,b4,b5,b6,b7],_=>
   have k1:af.wrap 1=1:=rfl;have k2:af.wrap 2=2:=rfl;have F:af.wrap 3=3:=rfl;have O:af.wrap 4=4:=rfl;have I:af.wrap 5=5:=rfl;have L:af.wrap 6=6:=rfl;have E:af.wrap 7=7:=rfl;have y:af.wrap 8=8:=rfl;simp only[ws8,Bo]
   iterate 9
    rw[ai];simp only[go_sem,Q2,Q3,Q4,Q8,Qb,Qc,Qd,Qe,Qh,Qj,Qk,reduceIte,al,aA,c8,k1,k2,F,O,I,L,E,y]
theorem l68(X:d9)(hX:X.length<=1000000000000):∀(n a:Nat)(h:List Int),h.length=8->X.length=a+64*n->
 run T (.loop BN) ⟨[(3,.ptr 103 0),(4,.psl 119 1 0 8 (some 8)),(5,.byt X .no),(6,.int .i64 a)],[(103,.arr 1 (ws Kl)),(119,.arr 1 (ws h))],[]⟩=
 some (.x 0,⟨[(4,.psl 119 1 0 8 (some 8))],[(103,.arr 1 (ws Kl)),(119,.arr 1 (ws (fN h (X.drop a) n)))],[]⟩):=by
 intro n;induction n with
 |zero=>
  intro a h y O;rw[ai];have I:¬(a:Int)<X.length:=by omega
  simp only[go_sem,Qh,Qj,Qk,reduceIte,I,fN]
 |succ n ih=>
  intro a h y O;have C:=ih (a+64) (comp h (bk X a)) (sn h _ y) (by omega);have I:(a:Int)<X.length:=by omega
  have Z:af.wrap ((a:Int)+64)=((a+64:Nat):Int):=wZ (by omega)
  have F:=xwG X a h (by omega) hX _ 0 rfl (by omega);have J:=xwF X a (Wl (bk X a) 64) h (.arr 1 (ws h)) (xN _ 64) y _ 0 (.id 194) rfl (by omega);have g3:=xwE X a h (rounds (Wl (bk X a) 64) h 64) (.arr 1 (ws Kl)) (.arr 1 (ws (Wl (bk X a) 64))) y (iV _ _ y 64);have Q:Wl (bk X a) 0=aL 64 0:=rfl;have hr:rounds (Wl (bk X a) 64) h 0=h:=rfl;have hz:¬(0:Nat)=64:=by omega
  have E:=gk h;rw[Q,<-Ll]at F;rw[hr,if_neg hz]at J;simp only[ay]at F J
  have L:fN h (X.drop a) (n+1)=fN (comp h (bk X a)) (X.drop (a+64)) n:=by rw[fN,xrW,List.drop_drop]
  rw[L,ai];unfold comp at C ⊢;have W:eT 8 (ws h)=ws h:=aV (by rw[E,y];exact aJ 8);simp only[go_sem,Qe,Qg,Qh,Qi,Qj,Qk,reduceCtorEq,reduceIte,I,Z,F,J,g3,E,y,W,C]
  trace_state
attribute [-go_sem] kG
theorem f68(B:d9)(hB:B.length<=100000000000):call T 68 [.byt B .no] [] 0=some ⟨.byt (sha B) .no,[],[]⟩:=by
 have J:=xx2;have g0:=xx1 B (by omega);have ck:kG 1 64 (List.map SV.data jP)=ws Kl:=rfl;have I:jP.all SV.isData=true:=rfl;have E:=oH;have O:SV.purgeL 103 104 jP=jP:=rfl;have L:SV.idsL jP=[]:=rfl;have F:SV.toksL jP=[]:=rfl;have hl:=rH B;have hz:zn (B.length+1)<64:=by unfold zn;omega
 have hm:=yG B;have h:=l68 (iY B) (by omega) ((iY B).length/64) 0 H0 rfl (by omega);have y:=mL ((iY B).length/64) H0 (iY B) rfl;have Q:=xxZ (fN H0 (iY B) ((iY B).length/64)) (by omega);have C:=gk (fN H0 (iY B) ((iY B).length/64));have W:ws H0=[[.int .u32 1779033703],[.int .u32 3144134277],[.int .u32 1013904242],[.int .u32 2773480762],[.int .u32 1359893119],[.int .u32 2600822924],[.int .u32 528734635],[.int .u32 1541459225]]:=rfl;rw[W]at h;simp only[ay,aW]at h;unfold sha;generalize fN H0 (iY B) ((iY B).length/64)=b at*;have Z:eT 8 (ws b)=ws b:=aV (by rw[C,y];exact aJ 8);rw[aj xyK];simp only[go_sem,Qe,Qg,Qh,Qi,Qj,Qk,reduceCtorEq,reduceIte,J,g0,xti,xtj,L,F,List.isEmpty,ck,I,E,O,Q,h,xtg,C,y,Z]
attribute [go_sem] kG
theorem xxh(v:Int):∀(k:Nat)(y:d9),k<=8->y.length+k<=100000000000000->
 run T (.loop CG) ⟨[(2,.int .i64 v),(7,.byt y (.id 107)),(8,.int .i64 ((k:Int)-1))],[],[107]⟩=
 some (.x 0,⟨[(7,.byt (y++be k (aQ.wrap v)) (.id 107))],[],[107]⟩):=by
 intro k;induction k with
 |zero=>
  intro y L h;rw[ai];have F:¬(0:Int)<=((0:Nat):Int)-1:=by omega
  simp only[go_sem,Qh,Qj,Qk,reduceIte,F,be,bx]
 |succ k W=>
  intro y L h;have C:=W (y++ [iF (aQ.wrap v) (8*k)]) (by omega) (by rw[ae,aF];omega);have c1:y.length+1<=140737488355328:=by omega
  have F:(0:Int)<=((k+1:Nat):Int)-1:=by omega
  have Z:aQ.wrap (((k+1:Nat):Int)-1)=(k:Int):=by rw[bO];omega
  have I:af.wrap (8*(((k+1:Nat):Int)-1))=((8*k:Nat):Int):=wZ (by omega)
  have E:aQ.wrap (((8*k:Nat):Int))=((8*k:Nat):Int):=by rw[bO];omega
  have O:aQ.wrap (8*(k:Int))=((8*k:Nat):Int):=by rw[bO];omega
  have Q:af.wrap (((k+1:Nat):Int)-1-1)=(k:Int)-1:=wZ (by omega)
  have J:min (8*k) 64=8*k:=by omega
  rw[az,dI]at C;rw[ai];unfold iF at C;simp only[go_sem,Qe,Qh,Qi,Qj,Qk,reduceIte,c1,F,I,E,Q,J,be,iF,C]
theorem xvk(B:d9)(k:Nat)(v:Int)(C:1<=k)(h:k<=8)(E:B.length<=10000000000000):
 call T 101 [.byt B .no,.int .i64 k,.int .i64 v] [] 0=some ⟨.byt (B++be k (aQ.wrap v)) (.id 60),[],[60]⟩:=by
 have g:=xxh v k B h (by omega);have c1:¬(k:Int)<1:=by omega
 have c2:¬(8:Int)<k:=by omega
 have y:af.wrap ((k:Int)-1)=(k:Int)-1:=w64 (by omega) (by omega);have c4:B.length<=140737488355328:=by omega
 rw[aj xsZ];simp only[go_sem,Qe,Qh,Qi,Qj,Qk,reduceCtorEq,reduceIte,c1,c2,y,c4,g]
theorem l64(v:Int):∀(k:Nat)(y:d9),k<=8->y.length+k<=100000000000000->
 run T (.loop U6) ⟨[(2,.int .i64 v),(7,.byt y (.id 107)),(8,.int .i64 ((k:Int)-1))],[],[107]⟩=
 some (.x 0,⟨[(7,.byt (y++be k (aQ.wrap v)) (.id 107))],[],[107]⟩):=by
 intro k;induction k with
 |zero=>
  intro y J h;rw[ai];have F:¬(0:Int)<=((0:Nat):Int)-1:=by omega
  simp only[go_sem,Qh,Qj,Qk,reduceIte,F,be,bx]
 |succ k Q=>
  intro y J h;have C:=Q (y++ [iF (aQ.wrap v) (8*k)]) (by omega) (by rw[ae,aF];omega);have c1:y.length+1<=140737488355328:=by omega
  have F:(0:Int)<=((k+1:Nat):Int)-1:=by omega
  have L:aQ.wrap (((k+1:Nat):Int)-1)=(k:Int):=by rw[bO];omega
  have E:aQ.wrap (8*(k:Int))=((8*k:Nat):Int):=by rw[bO];omega
  have O:af.wrap (((k+1:Nat):Int)-1-1)=(k:Int)-1:=wZ (by omega)
  have I:min (8*k) 64=8*k:=by omega
  rw[az,dI]at C;rw[ai];unfold iF at C;simp only[go_sem,Qe,Qh,Qi,Qj,Qk,reduceIte,c1,F,L,E,O,I,be,iF,C]
theorem f64(B:d9)(k:Nat)(v:Int)(C:1<=k)(h:k<=8)(E:B.length<=10000000000000):
 call T 64 [.byt B .no,.int .i64 k,.int .i64 v] [] 0=some ⟨.byt (B++be k (aQ.wrap v)) (.id 60),[],[60]⟩:=by
 have g:=l64 v k B h (by omega);have c1:¬(k:Int)<1:=by omega
 have c2:¬(8:Int)<k:=by omega
 have y:af.wrap ((k:Int)-1)=(k:Int)-1:=w64 (by omega) (by omega);have c4:B.length<=140737488355328:=by omega
 rw[aj xyM];simp only[go_sem,Qe,Qh,Qi,Qj,Qk,reduceCtorEq,reduceIte,c1,c2,y,c4,g]
def jJ(B X:d9):d9:=B++be 2 (aQ.wrap (X.take 65535).length)++X.take 65535
theorem f63(B X:d9)(F:B.length<=1000000000000)(hX:X.length<=1000000000000):call T 63 [.byt B .no,.byt X .no] [] 0=some ⟨.byt (jJ B X) (.id 60),[],[60]⟩:=by
 have g:=f64 B 2 (X.take 65535).length (by omega) (by omega) (by omega);rw[c2]at g;rw[aj xyN];have E:(X.take 65535).length<=65535:=by rw[aq];omega
 have c4:(B++be 2 (aQ.wrap (X.take 65535).length)).length+(X.take 65535).length<=140737488355328:=by rw[ae,gr];omega
 by_cases h:(65535:Int)<X.length
 ·have C:(65535:Int)<=X.length:=by omega
  have I:65535<=X.length:=by omega
  simp only[ae]at c4;simp only[go_sem,Q2,Q3,Qe,Qg,Qh,Qi,Qj,Qk,reduceCtorEq,reduceIte,h,C,g,Gv,jJ,c4,az]
 ·have y:X.take 65535=X:=aV (by omega)
  rw[y]at g c4;simp only[ae]at c4;simp only[go_sem,Q2,Q3,Qe,Qg,Qh,Qi,Qj,Qk,reduceCtorEq,reduceIte,h,g,Gv,jJ,y,c4,az]
theorem xoi(B X:d9)(L:B.length<=1000000000000)(hX:X.length<=1000000000000):call T 102 [.byt B .no,.byt X .no] [] 0=some ⟨.byt (jJ B X) (.id 60),[],[60]⟩:=by
 have g:=xvk B 2 (X.take 65535).length (by omega) (by omega) (by omega);rw[c2]at g;rw[aj xsY];have I:(X.take 65535).length<=65535:=by rw[aq];omega
 have c4:(B++be 2 (aQ.wrap (X.take 65535).length)).length+(X.take 65535).length<=140737488355328:=by rw[ae,gr];omega
 simp only[ae]at c4
 by_cases h:(65535:Int)<X.length
 ·have E:min (X.length:Int) 65535=65535:=by omega
  have F:(65535:Int)<=X.length:=by omega
  have J:65535<=X.length:=by omega
  simp only[go_sem,Q2,Q3,Qe,Qg,Qh,Qi,Qj,Qk,reduceCtorEq,reduceIte,h,F,g,ma,jJ,c4,az]
 ·have E:min (X.length:Int) 65535=X.length:=by omega
  have C:X.take 65535=X:=aV (by omega);have y:X.take X.length=X:=dA;rw[C]at g c4;simp only[go_sem,Q2,Q3,Qe,Qg,Qh,Qi,Qj,Qk,reduceCtorEq,reduceIte,h,y,g,ma,jJ,C,c4,az]
def frame(t:Int)(X:d9):d9:=b8 t::(w4 (X.length:Int)++X)
theorem xx6(t:Int)(X:d9)(hX:X.length<=1000000000):call T 104 [.int .i64 t,.lst 1 [[.byt X .no]] .no] [] 0=some ⟨.byt (frame t X) .no,[],[]⟩:=by
 have k1:af.wrap 1=1:=rfl;have h:dq.wrap (X.length:Int)=X.length:=by rw[IntKind.wrap_u32];omega
 have c4:1+4+X.length<=140737488355328:=by omega
 have y:5+X.length<=140737488355328:=by omega
 rw[aj xio];simp only[go_sem,Qe,Qh,Qi,Qj,Qk,reduceCtorEq,reduceIte,al,aA,c1];rw[ai];simp only[go_sem,Q2,Q3,Q4,Q8,Qe,Qh,Qi,Qj,Qk,reduceCtorEq,reduceIte,al,aA,c1,k1,h,m24,m16,m8,c4];rw[ai];simp only[go_sem,Q4,Qh,Qj,Qk,reduceIte,frame,w4,iF]
 trace_state
theorem xx3(t:Int)(X:d9)(hX:X.length<=1000000000):call T 109 [.int .i64 t,.lst 1 [[.byt X .no]] .no] [] 0=some ⟨.byt (frame t X) .no,[],[]⟩:=by
 have k1:af.wrap 1=1:=rfl;have c4:1+4+X.length<=140737488355328:=by omega
 have E:5+X.length<=140737488355328:=by omega
 have h:min 24 64=24:=rfl;have y:min 16 64=16:=rfl;have C:min 8 64=8:=rfl;rw[aj xin];simp only[go_sem,Qe,Qh,Qi,Qj,Qk,reduceCtorEq,reduceIte,al,aA];rw[ai];simp only[go_sem,Q2,Q3,Q4,Q8,Qe,Qh,Qi,Qj,Qk,reduceCtorEq,reduceIte,al,aA,c1,k1,h,y,C,c4];rw[ai];simp only[go_sem,Q4,Qh,Qj,Qk,reduceIte,al,aA,c1,frame,w4,iF]
theorem uv(t:Int)(X:d9):(frame t X).length=X.length+5:=by simp[frame,w4]
def xF(t:Int)(X:d9):d9:=sha (frame t X)
theorem f60(t:Int)(X:d9)(hX:X.length<=1000000000):call T 60 [.int .i64 t,.lst 1 [[.byt X .no]] .no] [] 0=some ⟨.byt (xF t X) .no,[],[]⟩:=by have y:=xx6 t X hX;have h:=xvj (frame t X) (by rw[uv];omega);rw[aj xvw];simp only[go_sem,Qe,Qh,Qi,Qj,Qk,reduceCtorEq,reduceIte,y,h,xi4,xi5,xF]
theorem f65(t:Int)(X:d9)(hX:X.length<=1000000000):call T 65 [.int .i64 t,.lst 1 [[.byt X .no]] .no] [] 0=some ⟨.byt (xF t X) .no,[],[]⟩:=by have y:=xx3 t X hX;have h:=f68 (frame t X) (by rw[uv];omega);rw[aj xvv];simp only[go_sem,Qe,Qh,Qi,Qj,Qk,reduceCtorEq,reduceIte,y,h,xi3,Gu,xF]
def prn:d9->Bool
 |[]=>true
 |c::r=>if c<32 then false else if 126<c then false else prn r
def chk(k:Int)(t:d9)(lo hi:Int):Int:=
 if k<1 then 1 else if 4<k then 1 else if prn t then
  (if k=4 then(if lo<0 then 1 else if hi<lo then 1 else if 1000000000<hi then 1 else if 32<t.length then 4 else 0)
   else if lo=0 then(if hi=0 then(if k=1 then(if t=[]then 0 else 1)else if 32<t.length then 4 else 0)else 1)else 1)
 else 1
theorem xw8(k:Int)(t:d9)(lo hi:Int)(L:t.length<=1000000000000):∀(n i:Nat),t.length-i=n->i<=t.length->
 run T (.loop vE) ⟨[(1,.ptr 101 0),(15,.int .i64 t.length),(16,.int .i64 i)],[(101,.rc [.int .i64 k,.str t,.int .i64 lo,.int .i64 hi])],[]⟩=
 if prn (t.drop i)then some (.x 0,⟨[(1,.ptr 101 0)],[(101,.rc [.int .i64 k,.str t,.int .i64 lo,.int .i64 hi])],[]⟩)
 else some (.r,⟨[(2,.int .i64 1)],[(101,.rc [.int .i64 k,.str t,.int .i64 lo,.int .i64 hi])],[]⟩):=by
 intro n;induction n with
 |zero=>
  intro i E I;have hi:i=t.length:=by omega
  subst hi;rw[ai];simp only[go_sem,Qh,Qj,Qk,reduceIte,bw,prn]
 |succ n J=>
  intro i E I;have hi:i<t.length:=by omega
  have F:=cg i (by omega);have h:=J (i+1) (by omega) (by omega);rw[ai,dB t i hi]
  by_cases y:t.getD i 0<32
  ·simp only[go_sem,Qe,Qh,Qi,Qj,Qk,reduceIte,hi,prn,y]
  ·by_cases C:126<t.getD i 0
   ·simp only[go_sem,Qe,Qh,Qi,Qj,Qk,reduceIte,hi,prn,y,C]
   ·simp only[go_sem,Qe,Qh,Qi,Qj,Qk,reduceIte,hi,F,prn,y,C,h]
theorem xxd(k:Int)(t:d9)(lo hi:Int)(L:t.length<=1000000000000):∀(n i:Nat),t.length-i=n->i<=t.length->
 run T (.loop CA) ⟨[(1,.ptr 101 0),(3,.int .i64 i)],[(101,.rc [.int .i64 k,.str t,.int .i64 lo,.int .i64 hi])],[]⟩=
 if prn (t.drop i)then some (.x 0,⟨[(1,.ptr 101 0)],[(101,.rc [.int .i64 k,.str t,.int .i64 lo,.int .i64 hi])],[]⟩)
 else some (.r,⟨[(2,.int .i64 1)],[(101,.rc [.int .i64 k,.str t,.int .i64 lo,.int .i64 hi])],[]⟩):=by
 intro n;induction n with
 |zero=>
  intro i E I;have hi:i=t.length:=by omega
  subst hi;rw[ai];simp only[go_sem,Qe,Qh,Qi,Qj,Qk,reduceIte,bw,prn]
 |succ n J=>
  intro i E I;have hi:i<t.length:=by omega
  have F:=cg i (by omega);have h:=J (i+1) (by omega) (by omega);rw[ai,dB t i hi]
  by_cases y:t.getD i 0<32
  ·simp only[go_sem,Qe,Qh,Qi,Qj,Qk,reduceIte,hi,prn,y]
  ·by_cases C:126<t.getD i 0
   ·simp only[go_sem,Qe,Qh,Qi,Qj,Qk,reduceIte,hi,prn,y,C]
   ·simp only[go_sem,Qe,Qh,Qi,Qj,Qk,reduceIte,hi,F,prn,y,C,h]
theorem qA(t:d9):((32:Int)<(t.length:Int))↔32<t.length:=by omega
theorem f129(k:Int)(t:d9)(lo hi:Int)(E:t.length<=1000000000000):call T 129 [.agg [.int .i64 k,.str t,.int .i64 lo,.int .i64 hi]] [] 0=some ⟨.int .i64 (chk k t lo hi),[],[]⟩:=by
 rw[aj xsD];have h:=xw8 k t lo hi E _ 0 rfl (by omega);simp only[ay,aW]at h;unfold chk
 by_cases c1:k<1
 ·simp only[go_sem,Qe,Qh,Qi,Qj,Qk,reduceCtorEq,reduceIte,c1]
 by_cases c2:4<k
 ·simp only[go_sem,Qe,Qh,Qi,Qj,Qk,reduceCtorEq,reduceIte,c1,c2]
 cases c3:prn t with
 |false=>simp only[go_sem,Qe,Qh,Qi,Qj,Qk,reduceCtorEq,reduceIte,h,c1,c2,c3]
 |true=>
  by_cases c4:k=4
  ·subst c4
   by_cases y:lo<0
   ·simp only[go_sem,Q4,Q5,Qe,Qh,Qi,Qj,Qk,reduceCtorEq,reduceIte,h,c3,y]
   by_cases c6:hi<lo
   ·simp only[go_sem,Q4,Q5,Qe,Qh,Qi,Qj,Qk,reduceCtorEq,reduceIte,h,c3,y,c6]
   by_cases C:1000000000<hi
   ·simp only[go_sem,Q4,Q5,Qe,Qh,Qi,Qj,Qk,reduceCtorEq,reduceIte,h,c3,y,c6,C]
   by_cases c8:32<t.length
   ·simp only[go_sem,Q4,Q5,Qe,Qh,Qi,Qj,Qk,reduceCtorEq,reduceIte,h,c3,y,c6,C,c8,qA]
   ·simp only[go_sem,Q4,Q5,Qe,Qh,Qi,Qj,Qk,reduceCtorEq,reduceIte,h,c3,y,c6,C,c8,qA]
  ·by_cases y:lo=0
   ·subst y
    by_cases c6:hi=0
    ·subst c6
     by_cases C:k=1
     ·subst C
      by_cases c8:t=[]
      ·subst c8
       try simp only[aA,ay]at h
       simp only[go_sem,Q4,Q5,Qe,Qh,Qi,Qj,Qk,reduceCtorEq,reduceIte,h,c3,aA,ay]
      ·simp only[go_sem,Q4,Q5,Qe,Qh,Qi,Qj,Qk,reduceCtorEq,reduceIte,h,c3,c8]
     ·by_cases c8:32<t.length
      ·simp only[go_sem,Q4,Qe,Qh,Qi,Qj,Qk,reduceCtorEq,reduceIte,h,c1,c2,c3,c4,C,c8,qA]
      ·simp only[go_sem,Q4,Qe,Qh,Qi,Qj,Qk,reduceCtorEq,reduceIte,h,c1,c2,c3,c4,C,c8,qA]
    ·simp only[go_sem,Q4,Qe,Qh,Qi,Qj,Qk,reduceCtorEq,reduceIte,h,c1,c2,c3,c4,c6]
   ·simp only[go_sem,Qe,Qh,Qi,Qj,Qk,reduceCtorEq,reduceIte,h,c1,c2,c3,c4,y]
theorem xx4(k:Int)(t:d9)(lo hi:Int)(E:t.length<=1000000000000):call T 108 [.agg [.int .i64 k,.str t,.int .i64 lo,.int .i64 hi]] [] 0=some ⟨.int .i64 (chk k t lo hi),[],[]⟩:=by
 rw[aj xsU];have h:=xxd k t lo hi E _ 0 rfl (by omega);simp only[ay,aW]at h;unfold chk
 by_cases c1:k<1
 ·simp only[go_sem,Qe,Qh,Qi,Qj,Qk,reduceCtorEq,reduceIte,c1]
 by_cases c2:4<k
 ·simp only[go_sem,Qe,Qh,Qi,Qj,Qk,reduceCtorEq,reduceIte,c1,c2]
 cases c3:prn t with
 |false=>simp only[go_sem,Qe,Qh,Qi,Qj,Qk,reduceCtorEq,reduceIte,h,c1,c2,c3]
 |true=>
  by_cases c4:k=4
  ·subst c4
   by_cases y:lo<0
   ·simp only[go_sem,Q4,Q5,Qe,Qh,Qi,Qj,Qk,reduceCtorEq,reduceIte,h,c3,y]
   by_cases c6:hi<lo
   ·simp only[go_sem,Q4,Q5,Qe,Qh,Qi,Qj,Qk,reduceCtorEq,reduceIte,h,c3,y,c6]
   by_cases C:1000000000<hi
   ·simp only[go_sem,Q4,Q5,Qe,Qh,Qi,Qj,Qk,reduceCtorEq,reduceIte,h,c3,y,c6,C]
   by_cases c8:32<t.length
   ·simp only[go_sem,Q4,Q5,Qe,Qh,Qi,Qj,Qk,reduceCtorEq,reduceIte,h,c3,y,c6,C,c8,qA]
   ·simp only[go_sem,Q4,Q5,Qe,Qh,Qi,Qj,Qk,reduceCtorEq,reduceIte,h,c3,y,c6,C,c8,qA]
  ·by_cases y:lo=0
   ·subst y
    by_cases c6:hi=0
    ·subst c6
     by_cases C:k=1
     ·subst C
      by_cases c8:t=[]
      ·subst c8
       try simp only[aA,ay]at h
       simp only[go_sem,Q4,Q5,Qe,Qh,Qi,Qj,Qk,reduceCtorEq,reduceIte,h,c3,aA,ay]
      ·simp only[go_sem,Q4,Q5,Qe,Qh,Qi,Qj,Qk,reduceCtorEq,reduceIte,h,c3,c8]
     ·by_cases c8:32<t.length
      ·simp only[go_sem,Q4,Qe,Qh,Qi,Qj,Qk,reduceCtorEq,reduceIte,h,c1,c2,c3,c4,C,c8,qA]
      ·simp only[go_sem,Q4,Qe,Qh,Qi,Qj,Qk,reduceCtorEq,reduceIte,h,c1,c2,c3,c4,C,c8,qA]
    ·simp only[go_sem,Q4,Qe,Qh,Qi,Qj,Qk,reduceCtorEq,reduceIte,h,c1,c2,c3,c4,c6]
   ·simp only[go_sem,Qe,Qh,Qi,Qj,Qk,reduceCtorEq,reduceIte,h,c1,c2,c3,c4,y]
theorem eH(B:d9)(i n:Nat)(h:0<n):ec B i n<n:=by
 unfold ec;split
 ·exact Nat.mod_lt _ h
 ·exact h
def i5:Nat->d9
 |0=> [97,61,49]
 |1=> [99,111,117,110,116,61,53]
 |2=> [99,111,117,110,116,61,49,55]
 |3=> [104,111,115,116,61,120]
 |4=> [109,111,100,101,32,98]
 |_=> [126]
def ID:Nat->d9
 |0=> []
 |1=> [42]
 |2=> [97,61,63]
 |3=> [42,61,42]
 |4=> [63,111,42,53]
 |5=> [99,111,117,110,116,61,63,63]
 |_=> [42,97,42,42,49,42]
def xhO:Nat->d9
 |0=> [99,111,117,110,116,61]
 |1=> [97,61]
 |_=> []
theorem yX:∀v,v<6->chk 2 (i5 v) 0 0=0/\(i5 v).length<=20:=by decide
theorem zg:∀v,v<7->chk 3 (ID v) 0 0=0/\(ID v).length<=20:=by decide
theorem vM:∀v,v<3->prn (xhO v)=true/\(xhO v).length<=20:=by decide
theorem cz0:((0:Nat):Int)=0:=rfl
theorem cz1:((1:Nat):Int)=1:=rfl
theorem cz2:((2:Nat):Int)=2:=rfl
theorem cz3:((3:Nat):Int)=3:=rfl
theorem cz4:((4:Nat):Int)=4:=rfl
theorem cz5:((5:Nat):Int)=5:=rfl
theorem cz6:((6:Nat):Int)=6:=rfl
theorem cz7:((7:Nat):Int)=7:=rfl
theorem xvh(B:d9)(i:Nat)(y:B.length<=1000):call T 121 [.ptr 0 0] [bq B i] 0=some ⟨.byt (i5 (ec B i 6)) .no,[(0,bq B (cC B i))],[]⟩:=by
 rw[aj xsJ];have g:=f17 B i 6 (by omega) (by omega);have h:=eH B i 6 (by omega);rw[cz6]at g;generalize ec B i 6=v at g h;simp only[bq]at g;have:v=0\/v=1\/v=2\/v=3\/v=4\/v=5:=by omega
 rcases this with rfl|rfl|rfl|rfl|rfl|rfl<;>simp only[cz0,cz1,cz2,cz3,cz4,cz5]at g<;>simp only[go_sem,Q2,Q3,Q4,Qe,Qg,Qh,Qi,Qj,Qk,reduceCtorEq,reduceIte,List.all_replicate,cz6,bq,g,jL,i5]
theorem xaB(t:d9)(h:prn t=true)(C:t.length<=20)(a b:Nat)(E:a<1000)(y:b<1000):chk 4 t a ((a:Int)+b)=0:=by unfold chk;rw[if_neg (by omega),if_neg (by omega),if_pos h,if_pos rfl,if_neg (by omega),if_neg (by omega),if_neg (by omega),if_neg (by omega)]
theorem f70(B:d9)(i:Nat)(hB:B.length<=1000):∃(k:Int)(t:d9)(lo hi:Int)(j:Nat),chk k t lo hi=0/\t.length<=20/\
 call T 70 [.ptr 0 0] [bq B i] 0=some ⟨.agg [.int .i64 k,.str t,.int .i64 lo,.int .i64 hi],[(0,bq B j)],[]⟩:=by
 rw[aj xig];have g:=f17 B i 5 (by omega) (by omega);have hm:=eH B i 5 (by omega);rw[cz5]at g;generalize ec B i 5=v at g hm;simp only[bq]at g;have Q:v=0\/v=1\/v=2\/v=3\/v=4:=by omega
 generalize cC B i=h at g;have L:=f17 B h 7 (by omega) (by omega);have Z:=eH B h 7 (by omega);have I:=f17 B h 20 (by omega) (by omega);have a1:=eH B h 20 (by omega);have J:=f17 B (cC B h) 3 (by omega) (by omega);have O:=eH B (cC B h) 3 (by omega);have F:=f17 B (cC B (cC B h)) 30 (by omega) (by omega);have a2:=eH B (cC B (cC B h)) 30 (by omega);have W:=xvh B h hB;have h6:=eH B h 6 (by omega);simp only[bq]at L I J F W;rw[cz7]at L;rw[c20]at I;rw[cz3]at J;rw[c30]at F;generalize ec B h 6=v6 at*;generalize ec B h 7=C at*;generalize ec B h 20=y at*;generalize ec B (cC B h) 3=v3 at*;generalize ec B (cC B (cC B h)) 30=E at*
 have hN:v=3\/v=4->∃(k:Int)(t:d9)(lo hi:Int)(j:Nat),chk k t lo hi=0/\t.length<=20/\
  call T 70 [.ptr 0 0] [bq B i] 0=some ⟨.agg [.int .i64 k,.str t,.int .i64 lo,.int .i64 hi],[(0,bq B j)],[]⟩:=by
  intro Q;refine⟨4,xhO v3,y,(y:Int)+E,cC B (cC B (cC B h)),xaB _ (vM _ O).1 (vM _ O).2 _ _ (by omega) (by omega),(vM _ O).2, ?_⟩;have e:af.wrap ((y:Int)+(E:Int))=(y:Int)+E:=w64 (by omega) (by omega);rw[aj xig];have:v3=0\/v3=1\/v3=2:=by omega
  rcases Q with rfl|rfl<;>rcases this with rfl|rfl|rfl<;>simp only[cz0,cz1,cz2,cz3,cz4]at g J<;>simp only[go_sem,Q2,Q3,Q4,Q5,Qb,Qc,Qd,Qe,Qg,Qh,Qi,Qj,Qk,reduceCtorEq,reduceIte,List.all_replicate,cz3,bq,g,I,J,F,jL,e,xhO]
 rcases Q with rfl|rfl|rfl|rfl|rfl
 ·refine⟨1,[],0,0,h,by decide,by decide, ?_⟩
  simp only[cz0]at g;simp only[go_sem,Q5,Qe,Qg,Qh,Qi,Qj,Qk,reduceCtorEq,reduceIte,List.all_replicate,bq,g,jL]
 ·refine⟨2,i5 v6,0,0,cC B h,(yX _ h6).1,(yX _ h6).2, ?_⟩
  simp only[cz1]at g;simp only[go_sem,Q5,Qe,Qg,Qh,Qi,Qj,Qk,reduceCtorEq,reduceIte,List.all_replicate,bq,g,jL,W,xiZ]
 ·refine⟨3,ID C,0,0,cC B h,(zg _ Z).1,(zg _ Z).2, ?_⟩
  simp only[cz2]at g;have:C=0\/C=1\/C=2\/C=3\/C=4\/C=5\/C=6:=by omega
  rcases this with rfl|rfl|rfl|rfl|rfl|rfl|rfl<;>simp only[cz0,cz1,cz2,cz3,cz4,cz5,cz6]at L<;>simp only[go_sem,Q2,Q3,Q4,Q5,Qe,Qg,Qh,Qi,Qj,Qk,reduceCtorEq,reduceIte,List.all_replicate,cz7,bq,g,L,jL,ID]
 ·rw[<-aj xig];exact hN (.inl rfl)
 ·rw[<-aj xig];exact hN (.inr rfl)
structure Au where
 id:Int
 key:List UInt8
def Au.sv(a:Au):t8:=[.int .i64 a.id,.byt a.key .no]
def au0:Au:=⟨0,[]⟩
structure Tr where
 au:List Au
 thr:Int
def mM(l:List Au):d8:=l.map Au.sv
def Tr.sv(t:Tr):t8:=[.lst 2 (mM t.au) .no,.int .i64 t.thr]
theorem fk(l:List Au):(mM l).length=l.length:=aY ..
theorem iA(l:List Au)(i:Nat)(h:i<l.length):(mM l).getD i []=(l.getD i au0).sv:=by simp[mM,aa,h]
def auE(l:List Au)(i:Nat):Int:=
 if(l.getD i au0).id<1 then 1 else if 1000<(l.getD i au0).id then 1 else if((l.getD i au0).key.length:Int)=17 then(if i=0 then 0 else if(l.getD i au0).id<=(l.getD (i-1) au0).id then 41 else 0)else 1
def mN(l:List Au):Nat->Nat->Int
 |0,_=>0
 |n+1,i=>if auE l i=0 then mN l n (i+1)else auE l i
def trE(t:Tr):Int:=
 if(4:Int)<t.au.length then 4 else if mN t.au t.au.length 0=0 then(if t.thr<1 then 1 else if(t.au.length:Int)<t.thr then 1 else 0)else mN t.au t.au.length 0
def Al(t:Tr)(i:Nat):CSt:=⟨[(1,.ptr 101 0),(10,.lst 2 (mM t.au) .no),(11,.int .i64 t.au.length),(12,.int .i64 i)],[(101,.rc t.sv)],[]⟩
theorem s23(t:Tr)(hn:t.au.length<=100)(i:Nat)(hi:i<t.au.length):
 (auE t.au i=0->run T (.loop nj) (Al t i)=run T (.loop nj) (Al t (i+1)))/\
 (auE t.au i≠0->∃ob,run T (.loop nj) (Al t i)=some (.r,⟨[(2,.int .i64 (auE t.au i))],ob,[]⟩)):=by
 have e1:=cg i (by omega);have I:=fk t.au;have J:=iA t.au i hi;have es:0<i->af.wrap ((i:Int)-1)=((i-1:Nat):Int):=fun h=>by rw[w64 (by omega) (by omega)];omega
 have F:i-1<t.au.length:=by omega
 have O:=iA t.au (i-1) F;unfold auE;obtain⟨au,W⟩:=t;simp only[Al,Tr.sv]at*;generalize au.getD i au0=x at*;generalize au.getD (i-1) au0=y at*;obtain⟨d,k⟩:=x;obtain⟨d2,k2⟩:=y;simp only[Au.sv]at*
 by_cases C:d<1
 ·refine⟨fun h=>by simp[C]at h,fun _=>⟨[(101,.rc [.lst 2 (mM au) .no,.int .i64 W]),(104,.rc [.int .i64 d,.byt k .no])], ?_⟩⟩
  rw[ai];simp only[go_sem,Qe,Qh,Qi,Qj,Qk,reduceIte,hi,I,J,C]
 by_cases E:1000<d
 ·refine⟨fun h=>by simp[C,E]at h,fun _=>⟨[(101,.rc [.lst 2 (mM au) .no,.int .i64 W]),(104,.rc [.int .i64 d,.byt k .no])], ?_⟩⟩
  rw[ai];simp only[go_sem,Qe,Qh,Qi,Qj,Qk,reduceIte,hi,I,J,C,E]
 by_cases a3:(k.length:Int)=17
 ·by_cases Z:i=0
  ·subst Z
   have hp:(0:Int)<au.length:=by omega
   refine⟨fun _=> ?_,fun h=>by simp[C,E,a3]at h⟩;simp only[ay]at*;have k1:af.wrap 1=((0+1:Nat):Int):=rfl;rw[ai];simp only[go_sem,Q2,Q3,Q4,Q8,Qe,Qh,Qi,Qj,Qk,reduceIte,hp,I,J,C,E,a3,k1]
  ·have hp:0<i:=by omega
   have L:(0:Int)<(i:Int):=by omega
   have Q:(i:Int)<(au.length:Int):=by omega
   have e2:=es hp
   by_cases a8:d<=d2
   ·refine⟨fun h=>by simp[C,E,a3,Z,a8]at h,fun _=>⟨[(101,.rc [.lst 2 (mM au) .no,.int .i64 W]),(104,.rc [.int .i64 d,.byt k .no])], ?_⟩⟩
    rw[ai];simp only[go_sem,Qe,Qh,Qi,Qj,Qk,reduceIte,Q,L,e2,F,I,J,O,C,E,a3,Z,a8]
   ·refine⟨fun _=> ?_,fun h=>by simp[C,E,a3,Z,a8]at h⟩
    rw[ai];simp only[go_sem,Qe,Qh,Qi,Qj,Qk,reduceIte,Q,L,e1,e2,F,I,J,O,C,E,a3,a8]
 ·refine⟨fun h=>by simp[C,E,a3]at h,fun _=>⟨[(101,.rc [.lst 2 (mM au) .no,.int .i64 W]),(104,.rc [.int .i64 d,.byt k .no])], ?_⟩⟩
  rw[ai];simp only[go_sem,Qe,Qh,Qi,Qj,Qk,reduceIte,hi,I,J,C,E,a3]
theorem l39(t:Tr)(hn:t.au.length<=100):∀(n i:Nat),i+n=t.au.length->
 (mN t.au n i=0->run T (.loop nj) (Al t i)=some (.x 0,⟨[(1,.ptr 101 0)],[(101,.rc t.sv)],[]⟩))/\
 (mN t.au n i≠0->∃ob,run T (.loop nj) (Al t i)=some (.r,⟨[(2,.int .i64 (mN t.au n i))],ob,[]⟩))
 |0,i,h=>by
  have hi:i=t.au.length:=by omega
  refine⟨fun _=> ?_,fun h=>absurd rfl h⟩;subst hi;unfold Al;rw[ai];simp only[go_sem,Qh,Qj,Qk,reduceIte]
 |n+1,i,h=>by
  obtain⟨y,C⟩:=s23 t hn i (by omega);obtain⟨k1,k2⟩:=l39 t hn n (i+1) (by omega);show(_->_)/\(_->_);simp only[mN]
  by_cases e:auE t.au i=0
  ·rw[if_pos e,y e];exact⟨k1,k2⟩
  ·rw[if_neg e];exact⟨fun h=>absurd h e,fun _=>C e⟩
theorem f39(t:Tr):call T 39 [.agg t.sv] [] 0=some ⟨.int .i64 (trE t),[],[]⟩:=by
 have y:=fk t.au;rw[aj xy0];unfold trE
 by_cases h:(4:Int)<t.au.length
 ·rw[if_pos h]
  have E:4<t.au.length:=by omega
  simp only[Tr.sv,go_sem,Qe,Qh,Qi,Qj,Qk,reduceCtorEq,reduceIte,y,h]
 ·rw[if_neg h]
  have E:¬4<t.au.length:=by omega
  obtain⟨k1,k2⟩:=l39 t (by omega) t.au.length 0 (bT _)
  by_cases e:mN t.au t.au.length 0=0
  ·have k:=k1 e
   rw[if_pos e];simp only[Al,Tr.sv,ay]at k
   by_cases C:t.thr<1
   ·simp only[Tr.sv,go_sem,Qe,Qh,Qi,Qj,Qk,reduceCtorEq,reduceIte,y,h,k,C]
   ·by_cases b2:(t.au.length:Int)<t.thr
    ·simp only[Tr.sv,go_sem,Qe,Qh,Qi,Qj,Qk,reduceCtorEq,reduceIte,y,h,k,C,b2]
    ·simp only[Tr.sv,go_sem,Qe,Qh,Qi,Qj,Qk,reduceCtorEq,reduceIte,y,h,k,C,b2]
  ·obtain⟨ob,k⟩:=k2 e
   rw[if_neg e];simp only[Al,Tr.sv,ay]at k;simp only[Tr.sv,go_sem,Qe,Qh,Qi,Qj,Qk,reduceCtorEq,reduceIte,y,h,k]
def Ak(t:Tr)(i:Nat):CSt:=⟨[(1,.ptr 101 0),(3,.int .i64 i)],[(101,.rc t.sv)],[]⟩
theorem s24(t:Tr)(hn:t.au.length<=100)(i:Nat)(hi:i<t.au.length):
 (auE t.au i=0->run T (.loop ni) (Ak t i)=run T (.loop ni) (Ak t (i+1)))/\
 (auE t.au i≠0->∃ob,run T (.loop ni) (Ak t i)=some (.r,⟨[(2,.int .i64 (auE t.au i))],ob,[]⟩)):=by
 have e1:=cg i (by omega);have I:=fk t.au;have J:=iA t.au i hi;have es:0<i->af.wrap ((i:Int)-1)=((i-1:Nat):Int):=fun h=>by rw[w64 (by omega) (by omega)];omega
 have F:i-1<t.au.length:=by omega
 have O:=iA t.au (i-1) F;unfold auE;obtain⟨au,W⟩:=t;simp only[Ak,Tr.sv]at*;generalize au.getD i au0=x at*;generalize au.getD (i-1) au0=y at*;obtain⟨d,k⟩:=x;obtain⟨d2,k2⟩:=y;simp only[Au.sv]at*
 by_cases C:d<1
 ·refine⟨fun h=>by simp[C]at h,fun _=>⟨[(101,.rc [.lst 2 (mM au) .no,.int .i64 W]),(104,.rc [.int .i64 d,.byt k .no])], ?_⟩⟩
  rw[ai];simp only[go_sem,Qe,Qh,Qi,Qj,Qk,reduceIte,hi,I,J,C]
 by_cases E:1000<d
 ·refine⟨fun h=>by simp[C,E]at h,fun _=>⟨[(101,.rc [.lst 2 (mM au) .no,.int .i64 W]),(104,.rc [.int .i64 d,.byt k .no])], ?_⟩⟩
  rw[ai];simp only[go_sem,Qe,Qh,Qi,Qj,Qk,reduceIte,hi,I,J,C,E]
 by_cases a3:(k.length:Int)=17
 ·by_cases Z:i=0
  ·subst Z
   have hp:(0:Int)<au.length:=by omega
   refine⟨fun _=> ?_,fun h=>by simp[C,E,a3]at h⟩;simp only[ay]at*;have k1:af.wrap 1=((0+1:Nat):Int):=rfl;rw[ai];simp only[go_sem,Q2,Q3,Q4,Q8,Qe,Qh,Qi,Qj,Qk,reduceIte,hp,I,J,C,E,a3,k1]
  ·have hp:0<i:=by omega
   have L:(0:Int)<(i:Int):=by omega
   have Q:(i:Int)<(au.length:Int):=by omega
   have e2:=es hp
   by_cases a8:d<=d2
   ·refine⟨fun h=>by simp[C,E,a3,Z,a8]at h,fun _=>⟨[(101,.rc [.lst 2 (mM au) .no,.int .i64 W]),(104,.rc [.int .i64 d,.byt k .no])], ?_⟩⟩
    rw[ai];simp only[go_sem,Qe,Qh,Qi,Qj,Qk,reduceIte,Q,L,e2,F,I,J,O,C,E,a3,Z,a8]
   ·refine⟨fun _=> ?_,fun h=>by simp[C,E,a3,Z,a8]at h⟩
    rw[ai];simp only[go_sem,Qe,Qh,Qi,Qj,Qk,reduceIte,Q,L,e1,e2,F,I,J,O,C,E,a3,a8]
 ·refine⟨fun h=>by simp[C,E,a3]at h,fun _=>⟨[(101,.rc [.lst 2 (mM au) .no,.int .i64 W]),(104,.rc [.int .i64 d,.byt k .no])], ?_⟩⟩
  rw[ai];simp only[go_sem,Qe,Qh,Qi,Qj,Qk,reduceIte,hi,I,J,C,E,a3]
theorem l40(t:Tr)(hn:t.au.length<=100):∀(n i:Nat),i+n=t.au.length->
 (mN t.au n i=0->run T (.loop ni) (Ak t i)=some (.x 0,⟨[(1,.ptr 101 0)],[(101,.rc t.sv)],[]⟩))/\
 (mN t.au n i≠0->∃ob,run T (.loop ni) (Ak t i)=some (.r,⟨[(2,.int .i64 (mN t.au n i))],ob,[]⟩))
 |0,i,h=>by
  have hi:i=t.au.length:=by omega
  have y:=fk t.au;refine⟨fun _=> ?_,fun h=>absurd rfl h⟩;subst hi;unfold Ak Tr.sv;rw[ai];simp only[go_sem,Qe,Qh,Qi,Qj,Qk,reduceIte,y]
 |n+1,i,h=>by
  obtain⟨C,E⟩:=s24 t hn i (by omega);obtain⟨k1,k2⟩:=l40 t hn n (i+1) (by omega);show(_->_)/\(_->_);simp only[mN]
  by_cases e:auE t.au i=0
  ·rw[if_pos e,C e];exact⟨k1,k2⟩
  ·rw[if_neg e];exact⟨fun h=>absurd h e,fun _=>E e⟩
theorem f40(t:Tr):call T 40 [.agg t.sv] [] 0=some ⟨.int .i64 (trE t),[],[]⟩:=by
 have y:=fk t.au;rw[aj xyZ];unfold trE
 by_cases h:(4:Int)<t.au.length
 ·rw[if_pos h]
  have E:4<t.au.length:=by omega
  simp only[Tr.sv,go_sem,Qe,Qh,Qi,Qj,Qk,reduceCtorEq,reduceIte,y,h]
 ·rw[if_neg h]
  have E:¬4<t.au.length:=by omega
  obtain⟨k1,k2⟩:=l40 t (by omega) t.au.length 0 (bT _)
  by_cases e:mN t.au t.au.length 0=0
  ·have k:=k1 e
   rw[if_pos e];simp only[Ak,Tr.sv,ay]at k
   by_cases C:t.thr<1
   ·simp only[Tr.sv,go_sem,Qe,Qh,Qi,Qj,Qk,reduceCtorEq,reduceIte,y,h,k,C]
   ·by_cases b2:(t.au.length:Int)<t.thr
    ·simp only[Tr.sv,go_sem,Qe,Qh,Qi,Qj,Qk,reduceCtorEq,reduceIte,y,h,k,C,b2]
    ·simp only[Tr.sv,go_sem,Qe,Qh,Qi,Qj,Qk,reduceCtorEq,reduceIte,y,h,k,C,b2]
  ·obtain⟨ob,k⟩:=k2 e
   rw[if_neg e];simp only[Ak,Tr.sv,ay]at k;simp only[Tr.sv,go_sem,Qe,Qh,Qi,Qj,Qk,reduceCtorEq,reduceIte,y,h,k]
end Go.Proofs.YtbfnljmmepcbfaaGreatDoor
