/- What the functions come to. No condition. -/
import Derived.Test.YtbfnljmmepcbfaaGreatDoorTcPA
import Derived.Test.YtbfnljmmepcbfaaGreatDoorTePA
open Int renaming natCast_zero -> aD
open Go.IntKind renaming i64 -> ah, u64 -> aU, wrap_u64 -> bM
open List renaming append_assoc -> ay, append_nil -> bG, drop_zero -> bh, length_append -> af, length_cons -> am, length_drop -> aL, length_nil -> aB, length_singleton -> br, length_take -> ax, map_cons -> aF, map_nil -> bX, mem_cons -> aw, nil_append -> aI, singleton_append -> eI, take_length -> kp, take_of_length_le -> bj
open Nat renaming zero_le -> bH
open UInt8 renaming ofInt -> cQ
set_option maxRecDepth 100000
set_option maxHeartbeats 16000000
set_option linter.unusedSimpArgs false
set_option linter.unusedVariables false
namespace Go.Proofs.YtbfnljmmepcbfaaGreatDoor
open Go.Sy
open UInt8 renaming reduceLT -> Q0, reduceLE -> Q1
open Int renaming reduceToNat -> Q2, reduceLE -> Q3, reduceLT -> Q4, reduceEq -> Q5, reduceNe -> Q6, reduceNeg -> Q7, reduceAdd -> Q8, reduceSub -> Q9, reduceMul -> Qa
open Nat renaming reducePow -> Qb, reduceDiv -> Qc, reduceMod -> Qd, reduceAdd -> Qe, reduceSub -> Qf, reduceMul -> Qg, reduceLT -> Qh, reduceLeDiff -> Qi, reduceEqDiff -> Qj, reduceBEq -> Qk
theorem kw0:ah.wrap 0=0:=by decide
theorem kw1:ah.wrap 1=1:=by decide
theorem kw2:ah.wrap 2=2:=by decide
theorem n1c:((1:Nat):Int)=1:=rfl
theorem n2c:((2:Nat):Int)=2:=rfl
theorem sh3(n:Nat)(h:n<=3):ah.wrap (1*2^min n 64)=((2^n:Nat):Int):=by rcases (by omega:n=0\/n=1\/n=2\/n=3)with rfl|rfl|rfl|rfl<;>decide
theorem xlM(x:List UInt8)(i:Nat)(P:List (List UInt8))(hP:P.length<=3)(hb:∀s∈P,s.length<=1000000)(hi:i<2^P.length)(hx:x.length<=1000000):
 call T 155 [.byt x .no,.int .i64 i,.lst 1 (bys P) .no] [] 0=some ⟨.byt (qr 0 i P x) .no,[],[]⟩:=by
 have hl:=jy P;have h8:(2:Nat)^P.length<=2^3:=Nat.pow_le_pow_right (by decide) hP;have g:=xk6 P hP hb _ 0 i x (.id 128) rfl (bH _) (by omega) hx;have h1:¬(3:Int)<P.length:=by omega
 have h1n:¬3<P.length:=by omega
 have h2:¬(i:Int)<0:=by omega
 have e1:aU.wrap (P.length:Int)=P.length:=by rw[bM];omega
 have e2:=sh3 P.length hP;have h3:¬(2:Nat)^P.length<=i:=by omega
 have h3I:¬((2^P.length:Nat):Int)<=(i:Int):=by omega
 have c2:x.length<=140737488355328:=by omega
 simp only[aD,bh]at g;rw[an xg3]
 by_cases hz:0=P.length
 ·simp only[go_sem,Qe,Qh,Qi,Qj,Qk,reduceCtorEq,reduceIte,hl,h1,h2,e1,e2,h3I,c2,g,aI,if_pos hz]
 ·simp only[go_sem,Qe,Qh,Qi,Qj,Qk,reduceCtorEq,reduceIte,hl,h1,h2,e1,e2,h3I,c2,g,aI,if_neg hz]
theorem xgp:call T 110 [.int .i64 1] [] 0=some ⟨.bool true,[],[]⟩:=by rw[an Yt];simp (config:= {decide:=true}) only[go_sem,reduceIte,aB]
theorem Oi:call T 110 [.int .i64 2] [] 0=some ⟨.bool true,[],[]⟩:=by rw[an Yt];simp (config:= {decide:=true}) only[go_sem,reduceIte,aB]
theorem xdH(A B:List UInt8)(hA:A.length<=1000000)(hB:B.length<=1000000):call T 111 [.int .i64 0,.lst 1 [[.byt A .no],[.byt B .no]] .no] [] 0=some ⟨.lst 1 [[.byt (jw 0 0 A B) .no]] .no,[],[]⟩:=by have g:=xlQ 0 0 A B hA hB;simp only[aD]at g;rw[an xhu];simp only[go_sem,Qe,Qh,Qi,Qj,Qk,reduceCtorEq,reduceIte];rw[ai];simp (config:= {decide:=true}) only[go_sem,Q2,Q4,Q8,Qa,Qe,Qg,Qh,Qi,Qj,Qk,reduceCtorEq,reduceIte,n2c,kw0,kw1,am,aB,g,xhQ];rw[ai];simp (config:= {decide:=true}) only[go_sem,Q8,Qa,Qe,Qh,Qj,Qk,reduceIte,n2c,kw2,am,aB]
theorem xlz(A B:List UInt8)(hA:A.length<=1000000)(hB:B.length<=1000000):call T 66 [.lst 1 [[.byt A .no],[.byt B .no]] .no] [] 0=some ⟨.byt (jw 0 0 A B) .no,[],[]⟩:=by have g:=xdG (jw 0 0 A B) (by rw[jw,eA];decide);have g0:=Oi;have g1:=xdH A B hA hB;rw[an xmA];simp (config:= {decide:=true}) only[go_sem,Qe,Qh,Qi,Qj,Qk,reduceCtorEq,reduceIte,n2c,am,aB,g0,D5];rw[ai];simp (config:= {decide:=true}) only[go_sem,Q8,Qe,Qh,Qj,Qk,reduceIte,n2c,kw1,am,aB,g1,OO];rw[ai];simp (config:= {decide:=true}) only[go_sem,Q2,Q4,Qh,Qj,Qk,reduceIte,n1c,am,aB,g,ON]
theorem xgn(A:List UInt8):call T 146 [.int .i64 0,.lst 1 [[.byt A .no]] .no] [] 0=some ⟨.lst 1 [] .no,[],[]⟩:=by have g0:=xgp;rw[an OG];simp (config:= {decide:=true}) only[go_sem,Qe,Qh,Qi,Qj,Qk,reduceCtorEq,reduceIte,n1c,am,aB,g0,D5];rw[ai];simp (config:= {decide:=true}) only[go_sem,Qh,Qj,Qk,reduceIte,n1c,am,aB]
theorem x10:bZ .xor .i64 0 1=1:=by decide
theorem x11:bZ .xor .i64 1 1=0:=by decide
theorem xgm(A B:List UInt8)(hA:A.length<=1000000)(hB:B.length<=1000000):call T 146 [.int .i64 0,.lst 1 [[.byt A .no],[.byt B .no]] .no] [] 0=some ⟨.lst 1 [[.byt B .no]] .no,[],[]⟩:=by have g:=xdG B (by omega);have g0:=Oi;have g1:=xdH A B hA hB;rw[an OG];simp (config:= {decide:=true}) only[go_sem,Qe,Qh,Qi,Qj,Qk,reduceCtorEq,reduceIte,n2c,am,aB,g0,D5];rw[ai];simp (config:= {decide:=true}) only[go_sem,Q2,Q4,Q8,Qe,Qg,Qh,Qi,Qj,Qk,reduceCtorEq,reduceIte,n2c,kw1,am,aB,x10,g,g1,OO,ON];rw[ai];simp (config:= {decide:=true}) only[go_sem,Qh,Qj,Qk,reduceIte,n1c,am,aB]
theorem xgl(A B:List UInt8)(hA:A.length<=1000000)(hB:B.length<=1000000):call T 146 [.int .i64 1,.lst 1 [[.byt A .no],[.byt B .no]] .no] [] 0=some ⟨.lst 1 [[.byt A .no]] .no,[],[]⟩:=by have g:=xdG A (by omega);have g0:=Oi;have g1:=xdH A B hA hB;rw[an OG];simp (config:= {decide:=true}) only[go_sem,Qe,Qh,Qi,Qj,Qk,reduceCtorEq,reduceIte,n2c,am,aB,g0,D5];rw[ai];simp (config:= {decide:=true}) only[go_sem,Q2,Q4,Q8,Qe,Qg,Qh,Qi,Qj,Qk,reduceCtorEq,reduceIte,n2c,kw1,am,aB,x11,g,g1,OO,ON];rw[ai];simp (config:= {decide:=true}) only[go_sem,Qh,Qj,Qk,reduceIte,n1c,am,aB]
theorem xlO(h:Nat)(hh:h<=3):call T 153 [.int .i64 h] [] 0=some ⟨.bool true,[],[]⟩:=by
 have h1:(0:Int)<=(h:Int):=by omega
 have h2:(h:Int)<=3:=by omega
 rw[an Yr];simp only[go_sem,Qh,Qi,Qj,Qk,reduceCtorEq,reduceIte,h1,h2]
theorem xgk(h:Int)(hh:h<0\/3<h):call T 153 [.int .i64 h] [] 0=some ⟨.bool false,[],[]⟩:=by
 rw[an Yr]
 by_cases h1:(0:Int)<=h
 ·have h2:¬h<=3:=by omega
  simp only[go_sem,Qh,Qi,Qj,Qk,reduceCtorEq,reduceIte,h1,h2]
 ·simp only[go_sem,Qh,Qi,Qj,Qk,reduceCtorEq,reduceIte,h1]
theorem Ro(seed:List UInt8)(h:Nat)(hs:seed.length<=64):call T 113 [.byt seed .no,.int .i64 h] [] 0=some ⟨.byt (lsV seed h) .no,[],[]⟩:=by have g:=xjE seed Ss [ub h] 32 (by decide) (by decide) hs (by decide) (by simp);unfold Ss ub at g;rw[c32]at g;rw[an xhs];simp only[go_sem,Qe,Qh,Qi,Qj,Qk,reduceCtorEq,reduceIte,g,YS,lsV,Ss,ub]
theorem xkM(seed:List UInt8)(h:Nat):lvs seed h (2^0)=[pubL (lsV seed h) 0]:=rfl
theorem xdz(seed:List UInt8)(h:Nat):lvs seed h (2^1)=[pubL (lsV seed h) 0,pubL (lsV seed h) 1]:=rfl
theorem xfY(seed:List UInt8)(h:Nat):lvs seed h 1=[pubL (lsV seed h) 0]:=rfl
theorem xfX(seed:List UInt8)(h:Nat):lvs seed h 2=[pubL (lsV seed h) 0,pubL (lsV seed h) 1]:=rfl
theorem xly(seed:List UInt8)(hs:seed.length<=64):call T 67 [.byt seed .no,.int .i64 0] [] 0=some ⟨.lst 1 (bys (lvs seed 0 (2^0))) .no,[],[]⟩:=by have g0:=Ro seed 0 hs;have g1:=xdF (lsV seed 0) 0 (by rw[kD];decide) (by omega);simp only[aD]at g0 g1;rw[an xjT];simp (config:= {decide:=true}) only[go_sem,Qb,Qe,Qh,Qi,Qj,Qk,reduceCtorEq,reduceIte,g0,xX];rw[ai];simp (config:= {decide:=true}) only[go_sem,Q8,Qe,Qg,Qh,Qi,Qj,Qk,reduceIte,kw1,g1,OM];rw[ai];simp (config:= {decide:=true}) only[go_sem,Qh,Qj,Qk,reduceIte,xfY,bys,aF,bX]
theorem xdC(seed:List UInt8)(hs:seed.length<=64):call T 67 [.byt seed .no,.int .i64 1] [] 0=some ⟨.lst 1 (bys (lvs seed 1 (2^1))) .no,[],[]⟩:=by have g0:=Ro seed 1 hs;have g1:=xdF (lsV seed 1) 0 (by rw[kD];decide) (by omega);have g2:=xdF (lsV seed 1) 1 (by rw[kD];decide) (by omega);simp only[aD,Int.natCast_one]at g0 g1 g2;rw[an xjT];simp (config:= {decide:=true}) only[go_sem,Qb,Qe,Qh,Qi,Qj,Qk,reduceCtorEq,reduceIte,g0,xX];rw[ai];simp (config:= {decide:=true}) only[go_sem,Q8,Qe,Qg,Qh,Qi,Qj,Qk,reduceIte,kw1,g1,OM];rw[ai];simp (config:= {decide:=true}) only[go_sem,Q8,Qe,Qg,Qh,Qi,Qj,Qk,reduceIte,kw2,g2,OM];rw[ai];simp (config:= {decide:=true}) only[go_sem,Qh,Qj,Qk,reduceIte,xfX,bys,aF,bX]
theorem GA(P:List (List UInt8))(s:List UInt8):bys (P++ [s])=bys P++ [[.byt s .no]]:=by simp[bys]
theorem Aa:∀(n:Nat)(l:List UInt8),(rws n l).length=n
 |0,_=>rfl
 |n+1,l=>by rw[rws,am,Aa n]
theorem GV:∀(n:Nat)(l:List UInt8),∀s∈rws n l,s.length<=1000000
 |0,_=>fun s h=>by cases h
 |n+1,l=>fun s h=>by
  rw[rws]at h;rcases aw.1 h with rfl|h
  ·rw[ax];omega
  ·exact GV n _ s h
theorem xle(pub x:List UInt8)(leaf:Int):∀(n:Nat)(rest:List UInt8)(P:List (List UInt8)),rest.length=16*n->P.length+n<=3->
 run T (.loop sj) ⟨[(0,.byt pub .no),(6,.int .i64 leaf),(9,.byt x .no),(10,.lst 1 (bys P) (.id 110)),(11,.byt rest .no)],[],[110]⟩=
 some (.x 0,⟨[(0,.byt pub .no),(6,.int .i64 leaf),(9,.byt x .no),(10,.lst 1 (bys (P++rws n rest)) (.id 110))],[],[110]⟩):=by
 intro n;induction n with
 |zero=>
  intro rest P h0 h1;have hz:¬0<rest.length:=by omega
  have hzI:¬(0:Int)<(rest.length:Int):=by omega
  rw[ai,rws,bG];simp only[go_sem,Qh,Qj,Qk,reduceCtorEq,reduceIte,hzI]
 |succ n ih=>
  intro rest P h0 h1;have hz:0<rest.length:=by omega
  have hzI:(0:Int)<(rest.length:Int):=by omega
  have h16:16<=rest.length:=by omega
  have h16I:(16:Int)<=(rest.length:Int):=by omega
  have ih':=ih (rest.drop 16) (P++ [rest.take 16]) (by rw[aL];omega) (by rw[af,br];omega);rw[GA,ay,eI]at ih';have hl:=jy P;have c1:(P.length+1)*24<=140737488355328:=by omega
  have t2:rest.take rest.length=rest:=kp;rw[ai,rws];simp only[go_sem,Q2,Q3,Qe,Qh,Qi,Qj,Qk,reduceCtorEq,reduceIte,hzI,h16I,hl,c1,t2,ih']
def Sh(pub msg sig:List UInt8):SV:= .tup [.int .i64 (if jT pub msg sig=true then((sig.getD 0 0).toNat:Int)else 0),.bool (jT pub msg sig)]
theorem xkn(n:Nat)(h:n<=3):ah.wrap (1*2^min (aU.wrap (n:Int)).toNat 64)=((2^n:Nat):Int):=by rcases (by omega:n=0\/n=1\/n=2\/n=3)with rfl|rfl|rfl|rfl<;>decide
theorem nL{pub msg sig:List UInt8}(h:jT pub msg sig=false):Sh pub msg sig= .tup [.int .i64 0,.bool false]:=by unfold Sh;rw[h];rfl
theorem xlX(pub msg sig:List UInt8)(hm:msg.length<=100000000):call T 122 [.byt pub .no,.byt msg .no,.byt sig .no] [] 0=some ⟨Sh pub msg sig,[],[]⟩:=by
 by_cases h1:pub.length=17
 ·have h1I:(pub.length:Int)=17:=by omega
  have h0:0<pub.length:=by omega
  by_cases h2:(pub.getD 0 0).toNat<=3
  ·have g1:=xlO _ h2
   by_cases h3:sig.length=561+16*(pub.getD 0 0).toNat
   ·have h4:0<sig.length:=by omega
    have hz0:(0:Int)<((561+16*(pub.getD 0 0).toNat:Nat):Int):=by omega
    have t3:sig.take (561+16*(pub.getD 0 0).toNat)=sig:=bj (by omega);have t4:pub.take 17=pub:=bj (by omega);have e2:=xkn _ h2;have m1:ah.wrap (16*((pub.getD 0 0).toNat:Int))=((16*(pub.getD 0 0).toNat:Nat):Int):=wZ (by omega)
    have m2:ah.wrap (561+((16*(pub.getD 0 0).toNat:Nat):Int))=((561+16*(pub.getD 0 0).toNat:Nat):Int):=wZ (by omega)
    have h5u:0<=aU.wrap ((pub.getD 0 0).toNat:Int):=by rw[bM];omega
    by_cases h5:(sig.getD 0 0).toNat<2^(pub.getD 0 0).toNat
    ·have h5n:¬2^(pub.getD 0 0).toNat<=(sig.getD 0 0).toNat:=by omega
     have g2:=xlN (sig.getD 0 0).toNat msg ((sig.drop 1).take 560) (by have:=(sig.getD 0 0).toNat_lt;omega) (by rw[ax,aL];omega) hm;have g3:=xle pub (vg (sig.getD 0 0).toNat msg ((sig.drop 1).take 560)) (sig.getD 0 0).toNat (pub.getD 0 0).toNat (sig.drop 561) [] (by rw[aL];omega) (by simpa using h2);have hrl:=Aa (pub.getD 0 0).toNat (sig.drop 561);have g4:=xlM (vg (sig.getD 0 0).toNat msg ((sig.drop 1).take 560)) (sig.getD 0 0).toNat (rws (pub.getD 0 0).toNat (sig.drop 561)) (by rw[hrl];exact h2) (GV _ _) (by rw[hrl];exact h5) (by rw[vg,wh,eA];decide)
     have hv:jT pub msg sig=decide (qr 0 (sig.getD 0 0).toNat (rws (pub.getD 0 0).toNat (sig.drop 561)) (vg (sig.getD 0 0).toNat msg ((sig.drop 1).take 560))=pub.drop 1):=by unfold jT;rw[if_pos ⟨h1,h2⟩,if_pos ⟨h3,h5⟩]
     have t1:(sig.take 561).drop 1=(sig.drop 1).take 560:=by rw[List.drop_take]
     have a1:561<=sig.length:=by omega
     have a2:1<=pub.length:=by omega
     have a3:561<=561+16*(pub.getD 0 0).toNat:=by omega
     have a4:1<=17:=by decide
     have a5:(561:Int)<=((561+16*(pub.getD 0 0).toNat:Nat):Int):=by omega
     unfold Sh;rw[hv];generalize vg (sig.getD 0 0).toNat msg ((sig.drop 1).take 560)=X at*;generalize rws (pub.getD 0 0).toNat (sig.drop 561)=R at*;generalize qr 0 (sig.getD 0 0).toNat R X=Y at*;have b0:bys []=[]:=rfl;simp only[aI,b0]at g3;generalize hp0:pub.getD 0 0=pb at*;generalize hs0:sig.getD 0 0=sb at*;rw[an xQ]
     by_cases hY:Y=pub.drop 1
     ·simp only[go_sem,Q2,Q3,Q4,Qb,Qc,Qd,Qe,Qh,Qi,Qj,Qk,reduceCtorEq,reduceIte,h1,hp0,hs0,g1,xV,h3,hz0,t3,t4,e2,m1,m2,h5n,h5u,t1,g2,YP,a5,g3,g4,YO,hY]
     ·simp only[go_sem,Q2,Q3,Q4,Qb,Qc,Qd,Qe,Qh,Qi,Qj,Qk,reduceCtorEq,reduceIte,h1,hp0,hs0,g1,xV,h3,hz0,t3,t4,e2,m1,m2,h5n,h5u,t1,g2,YP,a5,g3,g4,YO,hY]
    ·have h5n:2^(pub.getD 0 0).toNat<=(sig.getD 0 0).toNat:=by omega
     have hv:jT pub msg sig=false:=by unfold jT;rw[if_pos ⟨h1,h2⟩,if_neg (fun h=>h5 h.2)]
     rw[nL hv];generalize hp0:pub.getD 0 0=pb at*;generalize hs0:sig.getD 0 0=sb at*;rw[an xQ];simp only[go_sem,Q2,Q3,Q4,Qe,Qh,Qi,Qj,Qk,reduceCtorEq,reduceIte,h1,hp0,hs0,g1,xV,h3,hz0,e2,m1,m2,h5n,h5u]
   ·have hv:jT pub msg sig=false:=by
     unfold jT;rw[if_pos ⟨h1,h2⟩,if_neg (fun h=>h3 h.1)]
    have m1:ah.wrap (16*((pub.getD 0 0).toNat:Int))=((16*(pub.getD 0 0).toNat:Nat):Int):=wZ (by omega)
    have m2:ah.wrap (561+((16*(pub.getD 0 0).toNat:Nat):Int))=((561+16*(pub.getD 0 0).toNat:Nat):Int):=wZ (by omega)
    have h3I:¬(sig.length:Int)=((561+16*(pub.getD 0 0).toNat:Nat):Int):=by omega
    rw[nL hv];generalize hp0:pub.getD 0 0=pb at*;rw[an xQ];simp only[go_sem,Q2,Q3,Q4,Qe,Qh,Qi,Qj,Qk,reduceCtorEq,reduceIte,h1,hp0,g1,xV,h3I,m1,m2]
  ·have g1:=xgk ((pub.getD 0 0).toNat:Int) (by omega)
   have hv:jT pub msg sig=false:=by unfold jT;rw[if_neg (fun h=>h2 h.2)]
   rw[nL hv];generalize hp0:pub.getD 0 0=pb at*;rw[an xQ];simp only[go_sem,Q2,Q3,Q4,Qe,Qh,Qi,Qj,Qk,reduceCtorEq,reduceIte,h1,hp0,g1,xV]
 ·have h1I:¬(pub.length:Int)=17:=by omega
  have hv:jT pub msg sig=false:=by unfold jT;rw[if_neg (fun h=>h1 h.1)]
  rw[nL hv,an xQ];simp only[go_sem,Q2,Q3,Qe,Qh,Qi,Qj,Qk,reduceCtorEq,reduceIte,h1I]
def sB(h leaf:Int):Prop:=h<0\/3<h\/leaf<0\/ah.wrap (1*2^min (aU.wrap h).toNat 64)<=leaf
instance (h leaf:Int):Decidable (sB h leaf):=by unfold sB;infer_instance
def sgn(seed:List UInt8)(h leaf:Int)(msg:List UInt8):List UInt8:=if sB h leaf then []else kP seed h.toNat leaf.toNat msg
theorem xcP(leaf:Int):sB 0 leaf↔(leaf<0\/1<=leaf):=by
 have e:ah.wrap (1*2^min (aU.wrap 0).toNat 64)=1:=by decide
 unfold sB;rw[e];omega
theorem xcO(leaf:Int):sB 1 leaf↔(leaf<0\/2<=leaf):=by
 have e:ah.wrap (1*2^min (aU.wrap 1).toNat 64)=2:=by decide
 unfold sB;rw[e];omega
theorem w0:aU.wrap 0=0:=by decide
theorem w1:aU.wrap 1=1:=by decide
theorem n57(seed:List UInt8)(h leaf:Int)(msg:List UInt8)(hn:sB h leaf):call T 105 [.byt seed .no,.int .i64 h,.int .i64 leaf,.byt msg .no] [] 0=some ⟨.byt [] .no,[],[]⟩:=by
 rw[an D4]
 by_cases h1:h<0
 ·simp only[go_sem,Qe,Qh,Qi,Qj,Qk,reduceCtorEq,reduceIte,h1]
 by_cases h2:3<h
 ·simp only[go_sem,Qe,Qh,Qi,Qj,Qk,reduceCtorEq,reduceIte,h1,h2]
 by_cases h3:leaf<0
 ·simp only[go_sem,Qe,Qh,Qi,Qj,Qk,reduceCtorEq,reduceIte,h1,h2,h3]
 have h4:ah.wrap (1*2^min (aU.wrap h).toNat 64)<=leaf:=by unfold sB at hn;omega
 have h5:0<=aU.wrap h:=by rw[bM];omega
 simp only[go_sem,Qe,Qh,Qi,Qj,Qk,reduceCtorEq,reduceIte,h1,h2,h3,h4,h5]
theorem xgv(seed msg:List UInt8)(hs:seed.length<=64)(hm:msg.length<=100000000):call T 105 [.byt seed .no,.int .i64 0,.int .i64 0,.byt msg .no] [] 0=some ⟨.byt (kP seed 0 0 msg) .no,[],[]⟩:=by
 have g1:=Ro seed 0 hs;have g2:=xdD (lsV seed 0) 0 msg (by rw[kD];decide) (by decide) hm;have g3:=xly seed hs;have g4:=xgn (pubL (lsV seed 0) 0);have hl:=lD (lsV seed 0) 0 msg;have hp0:=ee (lsV seed 0) 0;have hp1:=ee (lsV seed 0) 1;rw[xkM]at g3;simp only[bys,aF,bX]at g3;simp only[c0,c1]at*;have e:kP seed 0 0 msg=cQ 0::(qQ (lsV seed 0) 0 msg++ []):=rfl;rw[e];generalize qQ (lsV seed 0) 0 msg=S at*;generalize pubL (lsV seed 0) 0=A at*;generalize pubL (lsV seed 0) 1=B at*;have c2:1+S.length<=140737488355328:=by omega
 have c3:S.length+1<=140737488355328:=by omega
 have c4:1+S.length+16<=140737488355328:=by omega
 have c5:S.length+1+16<=140737488355328:=by omega
 rw[an D4];simp (config:= {decide:=true}) only[go_sem,Q2,Qe,Qh,Qi,Qj,Qk,reduceCtorEq,reduceIte,w0,g1,g2,g3,g4,xX,OJ,YD,OI,hl];rw[ai];simp (config:= {decide:=true}) only[go_sem,Qh,Qj,Qk,reduceIte]
theorem xgu(seed msg:List UInt8)(hs:seed.length<=64)(hm:msg.length<=100000000):call T 105 [.byt seed .no,.int .i64 1,.int .i64 0,.byt msg .no] [] 0=some ⟨.byt (kP seed 1 0 msg) .no,[],[]⟩:=by
 have g1:=Ro seed 1 hs;have g2:=xdD (lsV seed 1) 0 msg (by rw[kD];decide) (by decide) hm;have g3:=xdC seed hs;have g4:=xgm (pubL (lsV seed 1) 0) (pubL (lsV seed 1) 1) (by rw[ee];decide) (by rw[ee];decide);have hl:=lD (lsV seed 1) 0 msg;have hp0:=ee (lsV seed 1) 0;have hp1:=ee (lsV seed 1) 1;rw[xdz]at g3;simp only[bys,aF,bX]at g3;simp only[c0,c1]at*;have e:kP seed 1 0 msg=cQ 0::(qQ (lsV seed 1) 0 msg++(pubL (lsV seed 1) 1)):=rfl;rw[e];generalize qQ (lsV seed 1) 0 msg=S at*;generalize pubL (lsV seed 1) 0=A at*;generalize pubL (lsV seed 1) 1=B at*;have c2:1+S.length<=140737488355328:=by omega
 have c3:S.length+1<=140737488355328:=by omega
 have c4:1+S.length+16<=140737488355328:=by omega
 have c5:S.length+1+16<=140737488355328:=by omega
 rw[an D4];simp (config:= {decide:=true}) only[go_sem,Q2,Qe,Qh,Qi,Qj,Qk,reduceCtorEq,reduceIte,w1,g1,g2,g3,g4,xX,OJ,YD,OI,hl];rw[ai];simp (config:= {decide:=true}) only[go_sem,Q2,Q4,Q8,Qe,Qh,Qi,Qj,Qk,reduceIte,hl,hp1];rw[ai];simp (config:= {decide:=true}) only[go_sem,Qh,Qj,Qk,reduceIte]
theorem xgt(seed msg:List UInt8)(hs:seed.length<=64)(hm:msg.length<=100000000):call T 105 [.byt seed .no,.int .i64 1,.int .i64 1,.byt msg .no] [] 0=some ⟨.byt (kP seed 1 1 msg) .no,[],[]⟩:=by
 have g1:=Ro seed 1 hs;have g2:=xdD (lsV seed 1) 1 msg (by rw[kD];decide) (by decide) hm;have g3:=xdC seed hs;have g4:=xgl (pubL (lsV seed 1) 0) (pubL (lsV seed 1) 1) (by rw[ee];decide) (by rw[ee];decide);have hl:=lD (lsV seed 1) 1 msg;have hp0:=ee (lsV seed 1) 0;have hp1:=ee (lsV seed 1) 1;rw[xdz]at g3;simp only[bys,aF,bX]at g3;simp only[c0,c1]at*;have e:kP seed 1 1 msg=cQ 1::(qQ (lsV seed 1) 1 msg++(pubL (lsV seed 1) 0)):=rfl;rw[e];generalize qQ (lsV seed 1) 1 msg=S at*;generalize pubL (lsV seed 1) 0=A at*;generalize pubL (lsV seed 1) 1=B at*;have c2:1+S.length<=140737488355328:=by omega
 have c3:S.length+1<=140737488355328:=by omega
 have c4:1+S.length+16<=140737488355328:=by omega
 have c5:S.length+1+16<=140737488355328:=by omega
 rw[an D4];simp (config:= {decide:=true}) only[go_sem,Q2,Qe,Qh,Qi,Qj,Qk,reduceCtorEq,reduceIte,w1,g1,g2,g3,g4,xX,OJ,YD,OI,hl];rw[ai];simp (config:= {decide:=true}) only[go_sem,Q2,Q4,Q8,Qe,Qh,Qi,Qj,Qk,reduceIte,hl,hp0];rw[ai];simp (config:= {decide:=true}) only[go_sem,Qh,Qj,Qk,reduceIte]
theorem xel(seed msg:List UInt8):sgn seed 0 0 msg=kP seed 0 0 msg:=by unfold sgn;rw[if_neg (by decide)];rfl
theorem GT(seed msg:List UInt8):sgn seed 1 0 msg=kP seed 1 0 msg:=by unfold sgn;rw[if_neg (by decide)];rfl
theorem GS(seed msg:List UInt8):sgn seed 1 1 msg=kP seed 1 1 msg:=by unfold sgn;rw[if_neg (by decide)];rfl
theorem xl5(seed:List UInt8)(h leaf:Int)(msg:List UInt8)(hs:seed.length<=64)(hm:msg.length<=100000000)(hh:h<0\/3<h\/h=0\/h=1):
 call T 105 [.byt seed .no,.int .i64 h,.int .i64 leaf,.byt msg .no] [] 0=some ⟨.byt (sgn seed h leaf msg) .no,[],[]⟩:=by
 by_cases hn:sB h leaf
 ·have:sgn seed h leaf msg=[]:=if_pos hn
  rw[this];exact n57 seed h leaf msg hn
 ·have h1:h=0\/h=1:=by unfold sB at hn;omega
  rcases h1 with rfl|rfl
  ·have h2:leaf=0:=by have:=(not_congr (xcP leaf)).1 hn;omega
   subst h2;rw[xel];exact xgv seed msg hs hm
  ·have h2:leaf=0\/leaf=1:=by have:=(not_congr (xcO leaf)).1 hn;omega
   rcases h2 with rfl|rfl
   ·rw[GT];exact xgu seed msg hs hm
   ·rw[GS];exact xgt seed msg hs hm
end Go.Proofs.YtbfnljmmepcbfaaGreatDoor
