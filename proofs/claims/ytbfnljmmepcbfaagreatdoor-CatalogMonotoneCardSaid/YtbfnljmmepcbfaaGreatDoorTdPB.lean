/- Contracts. No condition. -/
import Derived.Test.YtbfnljmmepcbfaaGreatDoorTaPB
import Derived.Test.YtbfnljmmepcbfaaGreatDoorTcPB
open Array renaming getD_eq_getD_getElem? -> aS, getElem?_toList -> cY
open Bool renaming and_eq_true -> aC, false_or -> jC, or_eq_true -> fF
open Int renaming natCast_zero -> ay, tmod_eq_emod_of_nonneg -> fx
open Go.IntKind renaming i64 -> af, u64 -> aQ, wrap_u64 -> bO
open List renaming Pairwise -> fP, append_assoc -> az, append_nil -> bx, cons -> mP, cons_append -> bi, drop -> iD, drop_eq_getElem_cons -> bt, drop_length -> bw, drop_take -> fY, drop_zero -> aW, getD_eq_getElem?_getD -> aa, getElem?_eq_getElem -> ac, getElem?_map -> aT, getElem?_range -> cz, getElem_mem -> bv, length_append -> ae, length_cons -> al, length_drop -> aG, length_map -> aY, length_nil -> aA, length_singleton -> aF, length_take -> aq, map_cons -> aI, map_drop -> tH, map_nil -> bJ, map_take -> ic, mem_append -> am, mem_cons -> av, mem_cons_of_mem -> aw, mem_cons_self -> aB, mem_map -> aZ, mem_range -> eV, mem_singleton -> bj, nil_append -> aE, nodup_cons -> eB, pairwise_cons -> bV, range -> bM, range' -> tp, singleton_append -> dI, take -> eT, take_length -> dA, take_of_length_le -> aV
open Nat renaming le_refl -> aJ, mul_one -> dp, zero_add -> bT, zero_le -> aX
open Option renaming getD_some -> aM, map_some -> bB
open UInt8 renaming ofInt -> b8
set_option maxRecDepth 100000
set_option maxHeartbeats 16000000
set_option linter.unusedSimpArgs false
set_option linter.unusedVariables false
namespace Go.Proofs.YtbfnljmmepcbfaaGreatDoor
open Go.Sy
open UInt8 renaming reduceLT -> Q0, reduceLE -> Q1
open Int renaming reduceToNat -> Q2, reduceLE -> Q3, reduceLT -> Q4, reduceEq -> Q5, reduceNe -> Q6, reduceNeg -> Q7, reduceAdd -> Q8, reduceSub -> Q9, reduceMul -> Qa
open Nat renaming reducePow -> Qb, reduceDiv -> Qc, reduceMod -> Qd, reduceAdd -> Qe, reduceSub -> Qf, reduceMul -> Qg, reduceLT -> Qh, reduceLeDiff -> Qi, reduceEqDiff -> Qj, reduceBEq -> Qk
theorem kw0:af.wrap 0=0:=by decide
theorem kw1:af.wrap 1=1:=by decide
theorem kw2:af.wrap 2=2:=by decide
theorem n1c:((1:Nat):Int)=1:=rfl
theorem n2c:((2:Nat):Int)=2:=rfl
theorem sh3(n:Nat)(h:n<=3):af.wrap (1*2^min n 64)=((2^n:Nat):Int):=by rcases (by omega:n=0\/n=1\/n=2\/n=3)with rfl|rfl|rfl|rfl<;>decide
theorem xxL(x:d9)(i:Nat)(P:List d9)(y:P.length<=3)(O:∀s∈P,s.length<=1000000)(hi:i<2^P.length)(L:x.length<=1000000):
 call T 155 [.byt x .no,.int .i64 i,.lst 1 (bys P) .no] [] 0=some ⟨.byt (lh 0 i P x) .no,[],[]⟩:=by
 have E:=gP P;have Z:(2:Nat)^P.length<=2^3:=Nat.pow_le_pow_right (by decide) y;have g:=xw0 P y O _ 0 i x (.id 128) rfl (aX _) (by omega) L;have I:¬(3:Int)<P.length:=by omega
 have Q:¬3<P.length:=by omega
 have C:¬(i:Int)<0:=by omega
 have F:aQ.wrap (P.length:Int)=P.length:=by rw[bO];omega
 have J:=sh3 P.length y;have W:¬(2:Nat)^P.length<=i:=by omega
 have h:¬((2^P.length:Nat):Int)<=(i:Int):=by omega
 have c2:x.length<=140737488355328:=by omega
 simp only[ay,aW]at g;rw[aj xsm]
 by_cases hz:0=P.length
 ·simp only[go_sem,Qe,Qh,Qi,Qj,Qk,reduceCtorEq,reduceIte,E,I,C,F,J,h,c2,g,aE,if_pos hz]
 ·simp only[go_sem,Qe,Qh,Qi,Qj,Qk,reduceCtorEq,reduceIte,E,I,C,F,J,h,c2,g,aE,if_neg hz]
theorem xwS(P:List d9)(hP:P.length<=3)(hb:∀s∈P,s.length<=1000000):∀(n h i:Nat)(x:d9),P.length-h=n->h<=P.length->i<1000->x.length<=1000000->
 run T (.loop vq) ⟨[(1,.int .i64 i),(2,.lst 1 (bys P) .no),(7,.byt x .no),(8,.int .i64 h)],[],[]⟩=
 some (.x 0,⟨[(7,.byt (lh h i (P.drop h) x) .no)],[],[]⟩):=by
 intro n;induction n with
 |zero=>
  intro h i x h0 h1 h2 J;have hi:h=P.length:=by omega
  have I:=gP P;subst hi;rw[bw,ai];simp only[go_sem,Qh,Qj,Qk,reduceIte,I,lh]
 |succ n Z=>
  intro h i x h0 h1 h2 J;have F:h<P.length:=by omega
  have W:(h:Int)<(P.length:Int):=by omega
  have Q:=cg h (by omega);have hg:=rg P h F;have I:=gP P
  have hs:(P.getD h []).length<=1000000:=by rw[aa,ac F,aM];exact hb _ (bv F)
  have hd:P.drop h=P.getD h []::P.drop (h+1):=by rw[bt F,aa,ac F,aM]
  rw[hd];generalize hc:P.getD h []=s at*;have e2:(i:Int).tdiv 2=((i/2:Nat):Int):=by rw[Int.tdiv_eq_ediv_of_nonneg (by omega)];omega
  have C:(i:Int).tmod 2=((i % 2:Nat):Int):=by rw[fx (by omega)];omega
  have O:af.wrap ((i/2:Nat):Int)=((i/2:Nat):Int):=w64 (by omega) (by omega);rw[ai]
  by_cases ho:i % 2=1
  ·have y:=Z (h+1) (i/2) (jw h (i/2) s x) (by omega) (by omega) (by omega) (by rw[jw,ek];omega)
   have g:=xoa h (i/2) s x hs J;have z1:¬(1:Nat)=0:=by decide
   have L:¬(1:Int)=0:=by decide
   rw[ho]at C;simp only[Int.natCast_one]at C;simp only[go_sem,Q5,Qh,Qj,Qk,reduceIte,W,Q,hg,I,e2,C,O,g,XY,y,lh,ho,L]
  ·have E:i % 2=0:=by omega
   have y:=Z (h+1) (i/2) (jw h (i/2) x s) (by omega) (by omega) (by omega) (by rw[jw,ek];omega);have g:=xoa h (i/2) x s J hs;rw[E]at C;simp only[ay]at C;have L:¬(0:Nat)=1:=by decide
   simp only[go_sem,Q5,Qh,Qj,Qk,reduceIte,W,Q,hg,I,e2,C,O,g,XY,y,lh,E,L]
theorem xxx(x:d9)(i:Nat)(P:List d9)(y:P.length<=3)(E:∀s∈P,s.length<=1000000)(hi:i<2^P.length)(C:x.length<=1000000):
 call T 195 [.byt x .no,.int .i64 i,.lst 1 (bys P) .no] [] 0=some ⟨.byt (lh 0 i P x) .no,[],[]⟩:=by
 have I:=gP P;have Z:(2:Nat)^P.length<=2^3:=Nat.pow_le_pow_right (by decide) y;have g:=xwS P y E _ 0 i x rfl (aX _) (by omega) C;have L:¬(3:Int)<P.length:=by omega
 have O:¬3<P.length:=by omega
 have F:¬(i:Int)<0:=by omega
 have J:aQ.wrap (P.length:Int)=P.length:=by rw[bO];omega
 have Q:=sh3 P.length y;have W:¬(2:Nat)^P.length<=i:=by omega
 have h:¬((2^P.length:Nat):Int)<=(i:Int):=by omega
 have gc:=xh7 x (by omega);simp only[ay,aW]at g;rw[aj xr1];simp only[go_sem,Qe,Qh,Qi,Qj,Qk,reduceCtorEq,reduceIte,I,L,F,J,Q,h,gc,IN,g]
theorem xrG:call T 110 [.int .i64 1] [] 0=some ⟨.bool true,[],[]⟩:=by rw[aj xim];simp+decide only[go_sem,reduceIte,aA]
theorem VE:call T 110 [.int .i64 2] [] 0=some ⟨.bool true,[],[]⟩:=by rw[aj xim];simp+decide only[go_sem,reduceIte,aA]
theorem xoe(A B:d9)(y:A.length<=1000000)(h:B.length<=1000000):call T 111 [.int .i64 0,.lst 1 [[.byt A .no],[.byt B .no]] .no] [] 0=some ⟨.lst 1 [[.byt (jw 0 0 A B) .no]] .no,[],[]⟩:=by have g:=xoa 0 0 A B y h;simp only[ay]at g;rw[aj xsT];simp only[go_sem,Qe,Qh,Qi,Qj,Qk,reduceCtorEq,reduceIte];rw[ai];simp+decide only[go_sem,Q2,Q4,Q8,Qa,Qe,Qg,Qh,Qi,Qj,Qk,reduceCtorEq,reduceIte,n2c,kw0,kw1,al,aA,g,XY];rw[ai];simp+decide only[go_sem,Q8,Qa,Qe,Qh,Qj,Qk,reduceIte,n2c,kw2,al,aA]
theorem xxv(A B:d9)(C:A.length<=1000000)(h:B.length<=1000000):call T 66 [.lst 1 [[.byt A .no],[.byt B .no]] .no] [] 0=some ⟨.byt (jw 0 0 A B) .no,[],[]⟩:=by have g:=xh7 (jw 0 0 A B) (by rw[jw,ek];decide);have g0:=VE;have y:=xoe A B C h;rw[aj xyL];simp+decide only[go_sem,Qe,Qh,Qi,Qj,Qk,reduceCtorEq,reduceIte,n2c,al,aA,g0,IP];rw[ai];simp+decide only[go_sem,Q8,Qe,Qh,Qj,Qk,reduceIte,n2c,kw1,al,aA,y,X3];rw[ai];simp+decide only[go_sem,Q2,Q4,Qh,Qj,Qk,reduceIte,n1c,al,aA,g,IN]
theorem xrE(A:d9):call T 146 [.int .i64 0,.lst 1 [[.byt A .no]] .no] [] 0=some ⟨.lst 1 [] .no,[],[]⟩:=by have g0:=xrG;rw[aj V9];simp+decide only[go_sem,Qe,Qh,Qi,Qj,Qk,reduceCtorEq,reduceIte,n1c,al,aA,g0,IP];rw[ai];simp+decide only[go_sem,Qh,Qj,Qk,reduceIte,n1c,al,aA]
theorem x10:cn .xor .i64 0 1=1:=by decide
theorem x11:cn .xor .i64 1 1=0:=by decide
theorem xrD(A B:d9)(C:A.length<=1000000)(h:B.length<=1000000):call T 146 [.int .i64 0,.lst 1 [[.byt A .no],[.byt B .no]] .no] [] 0=some ⟨.lst 1 [[.byt B .no]] .no,[],[]⟩:=by have g:=xh7 B (by omega);have g0:=VE;have y:=xoe A B C h;rw[aj V9];simp+decide only[go_sem,Qe,Qh,Qi,Qj,Qk,reduceCtorEq,reduceIte,n2c,al,aA,g0,IP];rw[ai];simp+decide only[go_sem,Q2,Q4,Q8,Qe,Qg,Qh,Qi,Qj,Qk,reduceCtorEq,reduceIte,n2c,kw1,al,aA,x10,g,y,X3,IN];rw[ai];simp+decide only[go_sem,Qh,Qj,Qk,reduceIte,n1c,al,aA]
theorem xrC(A B:d9)(C:A.length<=1000000)(h:B.length<=1000000):call T 146 [.int .i64 1,.lst 1 [[.byt A .no],[.byt B .no]] .no] [] 0=some ⟨.lst 1 [[.byt A .no]] .no,[],[]⟩:=by have g:=xh7 A (by omega);have g0:=VE;have y:=xoe A B C h;rw[aj V9];simp+decide only[go_sem,Qe,Qh,Qi,Qj,Qk,reduceCtorEq,reduceIte,n2c,al,aA,g0,IP];rw[ai];simp+decide only[go_sem,Q2,Q4,Q8,Qe,Qg,Qh,Qi,Qj,Qk,reduceCtorEq,reduceIte,n2c,kw1,al,aA,x11,g,y,X3,IN];rw[ai];simp+decide only[go_sem,Qh,Qj,Qk,reduceIte,n1c,al,aA]
theorem xxN(h:Nat)(E:h<=3):call T 153 [.int .i64 h] [] 0=some ⟨.bool true,[],[]⟩:=by
 have C:(0:Int)<=(h:Int):=by omega
 have y:(h:Int)<=3:=by omega
 rw[aj xik];simp only[go_sem,Qh,Qi,Qj,Qk,reduceCtorEq,reduceIte,C,y]
theorem xrB(h:Int)(E:h<0\/3<h):call T 153 [.int .i64 h] [] 0=some ⟨.bool false,[],[]⟩:=by
 rw[aj xik]
 by_cases y:(0:Int)<=h
 ·have C:¬h<=3:=by omega
  simp only[go_sem,Qh,Qi,Qj,Qk,reduceCtorEq,reduceIte,y,C]
 ·simp only[go_sem,Qh,Qi,Qj,Qk,reduceCtorEq,reduceIte,y]
theorem xae(y:d9)(h:Nat)(C:y.length<=64):call T 113 [.byt y .no,.int .i64 h] [] 0=some ⟨.byt (lsV y h) .no,[],[]⟩:=by have g:=xvf y xbg [ub h] 32 (by decide) (by decide) C (by decide) (by simp);unfold xbg ub at g;rw[c32]at g;rw[aj xsR];simp only[go_sem,Qe,Qh,Qi,Qj,Qk,reduceCtorEq,reduceIte,g,xiR,lsV,xbg,ub]
theorem xwx(y:d9)(h:Nat):lvs y h (2^0)=[pubL (lsV y h) 0]:=rfl
theorem xn6(y:d9)(h:Nat):lvs y h (2^1)=[pubL (lsV y h) 0,pubL (lsV y h) 1]:=rfl
theorem xrf(y:d9)(h:Nat):lvs y h 1=[pubL (lsV y h) 0]:=rfl
theorem xre(y:d9)(h:Nat):lvs y h 2=[pubL (lsV y h) 0,pubL (lsV y h) 1]:=rfl
theorem xxu(h:d9)(C:h.length<=64):call T 67 [.byt h .no,.int .i64 0] [] 0=some ⟨.lst 1 (bys (lvs h 0 (2^0))) .no,[],[]⟩:=by have g0:=xae h 0 C;have y:=xod (lsV h 0) 0 (by rw[mu];decide) (by omega);simp only[ay]at g0 y;rw[aj xvu];simp+decide only[go_sem,Qb,Qe,Qh,Qi,Qj,Qk,reduceCtorEq,reduceIte,g0,Bx];rw[ai];simp+decide only[go_sem,Q8,Qe,Qg,Qh,Qi,Qj,Qk,reduceIte,kw1,y,X2];rw[ai];simp+decide only[go_sem,Qh,Qj,Qk,reduceIte,xrf,bys,aI,bJ]
theorem xn8(h:d9)(E:h.length<=64):call T 67 [.byt h .no,.int .i64 1] [] 0=some ⟨.lst 1 (bys (lvs h 1 (2^1))) .no,[],[]⟩:=by have g0:=xae h 1 E;have y:=xod (lsV h 1) 0 (by rw[mu];decide) (by omega);have C:=xod (lsV h 1) 1 (by rw[mu];decide) (by omega);simp only[ay,Int.natCast_one]at g0 y C;rw[aj xvu];simp+decide only[go_sem,Qb,Qe,Qh,Qi,Qj,Qk,reduceCtorEq,reduceIte,g0,Bx];rw[ai];simp+decide only[go_sem,Q8,Qe,Qg,Qh,Qi,Qj,Qk,reduceIte,kw1,y,X2];rw[ai];simp+decide only[go_sem,Q8,Qe,Qg,Qh,Qi,Qj,Qk,reduceIte,kw2,C,X2];rw[ai];simp+decide only[go_sem,Qh,Qj,Qk,reduceIte,xre,bys,aI,bJ]
theorem zS(P:List d9)(s:d9):bys (P++ [s])=bys P++ [[.byt s .no]]:=by simp[bys]
theorem vo:∀(n:Nat)(l:d9),(rws n l).length=n
 |0,_=>rfl
 |n+1,l=>by rw[rws,al,vo n]
theorem BG:∀(n:Nat)(l:d9),∀s∈rws n l,s.length<=1000000
 |0,_=>fun s h=>by cases h
 |n+1,l=>fun s h=>by
  rw[rws]at h;rcases av.1 h with rfl|h
  ·rw[aq];omega
  ·exact BG n _ s h
theorem xw9(pub x:d9)(y:Int):∀(n:Nat)(h:d9)(P:List d9),h.length=16*n->P.length+n<=3->
 run T (.loop vF) ⟨[(0,.byt pub .no),(6,.int .i64 y),(9,.byt x .no),(10,.lst 1 (bys P) (.id 110)),(11,.byt h .no)],[],[110]⟩=
 some (.x 0,⟨[(0,.byt pub .no),(6,.int .i64 y),(9,.byt x .no),(10,.lst 1 (bys (P++rws n h)) (.id 110))],[],[110]⟩):=by
 intro n;induction n with
 |zero=>
  intro h P J L;have hz:¬0<h.length:=by omega
  have C:¬(0:Int)<(h.length:Int):=by omega
  rw[ai,rws,bx];simp only[go_sem,Qh,Qj,Qk,reduceCtorEq,reduceIte,C]
 |succ n Q=>
  intro h P J L;have hz:0<h.length:=by omega
  have C:(0:Int)<(h.length:Int):=by omega
  have h16:16<=h.length:=by omega
  have F:(16:Int)<=(h.length:Int):=by omega
  have E:=Q (h.drop 16) (P++ [h.take 16]) (by rw[aG];omega) (by rw[ae,aF];omega);rw[zS,az,dI]at E;have I:=gP P;have c1:(P.length+1)*24<=140737488355328:=by omega
  have O:h.take h.length=h:=dA;rw[ai,rws];simp only[go_sem,Q2,Q3,Qe,Qh,Qi,Qj,Qk,reduceCtorEq,reduceIte,C,F,I,c1,O,E]
theorem xwY(pub sig x:d9)(y:Int)(h:Nat)(hh:h<=3)(hs:sig.length=561+16*h):∀(n i:Nat)(P:List d9),i+n=h->P.length+n<=3->
 run T (.loop vw) ⟨[(0,.byt pub .no),(2,.byt sig .no),(8,.int .i64 h),(9,.int .i64 y),(10,.int .i64 ((561+16*i:Nat):Int)),(11,.byt x .no),(13,.lst 1 (bys P) (.id 113)),(14,.int .i64 i)],[],[113]⟩=
 some (.x 0,⟨[(0,.byt pub .no),(9,.int .i64 y),(11,.byt x .no),(13,.lst 1 (bys (P++rws n (sig.drop (561+16*i)))) (.id 113))],[],[113]⟩):=by
 intro n;induction n with
 |zero=>
  intro i P J Q;have hi:i=h:=by omega
  subst hi;rw[ai,rws,bx];simp only[go_sem,Qh,Qj,Qk,reduceCtorEq,reduceIte]
 |succ n Z=>
  intro i P J Q;have hi:i<h:=by omega
  have E:(i:Int)<(h:Int):=by omega
  have L:=cg i (by omega);have O:af.wrap (((561+16*i:Nat):Int)+16)=((561+16*i+16:Nat):Int):=wZ (by omega)
  have W:561+16*i<=561+16*i+16:=by omega
  have F:561+16*i+16<=561+16*h:=by omega
  have a3:(sig.take (561+16*i+16)).drop (561+16*i)=(sig.drop (561+16*i)).take 16:=by rw[fY];congr 1;omega
  have a4:(sig.drop (561+16*i)).drop 16=sig.drop (561+16*i+16):=by rw[List.drop_drop]
  have a5:561+16*(i+1)=561+16*i+16:=by omega
  have C:=Z (i+1) (P++ [(sig.drop (561+16*i)).take 16]) (by omega) (by rw[ae,aF];omega);rw[a5,zS,az,dI]at C;have I:=gP P;have c1:(P.length+1)*24<=140737488355328:=by omega
  rw[ai,rws,a4];generalize 561+16*i=q at*;simp only[go_sem,Qe,Qh,Qi,Qj,Qk,reduceCtorEq,reduceIte,E,L,O,W,F,a3,hs,I,c1,C]
def IT(pub h sig:d9):SV:= .tup [.int .i64 (if gM pub h sig=true then((sig.getD 0 0).toNat:Int)else 0),.bool (gM pub h sig)]
theorem xtq(n:Nat)(h:n<=3):af.wrap (1*2^min (aQ.wrap (n:Int)).toNat 64)=((2^n:Nat):Int):=by rcases (by omega:n=0\/n=1\/n=2\/n=3)with rfl|rfl|rfl|rfl<;>decide
theorem jD{pub y sig:d9}(h:gM pub y sig=false):IT pub y sig= .tup [.int .i64 0,.bool false]:=by unfold IT;rw[h];rfl
theorem xxY(pub y sig:d9)(hm:y.length<=100000000):call T 122 [.byt pub .no,.byt y .no,.byt sig .no] [] 0=some ⟨IT pub y sig,[],[]⟩:=by
 by_cases F:pub.length=17
 ·have a7:(pub.length:Int)=17:=by omega
  have h0:0<pub.length:=by omega
  by_cases L:(pub.getD 0 0).toNat<=3
  ·have W:=xxN _ L
   by_cases Z:sig.length=561+16*(pub.getD 0 0).toNat
   ·have h4:0<sig.length:=by omega
    have O:(0:Int)<((561+16*(pub.getD 0 0).toNat:Nat):Int):=by omega
    have t3:sig.take (561+16*(pub.getD 0 0).toNat)=sig:=aV (by omega);have t4:pub.take 17=pub:=aV (by omega);have e2:=xtq _ L;have m1:af.wrap (16*((pub.getD 0 0).toNat:Int))=((16*(pub.getD 0 0).toNat:Nat):Int):=wZ (by omega)
    have m2:af.wrap (561+((16*(pub.getD 0 0).toNat:Nat):Int))=((561+16*(pub.getD 0 0).toNat:Nat):Int):=wZ (by omega)
    have Q:0<=aQ.wrap ((pub.getD 0 0).toNat:Int):=by rw[bO];omega
    by_cases h5:(sig.getD 0 0).toNat<2^(pub.getD 0 0).toNat
    ·have J:¬2^(pub.getD 0 0).toNat<=(sig.getD 0 0).toNat:=by omega
     have g2:=xxM (sig.getD 0 0).toNat y ((sig.drop 1).take 560) (by have:=(sig.getD 0 0).toNat_lt;omega) (by rw[aq,aG];omega) hm;have g3:=xw9 pub (mT (sig.getD 0 0).toNat y ((sig.drop 1).take 560)) (sig.getD 0 0).toNat (pub.getD 0 0).toNat (sig.drop 561) [] (by rw[aG];omega) (by simpa using L);have a6:=vo (pub.getD 0 0).toNat (sig.drop 561);have g4:=xxL (mT (sig.getD 0 0).toNat y ((sig.drop 1).take 560)) (sig.getD 0 0).toNat (rws (pub.getD 0 0).toNat (sig.drop 561)) (by rw[a6];exact L) (BG _ _) (by rw[a6];exact h5) (by rw[mT,tK,ek];decide)
     have E:gM pub y sig=decide (lh 0 (sig.getD 0 0).toNat (rws (pub.getD 0 0).toNat (sig.drop 561)) (mT (sig.getD 0 0).toNat y ((sig.drop 1).take 560))=pub.drop 1):=by unfold gM;rw[if_pos ⟨F,L⟩,if_pos ⟨Z,h5⟩]
     have t1:(sig.take 561).drop 1=(sig.drop 1).take 560:=by rw[fY]
     have a1:561<=sig.length:=by omega
     have a2:1<=pub.length:=by omega
     have a3:561<=561+16*(pub.getD 0 0).toNat:=by omega
     have a4:1<=17:=by decide
     have a5:(561:Int)<=((561+16*(pub.getD 0 0).toNat:Nat):Int):=by omega
     unfold IT;rw[E];generalize mT (sig.getD 0 0).toNat y ((sig.drop 1).take 560)=X at*;generalize rws (pub.getD 0 0).toNat (sig.drop 561)=R at*;generalize lh 0 (sig.getD 0 0).toNat R X=Y at*;have b0:bys []=[]:=rfl;simp only[aE,b0]at g3;generalize C:pub.getD 0 0=pb at*;generalize I:sig.getD 0 0=sb at*;rw[aj Bq]
     by_cases hY:Y=pub.drop 1
     ·simp only[go_sem,Q2,Q3,Q4,Qb,Qc,Qd,Qe,Qh,Qi,Qj,Qk,reduceCtorEq,reduceIte,F,C,I,W,Bu,Z,O,t3,t4,e2,m1,m2,J,Q,t1,g2,xiM,a5,g3,g4,xiL,hY]
     ·simp only[go_sem,Q2,Q3,Q4,Qb,Qc,Qd,Qe,Qh,Qi,Qj,Qk,reduceCtorEq,reduceIte,F,C,I,W,Bu,Z,O,t3,t4,e2,m1,m2,J,Q,t1,g2,xiM,a5,g3,g4,xiL,hY]
    ·have J:2^(pub.getD 0 0).toNat<=(sig.getD 0 0).toNat:=by omega
     have E:gM pub y sig=false:=by unfold gM;rw[if_pos ⟨F,L⟩,if_neg (fun h=>h5 h.2)]
     rw[jD E];generalize C:pub.getD 0 0=pb at*;generalize I:sig.getD 0 0=sb at*;rw[aj Bq];simp only[go_sem,Q2,Q3,Q4,Qe,Qh,Qi,Qj,Qk,reduceCtorEq,reduceIte,F,C,I,W,Bu,Z,O,e2,m1,m2,J,Q]
   ·have E:gM pub y sig=false:=by
     unfold gM;rw[if_pos ⟨F,L⟩,if_neg (fun h=>Z h.1)]
    have m1:af.wrap (16*((pub.getD 0 0).toNat:Int))=((16*(pub.getD 0 0).toNat:Nat):Int):=wZ (by omega)
    have m2:af.wrap (561+((16*(pub.getD 0 0).toNat:Nat):Int))=((561+16*(pub.getD 0 0).toNat:Nat):Int):=wZ (by omega)
    have a8:¬(sig.length:Int)=((561+16*(pub.getD 0 0).toNat:Nat):Int):=by omega
    rw[jD E];generalize C:pub.getD 0 0=pb at*;rw[aj Bq];simp only[go_sem,Q2,Q3,Q4,Qe,Qh,Qi,Qj,Qk,reduceCtorEq,reduceIte,F,C,W,Bu,a8,m1,m2]
  ·have W:=xrB ((pub.getD 0 0).toNat:Int) (by omega)
   have E:gM pub y sig=false:=by unfold gM;rw[if_neg (fun h=>L h.2)]
   rw[jD E];generalize C:pub.getD 0 0=pb at*;rw[aj Bq];simp only[go_sem,Q2,Q3,Q4,Qe,Qh,Qi,Qj,Qk,reduceCtorEq,reduceIte,F,C,W,Bu]
 ·have a7:¬(pub.length:Int)=17:=by omega
  have E:gM pub y sig=false:=by unfold gM;rw[if_neg (fun h=>F h.1)]
  rw[jD E,aj Bq];simp only[go_sem,Q2,Q3,Qe,Qh,Qi,Qj,Qk,reduceCtorEq,reduceIte,a7]
theorem xxJ(pub y sig:d9)(hm:y.length<=100000000):call T 163 [.byt pub .no,.byt y .no,.byt sig .no] [] 0=some ⟨IT pub y sig,[],[]⟩:=by
 by_cases E:pub.length=17
 ·have a7:(pub.length:Int)=17:=by omega
  have h0:0<pub.length:=by omega
  by_cases L:(pub.getD 0 0).toNat<=3
  ·have Z:¬(3:Int)<((pub.getD 0 0).toNat:Int):=by omega
   have b3:¬3<(pub.getD 0 0).toNat:=by omega
   by_cases W:sig.length=561+16*(pub.getD 0 0).toNat
   ·have h4:0<sig.length:=by omega
    have Q:(0:Int)<((561+16*(pub.getD 0 0).toNat:Nat):Int):=by omega
    have t3:sig.take (561+16*(pub.getD 0 0).toNat)=sig:=aV (by omega);have t4:pub.take 17=pub:=aV (by omega);have e2:=xtq _ L;have m1:af.wrap (16*((pub.getD 0 0).toNat:Int))=((16*(pub.getD 0 0).toNat:Nat):Int):=wZ (by omega)
    have m2:af.wrap (561+((16*(pub.getD 0 0).toNat:Nat):Int))=((561+16*(pub.getD 0 0).toNat:Nat):Int):=wZ (by omega)
    have O:0<=aQ.wrap ((pub.getD 0 0).toNat:Int):=by rw[bO];omega
    by_cases h5:(sig.getD 0 0).toNat<2^(pub.getD 0 0).toNat
    ·have I:¬2^(pub.getD 0 0).toNat<=(sig.getD 0 0).toNat:=by omega
     have g2:=xxy (sig.getD 0 0).toNat y ((sig.drop 1).take 560) (by have:=(sig.getD 0 0).toNat_lt;omega) (by rw[aq,aG];omega) hm;have g3:=xwY pub sig (mT (sig.getD 0 0).toNat y ((sig.drop 1).take 560)) (sig.getD 0 0).toNat (pub.getD 0 0).toNat L W (pub.getD 0 0).toNat 0 [] (bT _) (by simpa using L);have a6:=vo (pub.getD 0 0).toNat (sig.drop 561);have g4:=xxx (mT (sig.getD 0 0).toNat y ((sig.drop 1).take 560)) (sig.getD 0 0).toNat (rws (pub.getD 0 0).toNat (sig.drop 561)) (by rw[a6];exact L) (BG _ _) (by rw[a6];exact h5) (by rw[mT,tK,ek];decide)
     have J:gM pub y sig=decide (lh 0 (sig.getD 0 0).toNat (rws (pub.getD 0 0).toNat (sig.drop 561)) (mT (sig.getD 0 0).toNat y ((sig.drop 1).take 560))=pub.drop 1):=by unfold gM;rw[if_pos ⟨E,L⟩,if_pos ⟨W,h5⟩]
     have t1:(sig.take 561).drop 1=(sig.drop 1).take 560:=by rw[fY]
     have a1:561<=sig.length:=by omega
     have a2:1<=pub.length:=by omega
     have a3:561<=561+16*(pub.getD 0 0).toNat:=by omega
     have a4:1<=17:=by decide
     have a5:(561:Int)<=((561+16*(pub.getD 0 0).toNat:Nat):Int):=by omega
     have gy:=f31 (lh 0 (sig.getD 0 0).toNat (rws (pub.getD 0 0).toNat (sig.drop 561)) (mT (sig.getD 0 0).toNat y ((sig.drop 1).take 560))) (pub.drop 1) (by rw[zO _ _ _ _ (by rw[mT,tK,ek])];decide);unfold IT;rw[J];generalize mT (sig.getD 0 0).toNat y ((sig.drop 1).take 560)=X at*;generalize rws (pub.getD 0 0).toNat (sig.drop 561)=R at*;generalize lh 0 (sig.getD 0 0).toNat R X=Y at*;have b0:bys []=[]:=rfl;have b1:561+16*0=561:=rfl;have b2:((561:Nat):Int)=561:=rfl;simp only[aE,b0,b1,b2,ay]at g3;generalize C:pub.getD 0 0=pb at*;generalize F:sig.getD 0 0=sb at*;rw[aj Bp]
     by_cases hY:Y=pub.drop 1
     ·rw[hY]at gy
      simp only[go_sem,Q2,Q3,Q4,Qb,Qc,Qd,Qe,Qh,Qi,Qj,Qk,reduceCtorEq,reduceIte,E,C,F,Z,W,Q,t4,e2,m1,m2,I,O,t1,g2,xiC,a5,g3,g4,xiB,gy,tj,hY]
     ·simp only[go_sem,Q2,Q3,Q4,Qb,Qc,Qd,Qe,Qh,Qi,Qj,Qk,reduceCtorEq,reduceIte,E,C,F,Z,W,Q,t4,e2,m1,m2,I,O,t1,g2,xiC,a5,g3,g4,xiB,gy,tj,hY]
    ·have I:2^(pub.getD 0 0).toNat<=(sig.getD 0 0).toNat:=by omega
     have J:gM pub y sig=false:=by unfold gM;rw[if_pos ⟨E,L⟩,if_neg (fun h=>h5 h.2)]
     rw[jD J];generalize C:pub.getD 0 0=pb at*;generalize F:sig.getD 0 0=sb at*;rw[aj Bp];simp only[go_sem,Q2,Q3,Q4,Qe,Qh,Qi,Qj,Qk,reduceCtorEq,reduceIte,E,C,F,Z,W,Q,e2,m1,m2,I,O]
   ·have J:gM pub y sig=false:=by
     unfold gM;rw[if_pos ⟨E,L⟩,if_neg (fun h=>W h.1)]
    have m1:af.wrap (16*((pub.getD 0 0).toNat:Int))=((16*(pub.getD 0 0).toNat:Nat):Int):=wZ (by omega)
    have m2:af.wrap (561+((16*(pub.getD 0 0).toNat:Nat):Int))=((561+16*(pub.getD 0 0).toNat:Nat):Int):=wZ (by omega)
    have a8:¬(sig.length:Int)=((561+16*(pub.getD 0 0).toNat:Nat):Int):=by omega
    rw[jD J];generalize C:pub.getD 0 0=pb at*;rw[aj Bp];simp only[go_sem,Q2,Q3,Q4,Qe,Qh,Qi,Qj,Qk,reduceCtorEq,reduceIte,E,C,Z,a8,m1,m2]
  ·have Z:(3:Int)<((pub.getD 0 0).toNat:Int):=by omega
   have b3:3<(pub.getD 0 0).toNat:=by omega
   have J:gM pub y sig=false:=by unfold gM;rw[if_neg (fun h=>L h.2)]
   rw[jD J];generalize C:pub.getD 0 0=pb at*;rw[aj Bp];simp only[go_sem,Q2,Q3,Q4,Qe,Qh,Qi,Qj,Qk,reduceCtorEq,reduceIte,E,C,Z]
 ·have a7:¬(pub.length:Int)=17:=by omega
  have J:gM pub y sig=false:=by unfold gM;rw[if_neg (fun h=>E h.1)]
  rw[jD J,aj Bp];simp only[go_sem,Q2,Q3,Qe,Qh,Qi,Qj,Qk,reduceCtorEq,reduceIte,a7]
def vN(h y:Int):Prop:=h<0\/3<h\/y<0\/af.wrap (1*2^min (aQ.wrap h).toNat 64)<=y
instance (h leaf:Int):Decidable (vN h leaf):=by unfold vN;infer_instance
def sgn(C:d9)(h y:Int)(E:d9):d9:=if vN h y then []else mG C h.toNat y.toNat E
theorem xnl(h:Int):vN 0 h↔(h<0\/1<=h):=by
 have e:af.wrap (1*2^min (aQ.wrap 0).toNat 64)=1:=by decide
 unfold vN;rw[e];omega
theorem xnk(h:Int):vN 1 h↔(h<0\/2<=h):=by
 have e:af.wrap (1*2^min (aQ.wrap 1).toNat 64)=2:=by decide
 unfold vN;rw[e];omega
theorem w0:aQ.wrap 0=0:=by decide
theorem w1:aQ.wrap 1=1:=by decide
theorem n57(C:d9)(h y:Int)(I:d9)(hn:vN h y):call T 105 [.byt C .no,.int .i64 h,.int .i64 y,.byt I .no] [] 0=some ⟨.byt [] .no,[],[]⟩:=by
 rw[aj IL]
 by_cases E:h<0
 ·simp only[go_sem,Qe,Qh,Qi,Qj,Qk,reduceCtorEq,reduceIte,E]
 by_cases F:3<h
 ·simp only[go_sem,Qe,Qh,Qi,Qj,Qk,reduceCtorEq,reduceIte,E,F]
 by_cases J:y<0
 ·simp only[go_sem,Qe,Qh,Qi,Qj,Qk,reduceCtorEq,reduceIte,E,F,J]
 have O:af.wrap (1*2^min (aQ.wrap h).toNat 64)<=y:=by unfold vN at hn;omega
 have L:0<=aQ.wrap h:=by rw[bO];omega
 simp only[go_sem,Qe,Qh,Qi,Qj,Qk,reduceCtorEq,reduceIte,E,F,J,O,L]
theorem xrM(h y:d9)(E:h.length<=64)(O:y.length<=100000000):call T 105 [.byt h .no,.int .i64 0,.int .i64 0,.byt y .no] [] 0=some ⟨.byt (mG h 0 0 y) .no,[],[]⟩:=by
 have Q:=xae h 0 E;have I:=xob (lsV h 0) 0 y (by rw[mu];decide) (by decide) O;have C:=xxu h E;have F:=xrE (pubL (lsV h 0) 0);have W:=nC (lsV h 0) 0 y;have L:=eN (lsV h 0) 0;have J:=eN (lsV h 0) 1;rw[xwx]at C;simp only[bys,aI,bJ]at C;simp only[c0,c1]at*;have e:mG h 0 0 y=b8 0::(tQ (lsV h 0) 0 y++ []):=rfl;rw[e];generalize tQ (lsV h 0) 0 y=S at*;generalize pubL (lsV h 0) 0=A at*;generalize pubL (lsV h 0) 1=B at*;have c2:1+S.length<=140737488355328:=by omega
 have c3:S.length+1<=140737488355328:=by omega
 have c4:1+S.length+16<=140737488355328:=by omega
 have Z:S.length+1+16<=140737488355328:=by omega
 rw[aj IL];simp+decide only[go_sem,Q2,Qe,Qh,Qi,Qj,Qk,reduceCtorEq,reduceIte,w0,Q,I,C,F,Bx,X0,xix,XZ,W];rw[ai];simp+decide only[go_sem,Qh,Qj,Qk,reduceIte]
theorem xrL(h y:d9)(I:h.length<=64)(Q:y.length<=100000000):call T 105 [.byt h .no,.int .i64 1,.int .i64 0,.byt y .no] [] 0=some ⟨.byt (mG h 1 0 y) .no,[],[]⟩:=by
 have W:=xae h 1 I;have L:=xob (lsV h 1) 0 y (by rw[mu];decide) (by decide) Q;have E:=xn8 h I;have J:=xrD (pubL (lsV h 1) 0) (pubL (lsV h 1) 1) (by rw[eN];decide) (by rw[eN];decide);have F:=nC (lsV h 1) 0 y;have O:=eN (lsV h 1) 0;have C:=eN (lsV h 1) 1;rw[xn6]at E;simp only[bys,aI,bJ]at E;simp only[c0,c1]at*;have e:mG h 1 0 y=b8 0::(tQ (lsV h 1) 0 y++(pubL (lsV h 1) 1)):=rfl;rw[e];generalize tQ (lsV h 1) 0 y=S at*;generalize pubL (lsV h 1) 0=A at*;generalize pubL (lsV h 1) 1=B at*;have c2:1+S.length<=140737488355328:=by omega
 have c3:S.length+1<=140737488355328:=by omega
 have c4:1+S.length+16<=140737488355328:=by omega
 have Z:S.length+1+16<=140737488355328:=by omega
 rw[aj IL];simp+decide only[go_sem,Q2,Qe,Qh,Qi,Qj,Qk,reduceCtorEq,reduceIte,w1,W,L,E,J,Bx,X0,xix,XZ,F];rw[ai];simp+decide only[go_sem,Q2,Q4,Q8,Qe,Qh,Qi,Qj,Qk,reduceIte,F,C];rw[ai];simp+decide only[go_sem,Qh,Qj,Qk,reduceIte]
theorem xrK(h y:d9)(I:h.length<=64)(Q:y.length<=100000000):call T 105 [.byt h .no,.int .i64 1,.int .i64 1,.byt y .no] [] 0=some ⟨.byt (mG h 1 1 y) .no,[],[]⟩:=by
 have W:=xae h 1 I;have L:=xob (lsV h 1) 1 y (by rw[mu];decide) (by decide) Q;have E:=xn8 h I;have J:=xrC (pubL (lsV h 1) 0) (pubL (lsV h 1) 1) (by rw[eN];decide) (by rw[eN];decide);have F:=nC (lsV h 1) 1 y;have C:=eN (lsV h 1) 0;have O:=eN (lsV h 1) 1;rw[xn6]at E;simp only[bys,aI,bJ]at E;simp only[c0,c1]at*;have e:mG h 1 1 y=b8 1::(tQ (lsV h 1) 1 y++(pubL (lsV h 1) 0)):=rfl;rw[e];generalize tQ (lsV h 1) 1 y=S at*;generalize pubL (lsV h 1) 0=A at*;generalize pubL (lsV h 1) 1=B at*;have c2:1+S.length<=140737488355328:=by omega
 have c3:S.length+1<=140737488355328:=by omega
 have c4:1+S.length+16<=140737488355328:=by omega
 have Z:S.length+1+16<=140737488355328:=by omega
 rw[aj IL];simp+decide only[go_sem,Q2,Qe,Qh,Qi,Qj,Qk,reduceCtorEq,reduceIte,w1,W,L,E,J,Bx,X0,xix,XZ,F];rw[ai];simp+decide only[go_sem,Q2,Q4,Q8,Qe,Qh,Qi,Qj,Qk,reduceIte,F,C];rw[ai];simp+decide only[go_sem,Qh,Qj,Qk,reduceIte]
theorem xoZ(h y:d9):sgn h 0 0 y=mG h 0 0 y:=by unfold sgn;rw[if_neg (by decide)];rfl
theorem Ly(h y:d9):sgn h 1 0 y=mG h 1 0 y:=by unfold sgn;rw[if_neg (by decide)];rfl
theorem Lx(h y:d9):sgn h 1 1 y=mG h 1 1 y:=by unfold sgn;rw[if_neg (by decide)];rfl
theorem xx5(C:d9)(h y:Int)(E:d9)(J:C.length<=64)(F:E.length<=100000000)(O:h<0\/3<h\/h=0\/h=1):
 call T 105 [.byt C .no,.int .i64 h,.int .i64 y,.byt E .no] [] 0=some ⟨.byt (sgn C h y E) .no,[],[]⟩:=by
 by_cases hn:vN h y
 ·have:sgn C h y E=[]:=if_pos hn
  rw[this];exact n57 C h y E hn
 ·have L:h=0\/h=1:=by unfold vN at hn;omega
  rcases L with rfl|rfl
  ·have I:y=0:=by have:=(not_congr (xnl y)).1 hn;omega
   subst I;rw[xoZ];exact xrM C E J F
  ·have I:y=0\/y=1:=by have:=(not_congr (xnk y)).1 hn;omega
   rcases I with rfl|rfl
   ·rw[Ly];exact xrL C E J F
   ·rw[Lx];exact xrK C E J F
section
structure Mk where
 auth:Int
 sig:List UInt8
def Mk.sv(m:Mk):t8:=[.int .i64 m.auth,.byt m.sig .no]
def mk0:Mk:=⟨0,[]⟩
def kv(l:List Mk):d8:=l.map Mk.sv
theorem fT(l:List Mk):(kv l).length=l.length:=aY ..
theorem rJ(l:List Mk)(i:Nat)(h:i<l.length):(kv l).getD i []=(l.getD i mk0).sv:=by simp[kv,aa,h]
def cU(B:d9)(ms:List Mk):t8:=[.byt B .no,.lst 2 (kv ms) .no]
def pH(t:Tr)(i:Nat):Int:=(t.au.getD i au0).id
def qz(ms:List Mk)(j:Nat):Int:=(ms.getD j mk0).auth
def tJ(t:Tr)(B:d9)(ms:List Mk)(i j:Nat):Bool:=gM (t.au.getD i au0).key B (ms.getD j mk0).sig
def sgO(t:Tr)(B:d9)(ms:List Mk):List Int:=Si.out (pH t) (qz ms) (tJ t B ms) t.au.length ms.length
def sgL(t:Tr)(B:d9)(ms:List Mk):List Int:=Si.srt (sgO t B ms)
def isv(l:List Int):d8:=l.map fun z=> [.int .i64 z]
theorem og(l:List Int):(isv l).length=l.length:=aY ..
theorem oh(l:List Int)(i:Nat)(h:i<l.length):(isv l).getD i []=[.int .i64 (l.getD i 0)]:=by simp[isv,aa,h]
def sgR(t:Tr)(B:d9)(ms:List Mk):dV:=⟨.lst 1 (isv (sgL t B ms)) .no,[],[]⟩
structure xaW(t:Tr)(B:List UInt8)(ms:List Mk):Prop where
 n1:1<=t.au.length
 n2:t.au.length<=1000
 m2:ms.length<=1000
 b2:B.length<=100000000
 ids:∀a∈t.au, -9223372036854775808<=a.id/\a.id<=9223372036854775807
theorem yK:∀(S L:List Int),S.Nodup->(∀x∈S,x∈L)->S.length<=L.length
 |[],L,_,_=>aX _
 |x::S,L,hn,h=>by have E:x∈L:=h x aB;obtain⟨C,I⟩:=eB.1 hn;have Q:=yK S (L.erase x) I (fun y F=>(List.mem_erase_of_ne (show y≠x from fun e=>C (by rw[<-e];exact F))).2 (h y (aw _ F)));have J:=List.length_erase_of_mem E;have O:=List.length_pos_of_mem E;rw[al];omega
section
variable (aid mid : Nat -> Int) (V : Nat -> Nat -> Bool)
theorem GR{C:List Int}(h:C.Nodup)(i j:Nat):(Si.stp aid mid V C i j).Nodup:=by
 unfold Si.stp;split
 ·rename_i F
  exact List.nodup_append.2 ⟨h,by simp,fun a E b y=>by simp at y;subst y;exact fun e=>F.2.1 (e ▸ E)⟩
 ·exact h
theorem uo{y:List Int}(h:y.Nodup)(j:Nat):∀n,(Si.inn aid mid V j y n).Nodup
 |0=>h
 |n+1=>GR aid mid V (uo h j n) n j
theorem lT(n:Nat):∀m,(Si.out aid mid V n m).Nodup
 |0=>List.nodup_nil
 |m+1=>uo aid mid V (lT n m) m n
theorem Yw{y:List Int}{i j:Nat}{x:Int}(h:x∈Si.stp aid mid V y i j):x∈y\/x=aid i:=by
 unfold Si.stp at h;split at h
 ·rcases am.1 h with h|h
  ·exact .inl h
  ·exact .inr (bj.1 h)
 ·exact .inl h
theorem FU{y:List Int}{j:Nat}{x:Int}:∀{n:Nat},x∈Si.inn aid mid V j y n->x∈y\/∃i,i<n/\x=aid i
 |0,h=> .inl h
 |n+1,h=>by
  rcases Yw aid mid V h with h|h
  ·rcases FU h with h|⟨i,hi,e⟩
   ·exact .inl h
   ·exact .inr ⟨i,by omega,e⟩
  ·exact .inr ⟨n,by omega,h⟩
theorem Fw{n:Nat}{x:Int}:∀{m:Nat},x∈Si.out aid mid V n m->∃i,i<n/\x=aid i
 |0,h=>by cases h
 |m+1,h=>by
  rcases FU aid mid V h with h|h
  ·exact Fw h
  ·exact h
theorem xlQ(n m:Nat)(S:List Int)(C:S.Nodup)(h:∀x,x∈S->x∈Si.out aid mid V n m):S.length<=n:=by
 have:=yK S ((bM n).map aid) C (fun x y=>by obtain⟨i,hi,e⟩:=Fw aid mid V (h x y);exact aZ.2 ⟨i,eV.2 hi,e.symm⟩)
 rwa[aY,List.length_range]at this
end
theorem JC{l y:List Int}(h:l.Perm y):Si.srt l=Si.srt y:=by
 have tr:∀a b c:Int,decide (a<=b)=true->decide (b<=c)=true->decide (a<=c)=true:=fun a b c C F=>by simp only[decide_eq_true_eq]at*;omega
 have E:∀a b:Int,(decide (a<=b)||decide (b<=a))=true:=fun a b=>by simp only[fF,decide_eq_true_eq];omega
 refine List.Perm.eq_of_pairwise (le:=fun a b=>decide (a<=b)=true) (fun a b _ _ C F=> ?_) (List.pairwise_mergeSort tr E l) (List.pairwise_mergeSort tr E y) (((List.mergeSort_perm l _).trans h).trans (List.mergeSort_perm y _).symm);simp only[decide_eq_true_eq]at C F;omega
theorem rD{l y:List Int}(h:l.Nodup)(E:y.Nodup)(C:∀x,x∈l↔x∈y):Si.srt l=Si.srt y:=JC ((List.perm_ext_iff_of_nodup h E).2 C)
section
open Go.RowKit Go.ChangeShapes Go.WideShapes
variable {x : Sit} {w w' : World}
theorem Kx{G C:GM}(y:∀b o v,G b o=some v->C b o=some v)(h:Lay G):Lay C:=fun g cs J j E=>by obtain⟨v,F,I⟩:=h g cs J j E;exact⟨v,y _ _ _ F,I.mono y⟩
def slA:Value->Option Addr
 | .slice a _ _=>a
 |_=>none
def slN:Value->Nat
 | .slice _ n _=>n
 |_=>0
def slC:Value->Nat
 | .slice _ _ c=>c
 |_=>0
theorem xu8{G:GM}{k:IntKind}{n:Int}{v:Value}(h:cL G (.int k n) v):v= .int k n:=by cases h;rfl
theorem vX{α:Type}(l:List α)(d:α)(i:Nat)(h:i<l.length):l.getD i d∈l:=by rw[aa,ac h];exact bv _
theorem hZ{G:GM}{l:d9}{t:Tok}{v:Value}(h:cL G (.byt l t) v):v= .slice (slA v) (slN v) (slC v):=by
 cases h<;>rfl
theorem xvZ(y:∀b o v,x.G b o=some v->w.cell? ⟨b,o,none⟩=some v)(E:Below w.heap.size w w'):∀b o v,x.G b o=some v->(vj w').G b o=some v:=fun b o v h=>by have C:=y b o v h;show w'.cell? ⟨b,o,none⟩=some v;rw[E.cell (p:=⟨b,o,none⟩) (kC C)];exact C
theorem GG{key B sig:d9}{k b s:Value}(W:B.length<=100000000)(h:∀b o v,x.G b o=some v->w.cell? ⟨b,o,none⟩=some v)(hL:Lay x.G)(Q:cL x.G (.byt key .no) k)(I:cL x.G (.byt B .no) b)(Z:cL x.G (.byt sig .no) s)
 (wr:World) (E:Below w.heap.size w wr):Calls Tryz.prog 122 #[k,b,s] wr fun e w'=>∃l:Int,e= .returned (.tuple #[.int .i64 l,.bool (gM key B sig)])/\Below wr.heap.size wr w':=by
 have y:=xvZ h E
 have O:cE (vj wr) [.byt key .no,.byt B .no,.byt sig .no] [k,b,s]:=⟨rfl,fun i hi=>by
  match i,hi with
  |0,_=>exact .dat _ _ (Q.mono y) trivial
  |1,_=>exact .dat _ _ (I.mono y) trivial
  |2,_=>exact .dat _ _ (Z.mono y) trivial⟩
 refine(K2 Ls (xxY key B sig W) O (Kx y hL)).mono ?_;rintro e w' ⟨v,x',rfl,T,F⟩;obtain⟨vs,rfl,C⟩:=T.tup_inv;obtain⟨u1,u2,rfl,J,L⟩:=Pr.repL2 C;rw[J.int_inv,L.bool_inv];exact⟨_,rfl,F⟩
theorem D3{C:Nat}{y:d8}{v:Value}(h:Rep x (.lst C y .no) v):(y=[]/\∃A c,v= .slice A 0 c)\/∃(b off cap:Nat)(val:Nat->Nat->Value),v= .slice (some ⟨b,off,none⟩) y.length cap/\(∀i j,i<y.length->j<C->x.G b (off+i*C+j)=some (val i j))/\(∀i j,i<y.length->j<C->cL x.G ((y.getD i []).getD j .undef) (val i j)):=by
 have hd:=h.data rfl;cases hd with
 |lstN=>exact .inl ⟨rfl,none,0,rfl⟩
 |lstE _ _ a=>exact .inl ⟨rfl,some a,0,rfl⟩
 |lst _ _ _ b off cap n val hn I J F E=>subst hn;exact .inr ⟨b,off,cap,val,rfl,F,E⟩
theorem H4{g i:Nat}{y:LAd}{e:TypeId}{C:Nat×Nat}(h:w.heap[g]? =some (.cells y e C))(hi:i<y.size):w.cell? ⟨g,i,none⟩=some (y.getD i Go.undef):=by simp only[World.cell?,h];simp[hi]
theorem xkQ{t:Tr}{B:d9}{ms:List Mk}(C:xaW t B ms):gg Tryz.prog 73 [.agg t.sv,.agg (cU B ms)] [] 0 (· =sgR t B ms):=by
 refine An (by kernel_rfl) fun x w vs hr y hL=> ?_
 obtain⟨u,v,rfl,h1,h2⟩:=Pr.repL2 hr;obtain⟨us,rfl,ru⟩:=h1.agg_inv;obtain⟨su,b4,rfl,r1,r2⟩:=Pr.repL2 ru;obtain⟨c7,rfl,rv⟩:=h2.agg_inv;obtain⟨J,sm,rfl,q1,q2⟩:=Pr.repL2 rv;rw[r2.int_inv];have W:=q1.data rfl;rw[hZ W];have a7:=W;rw[hZ W]at a7;rcases D3 r1 with⟨he,_⟩|⟨ba,oa,ca,va,rfl,ga,da⟩
 ·have:=C.n1
  rw[<-fk,he]at this;simp at this
 rw[fk]at ga da ⊢;have b1:ba<w.heap.size:=kC (y _ _ _ (ga 0 0 C.n1 (by decide)))
 have a0:∀i,i<t.au.length->va i 0= .int .i64 (pH t i):=fun i hi=>by have:=da i 0 hi (by decide);rw[iA _ _ hi]at this;change cL x.G (.int .i64 (pH t i)) (va i 0)at this;exact xu8 this
 have a1:∀i,i<t.au.length->cL x.G (.byt (t.au.getD i au0).key .no) (va i 1):=fun i hi=>by have:=da i 1 hi (by decide);rw[iA _ _ hi]at this;exact this
 have F:∀(A:Option Addr)(T:Nat),ms=[]->Calls Tryz.prog 73 ⟨[.agg ⟨[.slice (some ⟨ba,oa,none⟩) t.au.length ca,.int .i64 t.thr]⟩,.agg ⟨[.slice (slA J) (slN J) (slC J),.slice A 0 T]⟩]⟩ w fun e w'=>∃v,e= .returned v/\Rep (x.grow w w') (sgR t B ms).r v/\Below w.heap.size w w':=by
  intro A T I;refine(Si.w73_0 w _ A t.thr T (slA J) (slN J) (slC J) (some ⟨ba,oa,none⟩) t.au.length ca rfl (fun wr=> ?_)).mono ?_
  ·refine(Si.w123 0 (.slice none 0 0) [] wr (by decide) (World.ownsRow_nil _ _ _ _)).mono ?_
   rintro e w' ⟨rfl,_,hg⟩;exact⟨rfl,hg⟩
  ·rintro e w' ⟨rfl,hb⟩
   subst I;refine⟨_,rfl, ?_,hb⟩;show Rep _ (.lst 1 (isv (sgL t B [])) .no) _;rw[show sgL t B []=[]by simp[sgL,sgO,Si.out,Si.srt]];exact .dat _ _ (.lstN 1 .no) trivial
 rcases D3 q2 with⟨he,A,c,rfl⟩|⟨bm,om,T,vm,rfl,gm,dm⟩
 ·exact F A c (List.eq_nil_of_length_eq_zero (by rw[<-fT,he];rfl))
 rw[fT]at gm dm ⊢
 by_cases I:ms.length=0
 ·have:=F (some ⟨bm,om,none⟩) T (List.eq_nil_of_length_eq_zero I)
  rw[I];exact this
 have a6:bm<w.heap.size:=kC (y _ _ _ (gm 0 0 (by omega) (by decide)))
 have m0:∀i,i<ms.length->vm i 0= .int .i64 (qz ms i):=fun i hi=>by have:=dm i 0 hi (by decide);rw[rJ _ _ hi]at this;change cL x.G (.int .i64 (qz ms i)) (vm i 0)at this;exact xu8 this
 have m1:∀i,i<ms.length->cL x.G (.byt (ms.getD i mk0).sig .no) (vm i 1):=fun i hi=>by have:=dm i 1 hi (by decide);rw[rJ _ _ hi]at this;exact this
 have hw:=Si.w73 w t.au.length ms.length (pH t) (qz ms) (fun i=>slA (va i 1)) (fun j=>slA (vm j 1)) (fun i=>slN (va i 1)) (fun i=>slC (va i 1)) (fun j=>slN (vm j 1)) (fun j=>slC (vm j 1)) (tJ t B ms) ba oa ca bm om T t.thr (slA J) (slN J) (slC J)
  C.n2 C.m2 b1 a6
  (fun i hi=>by have:=y _ _ _ (ga i 0 hi (by decide));rw[a0 i hi]at this;exact this)
  (fun i hi=>by have:=y _ _ _ (ga i 1 hi (by decide));rw[hZ (a1 i hi)]at this;exact this)
  (fun i hi=>by have:=y _ _ _ (gm i 0 hi (by decide));rw[m0 i hi]at this;exact this)
  (fun i hi=>by have:=y _ _ _ (gm i 1 hi (by decide));rw[hZ (m1 i hi)]at this;exact this)
  Si.srt (fun B1 v ss wr hl E=>Si.w123 B1 v ss wr (by have:=C.n2;omega) E)
  (fun S hS h=>xlQ _ _ _ _ _ S hS h)
  (fun i hi=>by
   have:=C.ids _ (vX t.au au0 i hi);unfold pH;simp only[Lit.wf,IntKind.min,IntKind.max,IntKind.signed,IntKind.bits,aC,decide_eq_true_eq];constructor
   ·exact this.1
   ·exact this.2)
  (fun i j wr hi hj b0=>by have:=GG C.b2 y hL (a1 i hi) W (m1 j hj) wr b0;rw[hZ (a1 i hi),hZ W,hZ (m1 j hj)]at this;exact this)
 refine hw.mono ?_;rintro e w' ⟨v,ss,B1,c3,rfl,E,b5,a8,a2,hb⟩;have hs:Si.srt ss=sgL t B ms:=rD a8 (lT _ _ _ _ _) a2;rw[hs]at E;have L:(sgL t B ms).length=ss.length:=by rw[<-hs];simp[Si.srt]
 refine⟨v,rfl, ?_,hb⟩;show Rep _ (.lst 1 (isv (sgL t B ms)) .no) v;obtain⟨_,⟨rfl,h0⟩|⟨g,cap,b7,rfl,b6,hg,b3,c5,d1,Q⟩⟩:=E
 ·rw[List.eq_nil_of_length_eq_zero (L.trans h0)]
  exact .dat _ _ (.lstN 1 .no) trivial
 ·refine .dat _ _ (.lst 1 _ .no g 0 cap ss.length (fun i _=> .int .i64 ((sgL t B ms).getD i 0)) (by rw[og,L]) b3 (fun i hi=>by rw[oh _ _ (by omega)];rfl) (fun i j hi hj=> ?_) (fun i j hi hj=> ?_)) trivial
  ·have O:j=0:=by omega
   subst O;show(if w.heap.size<=g then w'.cell? ⟨g,0+i*1+0,none⟩else x.G g _)=_;rw[if_pos (by omega),show 0+i*1+0=i by omega,H4 hg (by omega)];have h3:=congrArg (fun l:LAc=>l[i]?) Q;simp only[dp]at h3;have Z:i<(sgL t B ms).length:=by omega
   rw[List.getElem?_take_of_lt hi,aT,ac Z,bB,cY]at h3;rw[aS,h3,aa,ac Z];rfl
  ·have O:j=0:=by omega
   subst O;rw[oh _ _ (by omega)];exact .int _ _
end
end
theorem Au.sv_inj{a b:Au}(h:a.sv=b.sv):a=b:=by obtain⟨d,k⟩:=a;obtain⟨y,k2⟩:=b;simp[Au.sv]at h;obtain⟨rfl,rfl⟩:=h;rfl
theorem Mk.sv_inj{a b:Mk}(h:a.sv=b.sv):a=b:=by obtain⟨d,k⟩:=a;obtain⟨y,k2⟩:=b;simp[Mk.sv]at h;obtain⟨rfl,rfl⟩:=h;rfl
theorem vQ{α β:Type}{f:α->β}(y:∀a b,f a=f b->a=b):∀{l m:List α},l.map f=m.map f->l=m
 |[],[],_=>rfl
 |[],_::_,h=>by simp at h
 |_::_,[],h=>by simp at h
 |a::l,b::m,h=>by simp only[aI,mP.injEq]at h;rw[y a b h.1,vQ y h.2]
theorem Tr.sv_inj{a b:Tr}(h:a.sv=b.sv):a=b:=by obtain⟨d,k⟩:=a;obtain⟨y,k2⟩:=b;simp only[Tr.sv,mP.injEq,SV.lst.injEq,SV.int.injEq,true_and,and_true]at h;rw[vQ (fun _ _=>Au.sv_inj) h.1,h.2]
theorem F5{B C:d9}{ms ns:List Mk}(h:cU B ms=cU C ns):B=C/\ms=ns:=by simp only[cU,mP.injEq,SV.lst.injEq,SV.byt.injEq,true_and,and_true]at h;exact⟨h.1,vQ (fun _ _=>Mk.sv_inj) h.2⟩
def sgP(h:t8)(q:Tr×d9×List Mk):Prop:=h=[.agg q.1.sv,.agg (cU q.2.1 q.2.2)]/\xaW q.1 q.2.1 q.2.2
open Classical in
noncomputable def p73(y:t8)(os:List aH)(k:Nat):Option dV:=
 if h:(∃q,sgP y q)/\os=[]/\k=0 then some (sgR (Classical.choose h.1).1 (Classical.choose h.1).2.1 (Classical.choose h.1).2.2)else none
theorem xlP{t:Tr}{B:d9}{ms:List Mk}(h:xaW t B ms):p73 [.agg t.sv,.agg (cU B ms)] [] 0=some (sgR t B ms):=by have y:∃q,sgP [.agg t.sv,.agg (cU B ms)] q:=⟨(t,B,ms),rfl,h⟩;unfold p73;rw[dif_pos ⟨y,rfl,rfl⟩];have C:=Classical.choose_spec y;have e:=C.1;simp only[mP.injEq,SV.agg.injEq,and_true]at e;rw[<-Tr.sv_inj e.1,<-(F5 e.2).1,<-(F5 e.2).2]
theorem xlO:∀y os k q,p73 y os k=some q->gg Tryz.prog 73 y os k (· =q):=by
 intro y os k q h;unfold p73 at h;split at h
 ·rename_i E
  have F:=Classical.choose_spec E.1;obtain⟨_,rfl,rfl⟩:=E;generalize Classical.choose _=z at*;obtain⟨t,B,ms⟩:=z;obtain⟨rfl,C⟩:=F;cases h;exact xkQ C
 ·cases h
noncomputable def U:iL:=T.addP 73 p73
theorem IW:IK T U:=Jz T p73 rfl
theorem xtn:py Tryz.prog U:=xaT Ls xlO
theorem up{g:Nat}{a:t8}{os:List aH}{k:Nat}{q:dV}(h:call T g a os k=some q):call U g a os k=some q:=K3 IW h
theorem US(k:Nat):U.sg k=T.sg k:=rfl
theorem f73{t:Tr}{B:d9}{ms:List Mk}(h:xaW t B ms):call U 73 [.agg t.sv,.agg (cU B ms)] [] 0=some ⟨.lst 1 (isv (sgL t B ms)) .no,[],[]⟩:=by have e:U.fn 73=some (.prim p73):=Gl T 73 p73;rw[fj e];exact xlP h
theorem xaV:U.fn 46=some (.code F46):=IW.fn 46 _ xyW
theorem xiu:T.sg 73= {}:=rfl
def qH(x:Int):List Int->List Int
 |[]=> [x]
 |y::r=>if y<x then y::qH x r else if y=x then y::r else x::y::r
def lbI(x:Int):List Int->Nat
 |[]=>0
 |y::r=>if y<x then lbI x r+1 else 0
theorem CK(x:Int):∀l,lbI x l<=l.length
 |[]=>aJ _
 |y::r=>by
  unfold lbI;split
  ·have:=CK x r;rw[al];omega
  ·exact aX _
theorem T9(x:Int):∀(l:List Int)(i:Nat),i<lbI x l->l.getD i 0<x
 |[],i,h=>by cases h
 |y::r,i,h=>by
  unfold lbI at h;split at h
  ·rename_i C
   cases i with
   |zero=>exact C
   |succ i=>exact T9 x r i (by omega)
  ·omega
theorem Ua(x:Int):∀(l:List Int),lbI x l<l.length->¬l.getD (lbI x l) 0<x
 |[],h=>by cases h
 |y::r,h=>by
  unfold lbI at h ⊢;split
  ·rename_i C
   rw[if_pos C,al]at h;exact Ua x r (by omega)
  ·rename_i C;exact C
theorem FS(x:Int):∀(l:List Int),qH x l=if lbI x l<l.length/\l.getD (lbI x l) 0=x then l else l.take (lbI x l)++x::l.drop (lbI x l)
 |[]=>by simp[qH,lbI]
 |y::r=>by
  unfold qH lbI
  by_cases E:y<x
  ·rw[if_pos E,if_pos E,FS x r]
   by_cases C:lbI x r<r.length/\r.getD (lbI x r) 0=x
   ·rw[if_pos C,if_pos (by rw[al];exact⟨by omega,C.2⟩)]
   ·rw[if_neg C,if_neg (by rw[al];exact fun h=>C ⟨by omega,h.2⟩)]
    rfl
  ·rw[if_neg E,if_neg E]
   by_cases e:y=x
   ·rw[if_pos e,if_pos ⟨by simp,e⟩]
   ·rw[if_neg e,if_neg (fun h=>e h.2)];rfl
theorem rL(x y:Int):∀l,y∈qH x l↔y=x\/y∈l
 |[]=>by simp[qH]
 |z::r=>by
  unfold qH;split
  ·rw[av,rL x y r,av]
   constructor
   ·rintro(h|h|h)
    ·exact .inr (.inl h)
    ·exact .inl h
    ·exact .inr (.inr h)
   ·rintro(h|h|h)
    ·exact .inr (.inl h)
    ·exact .inl h
    ·exact .inr (.inr h)
  ·split
   ·rename_i h;subst h;simp
   ·simp
theorem FR(x:Int):∀l:List Int,l.Pairwise (· < ·)->(qH x l).Pairwise (· < ·)
 |[],_=>by simp[qH]
 |z::r,h=>by
  obtain⟨E,F⟩:=bV.1 h;unfold qH;split
  ·rename_i hz
   refine bV.2 ⟨fun y C=> ?_,FR x r F⟩;rcases (rL x y r).1 C with rfl|C
   ·exact hz
   ·exact E y C
  ·rename_i hz
   split
   ·exact h
   ·rename_i I
    refine bV.2 ⟨fun y C=> ?_,h⟩;rcases av.1 C with rfl|C
    ·omega
    ·have:=E y C;omega
section
variable (aid mid : Nat -> Int) (V : Nat -> Nat -> Bool)
def gdF(n j:Nat):Bool:=(bM n).any fun i=>decide (aid i=mid j)&&V i j
theorem FZ(n j:Nat):gdF aid mid V n j=true↔∃i,i<n/\aid i=mid j/\V i j=true:=by
 unfold gdF;rw[List.any_eq_true];constructor
 ·rintro⟨i,hi,h⟩
  simp only[aC,decide_eq_true_eq]at h;exact⟨i,eV.1 hi,h.1,h.2⟩
 ·rintro⟨i,hi,y,C⟩
  exact⟨i,eV.2 hi,by simp[y,C]⟩
def rsg(n:Nat):Nat->List Int
 |0=> []
 |j+1=>if gdF aid mid V n j=true then qH (mid j) (rsg n j)else rsg n j
theorem w8(n:Nat):∀m,(rsg aid mid V n m).Pairwise (· < ·)
 |0=>fP.nil
 |m+1=>by
  unfold rsg;split
  ·exact FR _ _ (w8 n m)
  ·exact w8 n m
theorem vO(n:Nat)(x:Int):∀m,x∈rsg aid mid V n m↔∃j,j<m/\gdF aid mid V n j=true/\mid j=x
 |0=>by simp[rsg]
 |m+1=>by
  unfold rsg;split
  ·rename_i F
   rw[rL,vO n x m];constructor
   ·rintro(h|⟨j,E,C,y⟩)
    ·exact⟨m,by omega,F,h.symm⟩
    ·exact⟨j,by omega,C,y⟩
   ·rintro⟨j,E,C,y⟩
    by_cases e:j=m
    ·subst e;exact .inl y.symm
    ·exact .inr ⟨j,by omega,C,y⟩
  ·rename_i F
   rw[vO n x m];constructor
   ·rintro⟨j,E,C,y⟩;exact⟨j,by omega,C,y⟩
   ·rintro⟨j,E,C,y⟩
    by_cases e:j=m
    ·subst e;exact absurd C F
    ·exact⟨j,by omega,C,y⟩
theorem FN(j:Nat)(C:List Int)(x:Int):∀n,x∈Si.inn aid mid V j C n↔x∈C\/∃i,i<n/\aid i=mid j/\V i j=true/\aid i=x
 |0=>by simp[Si.inn]
 |n+1=>by
  have E:=FN j C x n;show x∈Si.stp aid mid V (Si.inn aid mid V j C n) n j↔_
  have e:(∃i,i<n+1/\aid i=mid j/\V i j=true/\aid i=x)↔(∃i,i<n/\aid i=mid j/\V i j=true/\aid i=x)\/(aid n=mid j/\V n j=true/\aid n=x):=by
   constructor
   ·rintro⟨i,J,y⟩
    by_cases e:i=n
    ·subst e;exact .inr y
    ·exact .inl ⟨i,by omega,y⟩
   ·rintro(⟨i,J,y⟩|y)
    ·exact⟨i,by omega,y⟩
    ·exact⟨n,by omega,y⟩
  rw[e];unfold Si.stp;split
  ·rename_i F
   rw[am,E,bj];constructor
   ·rintro((h|h)|h)
    ·exact .inl h
    ·exact .inr (.inl h)
    ·exact .inr (.inr ⟨F.1,F.2.2,h.symm⟩)
   ·rintro(h|h|h)
    ·exact .inl (.inl h)
    ·exact .inl (.inr h)
    ·exact .inr h.2.2.symm
  ·rename_i F
   constructor
   ·intro h
    rcases E.1 h with h|h
    ·exact .inl h
    ·exact .inr (.inl h)
   ·rintro(h|h|h)
    ·exact E.2 (.inl h)
    ·exact E.2 (.inr h)
    ·by_cases I:aid n∈Si.inn aid mid V j C n
     ·rw[<-h.2.2];exact I
     ·exact absurd ⟨h.1,I,h.2.1⟩ F
theorem vP(n:Nat)(x:Int):∀m,x∈Si.out aid mid V n m↔∃j,j<m/\gdF aid mid V n j=true/\mid j=x
 |0=>by simp[Si.out]
 |m+1=>by
  show x∈Si.inn aid mid V m (Si.out aid mid V n m) n↔_;rw[FN,vP n x m];constructor
  ·rintro(⟨j,C,h,y⟩|⟨i,C,h,y,F⟩)
   ·exact⟨j,by omega,h,y⟩
   ·exact⟨m,by omega,(FZ aid mid V n m).2 ⟨i,C,h,y⟩,by rw[<-h];exact F⟩
  ·rintro⟨j,C,h,y⟩
   by_cases e:j=m
   ·subst e
    obtain⟨i,k1,k2,E⟩:=(FZ aid mid V n j).1 h;exact .inr ⟨i,k1,k2,E,by rw[k2];exact y⟩
   ·exact .inl ⟨j,by omega,h,y⟩
end
theorem yT{l:List Int}(h:l.Pairwise (· < ·)):l.Nodup:=h.imp fun h e=>by omega
theorem tP{l:List Int}(h:l.Pairwise (· < ·)):Si.srt l=l:=by
 have tr:∀a b c:Int,decide (a<=b)=true->decide (b<=c)=true->decide (a<=c)=true:=fun a b c y C=>by simp only[decide_eq_true_eq]at*;omega
 have E:∀a b:Int,(decide (a<=b)||decide (b<=a))=true:=fun a b=>by simp only[fF,decide_eq_true_eq];omega
 refine List.Perm.eq_of_pairwise (le:=fun a b=>decide (a<=b)=true) (fun a b _ _ y C=> ?_) (List.pairwise_mergeSort tr E l) (h.imp fun h=>by simp only[decide_eq_true_eq];omega) (List.mergeSort_perm l _);simp only[decide_eq_true_eq]at y C;omega
theorem YL(t:Tr)(B:d9)(ms:List Mk):sgL t B ms=rsg (pH t) (qz ms) (tJ t B ms) t.au.length ms.length:=by unfold sgL sgO;rw[<-tP (w8 (pH t) (qz ms) (tJ t B ms) t.au.length ms.length)];exact rD (lT _ _ _ _ _) (yT (w8 _ _ _ _ _)) fun x=>by rw[vP,vO]
def gdB(t:Tr)(B:d9)(m:Mk):Bool:=(bM t.au.length).any fun i=>decide ((t.au.getD i au0).id=m.auth)&&gM (t.au.getD i au0).key B m.sig
def gdS(t:Tr)(B:d9)(m:Mk):Nat->Nat->Bool
 |0,_=>false
 |n+1,i=>(decide ((t.au.getD i au0).id=m.auth)&&gM (t.au.getD i au0).key B m.sig)||gdS t B m n (i+1)
theorem FY(t:Tr)(B:d9)(m:Mk):∀n i,gdS t B m n i=(tp i n).any fun i=>decide ((t.au.getD i au0).id=m.auth)&&gM (t.au.getD i au0).key B m.sig
 |0,_=>rfl
 |n+1,i=>by rw[gdS,FY t B m n (i+1),List.range'_succ,List.any_cons]
theorem Z0(t:Tr)(B:d9)(m:Mk):gdS t B m t.au.length 0=gdB t B m:=by rw[FY,gdB,List.range_eq_range']
theorem xw7(t:Tr)(B:d9)(m:Mk)(hn:t.au.length<=1000000000)(Q:B.length<=100000000):∀(n i:Nat),i+n=t.au.length->
 run T (.loop Co) ⟨[(1,.byt B .no),(3,.ptr 103 0),(5,.ptr 105 0),(7,.int .i64 i)],[(103,.rc t.sv),(105,.rc m.sv)],[]⟩=
  if gdS t B m n i=true then some (.r,⟨[(6,.bool true)],[(103,.rc t.sv),(105,.rc m.sv)],[]⟩)else some (.x 0,⟨[],[(103,.rc t.sv),(105,.rc m.sv)],[]⟩):=by
 intro n;induction n with
 |zero=>
  intro i h;have hi:i=t.au.length:=by omega
  have E:=fk t.au;subst hi;have e:gdS t B m 0 t.au.length=false:=rfl;rw[e,ai];simp only[Tr.sv,go_sem,Qe,Qh,Qi,Qj,Qk,reduceIte,E]
 |succ n O=>
  intro i h;have hi:i<t.au.length:=by omega
  have E:=fk t.au;have I:=iA t.au i hi;have J:=cg i (by omega);have C:=O (i+1) (by omega);have e:gdS t B m (n+1) i=((decide ((t.au.getD i au0).id=m.auth)&&gM (t.au.getD i au0).key B m.sig)||gdS t B m n (i+1)):=rfl;rw[e];generalize gdS t B m n (i+1)=Z at*;have y:=xxJ (t.au.getD i au0).key B m.sig Q;unfold IT at y;generalize W:t.au.getD i au0=x at*;obtain⟨d,k⟩:=x;obtain⟨au,th⟩:=t;obtain⟨a,g⟩:=m;simp only[Tr.sv,Mk.sv,Au.sv]at*;generalize gM k B g=V at*;generalize (if V=true then((g.getD 0 0).toNat:Int)else 0)=L at*;rw[ai]
  by_cases F:d=a
  ·cases V with
   |true=>simp only[go_sem,Qb,Qc,Qd,Qe,Qh,Qi,Qj,Qk,reduceIte,hi,E,I,F,y,xiJ,decide_true,Bool.and_self,Bool.true_or]
   |false=>simp only[go_sem,Qb,Qc,Qd,Qe,Qh,Qi,Qj,Qk,reduceIte,hi,E,I,F,y,xiJ,J,C,Bool.and_false,jC]
  ·simp only[go_sem,Qe,Qh,Qi,Qj,Qk,reduceIte,hi,E,I,F,J,C,decide_false,Bool.false_and,jC]
theorem xxV(t:Tr)(B:d9)(m:Mk)(hn:t.au.length<=1000000000)(E:B.length<=100000000):call T 137 [.agg t.sv,.byt B .no,.agg m.sv] [] 0=some ⟨.bool (gdB t B m),[],[]⟩:=by
 have h:=xw7 t B m hn E t.au.length 0 (bT _);rw[Z0,ay]at h;obtain⟨au,C⟩:=t;obtain⟨a,g⟩:=m;simp only[Tr.sv,Mk.sv]at*;rw[aj xsB]
 by_cases y:gdB ⟨au,C⟩ B ⟨a,g⟩=true
 ·rw[if_pos y]at h
  rw[y];simp only[go_sem,Qe,Qh,Qi,Qj,Qk,reduceCtorEq,reduceIte,h]
 ·rw[if_neg y]at h
  rw[Bool.not_eq_true]at y;rw[y];simp only[go_sem,Qe,Qh,Qi,Qj,Qk,reduceCtorEq,reduceIte,h]
theorem y7(x:Int):∀l,(qH x l).length<=l.length+1
 |[]=>aJ _
 |y::r=>by
  unfold qH;split
  ·have:=y7 x r;rw[al,al];omega
  ·split
   ·omega
   ·exact aJ _
theorem D2(aid mid:Nat->Int)(V:Nat->Nat->Bool)(n:Nat):∀m,(rsg aid mid V n m).length<=m
 |0=>aJ _
 |m+1=>by
  have:=D2 aid mid V n m;unfold rsg;split
  ·have:=y7 (mid m) (rsg aid mid V n m);omega
  ·omega
def xbf(t:Tr)(B:d9)(ms:List Mk)(L:List Int)(j:Nat):CSt:=⟨[(2,.ptr 102 0),(3,.ptr 103 0),(5,.lst 1 (isv L) (.id 105)),(6,.int .i64 j)],[(102,.rc t.sv),(103,.rc (cU B ms))],[105]⟩
theorem xwB(J O:aH)(L:List Int)(x j:Int)(hn:L.length<=1000000000):∀(m k:Nat),lbI x L-k=m->k<=lbI x L->
 run T (.loop UQ) ⟨[(2,.ptr 102 0),(3,.ptr 103 0),(5,.lst 1 (isv L) (.id 105)),(6,.int .i64 j),(7,.int .i64 x),(8,.int .i64 k)],[(102,J),(103,O)],[105]⟩=
  some (.x 2,⟨[(2,.ptr 102 0),(3,.ptr 103 0),(5,.lst 1 (isv L) (.id 105)),(6,.int .i64 j),(7,.int .i64 x),(8,.int .i64 (lbI x L))],[(102,J),(103,O)],[105]⟩):=by
 intro m;have C:=og L;have Q:=CK x L;induction m with
 |zero=>
  intro k W h1;have F:lbI x L=k:=by omega
  by_cases h:k<L.length
  ·have I:=oh L k h
   have E:¬L.getD k 0<x:=by rw[<-F];exact Ua x L (by omega)
   rw[F,ai];simp only[go_sem,Qh,Qj,Qk,reduceIte,C,h,I,E]
  ·rw[F,ai]
   simp only[go_sem,Qh,Qj,Qk,reduceIte,C,h]
 |succ m ih=>
  intro k W h1;have h:k<L.length:=by omega
  have I:=oh L k h;have E:L.getD k 0<x:=T9 x L k (by omega);have Z:=cg k (by omega);have y:=ih (k+1) (by omega) (by omega);rw[ai];simp only[go_sem,Qh,Qj,Qk,reduceIte,C,h,I,E,Z,y]
theorem l92(t:Tr)(B:d9)(ms:List Mk)(hn:t.au.length<=1000000000)(hB:B.length<=100000000)(hm:ms.length<=1000000):∀(n j:Nat),ms.length-j=n->j<=ms.length->
 run T (.loop BK) (xbf t B ms (rsg (pH t) (qz ms) (tJ t B ms) t.au.length j) j)=
  some (.x 0,⟨[(5,.lst 1 (isv (rsg (pH t) (qz ms) (tJ t B ms) t.au.length ms.length)) (.id 105))],[(102,.rc t.sv),(103,.rc (cU B ms))],[105]⟩):=by
 intro n;induction n with
 |zero=>
  intro j h0 h1;have E:j=ms.length:=by omega
  have F:=fT ms;subst E;unfold xbf;rw[ai];simp only[cU,go_sem,Qe,Qh,Qj,Qk,reduceIte,F]
 |succ n ih=>
  intro j h0 h1;have E:j<ms.length:=by omega
  have F:=fT ms;have hg:=rJ ms j E;have Z:=cg j (by omega);have y:=ih (j+1) (by omega) (by omega);have hs:rsg (pH t) (qz ms) (tJ t B ms) t.au.length (j+1)=if gdB t B (ms.getD j mk0)=true then qH (ms.getD j mk0).auth (rsg (pH t) (qz ms) (tJ t B ms) t.au.length j)else rsg (pH t) (qz ms) (tJ t B ms) t.au.length j:=rfl
  have hl:=D2 (pH t) (qz ms) (tJ t B ms) t.au.length j;rw[hs]at y;generalize rsg (pH t) (qz ms) (tJ t B ms) t.au.length j=L at*;have g:=xxV t B (ms.getD j mk0) hn hB;generalize a1:ms.getD j mk0=mk at*;obtain⟨a,s⟩:=mk;obtain⟨au,th⟩:=t;have C:=og L;unfold xbf at y ⊢;simp only[Tr.sv,Mk.sv,cU]at*
  by_cases O:gdB ⟨au,th⟩ B ⟨a,s⟩=true
  ·rw[if_pos O]at y
   rw[O]at g;have W:=xwB (.rc [.lst 2 (mM au) .no,.int .i64 th]) (.rc [.byt B .no,.lst 2 (kv ms) .no]) L a j (by omega) _ 0 rfl (aX _);rw[ay]at W;have J:=CK a L;rw[FS]at y
   by_cases I:lbI a L<L.length
   ·have Q:=oh L _ I
    by_cases hd:L.getD (lbI a L) 0=a
    ·rw[if_pos ⟨I,hd⟩]at y
     generalize lbI a L=q at*;rw[ai];simp only[go_sem,Qb,Qc,Qd,Qe,Qh,Qi,Qj,Qk,reduceIte,E,F,hg,g,IM,W,C,I,Q,hd,Z,y]
    ·rw[if_neg (fun h=>hd h.2)]at y
     have tf:eT L.length (isv L)=isv L:=by rw[<-C,dA]
     have vA:(eT (lbI a L) (isv L)).length=lbI a L:=by rw[aq,C];omega
     have vD:(iD (lbI a L) (isv L)).length=L.length-lbI a L:=by rw[aG,C]
     have b1:lbI a L*8<=140737488355328:=by omega
     have b3:(lbI a L+1)*8<=140737488355328:=by omega
     have b2:(lbI a L+(1+(L.length-lbI a L)))*8<=140737488355328:=by omega
     have b4:(lbI a L+1+(L.length-lbI a L))*8<=140737488355328:=by omega
     have ei:isv (L.take (lbI a L)++a::L.drop (lbI a L))=(isv L).take (lbI a L)++([.int .i64 a]::(isv L).drop (lbI a L)):=by simp[isv,ic,tH]
     rw[ei]at y;generalize lbI a L=q at*;rw[ai];simp only[go_sem,Q2,Q3,Qb,Qc,Qd,Qe,Qh,Qi,Qj,Qk,reduceCtorEq,reduceIte,E,F,hg,g,IM,W,C,I,J,Q,hd,tf,vA,vD,b1,b3,b4,Z,y]
   ·rw[if_neg (fun h=>I h.1)]at y
    have tf:eT L.length (isv L)=isv L:=by rw[<-C,dA]
    have vA:(eT (lbI a L) (isv L)).length=lbI a L:=by rw[aq,C];omega
    have vD:(iD (lbI a L) (isv L)).length=L.length-lbI a L:=by rw[aG,C]
    have b1:lbI a L*8<=140737488355328:=by omega
    have b3:(lbI a L+1)*8<=140737488355328:=by omega
    have b2:(lbI a L+(1+(L.length-lbI a L)))*8<=140737488355328:=by omega
    have b4:(lbI a L+1+(L.length-lbI a L))*8<=140737488355328:=by omega
    have ei:isv (L.take (lbI a L)++a::L.drop (lbI a L))=(isv L).take (lbI a L)++([.int .i64 a]::(isv L).drop (lbI a L)):=by simp[isv,ic,tH]
    rw[ei]at y;generalize lbI a L=q at*;rw[ai];simp only[go_sem,Q2,Q3,Qb,Qc,Qd,Qe,Qh,Qi,Qj,Qk,reduceCtorEq,reduceIte,E,F,hg,g,IM,W,C,I,J,tf,vA,vD,b1,b3,b4,Z,y]
  ·rw[if_neg O]at y
   rw[Bool.not_eq_true]at O;rw[O]at g;rw[ai];simp only[go_sem,Qb,Qc,Qd,Qe,Qh,Qi,Qj,Qk,reduceIte,E,F,hg,g,IM,Z,y]
theorem f92(t:Tr)(B:d9)(ms:List Mk)(hn:t.au.length<=1000000000)(E:B.length<=100000000)(C:ms.length<=1000000):call T 92 [.agg t.sv,.agg (cU B ms)] [] 0=some ⟨.lst 1 (isv (sgL t B ms)) .no,[],[]⟩:=by have h:=l92 t B ms hn E C _ 0 rfl (aX _);have e:rsg (pH t) (qz ms) (tJ t B ms) t.au.length 0=[]:=rfl;rw[<-YL]at h;rw[e]at h;unfold xbf at h;have y:isv []=[]:=rfl;rw[y,ay]at h;simp only[Tr.sv,cU]at h ⊢;rw[aj xyq];simp only[go_sem,Qe,Qh,Qi,Qj,Qk,reduceCtorEq,reduceIte,h]
def eM(i:Nat):d9:=sha [107,ub i]
theorem fg(i:Nat):(eM i).length=32:=ir _
theorem f38(i:Nat):call T 38 [.int .i64 i] [] 0=some ⟨.byt (eM i) .no,[],[]⟩:=by have g:=f68 [107,ub i] (by simp);unfold ub at g;rw[aj xy1];simp only[go_sem,Qh,Qi,Qj,Qk,reduceCtorEq,reduceIte,g,Gu,eM,ub]
theorem f37(h:d9)(F:h.length<=64):call T 37 [.byt h .no,.int .i64 1] [] 0=some ⟨.byt (js h 1) .no,[],[]⟩:=by
 have y:=xn8 h F;rw[xn6]at y;simp only[bys,aI,bJ]at y;have E:=xxv (pubL (lsV h 1) 0) (pubL (lsV h 1) 1) (by rw[eN];decide) (by rw[eN];decide);have e:js h 1=b8 1::jw 0 0 (pubL (lsV h 1) 0) (pubL (lsV h 1) 1):=rfl;have C:(jw 0 0 (pubL (lsV h 1) 0) (pubL (lsV h 1) 1)).length=16:=ek _ _;rw[e];generalize jw 0 0 (pubL (lsV h 1) 0) (pubL (lsV h 1) 1)=J at*;generalize pubL (lsV h 1) 0=A at*;generalize pubL (lsV h 1) 1=B at*;have c1:1+16<=140737488355328:=by decide
 have c2:16+1<=140737488355328:=by decide
 rw[aj xy2];simp+decide only[go_sem,Qe,Qh,Qi,Qj,Qk,reduceCtorEq,reduceIte,y,E,xix,xzn,C,c1]
def auV(i:Nat):Au:=⟨3+2*(i:Int),js (eM (3+2*i)) 1⟩
def auL(k:Nat):List Au:=(bM (k+1)).map auV
def trL(k:Nat)(thr:Int):Tr:=⟨auL k,1+gO thr ((k+1:Nat):Int)⟩
theorem Hu(ms:List Mk)(m:Mk):kv (ms++ [m])=kv ms++ [m.sv]:=by simp[kv]
theorem f61(B:d9)(ms:List Mk)(a:Int)(y:d9)(h C:Int)(O:ms.length<=1000)(I:y.length<=64)(J:B.length<=100000000)(F:h<0\/3<h\/h=0\/h=1):
 call T 61 [.agg (cU B ms),.int .i64 a,.byt y .no,.int .i64 h,.int .i64 C] [] 0=some ⟨.agg (cU B (ms++ [⟨a,sgn y h C B⟩])),[],[]⟩:=by
 have L:=xx5 y h C B I J F;have E:=fT ms;have c1:(ms.length+1)*32<=140737488355328:=by omega
 have c2:ms.length*32<=140737488355328:=by omega
 unfold cU;rw[Hu];simp only[Mk.sv];rw[aj xyP];simp only[go_sem,Qb,Qc,Qd,Qe,Qh,Qi,Qj,Qk,reduceCtorEq,reduceIte,L,xtk,E,c1,c2]
theorem kw3:af.wrap 3=3:=by decide
theorem kw4:af.wrap 4=4:=by decide
theorem kw5:af.wrap 5=5:=by decide
theorem kw7:af.wrap 7=7:=by decide
theorem jG(a b:Int)(h:1<=b):0<=gO a b/\gO a b<b:=by
 unfold gO;rw[if_neg (by omega)];have C:=Int.tmod_lt_of_pos a (show 0<b by omega)
 have y: -b<a.tmod b:=by have:=Int.tmod_lt_of_pos (-a) (show 0<b by omega);rw[Int.neg_tmod]at this;omega
 split<;>omega
theorem xrJ(n thr:Int)(L: -9223372036854775808<=thr)(W:thr<=9223372036854775807)(hn0: -9223372036854775808<=n)(h:n<=9223372036854775807)(Z:gO n 3=0):call T 10 [.int .i64 n,.int .i64 thr] [] 0=some ⟨.agg (trL 0 thr).sv,[],[]⟩:=by
 have gm:=f21 n 3 hn0 h (by decide);rw[Z]at gm;have O:=f21 thr 1 L W (by decide);have hb:=jG thr 1 (by decide);have Q:af.wrap (1+gO thr 1)=1+gO thr 1:=w64 (by omega) (by omega);have y:=f38 3;have I:=f37 (eM 3) (by rw[fg];decide);have F:=f38 5;have p1:=f37 (eM 5) (by rw[fg];decide);have C:=f38 7;have p2:=f37 (eM 7) (by rw[fg];decide);have J:((3:Nat):Int)=3:=rfl;have E:((5:Nat):Int)=5:=rfl;have e7:((7:Nat):Int)=7:=rfl;rw[J]at y;rw[E]at F;rw[e7]at C;have e:(trL 0 thr).sv=[.lst 2 [[.int .i64 3,.byt (js (eM 3) 1) .no]] .no,.int .i64 (1+gO thr 1)]:=rfl;rw[e];generalize js (eM 3) 1=P0 at*;generalize js (eM 5) 1=P1 at*;generalize js (eM 7) 1=P2 at*;generalize eM 3=S0 at*;generalize eM 5=S1 at*;generalize eM 7=S2 at*;rw[aj xol];simp+decide only[go_sem,Qe,Qh,Qi,Qj,reduceCtorEq,reduceIte];rw[ai];simp+decide only[go_sem,Q8,Qa,Qe,Qg,Qh,Qi,Qj,Qk,reduceCtorEq,reduceIte,gm,uU,kw0,kw1,kw3,y,I,uS,Uz,al,aA,bi,aE];rw[ai];simp+decide only[go_sem,Qe,Qh,Qi,Qj,Qk,reduceCtorEq,reduceIte,gm,uU,al,aA,bi,aE];simp+decide only[go_sem,Qe,Qh,Qj,Qk,reduceIte,O,Q,al,aA]
 trace_state
theorem xrI(n thr:Int)(L: -9223372036854775808<=thr)(W:thr<=9223372036854775807)(hn0: -9223372036854775808<=n)(h:n<=9223372036854775807)(Z:gO n 3=1):call T 10 [.int .i64 n,.int .i64 thr] [] 0=some ⟨.agg (trL 1 thr).sv,[],[]⟩:=by
 have gm:=f21 n 3 hn0 h (by decide);rw[Z]at gm;have O:=f21 thr 2 L W (by decide);have hb:=jG thr 2 (by decide);have Q:af.wrap (1+gO thr 2)=1+gO thr 2:=w64 (by omega) (by omega);have C:=f38 3;have I:=f37 (eM 3) (by rw[fg];decide);have y:=f38 5;have p1:=f37 (eM 5) (by rw[fg];decide);have E:=f38 7;have p2:=f37 (eM 7) (by rw[fg];decide);have J:((3:Nat):Int)=3:=rfl;have F:((5:Nat):Int)=5:=rfl;have e7:((7:Nat):Int)=7:=rfl;rw[J]at C;rw[F]at y;rw[e7]at E;have e:(trL 1 thr).sv=[.lst 2 [[.int .i64 3,.byt (js (eM 3) 1) .no],[.int .i64 5,.byt (js (eM 5) 1) .no]] .no,.int .i64 (1+gO thr 2)]:=rfl;rw[e];generalize js (eM 3) 1=P0 at*;generalize js (eM 5) 1=P1 at*;generalize js (eM 7) 1=P2 at*;generalize eM 3=S0 at*;generalize eM 5=S1 at*;generalize eM 7=S2 at*;rw[aj xol];simp+decide only[go_sem,Qe,Qh,Qi,Qj,reduceCtorEq,reduceIte];rw[ai];simp+decide only[go_sem,Q8,Qa,Qe,Qg,Qh,Qi,Qj,Qk,reduceCtorEq,reduceIte,gm,uU,kw0,kw1,kw3,C,I,uS,Uz,al,aA,bi,aE];rw[ai];simp+decide only[go_sem,Q8,Qa,Qe,Qg,Qh,Qi,Qj,Qk,reduceCtorEq,reduceIte,gm,uU,kw2,kw5,y,p1,uS,Uz,al,aA,bi,aE];rw[ai];simp+decide only[go_sem,Qe,Qh,Qi,Qj,Qk,reduceCtorEq,reduceIte,gm,uU,al,aA,bi,aE]
 simp+decide only[go_sem,Qe,Qh,Qj,Qk,reduceIte,O,Q,al,aA]
 trace_state
theorem xrH(n thr:Int)(L: -9223372036854775808<=thr)(W:thr<=9223372036854775807)(hn0: -9223372036854775808<=n)(h:n<=9223372036854775807)(Z:gO n 3=2):call T 10 [.int .i64 n,.int .i64 thr] [] 0=some ⟨.agg (trL 2 thr).sv,[],[]⟩:=by
 have gm:=f21 n 3 hn0 h (by decide);rw[Z]at gm;have O:=f21 thr 3 L W (by decide);have hb:=jG thr 3 (by decide);have Q:af.wrap (1+gO thr 3)=1+gO thr 3:=w64 (by omega) (by omega);have E:=f38 3;have I:=f37 (eM 3) (by rw[fg];decide);have C:=f38 5;have p1:=f37 (eM 5) (by rw[fg];decide);have y:=f38 7;have p2:=f37 (eM 7) (by rw[fg];decide);have J:((3:Nat):Int)=3:=rfl;have F:((5:Nat):Int)=5:=rfl;have e7:((7:Nat):Int)=7:=rfl;rw[J]at E;rw[F]at C;rw[e7]at y;have e:(trL 2 thr).sv=[.lst 2 [[.int .i64 3,.byt (js (eM 3) 1) .no],[.int .i64 5,.byt (js (eM 5) 1) .no],[.int .i64 7,.byt (js (eM 7) 1) .no]] .no,.int .i64 (1+gO thr 3)]:=rfl;rw[e];generalize js (eM 3) 1=P0 at*;generalize js (eM 5) 1=P1 at*;generalize js (eM 7) 1=P2 at*;generalize eM 3=S0 at*;generalize eM 5=S1 at*;generalize eM 7=S2 at*;rw[aj xol];simp+decide only[go_sem,Qe,Qh,Qi,Qj,reduceCtorEq,reduceIte];rw[ai];simp+decide only[go_sem,Q8,Qa,Qe,Qg,Qh,Qi,Qj,Qk,reduceCtorEq,reduceIte,gm,uU,kw0,kw1,kw3,E,I,uS,Uz,al,aA,bi,aE];rw[ai];simp+decide only[go_sem,Q8,Qa,Qe,Qg,Qh,Qi,Qj,Qk,reduceCtorEq,reduceIte,gm,uU,kw2,kw5,C,p1,uS,Uz,al,aA,bi,aE];rw[ai];simp+decide only[go_sem,Q8,Qa,Qe,Qg,Qh,Qi,Qj,Qk,reduceCtorEq,reduceIte,gm,uU,kw3,kw4,kw7,y,p2,uS,Uz,al,aA,bi,aE]
 rw[ai];simp+decide only[go_sem,Qe,Qh,Qi,Qj,Qk,reduceCtorEq,reduceIte,gm,uU,al,aA,bi,aE];simp+decide only[go_sem,Qe,Qh,Qj,Qk,reduceIte,O,Q,al,aA]
 trace_state
theorem H7(l:List Au)(n:Nat):(mM l).take n=mM (l.take n):=by simp[mM,ic]
theorem Gj(k:Nat):(auL k).length=k+1:=by simp[auL]
theorem xaN(i:Nat):(auV i).key.length=17:=by
 show(js _ 1).length=17;have e:∀s,js s 1=b8 1::jw 0 0 (pubL (lsV s 1) 0) (pubL (lsV s 1) 1):=fun _=>rfl
 rw[e,al];have:(jw 0 0 (pubL (lsV (eM (3+2*i)) 1) 0) (pubL (lsV (eM (3+2*i)) 1) 1)).length=16:=ek _ _;omega
theorem ox(k i:Nat)(h:i<=k):(auL k).getD i au0=auV i:=by simp only[auL,aa,aT];rw[cz (by omega)];rfl
theorem xrX(k i:Nat)(h:i<=k)(E:k<=2):auE (auL k) i=0:=by
 unfold auE;rw[ox k i h];have C:=xaN i
 by_cases y:i=0
 ·subst y
  rw[if_neg (by show ¬(3+2*((0:Nat):Int))<1;omega),if_neg (by show ¬1000<(3+2*((0:Nat):Int));omega),if_pos (by omega),if_pos rfl]
 ·rw[ox k (i-1) (by omega)]
  rw[if_neg (by show ¬(3+2*(i:Int))<1;omega),if_neg (by show ¬1000<(3+2*(i:Int));omega),if_pos (by omega),if_neg y,if_neg (by show ¬(3+2*(i:Int))<=(3+2*((i-1:Nat):Int));omega)]
theorem Ut(k:Nat)(y:k<=2):∀n i,i+n<=k+1->mN (auL k) n i=0
 |0,_,_=>rfl
 |n+1,i,h=>by show(if auE (auL k) i=0 then mN (auL k) n (i+1)else auE (auL k) i)=0;rw[if_pos (xrX k i (by omega) y)];exact Ut k y n (i+1) (by omega)
theorem UI(k:Nat)(y:k<=2)(thr:Int):trE (trL k thr)=0:=by have C:=jG thr ((k+1:Nat):Int) (by omega);have h:=Gj k;unfold trE;show(if(4:Int)<(auL k).length then(4:Int)else if mN (auL k) (auL k).length 0=0 then(if 1+gO thr ((k+1:Nat):Int)<1 then 1 else if((auL k).length:Int)<1+gO thr ((k+1:Nat):Int)then 1 else 0)else mN (auL k) (auL k).length 0)=0;rw[h,if_neg (by omega),if_pos (Ut k y (k+1) 0 (by omega)),if_neg (by omega),if_neg (by omega)]
theorem f10(n thr:Int)(C: -9223372036854775808<=thr)(E:thr<=9223372036854775807)(hn0: -9223372036854775808<=n)(y:n<=9223372036854775807):∃k:Nat,k<=2/\(k:Int)=gO n 3/\call T 10 [.int .i64 n,.int .i64 thr] [] 0=some ⟨.agg (trL k thr).sv,[],[]⟩:=by
 have F:=jG n 3 (by decide);rcases (by omega:gO n 3=0\/gO n 3=1\/gO n 3=2)with h|h|h
 ·exact⟨0,by decide,h.symm,xrJ n thr C E hn0 y h⟩
 ·exact⟨1,by decide,h.symm,xrI n thr C E hn0 y h⟩
 ·exact⟨2,by decide,h.symm,xrH n thr C E hn0 y h⟩
end Go.Proofs.YtbfnljmmepcbfaaGreatDoor
