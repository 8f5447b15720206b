/- Contracts. No condition. -/
import Derived.Test.YtbfnljmmepcbfaaGreatDoorTaPC
import Derived.Test.YtbfnljmmepcbfaaGreatDoorTcPC
open Array renaming getD_eq_getD_getElem? -> aS, getElem?_toList -> db
open Bool renaming and_eq_true -> aD, false_or -> tT, or_eq_true -> fD
open Int renaming natCast_zero -> az, tmod_eq_emod_of_nonneg -> fq
open Go.IntKind renaming i64 -> af, u64 -> aQ, wrap_u64 -> bV
open List renaming Pairwise -> fO, append_assoc -> ay, append_nil -> bA, cons -> mU, cons_append -> bp, drop -> iH, drop_eq_getElem_cons -> bz, drop_length -> bK, drop_take -> fW, drop_zero -> bj, getD_eq_getElem?_getD -> aa, getElem?_eq_getElem -> ac, getElem?_map -> aU, getElem?_range -> cC, getElem_mem -> bv, length_append -> ae, length_cons -> al, length_drop -> aE, length_map -> aV, length_nil -> aB, length_range -> ij, length_singleton -> aG, length_take -> an, map_cons -> aI, map_drop -> mF, map_nil -> bO, map_take -> fN, mem_append -> am, mem_cons -> av, mem_cons_of_mem -> aw, mem_cons_self -> aA, mem_map -> aZ, mem_range -> dt, mem_singleton -> bq, nil_append -> aF, nodup_cons -> dR, pairwise_cons -> bJ, range -> bC, range' -> tC, singleton_append -> eF, take -> eS, take_length -> dy, take_of_length_le -> aT
open Nat renaming le_refl -> aK, mul_one -> dq, zero_add -> bY, zero_le -> aY
open Option renaming getD_some -> aM, map_some -> bE
open UInt8 renaming ofInt -> cf
set_option maxRecDepth 100000
set_option maxHeartbeats 16000000
set_option linter.unusedSimpArgs false
set_option linter.unusedVariables false
namespace Go.Proofs.YtbfnljmmepcbfaaGreatDoor
open Go.Sy
open UInt8 renaming reduceLT -> Q0, reduceLE -> Q3
open Int renaming reduceToNat -> Q4, reduceLE -> Q5, reduceLT -> Q6, reduceEq -> Q7, reduceNe -> Q8, reduceNeg -> Q9, reduceAdd -> Qa, reduceSub -> Qb, reduceMul -> Qc
open Nat renaming reducePow -> Qd, reduceDiv -> Qe, reduceMod -> Qf, reduceAdd -> Qg, reduceSub -> Qh, reduceMul -> Qi, reduceLT -> Qj, reduceLeDiff -> Qk, reduceEqDiff -> Ql, reduceBEq -> Qm
theorem kw0:af.wrap 0=0:=by decide
theorem kw1:af.wrap 1=1:=by decide
theorem kw2:af.wrap 2=2:=by decide
theorem n1c:((1:Nat):Int)=1:=rfl
theorem n2c:((2:Nat):Int)=2:=rfl
theorem sh3(n:Nat)(h:n<=3):af.wrap (1*2^min n 64)=((2^n:Nat):Int):=by rcases (by omega:n=0\/n=1\/n=2\/n=3)with rfl|rfl|rfl|rfl<;>decide
theorem xxF(x:d9)(i:Nat)(P:List d9)(C:P.length<=3)(O:∀s∈P,s.length<=1000000)(hi:i<2^P.length)(W:x.length<=1000000):
 call T 155 [.byt x .no,.int .i64 i,.lst 1 (bys P) .no] [] 0=some ⟨.byt (lk 0 i P x) .no,[],[]⟩:=by
 have F:=gN P;have Z:(2:Nat)^P.length<=2^3:=Nat.pow_le_pow_right (by decide) C;have g:=xwU P C O _ 0 i x (.id 128) rfl (aY _) (by omega) W;have L:¬(3:Int)<P.length:=by omega
 have Q:¬3<P.length:=by omega
 have J:¬(i:Int)<0:=by omega
 have E:aQ.wrap (P.length:Int)=P.length:=by rw[bV];omega
 have I:=sh3 P.length C;have h3:¬(2:Nat)^P.length<=i:=by omega
 have y:¬((2^P.length:Nat):Int)<=(i:Int):=by omega
 have c2:x.length<=140737488355328:=by omega
 simp only[az,bj]at g;rw[aj xsr]
 by_cases hz:0=P.length
 ·simp only[go_sem,Qg,Qj,Qk,Ql,Qm,reduceCtorEq,reduceIte,F,L,J,E,I,y,c2,g,aF,if_pos hz]
 ·simp only[go_sem,Qg,Qj,Qk,Ql,Qm,reduceCtorEq,reduceIte,F,L,J,E,I,y,c2,g,aF,if_neg hz]
theorem xwM(P:List d9)(hP:P.length<=3)(hb:∀s∈P,s.length<=1000000):∀(n h i:Nat)(x:d9),P.length-h=n->h<=P.length->i<1000->x.length<=1000000->
 run T (.loop vy) ⟨[(1,.int .i64 i),(2,.lst 1 (bys P) .no),(7,.byt x .no),(8,.int .i64 h)],[],[]⟩=
 some (.x 0,⟨[(7,.byt (lk h i (P.drop h) x) .no)],[],[]⟩):=by
 intro n;induction n with
 |zero=>
  intro h i x h0 h1 h2 L;have hi:h=P.length:=by omega
  have I:=gN P;subst hi;rw[bK,ai];simp only[go_sem,Qj,Ql,Qm,reduceIte,I,lk]
 |succ n W=>
  intro h i x h0 h1 h2 L;have E:h<P.length:=by omega
  have hI:(h:Int)<(P.length:Int):=by omega
  have Q:=cr h (by omega);have O:=rj P h E;have I:=gN P
  have hs:(P.getD h []).length<=1000000:=by rw[aa,ac E,aM];exact hb _ (bv E)
  have hd:P.drop h=P.getD h []::P.drop (h+1):=by rw[bz E,aa,ac E,aM]
  rw[hd];generalize hc:P.getD h []=s at*;have Z:(i:Int).tdiv 2=((i/2:Nat):Int):=by rw[Int.tdiv_eq_ediv_of_nonneg (by omega)];omega
  have C:(i:Int).tmod 2=((i % 2:Nat):Int):=by rw[fq (by omega)];omega
  have e4:af.wrap ((i/2:Nat):Int)=((i/2:Nat):Int):=w64 (by omega) (by omega);rw[ai]
  by_cases ho:i % 2=1
  ·have y:=W (h+1) (i/2) (jB h (i/2) s x) (by omega) (by omega) (by omega) (by rw[jB,ej];omega)
   have g:=xoj h (i/2) s x hs L;have z1:¬(1:Nat)=0:=by decide
   have J:¬(1:Int)=0:=by decide
   rw[ho]at C;simp only[Int.natCast_one]at C;simp only[go_sem,Q7,Qj,Ql,Qm,reduceIte,hI,Q,O,I,Z,C,e4,g,X9,y,lk,ho,J]
  ·have F:i % 2=0:=by omega
   have y:=W (h+1) (i/2) (jB h (i/2) x s) (by omega) (by omega) (by omega) (by rw[jB,ej];omega);have g:=xoj h (i/2) x s L hs;rw[F]at C;simp only[az]at C;have J:¬(0:Nat)=1:=by decide
   simp only[go_sem,Q7,Qj,Ql,Qm,reduceIte,hI,Q,O,I,Z,C,e4,g,X9,y,lk,F,J]
theorem xxr(x:d9)(i:Nat)(P:List d9)(C:P.length<=3)(I:∀s∈P,s.length<=1000000)(hi:i<2^P.length)(W:x.length<=1000000):
 call T 195 [.byt x .no,.int .i64 i,.lst 1 (bys P) .no] [] 0=some ⟨.byt (lk 0 i P x) .no,[],[]⟩:=by
 have F:=gN P;have Z:(2:Nat)^P.length<=2^3:=Nat.pow_le_pow_right (by decide) C;have g:=xwM P C I _ 0 i x rfl (aY _) (by omega) W;have Q:¬(3:Int)<P.length:=by omega
 have J:¬3<P.length:=by omega
 have O:¬(i:Int)<0:=by omega
 have E:aQ.wrap (P.length:Int)=P.length:=by rw[bV];omega
 have L:=sh3 P.length C;have h3:¬(2:Nat)^P.length<=i:=by omega
 have y:¬((2^P.length:Nat):Int)<=(i:Int):=by omega
 have gc:=xib x (by omega);simp only[az,bj]at g;rw[aj xr6];simp only[go_sem,Qg,Qj,Qk,Ql,Qm,reduceCtorEq,reduceIte,F,Q,O,E,L,y,gc,I3,g]
theorem xrL:call T 110 [.int .i64 1] [] 0=some ⟨.bool true,[],[]⟩:=by rw[aj xip];simp+decide only[go_sem,reduceIte,aB]
theorem VU:call T 110 [.int .i64 2] [] 0=some ⟨.bool true,[],[]⟩:=by rw[aj xip];simp+decide only[go_sem,reduceIte,aB]
theorem xon(A B:d9)(y:A.length<=1000000)(C:B.length<=1000000):call T 111 [.int .i64 0,.lst 1 [[.byt A .no],[.byt B .no]] .no] [] 0=some ⟨.lst 1 [[.byt (jB 0 0 A B) .no]] .no,[],[]⟩:=by have g:=xoj 0 0 A B y C;simp only[az]at g;rw[aj xsY];simp only[go_sem,Qg,Qj,Qk,Ql,Qm,reduceCtorEq,reduceIte];rw[ai];simp+decide only[go_sem,Q4,Q6,Qa,Qc,Qg,Qi,Qj,Qk,Ql,Qm,reduceCtorEq,reduceIte,n2c,kw0,kw1,al,aB,g,X9];rw[ai];simp+decide only[go_sem,Qa,Qc,Qg,Qj,Ql,Qm,reduceIte,n2c,kw2,al,aB]
theorem xxp(A B:d9)(y:A.length<=1000000)(E:B.length<=1000000):call T 66 [.lst 1 [[.byt A .no],[.byt B .no]] .no] [] 0=some ⟨.byt (jB 0 0 A B) .no,[],[]⟩:=by have g:=xib (jB 0 0 A B) (by rw[jB,ej];decide);have g0:=VU;have C:=xon A B y E;rw[aj xyF];simp+decide only[go_sem,Qg,Qj,Qk,Ql,Qm,reduceCtorEq,reduceIte,n2c,al,aB,g0,I4];rw[ai];simp+decide only[go_sem,Qa,Qg,Qj,Ql,Qm,reduceIte,n2c,kw1,al,aB,C,Ye];rw[ai];simp+decide only[go_sem,Q4,Q6,Qj,Ql,Qm,reduceIte,n1c,al,aB,g,I3]
theorem xrJ(A:d9):call T 146 [.int .i64 0,.lst 1 [[.byt A .no]] .no] [] 0=some ⟨.lst 1 [] .no,[],[]⟩:=by have g0:=xrL;rw[aj X6];simp+decide only[go_sem,Qg,Qj,Qk,Ql,Qm,reduceCtorEq,reduceIte,n1c,al,aB,g0,I4];rw[ai];simp+decide only[go_sem,Qj,Ql,Qm,reduceIte,n1c,al,aB]
theorem x10:cx .xor .i64 0 1=1:=by decide
theorem x11:cx .xor .i64 1 1=0:=by decide
theorem xrI(A B:d9)(y:A.length<=1000000)(E:B.length<=1000000):call T 146 [.int .i64 0,.lst 1 [[.byt A .no],[.byt B .no]] .no] [] 0=some ⟨.lst 1 [[.byt B .no]] .no,[],[]⟩:=by have g:=xib B (by omega);have g0:=VU;have C:=xon A B y E;rw[aj X6];simp+decide only[go_sem,Qg,Qj,Qk,Ql,Qm,reduceCtorEq,reduceIte,n2c,al,aB,g0,I4];rw[ai];simp+decide only[go_sem,Q4,Q6,Qa,Qg,Qi,Qj,Qk,Ql,Qm,reduceCtorEq,reduceIte,n2c,kw1,al,aB,x10,g,C,Ye,I3];rw[ai];simp+decide only[go_sem,Qj,Ql,Qm,reduceIte,n1c,al,aB]
theorem xrH(A B:d9)(y:A.length<=1000000)(E:B.length<=1000000):call T 146 [.int .i64 1,.lst 1 [[.byt A .no],[.byt B .no]] .no] [] 0=some ⟨.lst 1 [[.byt A .no]] .no,[],[]⟩:=by have g:=xib A (by omega);have g0:=VU;have C:=xon A B y E;rw[aj X6];simp+decide only[go_sem,Qg,Qj,Qk,Ql,Qm,reduceCtorEq,reduceIte,n2c,al,aB,g0,I4];rw[ai];simp+decide only[go_sem,Q4,Q6,Qa,Qg,Qi,Qj,Qk,Ql,Qm,reduceCtorEq,reduceIte,n2c,kw1,al,aB,x11,g,C,Ye,I3];rw[ai];simp+decide only[go_sem,Qj,Ql,Qm,reduceIte,n1c,al,aB]
theorem xxH(h:Nat)(E:h<=3):call T 153 [.int .i64 h] [] 0=some ⟨.bool true,[],[]⟩:=by
 have y:(0:Int)<=(h:Int):=by omega
 have C:(h:Int)<=3:=by omega
 rw[aj xin];simp only[go_sem,Qj,Qk,Ql,Qm,reduceCtorEq,reduceIte,y,C]
theorem xrG(h:Int)(E:h<0\/3<h):call T 153 [.int .i64 h] [] 0=some ⟨.bool false,[],[]⟩:=by
 rw[aj xin]
 by_cases y:(0:Int)<=h
 ·have C:¬h<=3:=by omega
  simp only[go_sem,Qj,Qk,Ql,Qm,reduceCtorEq,reduceIte,y,C]
 ·simp only[go_sem,Qj,Qk,Ql,Qm,reduceCtorEq,reduceIte,y]
theorem xao(y:d9)(h:Nat)(C:y.length<=64):call T 113 [.byt y .no,.int .i64 h] [] 0=some ⟨.byt (lsV y h) .no,[],[]⟩:=by have g:=xu9 y xbn [ub h] 32 (by decide) (by decide) C (by decide) (by simp);unfold xbn ub at g;rw[c32]at g;rw[aj xsW];simp only[go_sem,Qg,Qj,Qk,Ql,Qm,reduceCtorEq,reduceIte,g,xiV,lsV,xbn,ub]
theorem xwp(y:d9)(h:Nat):lvs y h (2^0)=[pubL (lsV y h) 0]:=rfl
theorem xoe(y:d9)(h:Nat):lvs y h (2^1)=[pubL (lsV y h) 0,pubL (lsV y h) 1]:=rfl
theorem xri(y:d9)(h:Nat):lvs y h 1=[pubL (lsV y h) 0]:=rfl
theorem xrh(y:d9)(h:Nat):lvs y h 2=[pubL (lsV y h) 0,pubL (lsV y h) 1]:=rfl
theorem xxo(y:d9)(E:y.length<=64):call T 67 [.byt y .no,.int .i64 0] [] 0=some ⟨.lst 1 (bys (lvs y 0 (2^0))) .no,[],[]⟩:=by have g0:=xao y 0 E;have C:=xom (lsV y 0) 0 (by rw[mw];decide) (by omega);simp only[az]at g0 C;rw[aj xvp];simp+decide only[go_sem,Qd,Qg,Qj,Qk,Ql,Qm,reduceCtorEq,reduceIte,g0,BJ];rw[ai];simp+decide only[go_sem,Qa,Qg,Qi,Qj,Qk,Ql,Qm,reduceIte,kw1,C,Yd];rw[ai];simp+decide only[go_sem,Qj,Ql,Qm,reduceIte,xri,bys,aI,bO]
theorem xoh(y:d9)(F:y.length<=64):call T 67 [.byt y .no,.int .i64 1] [] 0=some ⟨.lst 1 (bys (lvs y 1 (2^1))) .no,[],[]⟩:=by have g0:=xao y 1 F;have E:=xom (lsV y 1) 0 (by rw[mw];decide) (by omega);have C:=xom (lsV y 1) 1 (by rw[mw];decide) (by omega);simp only[az,Int.natCast_one]at g0 E C;rw[aj xvp];simp+decide only[go_sem,Qd,Qg,Qj,Qk,Ql,Qm,reduceCtorEq,reduceIte,g0,BJ];rw[ai];simp+decide only[go_sem,Qa,Qg,Qi,Qj,Qk,Ql,Qm,reduceIte,kw1,E,Yd];rw[ai];simp+decide only[go_sem,Qa,Qg,Qi,Qj,Qk,Ql,Qm,reduceIte,kw2,C,Yd];rw[ai];simp+decide only[go_sem,Qj,Ql,Qm,reduceIte,xrh,bys,aI,bO]
theorem z6(P:List d9)(s:d9):bys (P++ [s])=bys P++ [[.byt s .no]]:=by simp[bys]
theorem vw:∀(n:Nat)(l:d9),(rws n l).length=n
 |0,_=>rfl
 |n+1,l=>by rw[rws,al,vw n]
theorem BS:∀(n:Nat)(l:d9),∀s∈rws n l,s.length<=1000000
 |0,_=>fun s h=>by cases h
 |n+1,l=>fun s h=>by
  rw[rws]at h;rcases av.1 h with rfl|h
  ·rw[an];omega
  ·exact BS n _ s h
theorem xw3(pub x:d9)(C:Int):∀(n:Nat)(y:d9)(P:List d9),y.length=16*n->P.length+n<=3->
 run T (.loop vM) ⟨[(0,.byt pub .no),(6,.int .i64 C),(9,.byt x .no),(10,.lst 1 (bys P) (.id 110)),(11,.byt y .no)],[],[110]⟩=
 some (.x 0,⟨[(0,.byt pub .no),(6,.int .i64 C),(9,.byt x .no),(10,.lst 1 (bys (P++rws n y)) (.id 110))],[],[110]⟩):=by
 intro n;induction n with
 |zero=>
  intro y P J W;have hz:¬0<y.length:=by omega
  have E:¬(0:Int)<(y.length:Int):=by omega
  rw[ai,rws,bA];simp only[go_sem,Qj,Ql,Qm,reduceCtorEq,reduceIte,E]
 |succ n O=>
  intro y P J W;have hz:0<y.length:=by omega
  have E:(0:Int)<(y.length:Int):=by omega
  have h16:16<=y.length:=by omega
  have I:(16:Int)<=(y.length:Int):=by omega
  have F:=O (y.drop 16) (P++ [y.take 16]) (by rw[aE];omega) (by rw[ae,aG];omega);rw[z6,ay,eF]at F;have Q:=gN P;have c1:(P.length+1)*24<=140737488355328:=by omega
  have L:y.take y.length=y:=dy;rw[ai,rws];simp only[go_sem,Q4,Q5,Qg,Qj,Qk,Ql,Qm,reduceCtorEq,reduceIte,E,I,Q,c1,L,F]
theorem xwS(pub sig x:d9)(y:Int)(h:Nat)(hh:h<=3)(Z:sig.length=561+16*h):∀(n i:Nat)(P:List d9),i+n=h->P.length+n<=3->
 run T (.loop vF) ⟨[(0,.byt pub .no),(2,.byt sig .no),(8,.int .i64 h),(9,.int .i64 y),(10,.int .i64 ((561+16*i:Nat):Int)),(11,.byt x .no),(13,.lst 1 (bys P) (.id 113)),(14,.int .i64 i)],[],[113]⟩=
 some (.x 0,⟨[(0,.byt pub .no),(9,.int .i64 y),(11,.byt x .no),(13,.lst 1 (bys (P++rws n (sig.drop (561+16*i)))) (.id 113))],[],[113]⟩):=by
 intro n;induction n with
 |zero=>
  intro i P F h1;have hi:i=h:=by omega
  subst hi;rw[ai,rws,bA];simp only[go_sem,Qj,Ql,Qm,reduceCtorEq,reduceIte]
 |succ n L=>
  intro i P F h1;have hi:i<h:=by omega
  have E:(i:Int)<(h:Int):=by omega
  have I:=cr i (by omega);have Q:af.wrap (((561+16*i:Nat):Int)+16)=((561+16*i+16:Nat):Int):=wZ (by omega)
  have W:561+16*i<=561+16*i+16:=by omega
  have O:561+16*i+16<=561+16*h:=by omega
  have a3:(sig.take (561+16*i+16)).drop (561+16*i)=(sig.drop (561+16*i)).take 16:=by rw[fW];congr 1;omega
  have a4:(sig.drop (561+16*i)).drop 16=sig.drop (561+16*i+16):=by rw[List.drop_drop]
  have a5:561+16*(i+1)=561+16*i+16:=by omega
  have C:=L (i+1) (P++ [(sig.drop (561+16*i)).take 16]) (by omega) (by rw[ae,aG];omega);rw[a5,z6,ay,eF]at C;have J:=gN P;have c1:(P.length+1)*24<=140737488355328:=by omega
  rw[ai,rws,a4];generalize 561+16*i=q at*;simp only[go_sem,Qg,Qj,Qk,Ql,Qm,reduceCtorEq,reduceIte,E,I,Q,W,O,a3,Z,J,c1,C]
def I8(pub y sig:d9):SV:= .tup [.int .i64 (if gK pub y sig=true then((sig.getD 0 0).toNat:Int)else 0),.bool (gK pub y sig)]
theorem xtw(n:Nat)(h:n<=3):af.wrap (1*2^min (aQ.wrap (n:Int)).toNat 64)=((2^n:Nat):Int):=by rcases (by omega:n=0\/n=1\/n=2\/n=3)with rfl|rfl|rfl|rfl<;>decide
theorem jH{pub y sig:d9}(h:gK pub y sig=false):I8 pub y sig= .tup [.int .i64 0,.bool false]:=by unfold I8;rw[h];rfl
theorem xxR(pub y sig:d9)(hm:y.length<=100000000):call T 122 [.byt pub .no,.byt y .no,.byt sig .no] [] 0=some ⟨I8 pub y sig,[],[]⟩:=by
 by_cases J:pub.length=17
 ·have a6:(pub.length:Int)=17:=by omega
  have h0:0<pub.length:=by omega
  by_cases L:(pub.getD 0 0).toNat<=3
  ·have W:=xxH _ L
   by_cases h3:sig.length=561+16*(pub.getD 0 0).toNat
   ·have h4:0<sig.length:=by omega
    have O:(0:Int)<((561+16*(pub.getD 0 0).toNat:Nat):Int):=by omega
    have t3:sig.take (561+16*(pub.getD 0 0).toNat)=sig:=aT (by omega);have t4:pub.take 17=pub:=aT (by omega);have e2:=xtw _ L;have Z:af.wrap (16*((pub.getD 0 0).toNat:Int))=((16*(pub.getD 0 0).toNat:Nat):Int):=wZ (by omega)
    have m2:af.wrap (561+((16*(pub.getD 0 0).toNat:Nat):Int))=((561+16*(pub.getD 0 0).toNat:Nat):Int):=wZ (by omega)
    have Q:0<=aQ.wrap ((pub.getD 0 0).toNat:Int):=by rw[bV];omega
    by_cases h5:(sig.getD 0 0).toNat<2^(pub.getD 0 0).toNat
    ·have E:¬2^(pub.getD 0 0).toNat<=(sig.getD 0 0).toNat:=by omega
     have g2:=xxG (sig.getD 0 0).toNat y ((sig.drop 1).take 560) (by have:=(sig.getD 0 0).toNat_lt;omega) (by rw[an,aE];omega) hm;have g3:=xw3 pub (mW (sig.getD 0 0).toNat y ((sig.drop 1).take 560)) (sig.getD 0 0).toNat (pub.getD 0 0).toNat (sig.drop 561) [] (by rw[aE];omega) (by simpa using L);have a7:=vw (pub.getD 0 0).toNat (sig.drop 561);have g4:=xxF (mW (sig.getD 0 0).toNat y ((sig.drop 1).take 560)) (sig.getD 0 0).toNat (rws (pub.getD 0 0).toNat (sig.drop 561)) (by rw[a7];exact L) (BS _ _) (by rw[a7];exact h5) (by rw[mW,tW,ej];decide)
     have I:gK pub y sig=decide (lk 0 (sig.getD 0 0).toNat (rws (pub.getD 0 0).toNat (sig.drop 561)) (mW (sig.getD 0 0).toNat y ((sig.drop 1).take 560))=pub.drop 1):=by unfold gK;rw[if_pos ⟨J,L⟩,if_pos ⟨h3,h5⟩]
     have t1:(sig.take 561).drop 1=(sig.drop 1).take 560:=by rw[fW]
     have a1:561<=sig.length:=by omega
     have a2:1<=pub.length:=by omega
     have a3:561<=561+16*(pub.getD 0 0).toNat:=by omega
     have a4:1<=17:=by decide
     have a5:(561:Int)<=((561+16*(pub.getD 0 0).toNat:Nat):Int):=by omega
     unfold I8;rw[I];generalize mW (sig.getD 0 0).toNat y ((sig.drop 1).take 560)=X at*;generalize rws (pub.getD 0 0).toNat (sig.drop 561)=R at*;generalize lk 0 (sig.getD 0 0).toNat R X=Y at*;have b0:bys []=[]:=rfl;simp only[aF,b0]at g3;generalize C:pub.getD 0 0=pb at*;generalize F:sig.getD 0 0=sb at*;rw[aj BB]
     by_cases hY:Y=pub.drop 1
     ·simp only[go_sem,Q4,Q5,Q6,Qd,Qe,Qf,Qg,Qj,Qk,Ql,Qm,reduceCtorEq,reduceIte,J,C,F,W,BF,h3,O,t3,t4,e2,Z,m2,E,Q,t1,g2,xiR,a5,g3,g4,xiQ,hY]
     ·simp only[go_sem,Q4,Q5,Q6,Qd,Qe,Qf,Qg,Qj,Qk,Ql,Qm,reduceCtorEq,reduceIte,J,C,F,W,BF,h3,O,t3,t4,e2,Z,m2,E,Q,t1,g2,xiR,a5,g3,g4,xiQ,hY]
    ·have E:2^(pub.getD 0 0).toNat<=(sig.getD 0 0).toNat:=by omega
     have I:gK pub y sig=false:=by unfold gK;rw[if_pos ⟨J,L⟩,if_neg (fun h=>h5 h.2)]
     rw[jH I];generalize C:pub.getD 0 0=pb at*;generalize F:sig.getD 0 0=sb at*;rw[aj BB];simp only[go_sem,Q4,Q5,Q6,Qg,Qj,Qk,Ql,Qm,reduceCtorEq,reduceIte,J,C,F,W,BF,h3,O,e2,Z,m2,E,Q]
   ·have I:gK pub y sig=false:=by
     unfold gK;rw[if_pos ⟨J,L⟩,if_neg (fun h=>h3 h.1)]
    have Z:af.wrap (16*((pub.getD 0 0).toNat:Int))=((16*(pub.getD 0 0).toNat:Nat):Int):=wZ (by omega)
    have m2:af.wrap (561+((16*(pub.getD 0 0).toNat:Nat):Int))=((561+16*(pub.getD 0 0).toNat:Nat):Int):=wZ (by omega)
    have a8:¬(sig.length:Int)=((561+16*(pub.getD 0 0).toNat:Nat):Int):=by omega
    rw[jH I];generalize C:pub.getD 0 0=pb at*;rw[aj BB];simp only[go_sem,Q4,Q5,Q6,Qg,Qj,Qk,Ql,Qm,reduceCtorEq,reduceIte,J,C,W,BF,a8,Z,m2]
  ·have W:=xrG ((pub.getD 0 0).toNat:Int) (by omega)
   have I:gK pub y sig=false:=by unfold gK;rw[if_neg (fun h=>L h.2)]
   rw[jH I];generalize C:pub.getD 0 0=pb at*;rw[aj BB];simp only[go_sem,Q4,Q5,Q6,Qg,Qj,Qk,Ql,Qm,reduceCtorEq,reduceIte,J,C,W,BF]
 ·have a6:¬(pub.length:Int)=17:=by omega
  have I:gK pub y sig=false:=by unfold gK;rw[if_neg (fun h=>J h.1)]
  rw[jH I,aj BB];simp only[go_sem,Q4,Q5,Qg,Qj,Qk,Ql,Qm,reduceCtorEq,reduceIte,a6]
theorem xxD(pub y sig:d9)(hm:y.length<=100000000):call T 163 [.byt pub .no,.byt y .no,.byt sig .no] [] 0=some ⟨I8 pub y sig,[],[]⟩:=by
 by_cases J:pub.length=17
 ·have a6:(pub.length:Int)=17:=by omega
  have h0:0<pub.length:=by omega
  by_cases L:(pub.getD 0 0).toNat<=3
  ·have Z:¬(3:Int)<((pub.getD 0 0).toNat:Int):=by omega
   have a8:¬3<(pub.getD 0 0).toNat:=by omega
   by_cases W:sig.length=561+16*(pub.getD 0 0).toNat
   ·have h4:0<sig.length:=by omega
    have O:(0:Int)<((561+16*(pub.getD 0 0).toNat:Nat):Int):=by omega
    have t3:sig.take (561+16*(pub.getD 0 0).toNat)=sig:=aT (by omega);have t4:pub.take 17=pub:=aT (by omega);have e2:=xtw _ L;have m1:af.wrap (16*((pub.getD 0 0).toNat:Int))=((16*(pub.getD 0 0).toNat:Nat):Int):=wZ (by omega)
    have m2:af.wrap (561+((16*(pub.getD 0 0).toNat:Nat):Int))=((561+16*(pub.getD 0 0).toNat:Nat):Int):=wZ (by omega)
    have Q:0<=aQ.wrap ((pub.getD 0 0).toNat:Int):=by rw[bV];omega
    by_cases h5:(sig.getD 0 0).toNat<2^(pub.getD 0 0).toNat
    ·have E:¬2^(pub.getD 0 0).toNat<=(sig.getD 0 0).toNat:=by omega
     have g2:=xxs (sig.getD 0 0).toNat y ((sig.drop 1).take 560) (by have:=(sig.getD 0 0).toNat_lt;omega) (by rw[an,aE];omega) hm;have g3:=xwS pub sig (mW (sig.getD 0 0).toNat y ((sig.drop 1).take 560)) (sig.getD 0 0).toNat (pub.getD 0 0).toNat L W (pub.getD 0 0).toNat 0 [] (bY _) (by simpa using L);have a7:=vw (pub.getD 0 0).toNat (sig.drop 561);have g4:=xxr (mW (sig.getD 0 0).toNat y ((sig.drop 1).take 560)) (sig.getD 0 0).toNat (rws (pub.getD 0 0).toNat (sig.drop 561)) (by rw[a7];exact L) (BS _ _) (by rw[a7];exact h5) (by rw[mW,tW,ej];decide)
     have I:gK pub y sig=decide (lk 0 (sig.getD 0 0).toNat (rws (pub.getD 0 0).toNat (sig.drop 561)) (mW (sig.getD 0 0).toNat y ((sig.drop 1).take 560))=pub.drop 1):=by unfold gK;rw[if_pos ⟨J,L⟩,if_pos ⟨W,h5⟩]
     have t1:(sig.take 561).drop 1=(sig.drop 1).take 560:=by rw[fW]
     have a1:561<=sig.length:=by omega
     have a2:1<=pub.length:=by omega
     have a3:561<=561+16*(pub.getD 0 0).toNat:=by omega
     have a4:1<=17:=by decide
     have a5:(561:Int)<=((561+16*(pub.getD 0 0).toNat:Nat):Int):=by omega
     have gy:=f31 (lk 0 (sig.getD 0 0).toNat (rws (pub.getD 0 0).toNat (sig.drop 561)) (mW (sig.getD 0 0).toNat y ((sig.drop 1).take 560))) (pub.drop 1) (by rw[zX _ _ _ _ (by rw[mW,tW,ej])];decide);unfold I8;rw[I];generalize mW (sig.getD 0 0).toNat y ((sig.drop 1).take 560)=X at*;generalize rws (pub.getD 0 0).toNat (sig.drop 561)=R at*;generalize lk 0 (sig.getD 0 0).toNat R X=Y at*;have b0:bys []=[]:=rfl;have b1:561+16*0=561:=rfl;have b2:((561:Nat):Int)=561:=rfl;simp only[aF,b0,b1,b2,az]at g3;generalize C:pub.getD 0 0=pb at*;generalize F:sig.getD 0 0=sb at*;rw[aj BA]
     by_cases hY:Y=pub.drop 1
     ·rw[hY]at gy
      simp only[go_sem,Q4,Q5,Q6,Qd,Qe,Qf,Qg,Qj,Qk,Ql,Qm,reduceCtorEq,reduceIte,J,C,F,Z,W,O,t4,e2,m1,m2,E,Q,t1,g2,xiF,a5,g3,g4,xiE,gy,vg,hY]
     ·simp only[go_sem,Q4,Q5,Q6,Qd,Qe,Qf,Qg,Qj,Qk,Ql,Qm,reduceCtorEq,reduceIte,J,C,F,Z,W,O,t4,e2,m1,m2,E,Q,t1,g2,xiF,a5,g3,g4,xiE,gy,vg,hY]
    ·have E:2^(pub.getD 0 0).toNat<=(sig.getD 0 0).toNat:=by omega
     have I:gK pub y sig=false:=by unfold gK;rw[if_pos ⟨J,L⟩,if_neg (fun h=>h5 h.2)]
     rw[jH I];generalize C:pub.getD 0 0=pb at*;generalize F:sig.getD 0 0=sb at*;rw[aj BA];simp only[go_sem,Q4,Q5,Q6,Qg,Qj,Qk,Ql,Qm,reduceCtorEq,reduceIte,J,C,F,Z,W,O,e2,m1,m2,E,Q]
   ·have I:gK pub y sig=false:=by
     unfold gK;rw[if_pos ⟨J,L⟩,if_neg (fun h=>W h.1)]
    have m1:af.wrap (16*((pub.getD 0 0).toNat:Int))=((16*(pub.getD 0 0).toNat:Nat):Int):=wZ (by omega)
    have m2:af.wrap (561+((16*(pub.getD 0 0).toNat:Nat):Int))=((561+16*(pub.getD 0 0).toNat:Nat):Int):=wZ (by omega)
    have b3:¬(sig.length:Int)=((561+16*(pub.getD 0 0).toNat:Nat):Int):=by omega
    rw[jH I];generalize C:pub.getD 0 0=pb at*;rw[aj BA];simp only[go_sem,Q4,Q5,Q6,Qg,Qj,Qk,Ql,Qm,reduceCtorEq,reduceIte,J,C,Z,b3,m1,m2]
  ·have Z:(3:Int)<((pub.getD 0 0).toNat:Int):=by omega
   have a8:3<(pub.getD 0 0).toNat:=by omega
   have I:gK pub y sig=false:=by unfold gK;rw[if_neg (fun h=>L h.2)]
   rw[jH I];generalize C:pub.getD 0 0=pb at*;rw[aj BA];simp only[go_sem,Q4,Q5,Q6,Qg,Qj,Qk,Ql,Qm,reduceCtorEq,reduceIte,J,C,Z]
 ·have a6:¬(pub.length:Int)=17:=by omega
  have I:gK pub y sig=false:=by unfold gK;rw[if_neg (fun h=>J h.1)]
  rw[jH I,aj BA];simp only[go_sem,Q4,Q5,Qg,Qj,Qk,Ql,Qm,reduceCtorEq,reduceIte,a6]
def vU(h y:Int):Prop:=h<0\/3<h\/y<0\/af.wrap (1*2^min (aQ.wrap h).toNat 64)<=y
instance (h leaf:Int):Decidable (vU h leaf):=by unfold vU;infer_instance
def sgn(C:d9)(h y:Int)(E:d9):d9:=if vU h y then []else mJ C h.toNat y.toNat E
theorem xnr(y:Int):vU 0 y↔(y<0\/1<=y):=by
 have e:af.wrap (1*2^min (aQ.wrap 0).toNat 64)=1:=by decide
 unfold vU;rw[e];omega
theorem xnq(y:Int):vU 1 y↔(y<0\/2<=y):=by
 have e:af.wrap (1*2^min (aQ.wrap 1).toNat 64)=2:=by decide
 unfold vU;rw[e];omega
theorem w0:aQ.wrap 0=0:=by decide
theorem w1:aQ.wrap 1=1:=by decide
theorem n57(C:d9)(h y:Int)(I:d9)(hn:vU h y):call T 105 [.byt C .no,.int .i64 h,.int .i64 y,.byt I .no] [] 0=some ⟨.byt [] .no,[],[]⟩:=by
 rw[aj I1]
 by_cases E:h<0
 ·simp only[go_sem,Qg,Qj,Qk,Ql,Qm,reduceCtorEq,reduceIte,E]
 by_cases F:3<h
 ·simp only[go_sem,Qg,Qj,Qk,Ql,Qm,reduceCtorEq,reduceIte,E,F]
 by_cases J:y<0
 ·simp only[go_sem,Qg,Qj,Qk,Ql,Qm,reduceCtorEq,reduceIte,E,F,J]
 have O:af.wrap (1*2^min (aQ.wrap h).toNat 64)<=y:=by unfold vU at hn;omega
 have L:0<=aQ.wrap h:=by rw[bV];omega
 simp only[go_sem,Qg,Qj,Qk,Ql,Qm,reduceCtorEq,reduceIte,E,F,J,O,L]
theorem xrR(y C:d9)(F:y.length<=64)(I:C.length<=100000000):call T 105 [.byt y .no,.int .i64 0,.int .i64 0,.byt C .no] [] 0=some ⟨.byt (mJ y 0 0 C) .no,[],[]⟩:=by
 have J:=xao y 0 F;have W:=xok (lsV y 0) 0 C (by rw[mw];decide) (by decide) I;have E:=xxo y F;have L:=xrJ (pubL (lsV y 0) 0);have Z:=nI (lsV y 0) 0 C;have Q:=eN (lsV y 0) 0;have O:=eN (lsV y 0) 1;rw[xwp]at E;simp only[bys,aI,bO]at E;simp only[c0,c1]at*;have e:mJ y 0 0 C=cf 0::(ud (lsV y 0) 0 C++ []):=rfl;rw[e];generalize ud (lsV y 0) 0 C=S at*;generalize pubL (lsV y 0) 0=A at*;generalize pubL (lsV y 0) 1=B at*;have c2:1+S.length<=140737488355328:=by omega
 have c3:S.length+1<=140737488355328:=by omega
 have c4:1+S.length+16<=140737488355328:=by omega
 have c5:S.length+1+16<=140737488355328:=by omega
 rw[aj I1];simp+decide only[go_sem,Q4,Qg,Qj,Qk,Ql,Qm,reduceCtorEq,reduceIte,w0,J,W,E,L,BJ,Yb,xiA,Ya,Z];rw[ai];simp+decide only[go_sem,Qj,Ql,Qm,reduceIte]
theorem xrQ(y C:d9)(I:y.length<=64)(L:C.length<=100000000):call T 105 [.byt y .no,.int .i64 1,.int .i64 0,.byt C .no] [] 0=some ⟨.byt (mJ y 1 0 C) .no,[],[]⟩:=by
 have O:=xao y 1 I;have Z:=xok (lsV y 1) 0 C (by rw[mw];decide) (by decide) L;have E:=xoh y I;have Q:=xrI (pubL (lsV y 1) 0) (pubL (lsV y 1) 1) (by rw[eN];decide) (by rw[eN];decide);have J:=nI (lsV y 1) 0 C;have W:=eN (lsV y 1) 0;have F:=eN (lsV y 1) 1;rw[xoe]at E;simp only[bys,aI,bO]at E;simp only[c0,c1]at*;have e:mJ y 1 0 C=cf 0::(ud (lsV y 1) 0 C++(pubL (lsV y 1) 1)):=rfl;rw[e];generalize ud (lsV y 1) 0 C=S at*;generalize pubL (lsV y 1) 0=A at*;generalize pubL (lsV y 1) 1=B at*;have c2:1+S.length<=140737488355328:=by omega
 have c3:S.length+1<=140737488355328:=by omega
 have c4:1+S.length+16<=140737488355328:=by omega
 have c5:S.length+1+16<=140737488355328:=by omega
 rw[aj I1];simp+decide only[go_sem,Q4,Qg,Qj,Qk,Ql,Qm,reduceCtorEq,reduceIte,w1,O,Z,E,Q,BJ,Yb,xiA,Ya,J];rw[ai];simp+decide only[go_sem,Q4,Q6,Qa,Qg,Qj,Qk,Ql,Qm,reduceIte,J,F];rw[ai];simp+decide only[go_sem,Qj,Ql,Qm,reduceIte]
theorem xrP(y C:d9)(I:y.length<=64)(L:C.length<=100000000):call T 105 [.byt y .no,.int .i64 1,.int .i64 1,.byt C .no] [] 0=some ⟨.byt (mJ y 1 1 C) .no,[],[]⟩:=by
 have O:=xao y 1 I;have Z:=xok (lsV y 1) 1 C (by rw[mw];decide) (by decide) L;have E:=xoh y I;have Q:=xrH (pubL (lsV y 1) 0) (pubL (lsV y 1) 1) (by rw[eN];decide) (by rw[eN];decide);have J:=nI (lsV y 1) 1 C;have F:=eN (lsV y 1) 0;have W:=eN (lsV y 1) 1;rw[xoe]at E;simp only[bys,aI,bO]at E;simp only[c0,c1]at*;have e:mJ y 1 1 C=cf 1::(ud (lsV y 1) 1 C++(pubL (lsV y 1) 0)):=rfl;rw[e];generalize ud (lsV y 1) 1 C=S at*;generalize pubL (lsV y 1) 0=A at*;generalize pubL (lsV y 1) 1=B at*;have c2:1+S.length<=140737488355328:=by omega
 have c3:S.length+1<=140737488355328:=by omega
 have c4:1+S.length+16<=140737488355328:=by omega
 have c5:S.length+1+16<=140737488355328:=by omega
 rw[aj I1];simp+decide only[go_sem,Q4,Qg,Qj,Qk,Ql,Qm,reduceCtorEq,reduceIte,w1,O,Z,E,Q,BJ,Yb,xiA,Ya,J];rw[ai];simp+decide only[go_sem,Q4,Q6,Qa,Qg,Qj,Qk,Ql,Qm,reduceIte,J,F];rw[ai];simp+decide only[go_sem,Qj,Ql,Qm,reduceIte]
theorem xo7(y C:d9):sgn y 0 0 C=mJ y 0 0 C:=by unfold sgn;rw[if_neg (by decide)];rfl
theorem LN(y C:d9):sgn y 1 0 C=mJ y 1 0 C:=by unfold sgn;rw[if_neg (by decide)];rfl
theorem LM(y C:d9):sgn y 1 1 C=mJ y 1 1 C:=by unfold sgn;rw[if_neg (by decide)];rfl
theorem xxZ(C:d9)(h y:Int)(E:d9)(J:C.length<=64)(F:E.length<=100000000)(O:h<0\/3<h\/h=0\/h=1):
 call T 105 [.byt C .no,.int .i64 h,.int .i64 y,.byt E .no] [] 0=some ⟨.byt (sgn C h y E) .no,[],[]⟩:=by
 by_cases hn:vU h y
 ·have:sgn C h y E=[]:=if_pos hn
  rw[this];exact n57 C h y E hn
 ·have L:h=0\/h=1:=by unfold vU at hn;omega
  rcases L with rfl|rfl
  ·have I:y=0:=by have:=(not_congr (xnr y)).1 hn;omega
   subst I;rw[xo7];exact xrR C E J F
  ·have I:y=0\/y=1:=by have:=(not_congr (xnq y)).1 hn;omega
   rcases I with rfl|rfl
   ·rw[LN];exact xrQ C E J F
   ·rw[LM];exact xrP C E J F
section
structure Mk where
 auth:Int
 sig:List UInt8
def Mk.sv(m:Mk):f8:=[.int .i64 m.auth,.byt m.sig .no]
def mk0:Mk:=⟨0,[]⟩
def jz(l:List Mk):d8:=l.map Mk.sv
theorem fy(l:List Mk):(jz l).length=l.length:=aV ..
theorem rN(l:List Mk)(i:Nat)(h:i<l.length):(jz l).getD i []=(l.getD i mk0).sv:=by simp[jz,aa,h]
def cJ(B:d9)(ms:List Mk):f8:=[.byt B .no,.lst 2 (jz ms) .no]
def pJ(t:Tr)(i:Nat):Int:=(t.au.getD i au0).id
def qD(ms:List Mk)(j:Nat):Int:=(ms.getD j mk0).auth
def tV(t:Tr)(B:d9)(ms:List Mk)(i j:Nat):Bool:=gK (t.au.getD i au0).key B (ms.getD j mk0).sig
def sgO(t:Tr)(B:d9)(ms:List Mk):List Int:=Si.out (pJ t) (qD ms) (tV t B ms) t.au.length ms.length
def sgL(t:Tr)(B:d9)(ms:List Mk):List Int:=Si.srt (sgO t B ms)
def isv(l:List Int):d8:=l.map fun z=> [.int .i64 z]
theorem ot(l:List Int):(isv l).length=l.length:=aV ..
theorem ou(l:List Int)(i:Nat)(h:i<l.length):(isv l).getD i []=[.int .i64 (l.getD i 0)]:=by simp[isv,aa,h]
def sgR(t:Tr)(B:d9)(ms:List Mk):dV:=⟨.lst 1 (isv (sgL t B ms)) .no,[],[]⟩
structure xa5(t:Tr)(B:List UInt8)(ms:List Mk):Prop where
 n1:1<=t.au.length
 n2:t.au.length<=1000
 m2:ms.length<=1000
 b2:B.length<=100000000
 ids:∀a∈t.au, -9223372036854775808<=a.id/\a.id<=9223372036854775807
theorem yW:∀(S L:List Int),S.Nodup->(∀x∈S,x∈L)->S.length<=L.length
 |[],L,_,_=>aY _
 |x::S,L,hn,h=>by have F:x∈L:=h x aA;obtain⟨C,I⟩:=dR.1 hn;have J:=yW S (L.erase x) I (fun y E=>(List.mem_erase_of_ne (show y≠x from fun e=>C (by rw[<-e];exact E))).2 (h y (aw _ E)));have Q:=List.length_erase_of_mem F;have O:=List.length_pos_of_mem F;rw[al];omega
section
variable (aid mid : Nat -> Int) (V : Nat -> Nat -> Bool)
theorem G9{C:List Int}(h:C.Nodup)(i j:Nat):(Si.stp aid mid V C i j).Nodup:=by
 unfold Si.stp;split
 ·rename_i E
  exact List.nodup_append.2 ⟨h,by simp,fun a F b y=>by simp at y;subst y;exact fun e=>E.2.1 (e ▸ F)⟩
 ·exact h
theorem uz{y:List Int}(h:y.Nodup)(j:Nat):∀n,(Si.inn aid mid V j y n).Nodup
 |0=>h
 |n+1=>G9 aid mid V (uz h j n) n j
theorem lU(n:Nat):∀m,(Si.out aid mid V n m).Nodup
 |0=>List.nodup_nil
 |m+1=>uz aid mid V (lU n m) m n
theorem YH{y:List Int}{i j:Nat}{x:Int}(h:x∈Si.stp aid mid V y i j):x∈y\/x=aid i:=by
 unfold Si.stp at h;split at h
 ·rcases am.1 h with h|h
  ·exact .inl h
  ·exact .inr (bq.1 h)
 ·exact .inl h
theorem Gb{y:List Int}{j:Nat}{x:Int}:∀{n:Nat},x∈Si.inn aid mid V j y n->x∈y\/∃i,i<n/\x=aid i
 |0,h=> .inl h
 |n+1,h=>by
  rcases YH aid mid V h with h|h
  ·rcases Gb h with h|⟨i,hi,e⟩
   ·exact .inl h
   ·exact .inr ⟨i,by omega,e⟩
  ·exact .inr ⟨n,by omega,h⟩
theorem FN{n:Nat}{x:Int}:∀{m:Nat},x∈Si.out aid mid V n m->∃i,i<n/\x=aid i
 |0,h=>by cases h
 |m+1,h=>by
  rcases Gb aid mid V h with h|h
  ·exact FN h
  ·exact h
theorem xlW(n m:Nat)(S:List Int)(y:S.Nodup)(h:∀x,x∈S->x∈Si.out aid mid V n m):S.length<=n:=by
 have:=yW S ((bC n).map aid) y (fun x C=>by obtain⟨i,hi,e⟩:=FN aid mid V (h x C);exact aZ.2 ⟨i,dt.2 hi,e.symm⟩)
 rwa[aV,ij]at this
end
theorem JS{l y:List Int}(h:l.Perm y):Si.srt l=Si.srt y:=by
 have tr:∀a b c:Int,decide (a<=b)=true->decide (b<=c)=true->decide (a<=c)=true:=fun a b c E C=>by simp only[decide_eq_true_eq]at*;omega
 have F:∀a b:Int,(decide (a<=b)||decide (b<=a))=true:=fun a b=>by simp only[fD,decide_eq_true_eq];omega
 refine List.Perm.eq_of_pairwise (le:=fun a b=>decide (a<=b)=true) (fun a b _ _ E C=> ?_) (List.pairwise_mergeSort tr F l) (List.pairwise_mergeSort tr F y) (((List.mergeSort_perm l _).trans h).trans (List.mergeSort_perm y _).symm);simp only[decide_eq_true_eq]at E C;omega
theorem rH{l y:List Int}(h:l.Nodup)(C:y.Nodup)(E:∀x,x∈l↔x∈y):Si.srt l=Si.srt y:=JS ((List.perm_ext_iff_of_nodup h C).2 E)
section
open Go.RowKit Go.ChangeShapes Go.WideShapes
variable {x : Sit} {w w' : World}
theorem KN{G C:GM}(y:∀b o v,G b o=some v->C b o=some v)(h:Lay G):Lay C:=fun g cs E j J=>by obtain⟨v,I,F⟩:=h g cs E j J;exact⟨v,y _ _ _ I,F.mono y⟩
def slA:Value->Option Addr
 | .slice a _ _=>a
 |_=>none
def slN:Value->Nat
 | .slice _ n _=>n
 |_=>0
def slC:Value->Nat
 | .slice _ _ c=>c
 |_=>0
theorem xu2{G:GM}{k:IntKind}{n:Int}{v:Value}(h:cR G (.int k n) v):v= .int k n:=by cases h;rfl
theorem wh{α:Type}(l:List α)(d:α)(i:Nat)(h:i<l.length):l.getD i d∈l:=by rw[aa,ac h];exact bv _
theorem hZ{G:GM}{l:d9}{t:Tok}{v:Value}(h:cR G (.byt l t) v):v= .slice (slA v) (slN v) (slC v):=by
 cases h<;>rfl
theorem xvS(y:∀b o v,x.G b o=some v->w.cell? ⟨b,o,none⟩=some v)(E:Below w.heap.size w w'):∀b o v,x.G b o=some v->(AI w').G b o=some v:=fun b o v h=>by have C:=y b o v h;show w'.cell? ⟨b,o,none⟩=some v;rw[E.cell (p:=⟨b,o,none⟩) (kD C)];exact C
theorem GY{key B sig:d9}{k b s:Value}(hB:B.length<=100000000)(y:∀b o v,x.G b o=some v->w.cell? ⟨b,o,none⟩=some v)(hL:Lay x.G)(Q:cR x.G (.byt key .no) k)(O:cR x.G (.byt B .no) b)(Z:cR x.G (.byt sig .no) s)
 (wr:World) (F:Below w.heap.size w wr):Calls Tryz.prog 122 #[k,b,s] wr fun e w'=>∃l:Int,e= .returned (.tuple #[.int .i64 l,.bool (gK key B sig)])/\Below wr.heap.size wr w':=by
 have C:=xvS y F
 have W:cL (AI wr) [.byt key .no,.byt B .no,.byt sig .no] [k,b,s]:=⟨rfl,fun i hi=>by
  match i,hi with
  |0,_=>exact .dat _ _ (Q.mono C) trivial
  |1,_=>exact .dat _ _ (O.mono C) trivial
  |2,_=>exact .dat _ _ (Z.mono C) trivial⟩
 refine(Lk LI (xxR key B sig hB) W (KN C hL)).mono ?_;rintro e w' ⟨v,x',rfl,T,E⟩;obtain⟨vs,rfl,I⟩:=T.tup_inv;obtain⟨u1,u2,rfl,J,L⟩:=Pr.repL2 I;rw[J.int_inv,L.bool_inv];exact⟨_,rfl,E⟩
theorem Eg{C:Nat}{y:d8}{v:Value}(h:Rep x (.lst C y .no) v):(y=[]/\∃A c,v= .slice A 0 c)\/∃(b off cap:Nat)(val:Nat->Nat->Value),v= .slice (some ⟨b,off,none⟩) y.length cap/\(∀i j,i<y.length->j<C->x.G b (off+i*C+j)=some (val i j))/\(∀i j,i<y.length->j<C->cR x.G ((y.getD i []).getD j .undef) (val i j)):=by
 have hd:=h.data rfl;cases hd with
 |lstN=>exact .inl ⟨rfl,none,0,rfl⟩
 |lstE _ _ a=>exact .inl ⟨rfl,some a,0,rfl⟩
 |lst _ _ _ b off cap n val hn J I E F=>subst hn;exact .inr ⟨b,off,cap,val,rfl,E,F⟩
theorem Iq{g i:Nat}{y:LAc}{e:TypeId}{C:Nat×Nat}(h:w.heap[g]? =some (.cells y e C))(hi:i<y.size):w.cell? ⟨g,i,none⟩=some (y.getD i Go.undef):=by simp only[World.cell?,h];simp[hi]
theorem xkT{t:Tr}{B:d9}{ms:List Mk}(C:xa5 t B ms):fZ Tryz.prog 73 [.agg t.sv,.agg (cJ B ms)] [] 0 (· =sgR t B ms):=by
 refine Aw (by kernel_rfl) fun x w vs hr y hL=> ?_
 obtain⟨u,v,rfl,h1,h2⟩:=Pr.repL2 hr;obtain⟨us,rfl,ru⟩:=h1.agg_inv;obtain⟨su,b4,rfl,r1,r2⟩:=Pr.repL2 ru;obtain⟨c3,rfl,rv⟩:=h2.agg_inv;obtain⟨J,sm,rfl,q1,q2⟩:=Pr.repL2 rv;rw[r2.int_inv];have W:=q1.data rfl;rw[hZ W];have b1:=W;rw[hZ W]at b1;rcases Eg r1 with⟨he,_⟩|⟨ba,oa,ca,va,rfl,ga,da⟩
 ·have:=C.n1
  rw[<-fB,he]at this;simp at this
 rw[fB]at ga da ⊢;have a7:ba<w.heap.size:=kD (y _ _ _ (ga 0 0 C.n1 (by decide)))
 have a0:∀i,i<t.au.length->va i 0= .int .i64 (pJ t i):=fun i hi=>by have:=da i 0 hi (by decide);rw[iE _ _ hi]at this;change cR x.G (.int .i64 (pJ t i)) (va i 0)at this;exact xu2 this
 have a1:∀i,i<t.au.length->cR x.G (.byt (t.au.getD i au0).key .no) (va i 1):=fun i hi=>by have:=da i 1 hi (by decide);rw[iE _ _ hi]at this;exact this
 have F:∀(A:Option Addr)(T:Nat),ms=[]->Calls Tryz.prog 73 ⟨[.agg ⟨[.slice (some ⟨ba,oa,none⟩) t.au.length ca,.int .i64 t.thr]⟩,.agg ⟨[.slice (slA J) (slN J) (slC J),.slice A 0 T]⟩]⟩ w fun e w'=>∃v,e= .returned v/\Rep (x.grow w w') (sgR t B ms).r v/\Below w.heap.size w w':=by
  intro A T I;refine(Si.w73_0 w _ A t.thr T (slA J) (slN J) (slC J) (some ⟨ba,oa,none⟩) t.au.length ca rfl (fun wr=> ?_)).mono ?_
  ·refine(Si.w123 0 (.slice none 0 0) [] wr (by decide) (World.ownsRow_nil _ _ _ _)).mono ?_
   rintro e w' ⟨rfl,_,hg⟩;exact⟨rfl,hg⟩
  ·rintro e w' ⟨rfl,hb⟩
   subst I;refine⟨_,rfl, ?_,hb⟩;show Rep _ (.lst 1 (isv (sgL t B [])) .no) _;rw[show sgL t B []=[]by simp[sgL,sgO,Si.out,Si.srt]];exact .dat _ _ (.lstN 1 .no) trivial
 rcases Eg q2 with⟨he,A,c,rfl⟩|⟨bm,om,T,vm,rfl,gm,dm⟩
 ·exact F A c (List.eq_nil_of_length_eq_zero (by rw[<-fy,he];rfl))
 rw[fy]at gm dm ⊢
 by_cases I:ms.length=0
 ·have:=F (some ⟨bm,om,none⟩) T (List.eq_nil_of_length_eq_zero I)
  rw[I];exact this
 have b0:bm<w.heap.size:=kD (y _ _ _ (gm 0 0 (by omega) (by decide)))
 have m0:∀i,i<ms.length->vm i 0= .int .i64 (qD ms i):=fun i hi=>by have:=dm i 0 hi (by decide);rw[rN _ _ hi]at this;change cR x.G (.int .i64 (qD ms i)) (vm i 0)at this;exact xu2 this
 have m1:∀i,i<ms.length->cR x.G (.byt (ms.getD i mk0).sig .no) (vm i 1):=fun i hi=>by have:=dm i 1 hi (by decide);rw[rN _ _ hi]at this;exact this
 have hw:=Si.w73 w t.au.length ms.length (pJ t) (qD ms) (fun i=>slA (va i 1)) (fun j=>slA (vm j 1)) (fun i=>slN (va i 1)) (fun i=>slC (va i 1)) (fun j=>slN (vm j 1)) (fun j=>slC (vm j 1)) (tV t B ms) ba oa ca bm om T t.thr (slA J) (slN J) (slC J)
  C.n2 C.m2 a7 b0
  (fun i hi=>by have:=y _ _ _ (ga i 0 hi (by decide));rw[a0 i hi]at this;exact this)
  (fun i hi=>by have:=y _ _ _ (ga i 1 hi (by decide));rw[hZ (a1 i hi)]at this;exact this)
  (fun i hi=>by have:=y _ _ _ (gm i 0 hi (by decide));rw[m0 i hi]at this;exact this)
  (fun i hi=>by have:=y _ _ _ (gm i 1 hi (by decide));rw[hZ (m1 i hi)]at this;exact this)
  Si.srt (fun B1 v ss wr hl E=>Si.w123 B1 v ss wr (by have:=C.n2;omega) E)
  (fun S hS h=>xlW _ _ _ _ _ S hS h)
  (fun i hi=>by
   have:=C.ids _ (wh t.au au0 i hi);unfold pJ;simp only[Lit.wf,IntKind.min,IntKind.max,IntKind.signed,IntKind.bits,aD,decide_eq_true_eq];constructor
   ·exact this.1
   ·exact this.2)
  (fun i j wr hi hj b3=>by have:=GY C.b2 y hL (a1 i hi) W (m1 j hj) wr b3;rw[hZ (a1 i hi),hZ W,hZ (m1 j hj)]at this;exact this)
 refine hw.mono ?_;rintro e w' ⟨v,ss,B1,b7,rfl,E,b5,a8,a2,hb⟩;have hs:Si.srt ss=sgL t B ms:=rH a8 (lU _ _ _ _ _) a2;rw[hs]at E;have L:(sgL t B ms).length=ss.length:=by rw[<-hs];simp[Si.srt]
 refine⟨v,rfl, ?_,hb⟩;show Rep _ (.lst 1 (isv (sgL t B ms)) .no) v;obtain⟨_,⟨rfl,h0⟩|⟨g,cap,d1,rfl,c5,hg,a6,c7,b6,O⟩⟩:=E
 ·rw[List.eq_nil_of_length_eq_zero (L.trans h0)]
  exact .dat _ _ (.lstN 1 .no) trivial
 ·refine .dat _ _ (.lst 1 _ .no g 0 cap ss.length (fun i _=> .int .i64 ((sgL t B ms).getD i 0)) (by rw[ot,L]) a6 (fun i hi=>by rw[ou _ _ (by omega)];rfl) (fun i j hi hj=> ?_) (fun i j hi hj=> ?_)) trivial
  ·have Q:j=0:=by omega
   subst Q;show(if w.heap.size<=g then w'.cell? ⟨g,0+i*1+0,none⟩else x.G g _)=_;rw[if_pos (by omega),show 0+i*1+0=i by omega,Iq hg (by omega)];have h3:=congrArg (fun l:LAb=>l[i]?) O;simp only[dq]at h3;have Z:i<(sgL t B ms).length:=by omega
   rw[List.getElem?_take_of_lt hi,aU,ac Z,bE,db]at h3;rw[aS,h3,aa,ac Z];rfl
  ·have Q:j=0:=by omega
   subst Q;rw[ou _ _ (by omega)];exact .int _ _
end
end
theorem Au.sv_inj{a b:Au}(h:a.sv=b.sv):a=b:=by obtain⟨d,k⟩:=a;obtain⟨y,k2⟩:=b;simp[Au.sv]at h;obtain⟨rfl,rfl⟩:=h;rfl
theorem Mk.sv_inj{a b:Mk}(h:a.sv=b.sv):a=b:=by obtain⟨d,k⟩:=a;obtain⟨y,k2⟩:=b;simp[Mk.sv]at h;obtain⟨rfl,rfl⟩:=h;rfl
theorem vX{α β:Type}{f:α->β}(y:∀a b,f a=f b->a=b):∀{l m:List α},l.map f=m.map f->l=m
 |[],[],_=>rfl
 |[],_::_,h=>by simp at h
 |_::_,[],h=>by simp at h
 |a::l,b::m,h=>by simp only[aI,mU.injEq]at h;rw[y a b h.1,vX y h.2]
theorem Tr.sv_inj{a b:Tr}(h:a.sv=b.sv):a=b:=by obtain⟨d,k⟩:=a;obtain⟨y,k2⟩:=b;simp only[Tr.sv,mU.injEq,SV.lst.injEq,SV.int.injEq,true_and,and_true]at h;rw[vX (fun _ _=>Au.sv_inj) h.1,h.2]
theorem Gm{B C:d9}{ms ns:List Mk}(h:cJ B ms=cJ C ns):B=C/\ms=ns:=by simp only[cJ,mU.injEq,SV.lst.injEq,SV.byt.injEq,true_and,and_true]at h;exact⟨h.1,vX (fun _ _=>Mk.sv_inj) h.2⟩
def sgP(y:f8)(q:Tr×d9×List Mk):Prop:=y=[.agg q.1.sv,.agg (cJ q.2.1 q.2.2)]/\xa5 q.1 q.2.1 q.2.2
open Classical in
noncomputable def p73(y:f8)(os:List aH)(k:Nat):Option dV:=
 if h:(∃q,sgP y q)/\os=[]/\k=0 then some (sgR (Classical.choose h.1).1 (Classical.choose h.1).2.1 (Classical.choose h.1).2.2)else none
theorem xlV{t:Tr}{B:d9}{ms:List Mk}(y:xa5 t B ms):p73 [.agg t.sv,.agg (cJ B ms)] [] 0=some (sgR t B ms):=by have C:∃q,sgP [.agg t.sv,.agg (cJ B ms)] q:=⟨(t,B,ms),rfl,y⟩;unfold p73;rw[dif_pos ⟨C,rfl,rfl⟩];have E:=Classical.choose_spec C;have e:=E.1;simp only[mU.injEq,SV.agg.injEq,and_true]at e;rw[<-Tr.sv_inj e.1,<-(Gm e.2).1,<-(Gm e.2).2]
theorem xlU:∀C os k q,p73 C os k=some q->fZ Tryz.prog 73 C os k (· =q):=by
 intro C os k q h;unfold p73 at h;split at h
 ·rename_i E
  have F:=Classical.choose_spec E.1;obtain⟨_,rfl,rfl⟩:=E;generalize Classical.choose _=z at*;obtain⟨t,B,ms⟩:=z;obtain⟨rfl,y⟩:=F;cases h;exact xkT y
 ·cases h
noncomputable def U:iO:=T.addP 73 p73
theorem LH:I0 T U:=JP T p73 rfl
theorem xts:pA Tryz.prog U:=xa2 LI xlU
theorem up{g:Nat}{a:f8}{os:List aH}{k:Nat}{q:dV}(h:call T g a os k=some q):call U g a os k=some q:=Ll LH h
theorem US(k:Nat):U.sg k=T.sg k:=rfl
theorem f73{t:Tr}{B:d9}{ms:List Mk}(y:xa5 t B ms):call U 73 [.agg t.sv,.agg (cJ B ms)] [] 0=some ⟨.lst 1 (isv (sgL t B ms)) .no,[],[]⟩:=by have e:U.fn 73=some (.prim p73):=GA T 73 p73;rw[ff e];exact xlV y
theorem xa4:U.fn 46=some (.code F46):=LH.fn 46 _ xyP
theorem xix:T.sg 73= {}:=rfl
def qP(x:Int):List Int->List Int
 |[]=> [x]
 |y::r=>if y<x then y::qP x r else if y=x then y::r else x::y::r
def lbI(x:Int):List Int->Nat
 |[]=>0
 |y::r=>if y<x then lbI x r+1 else 0
theorem CV(x:Int):∀l,lbI x l<=l.length
 |[]=>aK _
 |y::r=>by
  unfold lbI;split
  ·have:=CV x r;rw[al];omega
  ·exact aY _
theorem Uw(x:Int):∀(l:List Int)(i:Nat),i<lbI x l->l.getD i 0<x
 |[],i,h=>by cases h
 |y::r,i,h=>by
  unfold lbI at h;split at h
  ·rename_i C
   cases i with
   |zero=>exact C
   |succ i=>exact Uw x r i (by omega)
  ·omega
theorem Ux(x:Int):∀(l:List Int),lbI x l<l.length->¬l.getD (lbI x l) 0<x
 |[],h=>by cases h
 |y::r,h=>by
  unfold lbI at h ⊢;split
  ·rename_i C
   rw[if_pos C,al]at h;exact Ux x r (by omega)
  ·rename_i C;exact C
theorem F8(x:Int):∀(l:List Int),qP x l=if lbI x l<l.length/\l.getD (lbI x l) 0=x then l else l.take (lbI x l)++x::l.drop (lbI x l)
 |[]=>by simp[qP,lbI]
 |y::r=>by
  unfold qP lbI
  by_cases E:y<x
  ·rw[if_pos E,if_pos E,F8 x r]
   by_cases C:lbI x r<r.length/\r.getD (lbI x r) 0=x
   ·rw[if_pos C,if_pos (by rw[al];exact⟨by omega,C.2⟩)]
   ·rw[if_neg C,if_neg (by rw[al];exact fun h=>C ⟨by omega,h.2⟩)]
    rfl
  ·rw[if_neg E,if_neg E]
   by_cases e:y=x
   ·rw[if_pos e,if_pos ⟨by simp,e⟩]
   ·rw[if_neg e,if_neg (fun h=>e h.2)];rfl
theorem rR(x y:Int):∀l,y∈qP x l↔y=x\/y∈l
 |[]=>by simp[qP]
 |z::r=>by
  unfold qP;split
  ·rw[av,rR x y r,av]
   constructor
   ·rintro(h|h|h)
    ·exact .inr (.inl h)
    ·exact .inl h
    ·exact .inr (.inr h)
   ·rintro(h|h|h)
    ·exact .inr (.inl h)
    ·exact .inl h
    ·exact .inr (.inr h)
  ·split
   ·rename_i h;subst h;simp
   ·simp
theorem F6(x:Int):∀l:List Int,l.Pairwise (· < ·)->(qP x l).Pairwise (· < ·)
 |[],_=>by simp[qP]
 |z::r,h=>by
  obtain⟨E,F⟩:=bJ.1 h;unfold qP;split
  ·rename_i hz
   refine bJ.2 ⟨fun y C=> ?_,F6 x r F⟩;rcases (rR x y r).1 C with rfl|C
   ·exact hz
   ·exact E y C
  ·rename_i hz
   split
   ·exact h
   ·rename_i I
    refine bJ.2 ⟨fun y C=> ?_,h⟩;rcases av.1 C with rfl|C
    ·omega
    ·have:=E y C;omega
section
variable (aid mid : Nat -> Int) (V : Nat -> Nat -> Bool)
def gdF(n j:Nat):Bool:=(bC n).any fun i=>decide (aid i=mid j)&&V i j
theorem Gh(n j:Nat):gdF aid mid V n j=true↔∃i,i<n/\aid i=mid j/\V i j=true:=by
 unfold gdF;rw[List.any_eq_true];constructor
 ·rintro⟨i,hi,h⟩
  simp only[aD,decide_eq_true_eq]at h;exact⟨i,dt.1 hi,h.1,h.2⟩
 ·rintro⟨i,hi,C,y⟩
  exact⟨i,dt.2 hi,by simp[C,y]⟩
def rsg(n:Nat):Nat->List Int
 |0=> []
 |j+1=>if gdF aid mid V n j=true then qP (mid j) (rsg n j)else rsg n j
theorem xh(n:Nat):∀m,(rsg aid mid V n m).Pairwise (· < ·)
 |0=>fO.nil
 |m+1=>by
  unfold rsg;split
  ·exact F6 _ _ (xh n m)
  ·exact xh n m
theorem vV(n:Nat)(x:Int):∀m,x∈rsg aid mid V n m↔∃j,j<m/\gdF aid mid V n j=true/\mid j=x
 |0=>by simp[rsg]
 |m+1=>by
  unfold rsg;split
  ·rename_i E
   rw[rR,vV n x m];constructor
   ·rintro(h|⟨j,F,y,C⟩)
    ·exact⟨m,by omega,E,h.symm⟩
    ·exact⟨j,by omega,y,C⟩
   ·rintro⟨j,F,y,C⟩
    by_cases e:j=m
    ·subst e;exact .inl C.symm
    ·exact .inr ⟨j,by omega,y,C⟩
  ·rename_i E
   rw[vV n x m];constructor
   ·rintro⟨j,F,y,C⟩;exact⟨j,by omega,y,C⟩
   ·rintro⟨j,F,y,C⟩
    by_cases e:j=m
    ·subst e;exact absurd y E
    ·exact⟨j,by omega,y,C⟩
theorem F1(j:Nat)(C:List Int)(x:Int):∀n,x∈Si.inn aid mid V j C n↔x∈C\/∃i,i<n/\aid i=mid j/\V i j=true/\aid i=x
 |0=>by simp[Si.inn]
 |n+1=>by
  have F:=F1 j C x n;show x∈Si.stp aid mid V (Si.inn aid mid V j C n) n j↔_
  have e:(∃i,i<n+1/\aid i=mid j/\V i j=true/\aid i=x)↔(∃i,i<n/\aid i=mid j/\V i j=true/\aid i=x)\/(aid n=mid j/\V n j=true/\aid n=x):=by
   constructor
   ·rintro⟨i,J,y⟩
    by_cases e:i=n
    ·subst e;exact .inr y
    ·exact .inl ⟨i,by omega,y⟩
   ·rintro(⟨i,J,y⟩|y)
    ·exact⟨i,by omega,y⟩
    ·exact⟨n,by omega,y⟩
  rw[e];unfold Si.stp;split
  ·rename_i E
   rw[am,F,bq];constructor
   ·rintro((h|h)|h)
    ·exact .inl h
    ·exact .inr (.inl h)
    ·exact .inr (.inr ⟨E.1,E.2.2,h.symm⟩)
   ·rintro(h|h|h)
    ·exact .inl (.inl h)
    ·exact .inl (.inr h)
    ·exact .inr h.2.2.symm
  ·rename_i E
   constructor
   ·intro h
    rcases F.1 h with h|h
    ·exact .inl h
    ·exact .inr (.inl h)
   ·rintro(h|h|h)
    ·exact F.2 (.inl h)
    ·exact F.2 (.inr h)
    ·by_cases I:aid n∈Si.inn aid mid V j C n
     ·rw[<-h.2.2];exact I
     ·exact absurd ⟨h.1,I,h.2.1⟩ E
theorem vW(n:Nat)(x:Int):∀m,x∈Si.out aid mid V n m↔∃j,j<m/\gdF aid mid V n j=true/\mid j=x
 |0=>by simp[Si.out]
 |m+1=>by
  show x∈Si.inn aid mid V m (Si.out aid mid V n m) n↔_;rw[F1,vW n x m];constructor
  ·rintro(⟨j,E,y,C⟩|⟨i,E,y,C,I⟩)
   ·exact⟨j,by omega,y,C⟩
   ·exact⟨m,by omega,(Gh aid mid V n m).2 ⟨i,E,y,C⟩,by rw[<-y];exact I⟩
  ·rintro⟨j,E,y,C⟩
   by_cases e:j=m
   ·subst e
    obtain⟨i,k1,k2,F⟩:=(Gh aid mid V n j).1 y;exact .inr ⟨i,k1,k2,F,by rw[k2];exact C⟩
   ·exact .inl ⟨j,by omega,y,C⟩
end
theorem y8{l:List Int}(h:l.Pairwise (· < ·)):l.Nodup:=h.imp fun h e=>by omega
theorem uc{l:List Int}(h:l.Pairwise (· < ·)):Si.srt l=l:=by
 have tr:∀a b c:Int,decide (a<=b)=true->decide (b<=c)=true->decide (a<=c)=true:=fun a b c C y=>by simp only[decide_eq_true_eq]at*;omega
 have E:∀a b:Int,(decide (a<=b)||decide (b<=a))=true:=fun a b=>by simp only[fD,decide_eq_true_eq];omega
 refine List.Perm.eq_of_pairwise (le:=fun a b=>decide (a<=b)=true) (fun a b _ _ C y=> ?_) (List.pairwise_mergeSort tr E l) (h.imp fun h=>by simp only[decide_eq_true_eq];omega) (List.mergeSort_perm l _);simp only[decide_eq_true_eq]at C y;omega
theorem YW(t:Tr)(B:d9)(ms:List Mk):sgL t B ms=rsg (pJ t) (qD ms) (tV t B ms) t.au.length ms.length:=by unfold sgL sgO;rw[<-uc (xh (pJ t) (qD ms) (tV t B ms) t.au.length ms.length)];exact rH (lU _ _ _ _ _) (y8 (xh _ _ _ _ _)) fun x=>by rw[vW,vV]
def gdB(t:Tr)(B:d9)(m:Mk):Bool:=(bC t.au.length).any fun i=>decide ((t.au.getD i au0).id=m.auth)&&gK (t.au.getD i au0).key B m.sig
def gdS(t:Tr)(B:d9)(m:Mk):Nat->Nat->Bool
 |0,_=>false
 |n+1,i=>(decide ((t.au.getD i au0).id=m.auth)&&gK (t.au.getD i au0).key B m.sig)||gdS t B m n (i+1)
theorem Gg(t:Tr)(B:d9)(m:Mk):∀n i,gdS t B m n i=(tC i n).any fun i=>decide ((t.au.getD i au0).id=m.auth)&&gK (t.au.getD i au0).key B m.sig
 |0,_=>rfl
 |n+1,i=>by rw[gdS,Gg t B m n (i+1),List.range'_succ,List.any_cons]
theorem xab(t:Tr)(B:d9)(m:Mk):gdS t B m t.au.length 0=gdB t B m:=by rw[Gg,gdB,List.range_eq_range']
theorem xw1(t:Tr)(B:d9)(m:Mk)(hn:t.au.length<=1000000000)(Q:B.length<=100000000):∀(n i:Nat),i+n=t.au.length->
 run T (.loop Cz) ⟨[(1,.byt B .no),(3,.ptr 103 0),(5,.ptr 105 0),(7,.int .i64 i)],[(103,.rc t.sv),(105,.rc m.sv)],[]⟩=
  if gdS t B m n i=true then some (.r,⟨[(6,.bool true)],[(103,.rc t.sv),(105,.rc m.sv)],[]⟩)else some (.x 0,⟨[],[(103,.rc t.sv),(105,.rc m.sv)],[]⟩):=by
 intro n;induction n with
 |zero=>
  intro i h;have hi:i=t.au.length:=by omega
  have E:=fB t.au;subst hi;have e:gdS t B m 0 t.au.length=false:=rfl;rw[e,ai];simp only[Tr.sv,go_sem,Qg,Qj,Qk,Ql,Qm,reduceIte,E]
 |succ n O=>
  intro i h;have hi:i<t.au.length:=by omega
  have E:=fB t.au;have F:=iE t.au i hi;have J:=cr i (by omega);have C:=O (i+1) (by omega);have e:gdS t B m (n+1) i=((decide ((t.au.getD i au0).id=m.auth)&&gK (t.au.getD i au0).key B m.sig)||gdS t B m n (i+1)):=rfl;rw[e];generalize gdS t B m n (i+1)=Z at*;have y:=xxD (t.au.getD i au0).key B m.sig Q;unfold I8 at y;generalize hx:t.au.getD i au0=x at*;obtain⟨d,k⟩:=x;obtain⟨au,W⟩:=t;obtain⟨a,g⟩:=m;simp only[Tr.sv,Mk.sv,Au.sv]at*;generalize gK k B g=V at*;generalize (if V=true then((g.getD 0 0).toNat:Int)else 0)=L at*;rw[ai]
  by_cases I:d=a
  ·cases V with
   |true=>simp only[go_sem,Qd,Qe,Qf,Qg,Qj,Qk,Ql,Qm,reduceIte,hi,E,F,I,y,xiN,decide_true,Bool.and_self,Bool.true_or]
   |false=>simp only[go_sem,Qd,Qe,Qf,Qg,Qj,Qk,Ql,Qm,reduceIte,hi,E,F,I,y,xiN,J,C,Bool.and_false,tT]
  ·simp only[go_sem,Qg,Qj,Qk,Ql,Qm,reduceIte,hi,E,F,I,J,C,decide_false,Bool.false_and,tT]
theorem xxO(t:Tr)(B:d9)(m:Mk)(hn:t.au.length<=1000000000)(E:B.length<=100000000):call T 137 [.agg t.sv,.byt B .no,.agg m.sv] [] 0=some ⟨.bool (gdB t B m),[],[]⟩:=by
 have h:=xw1 t B m hn E t.au.length 0 (bY _);rw[xab,az]at h;obtain⟨au,C⟩:=t;obtain⟨a,g⟩:=m;simp only[Tr.sv,Mk.sv]at*;rw[aj xsG]
 by_cases y:gdB ⟨au,C⟩ B ⟨a,g⟩=true
 ·rw[if_pos y]at h
  rw[y];simp only[go_sem,Qg,Qj,Qk,Ql,Qm,reduceCtorEq,reduceIte,h]
 ·rw[if_neg y]at h
  rw[Bool.not_eq_true]at y;rw[y];simp only[go_sem,Qg,Qj,Qk,Ql,Qm,reduceCtorEq,reduceIte,h]
theorem zk(x:Int):∀l,(qP x l).length<=l.length+1
 |[]=>aK _
 |y::r=>by
  unfold qP;split
  ·have:=zk x r;rw[al,al];omega
  ·split
   ·omega
   ·exact aK _
theorem Ef(aid mid:Nat->Int)(V:Nat->Nat->Bool)(n:Nat):∀m,(rsg aid mid V n m).length<=m
 |0=>aK _
 |m+1=>by
  have:=Ef aid mid V n m;unfold rsg;split
  ·have:=zk (mid m) (rsg aid mid V n m);omega
  ·omega
def xbm(t:Tr)(B:d9)(ms:List Mk)(L:List Int)(j:Nat):CSt:=⟨[(2,.ptr 102 0),(3,.ptr 103 0),(5,.lst 1 (isv L) (.id 105)),(6,.int .i64 j)],[(102,.rc t.sv),(103,.rc (cJ B ms))],[105]⟩
theorem xwt(O Q:aH)(L:List Int)(x j:Int)(hn:L.length<=1000000000):∀(m k:Nat),lbI x L-k=m->k<=lbI x L->
 run T (.loop Vb) ⟨[(2,.ptr 102 0),(3,.ptr 103 0),(5,.lst 1 (isv L) (.id 105)),(6,.int .i64 j),(7,.int .i64 x),(8,.int .i64 k)],[(102,O),(103,Q)],[105]⟩=
  some (.x 2,⟨[(2,.ptr 102 0),(3,.ptr 103 0),(5,.lst 1 (isv L) (.id 105)),(6,.int .i64 j),(7,.int .i64 x),(8,.int .i64 (lbI x L))],[(102,O),(103,Q)],[105]⟩):=by
 intro m;have J:=ot L;have a1:=CV x L;induction m with
 |zero=>
  intro k W h1;have E:lbI x L=k:=by omega
  by_cases y:k<L.length
  ·have C:=ou L k y
   have I:¬L.getD k 0<x:=by rw[<-E];exact Ux x L (by omega)
   rw[E,ai];simp only[go_sem,Qj,Ql,Qm,reduceIte,J,y,C,I]
  ·rw[E,ai]
   simp only[go_sem,Qj,Ql,Qm,reduceIte,J,y]
 |succ m ih=>
  intro k W h1;have y:k<L.length:=by omega
  have C:=ou L k y;have I:L.getD k 0<x:=Uw x L k (by omega);have Z:=cr k (by omega);have F:=ih (k+1) (by omega) (by omega);rw[ai];simp only[go_sem,Qj,Ql,Qm,reduceIte,J,y,C,I,Z,F]
theorem l92(t:Tr)(B:d9)(ms:List Mk)(hn:t.au.length<=1000000000)(hB:B.length<=100000000)(hm:ms.length<=1000000):∀(n j:Nat),ms.length-j=n->j<=ms.length->
 run T (.loop BW) (xbm t B ms (rsg (pJ t) (qD ms) (tV t B ms) t.au.length j) j)=
  some (.x 0,⟨[(5,.lst 1 (isv (rsg (pJ t) (qD ms) (tV t B ms) t.au.length ms.length)) (.id 105))],[(102,.rc t.sv),(103,.rc (cJ B ms))],[105]⟩):=by
 intro n;induction n with
 |zero=>
  intro j h0 h1;have E:j=ms.length:=by omega
  have I:=fy ms;subst E;unfold xbm;rw[ai];simp only[cJ,go_sem,Qg,Qj,Ql,Qm,reduceIte,I]
 |succ n ih=>
  intro j h0 h1;have E:j<ms.length:=by omega
  have I:=fy ms;have Z:=rN ms j E;have e1:=cr j (by omega);have y:=ih (j+1) (by omega) (by omega);have hs:rsg (pJ t) (qD ms) (tV t B ms) t.au.length (j+1)=if gdB t B (ms.getD j mk0)=true then qP (ms.getD j mk0).auth (rsg (pJ t) (qD ms) (tV t B ms) t.au.length j)else rsg (pJ t) (qD ms) (tV t B ms) t.au.length j:=rfl
  have hl:=Ef (pJ t) (qD ms) (tV t B ms) t.au.length j;rw[hs]at y;generalize rsg (pJ t) (qD ms) (tV t B ms) t.au.length j=L at*;have g:=xxO t B (ms.getD j mk0) hn hB;generalize a1:ms.getD j mk0=mk at*;obtain⟨a,s⟩:=mk;obtain⟨au,th⟩:=t;have C:=ot L;unfold xbm at y ⊢;simp only[Tr.sv,Mk.sv,cJ]at*
  by_cases O:gdB ⟨au,th⟩ B ⟨a,s⟩=true
  ·rw[if_pos O]at y
   rw[O]at g;have W:=xwt (.rc [.lst 2 (o8 au) .no,.int .i64 th]) (.rc [.byt B .no,.lst 2 (jz ms) .no]) L a j (by omega) _ 0 rfl (aY _);rw[az]at W;have Q:=CV a L;rw[F8]at y
   by_cases F:lbI a L<L.length
   ·have J:=ou L _ F
    by_cases hd:L.getD (lbI a L) 0=a
    ·rw[if_pos ⟨F,hd⟩]at y
     generalize lbI a L=q at*;rw[ai];simp only[go_sem,Qd,Qe,Qf,Qg,Qj,Qk,Ql,Qm,reduceIte,E,I,Z,g,I2,W,C,F,J,hd,e1,y]
    ·rw[if_neg (fun h=>hd h.2)]at y
     have tf:eS L.length (isv L)=isv L:=by rw[<-C,dy]
     have vA:(eS (lbI a L) (isv L)).length=lbI a L:=by rw[an,C];omega
     have vD:(iH (lbI a L) (isv L)).length=L.length-lbI a L:=by rw[aE,C]
     have b1:lbI a L*8<=140737488355328:=by omega
     have b3:(lbI a L+1)*8<=140737488355328:=by omega
     have b2:(lbI a L+(1+(L.length-lbI a L)))*8<=140737488355328:=by omega
     have b4:(lbI a L+1+(L.length-lbI a L))*8<=140737488355328:=by omega
     have ei:isv (L.take (lbI a L)++a::L.drop (lbI a L))=(isv L).take (lbI a L)++([.int .i64 a]::(isv L).drop (lbI a L)):=by simp[isv,fN,mF]
     rw[ei]at y;generalize lbI a L=q at*;rw[ai];simp only[go_sem,Q4,Q5,Qd,Qe,Qf,Qg,Qj,Qk,Ql,Qm,reduceCtorEq,reduceIte,E,I,Z,g,I2,W,C,F,Q,J,hd,tf,vA,vD,b1,b3,b4,e1,y]
   ·rw[if_neg (fun h=>F h.1)]at y
    have tf:eS L.length (isv L)=isv L:=by rw[<-C,dy]
    have vA:(eS (lbI a L) (isv L)).length=lbI a L:=by rw[an,C];omega
    have vD:(iH (lbI a L) (isv L)).length=L.length-lbI a L:=by rw[aE,C]
    have b1:lbI a L*8<=140737488355328:=by omega
    have b3:(lbI a L+1)*8<=140737488355328:=by omega
    have b2:(lbI a L+(1+(L.length-lbI a L)))*8<=140737488355328:=by omega
    have b4:(lbI a L+1+(L.length-lbI a L))*8<=140737488355328:=by omega
    have ei:isv (L.take (lbI a L)++a::L.drop (lbI a L))=(isv L).take (lbI a L)++([.int .i64 a]::(isv L).drop (lbI a L)):=by simp[isv,fN,mF]
    rw[ei]at y;generalize lbI a L=q at*;rw[ai];simp only[go_sem,Q4,Q5,Qd,Qe,Qf,Qg,Qj,Qk,Ql,Qm,reduceCtorEq,reduceIte,E,I,Z,g,I2,W,C,F,Q,tf,vA,vD,b1,b3,b4,e1,y]
  ·rw[if_neg O]at y
   rw[Bool.not_eq_true]at O;rw[O]at g;rw[ai];simp only[go_sem,Qd,Qe,Qf,Qg,Qj,Qk,Ql,Qm,reduceIte,E,I,Z,g,I2,e1,y]
theorem f92(t:Tr)(B:d9)(ms:List Mk)(hn:t.au.length<=1000000000)(E:B.length<=100000000)(C:ms.length<=1000000):call T 92 [.agg t.sv,.agg (cJ B ms)] [] 0=some ⟨.lst 1 (isv (sgL t B ms)) .no,[],[]⟩:=by have h:=l92 t B ms hn E C _ 0 rfl (aY _);have e:rsg (pJ t) (qD ms) (tV t B ms) t.au.length 0=[]:=rfl;rw[<-YW]at h;rw[e]at h;unfold xbm at h;have y:isv []=[]:=rfl;rw[y,az]at h;simp only[Tr.sv,cJ]at h ⊢;rw[aj xyk];simp only[go_sem,Qg,Qj,Qk,Ql,Qm,reduceCtorEq,reduceIte,h]
def eM(i:Nat):d9:=sha [107,ub i]
theorem fc(i:Nat):(eM i).length=32:=iu _
theorem f38(i:Nat):call T 38 [.int .i64 i] [] 0=some ⟨.byt (eM i) .no,[],[]⟩:=by have g:=f68 [107,ub i] (by simp);unfold ub at g;rw[aj xyU];simp only[go_sem,Qj,Qk,Ql,Qm,reduceCtorEq,reduceIte,g,GJ,eM,ub]
theorem f37(y:d9)(I:y.length<=64):call T 37 [.byt y .no,.int .i64 1] [] 0=some ⟨.byt (jv y 1) .no,[],[]⟩:=by
 have C:=xoh y I;rw[xoe]at C;simp only[bys,aI,bO]at C;have E:=xxp (pubL (lsV y 1) 0) (pubL (lsV y 1) 1) (by rw[eN];decide) (by rw[eN];decide);have e:jv y 1=cf 1::jB 0 0 (pubL (lsV y 1) 0) (pubL (lsV y 1) 1):=rfl;have F:(jB 0 0 (pubL (lsV y 1) 0) (pubL (lsV y 1) 1)).length=16:=ej _ _;rw[e];generalize jB 0 0 (pubL (lsV y 1) 0) (pubL (lsV y 1) 1)=J at*;generalize pubL (lsV y 1) 0=A at*;generalize pubL (lsV y 1) 1=B at*;have c1:1+16<=140737488355328:=by decide
 have c2:16+1<=140737488355328:=by decide
 rw[aj xyV];simp+decide only[go_sem,Qg,Qj,Qk,Ql,Qm,reduceCtorEq,reduceIte,C,E,xiA,xzf,F,c1]
def auV(i:Nat):Au:=⟨3+2*(i:Int),jv (eM (3+2*i)) 1⟩
def auL(k:Nat):List Au:=(bC (k+1)).map auV
def trL(k:Nat)(thr:Int):Tr:=⟨auL k,1+iv thr ((k+1:Nat):Int)⟩
theorem HR(ms:List Mk)(m:Mk):jz (ms++ [m])=jz ms++ [m.sv]:=by simp[jz]
theorem f61(B:d9)(ms:List Mk)(a:Int)(y:d9)(h C:Int)(O:ms.length<=1000)(L:y.length<=64)(J:B.length<=100000000)(F:h<0\/3<h\/h=0\/h=1):
 call T 61 [.agg (cJ B ms),.int .i64 a,.byt y .no,.int .i64 h,.int .i64 C] [] 0=some ⟨.agg (cJ B (ms++ [⟨a,sgn y h C B⟩])),[],[]⟩:=by
 have E:=xxZ y h C B L J F;have I:=fy ms;have c1:(ms.length+1)*32<=140737488355328:=by omega
 have c2:ms.length*32<=140737488355328:=by omega
 unfold cJ;rw[HR];simp only[Mk.sv];rw[aj xyJ];simp only[go_sem,Qd,Qe,Qf,Qg,Qj,Qk,Ql,Qm,reduceCtorEq,reduceIte,E,xtp,I,c1,c2]
theorem kw3:af.wrap 3=3:=by decide
theorem kw4:af.wrap 4=4:=by decide
theorem kw5:af.wrap 5=5:=by decide
theorem kw7:af.wrap 7=7:=by decide
theorem mu(a b:Int)(h:1<=b):0<=iv a b/\iv a b<b:=by
 unfold iv;rw[if_neg (by omega)];have y:=Int.tmod_lt_of_pos a (show 0<b by omega)
 have C: -b<a.tmod b:=by have:=Int.tmod_lt_of_pos (-a) (show 0<b by omega);rw[Int.neg_tmod]at this;omega
 split<;>omega
theorem xrO(n thr:Int)(E: -9223372036854775808<=thr)(h1:thr<=9223372036854775807)(hn0: -9223372036854775808<=n)(y:n<=9223372036854775807)(O:iv n 3=0):call T 10 [.int .i64 n,.int .i64 thr] [] 0=some ⟨.agg (trL 0 thr).sv,[],[]⟩:=by
 have gm:=f21 n 3 hn0 y (by decide);rw[O]at gm;have gt:=f21 thr 1 E h1 (by decide);have hb:=mu thr 1 (by decide);have F:af.wrap (1+iv thr 1)=1+iv thr 1:=w64 (by omega) (by omega);have C:=f38 3;have W:=f37 (eM 3) (by rw[fc];decide);have I:=f38 5;have p1:=f37 (eM 5) (by rw[fc];decide);have J:=f38 7;have p2:=f37 (eM 7) (by rw[fc];decide);have L:((3:Nat):Int)=3:=rfl;have Z:((5:Nat):Int)=5:=rfl;have Q:((7:Nat):Int)=7:=rfl;rw[L]at C;rw[Z]at I;rw[Q]at J;have e:(trL 0 thr).sv=[.lst 2 [[.int .i64 3,.byt (jv (eM 3) 1) .no]] .no,.int .i64 (1+iv thr 1)]:=rfl;rw[e];generalize jv (eM 3) 1=P0 at*;generalize jv (eM 5) 1=P1 at*;generalize jv (eM 7) 1=P2 at*;generalize eM 3=S0 at*;generalize eM 5=S1 at*;generalize eM 7=S2 at*;rw[aj xou];simp+decide only[go_sem,Qg,Qj,Qk,Ql,reduceCtorEq,reduceIte];rw[ai];simp+decide only[go_sem,Qa,Qc,Qg,Qi,Qj,Qk,Ql,Qm,reduceCtorEq,reduceIte,gm,Ac,kw0,kw1,kw3,C,W,vf,UV,al,aB,bp,aF];rw[ai];simp+decide only[go_sem,Qg,Qj,Qk,Ql,Qm,reduceCtorEq,reduceIte,gm,Ac,al,aB,bp,aF];simp+decide only[go_sem,Qg,Qj,Ql,Qm,reduceIte,gt,F,al,aB]
 trace_state
theorem xrN(n thr:Int)(F: -9223372036854775808<=thr)(h1:thr<=9223372036854775807)(hn0: -9223372036854775808<=n)(y:n<=9223372036854775807)(Q:iv n 3=1):call T 10 [.int .i64 n,.int .i64 thr] [] 0=some ⟨.agg (trL 1 thr).sv,[],[]⟩:=by
 have gm:=f21 n 3 hn0 y (by decide);rw[Q]at gm;have gt:=f21 thr 2 F h1 (by decide);have hb:=mu thr 2 (by decide);have J:af.wrap (1+iv thr 2)=1+iv thr 2:=w64 (by omega) (by omega);have E:=f38 3;have Z:=f37 (eM 3) (by rw[fc];decide);have C:=f38 5;have I:=f37 (eM 5) (by rw[fc];decide);have L:=f38 7;have p2:=f37 (eM 7) (by rw[fc];decide);have O:((3:Nat):Int)=3:=rfl;have e5:((5:Nat):Int)=5:=rfl;have W:((7:Nat):Int)=7:=rfl;rw[O]at E;rw[e5]at C;rw[W]at L;have e:(trL 1 thr).sv=[.lst 2 [[.int .i64 3,.byt (jv (eM 3) 1) .no],[.int .i64 5,.byt (jv (eM 5) 1) .no]] .no,.int .i64 (1+iv thr 2)]:=rfl;rw[e];generalize jv (eM 3) 1=P0 at*;generalize jv (eM 5) 1=P1 at*;generalize jv (eM 7) 1=P2 at*;generalize eM 3=S0 at*;generalize eM 5=S1 at*;generalize eM 7=S2 at*;rw[aj xou];simp+decide only[go_sem,Qg,Qj,Qk,Ql,reduceCtorEq,reduceIte];rw[ai];simp+decide only[go_sem,Qa,Qc,Qg,Qi,Qj,Qk,Ql,Qm,reduceCtorEq,reduceIte,gm,Ac,kw0,kw1,kw3,E,Z,vf,UV,al,aB,bp,aF];rw[ai];simp+decide only[go_sem,Qa,Qc,Qg,Qi,Qj,Qk,Ql,Qm,reduceCtorEq,reduceIte,gm,Ac,kw2,kw5,C,I,vf,UV,al,aB,bp,aF];rw[ai];simp+decide only[go_sem,Qg,Qj,Qk,Ql,Qm,reduceCtorEq,reduceIte,gm,Ac,al,aB,bp,aF]
 simp+decide only[go_sem,Qg,Qj,Ql,Qm,reduceIte,gt,J,al,aB]
 trace_state
theorem xrM(n thr:Int)(I: -9223372036854775808<=thr)(h1:thr<=9223372036854775807)(hn0: -9223372036854775808<=n)(y:n<=9223372036854775807)(W:iv n 3=2):call T 10 [.int .i64 n,.int .i64 thr] [] 0=some ⟨.agg (trL 2 thr).sv,[],[]⟩:=by
 have gm:=f21 n 3 hn0 y (by decide);rw[W]at gm;have gt:=f21 thr 3 I h1 (by decide);have hb:=mu thr 3 (by decide);have L:af.wrap (1+iv thr 3)=1+iv thr 3:=w64 (by omega) (by omega);have F:=f38 3;have p0:=f37 (eM 3) (by rw[fc];decide);have C:=f38 5;have J:=f37 (eM 5) (by rw[fc];decide);have E:=f38 7;have O:=f37 (eM 7) (by rw[fc];decide);have Q:((3:Nat):Int)=3:=rfl;have e5:((5:Nat):Int)=5:=rfl;have Z:((7:Nat):Int)=7:=rfl;rw[Q]at F;rw[e5]at C;rw[Z]at E;have e:(trL 2 thr).sv=[.lst 2 [[.int .i64 3,.byt (jv (eM 3) 1) .no],[.int .i64 5,.byt (jv (eM 5) 1) .no],[.int .i64 7,.byt (jv (eM 7) 1) .no]] .no,.int .i64 (1+iv thr 3)]:=rfl;rw[e];generalize jv (eM 3) 1=P0 at*;generalize jv (eM 5) 1=P1 at*;generalize jv (eM 7) 1=P2 at*;generalize eM 3=S0 at*;generalize eM 5=S1 at*;generalize eM 7=S2 at*;rw[aj xou];simp+decide only[go_sem,Qg,Qj,Qk,Ql,reduceCtorEq,reduceIte];rw[ai];simp+decide only[go_sem,Qa,Qc,Qg,Qi,Qj,Qk,Ql,Qm,reduceCtorEq,reduceIte,gm,Ac,kw0,kw1,kw3,F,p0,vf,UV,al,aB,bp,aF];rw[ai];simp+decide only[go_sem,Qa,Qc,Qg,Qi,Qj,Qk,Ql,Qm,reduceCtorEq,reduceIte,gm,Ac,kw2,kw5,C,J,vf,UV,al,aB,bp,aF];rw[ai];simp+decide only[go_sem,Qa,Qc,Qg,Qi,Qj,Qk,Ql,Qm,reduceCtorEq,reduceIte,gm,Ac,kw3,kw4,kw7,E,O,vf,UV,al,aB,bp,aF]
 rw[ai];simp+decide only[go_sem,Qg,Qj,Qk,Ql,Qm,reduceCtorEq,reduceIte,gm,Ac,al,aB,bp,aF];simp+decide only[go_sem,Qg,Qj,Ql,Qm,reduceIte,gt,L,al,aB]
 trace_state
theorem Gy(k:Nat):(auL k).length=k+1:=by simp[auL]
theorem xaX(i:Nat):(auV i).key.length=17:=by
 show(jv _ 1).length=17;have e:∀s,jv s 1=cf 1::jB 0 0 (pubL (lsV s 1) 0) (pubL (lsV s 1) 1):=fun _=>rfl
 rw[e,al];have:(jB 0 0 (pubL (lsV (eM (3+2*i)) 1) 0) (pubL (lsV (eM (3+2*i)) 1) 1)).length=16:=ej _ _;omega
theorem oB(k i:Nat)(h:i<=k):(auL k).getD i au0=auV i:=by simp only[auL,aa,aU];rw[cC (by omega)];rfl
theorem xr2(k i:Nat)(h:i<=k)(E:k<=2):auE (auL k) i=0:=by
 unfold auE;rw[oB k i h];have C:=xaX i
 by_cases y:i=0
 ·subst y
  rw[if_neg (by show ¬(3+2*((0:Nat):Int))<1;omega),if_neg (by show ¬1000<(3+2*((0:Nat):Int));omega),if_pos (by omega),if_pos rfl]
 ·rw[oB k (i-1) (by omega)]
  rw[if_neg (by show ¬(3+2*(i:Int))<1;omega),if_neg (by show ¬1000<(3+2*(i:Int));omega),if_pos (by omega),if_neg y,if_neg (by show ¬(3+2*(i:Int))<=(3+2*((i-1:Nat):Int));omega)]
theorem UO(k:Nat)(y:k<=2):∀n i,i+n<=k+1->mT (auL k) n i=0
 |0,_,_=>rfl
 |n+1,i,h=>by show(if auE (auL k) i=0 then mT (auL k) n (i+1)else auE (auL k) i)=0;rw[if_pos (xr2 k i (by omega) y)];exact UO k y n (i+1) (by omega)
theorem Ai(k:Nat)(y:k<=2)(thr:Int):trE (trL k thr)=0:=by have E:=mu thr ((k+1:Nat):Int) (by omega);have C:=Gy k;unfold trE;show(if(4:Int)<(auL k).length then(4:Int)else if mT (auL k) (auL k).length 0=0 then(if 1+iv thr ((k+1:Nat):Int)<1 then 1 else if((auL k).length:Int)<1+iv thr ((k+1:Nat):Int)then 1 else 0)else mT (auL k) (auL k).length 0)=0;rw[C,if_neg (by omega),if_pos (UO k y (k+1) 0 (by omega)),if_neg (by omega),if_neg (by omega)]
theorem f10(n thr:Int)(C: -9223372036854775808<=thr)(E:thr<=9223372036854775807)(hn0: -9223372036854775808<=n)(y:n<=9223372036854775807):∃k:Nat,k<=2/\(k:Int)=iv n 3/\call T 10 [.int .i64 n,.int .i64 thr] [] 0=some ⟨.agg (trL k thr).sv,[],[]⟩:=by
 have F:=mu n 3 (by decide);rcases (by omega:iv n 3=0\/iv n 3=1\/iv n 3=2)with h|h|h
 ·exact⟨0,by decide,h.symm,xrO n thr C E hn0 y h⟩
 ·exact⟨1,by decide,h.symm,xrN n thr C E hn0 y h⟩
 ·exact⟨2,by decide,h.symm,xrM n thr C E hn0 y h⟩
end Go.Proofs.YtbfnljmmepcbfaaGreatDoor
