/- Contracts. No condition. -/
import Derived.Test.YtmhhnklkcmpdkaaGreatDoorTnPA
import Derived.Test.YtmhhnklkcmpdkaaGreatDoorToPA
open Int renaming toNat_natCast -> fX
open List renaming all_eq_true -> aI, append_assoc -> ay, cons -> bp, cons_append -> br, getD_eq_getElem?_getD -> aa, getElem?_eq_getElem -> ab, getElem_mem -> aU, getElem_of_mem -> bH, length_append -> ac, length_cons -> ah, length_take -> av, map_cons -> aG, mem_cons -> al, mem_singleton -> bX, take_length -> ba
open Nat renaming le_refl -> bc, mul_le_mul_right -> bw
set_option maxRecDepth 100000
set_option maxHeartbeats 16000000
set_option linter.unusedSimpArgs false
set_option linter.unusedVariables false
namespace Go.Proofs.YtmhhnklkcmpdkaaGreatDoor
open Go.Sy
open UInt8 renaming reduceLT -> Q0, reduceLE -> Q1
open Int renaming reduceToNat -> Q2, reduceLE -> Q3, reduceLT -> Q4, reduceEq -> Q5, reduceNe -> Q6, reduceNeg -> Q7, reduceAdd -> Q8, reduceSub -> Q9, reduceMul -> Qa
open Nat renaming reducePow -> Qb, reduceDiv -> Qc, reduceMod -> Qd, reduceAdd -> Qe, reduceSub -> Qf, reduceMul -> Qg, reduceLT -> Qh, reduceLeDiff -> Qi, reduceEqDiff -> Qj, reduceBEq -> Qk
section
theorem ww:∀(a b:List Stp),fi bK (a++b)=fi bK a++fi bK b
 |[],b=>rfl
 |x::a,b=>by rw[br,fi,fi,ww a b,ay];rfl
theorem DB(l:List Stp)(i:Nat)(h:i<l.length):fi bK (l.take (i+1))=fi bK (l.take i)++(ln bK (l.getD i st0)++ [10]):=by rw[List.take_add_one,ab h,ww,aa,ab h];rfl
section
open Go.RowKit Go.ChangeShapes Go.WideShapes
variable {x : Sit} {w w' : World}
theorem wo{G y:GM}(z:∀b o v,G b o=some v->y b o=some v)(h:Lay G):Lay y:=fun g cs H j C=>by obtain⟨v,E,F⟩:=h g cs H j C;exact⟨v,z _ _ _ E,F.mono z⟩
theorem xem(y:∀b o v,x.G b o=some v->w.cell? ⟨b,o,none⟩=some v)(C:Below w.heap.size w w'):∀b o v,x.G b o=some v->(kH w').G b o=some v:=fun b o v h=>by have z:=y b o v h;show w'.cell? ⟨b,o,none⟩=some v;rw[C.cell (p:=⟨b,o,none⟩) (mc z)];exact z
theorem YS{G:GM}{k:IntKind}{n:Int}{v:Value}(h:cy G (.int k n) v):v= .int k n:=by cases h;rfl
def slA:Value->Option Addr
 | .slice a _ _=>a
 |_=>none
def slN:Value->Nat
 | .slice _ n _=>n
 |_=>0
def slC:Value->Nat
 | .slice _ _ c=>c
 |_=>0
theorem DP{G:GM}{l:d9}{t:Tok}{v:Value}(h:cy G (.byt l t) v):v= .slice (slA v) (slN v) (slC v):=by
 cases h<;>rfl
theorem su{G:GM}{y:Nat}{l:d8}{t:Tok}{v:Value}(h:cy G (.lst y l t) v):v= .slice (slA v) (slN v) (slC v):=by
 cases h<;>rfl
theorem QL{s:Stp}{v:Nat->Value}(h:∀j,j<7->cy x.G (s.sv.getD j .undef) (v j)):cn x [.agg s.sv] [.agg #[v 0,v 1,v 2,v 3,v 4,v 5,v 6]]:=by
 refine⟨rfl,fun i hi=> ?_⟩
 match i,hi with
 |0,_=>
  refine .agg s.sv [v 0,v 1,v 2,v 3,v 4,v 5,v 6] rfl fun j y=> ?_
  match j,y with
  |0,_=>exact .dat _ _ (h 0 (by decide)) trivial
  |1,_=>exact .dat _ _ (h 1 (by decide)) trivial
  |2,_=>exact .dat _ _ (h 2 (by decide)) trivial
  |3,_=>exact .dat _ _ (h 3 (by decide)) trivial
  |4,_=>exact .dat _ _ (h 4 (by decide)) trivial
  |5,_=>exact .dat _ _ (h 5 (by decide)) trivial
  |6,_=>exact .dat _ _ (h 6 (by decide)) trivial
theorem xbv{l:List Stp}(hl:l.length<=1000000):gk Tryz.prog 10 [.lst 7 (dO l) .no] [] 0 (· =⟨.str (if l.all wrB=true then fi bK l else []),[],[]⟩):=by
 refine jW (by kernel_rfl) fun x w vs O C hL=> ?_
 obtain⟨u,rfl,h1⟩:=Pr.repL1 O
 have J:l.all wrB=true↔∀i,i<l.length->wrB (l.getD i st0)=true:=by
  rw[aI];constructor
  ·intro h i hi
   rw[aa,ab hi];exact h _ (aU hi)
  ·intro h y W
   obtain⟨i,hi,rfl⟩:=bH W;have:=h i hi;rwa[aa,ab hi]at this
 rcases Pr.lst_inv (h1.data rfl)with he|⟨b,off,cap,val,rfl,hcap,Q,hd⟩
 ·have h0:l=[]:=List.eq_nil_of_length_eq_zero (by rw[<-co,he];rfl)
  subst h0
  have hs:∃A c,u= .slice A 0 c:=by
   have H:=h1.data rfl;cases H with
   |lstN=>exact⟨none,0,rfl⟩
   |lstE _ _ a=>exact⟨some a,0,rfl⟩
   |lst _ _ _ b off cap n val hn hc hl Q h2=>subst hn;exact⟨_,_,rfl⟩
  obtain⟨A,c,rfl⟩:=hs;refine(Pr.w10_0 w A c).mono ?_;rintro e w' ⟨rfl,Z⟩;exact⟨_,rfl,.dat _ _ (.str []) trivial,Z⟩
 rw[co]at Q hd ⊢;have Z:0<l.length->b<w.heap.size:=fun h=>mc (C _ _ _ (Q 0 0 h (by decide)))
 have H:∀i j,i<l.length->j<7->cy x.G ((l.getD i st0).sv.getD j .undef) (val i j):=fun i j hi L=>by have:=hd i j hi L;rwa[mN l i hi]at this
 have e0:∀i,i<l.length->val i 0= .int .i64 (l.getD i st0).kind:=fun i hi=>YS (H i 0 hi (by decide))
 have e1:∀i,i<l.length->val i 1= .int .i64 (l.getD i st0).mach:=fun i hi=>YS (H i 1 hi (by decide))
 have e2:∀i,i<l.length->val i 2= .int .i64 (l.getD i st0).n:=fun i hi=>YS (H i 2 hi (by decide))
 have e3:∀i,i<l.length->val i 3= .int .i64 (l.getD i st0).torn:=fun i hi=>YS (H i 3 hi (by decide))
 have e4:∀i,i<l.length->val i 4= .slice (slA (val i 4)) (slN (val i 4)) (slC (val i 4)):=fun i hi=>DP (H i 4 hi (by decide))
 have e5:∀i,i<l.length->val i 5= .slice (slA (val i 5)) (slN (val i 5)) (slC (val i 5)):=fun i hi=>su (H i 5 hi (by decide))
 have e6:∀i,i<l.length->val i 6= .slice (slA (val i 6)) (slN (val i 6)) (slC (val i 6)):=fun i hi=>su (H i 6 hi (by decide))
 have z:∀i j,i<l.length->j<7->w.cell? ⟨b,off+i*7+j,none⟩=some (val i j):=fun i j hi L=>C _ _ _ (Q i j hi L)
 have I:∀i wr,i<l.length->Below w.heap.size w wr->cn (kH wr) [.agg (l.getD i st0).sv] [.agg #[.int .i64 (l.getD i st0).kind,.int .i64 (l.getD i st0).mach,.int .i64 (l.getD i st0).n,.int .i64 (l.getD i st0).torn,.slice (slA (val i 4)) (slN (val i 4)) (slC (val i 4)),.slice (slA (val i 5)) (slN (val i 5)) (slC (val i 5)),.slice (slA (val i 6)) (slN (val i 6)) (slC (val i 6))]]:=fun i wr hi E=>by
  have:=QL (x:=kH wr) (s:=l.getD i st0) (v:=val i) fun j L=>(H i j hi L).mono (xem C E)
  rw[e0 i hi,e1 i hi,e2 i hi,e3 i hi,e4 i hi,e5 i hi,e6 i hi]at this;exact this
 have hw:=Pr.w10 w l.length b off cap (fun i=>(l.getD i st0).kind) (fun i=>(l.getD i st0).mach) (fun i=>(l.getD i st0).n) (fun i=>(l.getD i st0).torn)
  (fun i=>slA (val i 4)) (fun i=>slA (val i 5)) (fun i=>slA (val i 6)) (fun i=>slN (val i 4)) (fun i=>slN (val i 5)) (fun i=>slN (val i 6)) (fun i=>slC (val i 4)) (fun i=>slC (val i 5)) (fun i=>slC (val i 6))
  (fun i=>wrB (l.getD i st0)) (fun i=>ln bK (l.getD i st0)) (fun i=>fi bK (l.take i)) (if l.all wrB=true then fi bK l else [])
  Z (fun i hi=>by have:=z i 0 hi (by decide);rwa[e0 i hi]at this) (fun i hi=>by have:=z i 1 hi (by decide);rwa[e1 i hi]at this)
  (fun i hi=>by have:=z i 2 hi (by decide);rwa[e2 i hi]at this) (fun i hi=>by have:=z i 3 hi (by decide);rwa[e3 i hi]at this)
  (fun i hi=>by have:=z i 4 hi (by decide);rwa[e4 i hi]at this) (fun i hi=>by have:=z i 5 hi (by decide);rwa[e5 i hi]at this) (fun i hi=>by have:=z i 6 hi (by decide);rwa[e6 i hi]at this)
  hl rfl (fun i hi=>DB l i hi) (fun h=>by rw[if_pos (J.2 h),ba]) (fun i hi h=>by rw[if_neg (fun h'=>by have:=J.1 h' i hi;rw[h]at this;cases this)])
  (fun i hi hw=>mZ ((bM _).1 hw))
  (fun i hi hk=>by
   have:=tS (l.take i) (fun y W=>by obtain⟨k,T,rfl⟩:=bH W;rw[av]at T;have:=hk k (by omega);rw[List.getElem_take];rwa[aa,ab (by omega)]at this)
   have h2:(l.take i).length<=1000000:=by rw[av];omega
   have h3:=bw 90001 h2;omega)
  (fun i wr hi E=>by refine(wK yu (f33 (l.getD i st0)) (I i wr hi E) (wo (xem C E) hL)).mono ?_;rintro e w' ⟨v,x',rfl,O,F⟩;rw[O.bool_inv];exact⟨rfl,F⟩)
  (fun i wr hi a1 E=>by refine(wK yu (f35 ((bM _).1 a1)) (I i wr hi E) (wo (xem C E) hL)).mono ?_;rintro e w' ⟨v,x',rfl,O,F⟩;rw[O.str_inv];exact⟨rfl,F⟩)
 refine hw.mono ?_;rintro e w' ⟨rfl,F⟩;exact⟨_,rfl,.dat _ _ (.str _) trivial,F⟩
def YY:t6:=[.int .i64 0,.lst 2 [] .no,.int .i64 0,.lst 7 [] .no,.lst 2 [] .no,.byt [] .no,.int .i64 0,.lst 3 [] .no,.lst 3 [] .no,.lst 3 [] .no,.lst 11 [] .no,.lst 4 [] .no,.lst 40 [] .no,.lst 9 [] .no]
def QN:d9:=[99,108,111,99,107,32,48,10]
theorem wg{y:Nat}{v:Value}(h:Rep x (.lst y [] .no) v):∃A c,v= .slice A 0 c:=by
 cases h.data rfl with
 |lstN=>exact⟨none,0,rfl⟩
 |lstE _ _ a=>exact⟨some a,0,rfl⟩
 |lst _ _ _ b off cap n val hn F C z E=>subst hn;exact⟨_,_,rfl⟩
theorem xnr{v:Value}(h:Rep x (.byt [] .no) v):∃A c,v= .slice A 0 c:=by
 cases h.data rfl with
 |bytN=>exact⟨none,0,rfl⟩
 |bytE _ a=>exact⟨some a,0,rfl⟩
 |byt _ _ b off cap n hn z y=>subst hn;exact⟨_,_,rfl⟩
theorem xbu:gk Tryz.prog 24 [.agg YY] [] 0 (· =⟨.str QN,[],[]⟩):=by
 refine jW (by kernel_rfl) fun x w vs I y hL=> ?_
 obtain⟨u,rfl,L⟩:=Pr.repL1 I;obtain⟨us,rfl,hl,h⟩:=L.agg_inv
 match us,hl,h with
 |[q0,q1,q2,q3,q4,q5,q6,q7,q8,q9,q10,q11,q12,q13],_,h=>have Q:Rep x (.int .i64 0) q0:=h 0 (by decide);obtain⟨J,c1,rfl⟩:=wg (show Rep x (.lst 2 [] .no) q1 from h 1 (by decide));have E:Rep x (.int .i64 0) q2:=h 2 (by decide);obtain⟨a3,c3,rfl⟩:=wg (show Rep x (.lst 7 [] .no) q3 from h 3 (by decide));obtain⟨a4,c4,rfl⟩:=wg (show Rep x (.lst 2 [] .no) q4 from h 4 (by decide));obtain⟨a5,c5,rfl⟩:=xnr (show Rep x (.byt [] .no) q5 from h 5 (by decide));have H:Rep x (.int .i64 0) q6:=h 6 (by decide);obtain⟨z,W,rfl⟩:=wg (show Rep x (.lst 3 [] .no) q7 from h 7 (by decide));obtain⟨C,c8,rfl⟩:=wg (show Rep x (.lst 3 [] .no) q8 from h 8 (by decide));obtain⟨a9,c9,rfl⟩:=wg (show Rep x (.lst 3 [] .no) q9 from h 9 (by decide));obtain⟨b0,d0,rfl⟩:=wg (show Rep x (.lst 11 [] .no) q10 from h 10 (by decide));obtain⟨O,d1,rfl⟩:=wg (show Rep x (.lst 4 [] .no) q11 from h 11 (by decide));obtain⟨F,d2,rfl⟩:=wg (show Rep x (.lst 40 [] .no) q12 from h 12 (by decide));obtain⟨Z,d3,rfl⟩:=wg (show Rep x (.lst 9 [] .no) q13 from h 13 (by decide));rw[Q.int_inv,E.int_inv,H.int_inv];refine(Pr.w24 w 0 0 J a3 a4 a5 z C a9 b0 O F Z c1 c3 c4 c5 W c8 c9 d0 d1 d2 d3).mono ?_;rintro e w' ⟨rfl,T⟩;exact⟨_,rfl,.dat _ _ (.str QN) trivial,T⟩
end
theorem Img.sv_inj{a b:Img}(h:a.sv=b.sv):a=b:=by obtain⟨d,k,e,f⟩:=a;obtain⟨d2,k2,y,z⟩:=b;simp[Img.sv]at h;obtain⟨rfl,rfl,rfl,rfl⟩:=h;rfl
theorem Mk.sv_inj{a b:Mk}(h:a.sv=b.sv):a=b:=by obtain⟨d,k⟩:=a;obtain⟨d2,k2⟩:=b;simp[Mk.sv]at h;obtain⟨rfl,rfl⟩:=h;rfl
theorem pN{α β:Type}{f:α->β}(y:∀a b,f a=f b->a=b):∀{l m:List α},l.map f=m.map f->l=m
 |[],[],_=>rfl
 |[],_::_,h=>by simp at h
 |_::_,[],h=>by simp at h
 |a::l,b::m,h=>by simp only[aG,bp.injEq]at h;rw[y a b h.1,pN y h.2]
theorem Stp.sv_inj{a b:Stp}(h:a.sv=b.sv):a=b:=by obtain⟨k,m,n,t,B,M,C⟩:=a;obtain⟨k2,I,E,t2,J,H,F⟩:=b;simp only[Stp.sv,bp.injEq,SV.lst.injEq,SV.byt.injEq,SV.int.injEq,true_and,and_true]at h;obtain⟨rfl,rfl,rfl,rfl,rfl,y,z⟩:=h;rw[pN (fun _ _=>Mk.sv_inj) y,pN (fun _ _=>Img.sv_inj) z]
def fmP(h:t6)(l:List Stp):Prop:=h=[.lst 7 (dO l) .no]/\l.length<=1000000
open Classical in
noncomputable def p10(y:t6)(os:List aB)(k:Nat):Option eg:=
 if h:(∃l,fmP y l)/\os=[]/\k=0 then some ⟨.str (if(Classical.choose h.1).all wrB=true then fi bK (Classical.choose h.1)else []),[],[]⟩else none
theorem xch{l:List Stp}(y:l.length<=1000000):p10 [.lst 7 (dO l) .no] [] 0=some ⟨.str (if l.all wrB=true then fi bK l else []),[],[]⟩:=by have h:∃q,fmP [.lst 7 (dO l) .no] q:=⟨l,rfl,y⟩;unfold p10;rw[dif_pos ⟨h,rfl,rfl⟩];have e:=(Classical.choose_spec h).1;simp only[bp.injEq,SV.lst.injEq,true_and,and_true]at e;rw[<-pN (fun _ _=>Stp.sv_inj) e]
theorem xcg:∀y os k q,p10 y os k=some q->gk Tryz.prog 10 y os k (· =q):=by
 intro y os k q h;unfold p10 at h;split at h
 ·rename_i C
  have F:=Classical.choose_spec C.1;obtain⟨_,rfl,rfl⟩:=C;generalize Classical.choose _=z at*;obtain⟨rfl,E⟩:=F;cases h;exact xbv E
 ·cases h
open Classical in
noncomputable def p24(h:t6)(os:List aB)(k:Nat):Option eg:=if h=[.agg YY]/\os=[]/\k=0 then some ⟨.str QN,[],[]⟩else none
theorem xcf:∀y os k q,p24 y os k=some q->gk Tryz.prog 24 y os k (· =q):=by
 intro y os k q h;unfold p24 at h;split at h
 ·rename_i z
  obtain⟨rfl,rfl,rfl⟩:=z;cases h;exact xbu
 ·cases h
noncomputable def U1:gR:=T.addP 10 p10
theorem wQ:yh T U1:=vG T p10 rfl
theorem xfd:ni Tryz.prog U1:=Cz yu xcg
noncomputable def U:gR:=U1.addP 24 p24
theorem uD:yh U1 U:=vG U1 p24 rfl
theorem xel:ni Tryz.prog U:=Cz xfd xcf
theorem up{g:Nat}{a:t6}{os:List aB}{k:Nat}{q:eg}(h:call T g a os k=some q):call U g a os k=some q:=wL uD (wL wQ h)
theorem US(k:Nat):U.sg k=T.sg k:=rfl
theorem f10{l:List Stp}(h:l.length<=1000000):call U 10 [.lst 7 (dO l) .no] [] 0=some ⟨.str (if l.all wrB=true then fi bK l else []),[],[]⟩:=by have e:U.fn 10=some (.prim p10):=uD.fn 10 _ (uA T 10 p10);rw[eY e];exact xch h
theorem f24:call U 24 [.agg YY] [] 0=some ⟨.str QN,[],[]⟩:=by have e:U.fn 24=some (.prim p24):=uA U1 24 p24;rw[eY e];unfold p24;rw[if_pos ⟨rfl,rfl,rfl⟩]
theorem U_3:U.fn 3=some (.code F3):=uD.fn 3 _ (wQ.fn 3 _ T_3)
theorem U_4:U.fn 4=some (.code F4):=uD.fn 4 _ (wQ.fn 4 _ T_4)
theorem U_5:U.fn 5=some (.code F5):=uD.fn 5 _ (wQ.fn 5 _ T_5)
theorem U_7:U.fn 7=some (.code F7):=uD.fn 7 _ (wQ.fn 7 _ T_7)
theorem xbp(c:CSt):run U rD c=run U Ej c:=rfl
theorem xbo(c:CSt):run U pA c=run U Ei c:=rfl
attribute [go_sem] xbp xbo
theorem Od:T.sg 10= {}:=rfl
theorem xoh:T.sg 24= {}:=rfl
end
theorem smW{x:Stp}(h:Wrt okC x):PA x:=by
 refine⟨by have:=h.b8;omega,by have:=h.m4;omega,fun y C=>by have:=(h.mks y C).2;omega, ?_, ?_⟩
 ·by_cases z:x.kind=9
  ·obtain⟨F,l8,E⟩:=mJ (h.ch z);omega
  ·rw[h.c0 z];simp
 ·intro y C
  by_cases z:x.kind=9
  ·obtain⟨F,l8,E⟩:=mJ (h.ch z)
   obtain⟨i,hi,rfl⟩:=bH C;have:=E i hi;rw[aa,ab hi]at this;have:=(nJ (show eW (x.chain[i])=0 from this)).2.2.2.2.2;omega
  ·rw[h.c0 z]at C;cases C
theorem tT:∀l:List Stp,l.length<=(fi bK l).length
 |[]=>bc _
 |x::r=>by have:=tT r;rw[fi,ac,ah,ah];omega
def stA:Stp:=⟨2,1,3,0,[],[],[]⟩
def stB:Stp:=⟨7,0,5,0,[],[],[]⟩
def txA:d9:=[99,117,116,32,49,32,51,32,48,10,116,105,99,107,32,53,10]
theorem nm1(n:Nat)(h:n<10):nmW (n:Int)=[dgC n]:=by unfold nmW;rw[fX,kA h]
theorem GL:fi bK [stA,stB]=txA:=by
 have n0:nmW 0=[48]:=nm1 0 (by decide);have n1:nmW 1=[49]:=nm1 1 (by decide);have y:nmW 3=[51]:=nm1 3 (by decide);have h:nmW 5=[53]:=nm1 5 (by decide)
 have z:ln bK stA=[99,117,116,32,49,32,51,32,48]:=by show fx (bZ 2::[nmW 1,nmW 3,nmW 0])=_;rw[n0,n1,y];decide
 have C:ln bK stB=[116,105,99,107,32,53]:=by show fx (bZ 7::[nmW 5])=_;rw[h];decide
 rw[fi,fi,fi,z,C];rfl
theorem NI(n:Nat)(h:n<=1000):jc (n:Int):=⟨by omega,by omega⟩
theorem wrA:Wrt okC stA where
 k1:=by decide
 k12:=by decide
 fm:=NI 1 (by decide)
 fn:=NI 3 (by decide)
 ft:=NI 0 (by decide)
 m0:=by decide
 n0:=by decide
 t0:=by decide
 b0:=fun _=>⟨rfl,rfl⟩
 c0:=fun _=>rfl
 b8:=by decide
 m4:=by decide
 mks:=fun m y=>by cases y
 ch:=fun h=>absurd h (by decide)
theorem xlk:Wrt okC stB where
 k1:=by decide
 k12:=by decide
 fm:=NI 0 (by decide)
 fn:=NI 5 (by decide)
 ft:=NI 0 (by decide)
 m0:=by decide
 n0:=by decide
 t0:=by decide
 b0:=fun _=>⟨rfl,rfl⟩
 c0:=fun _=>rfl
 b8:=by decide
 m4:=by decide
 mks:=fun m y=>by cases y
 ch:=fun h=>absurd h (by decide)
theorem xek:∀x∈ [stA,stB],Wrt okC x:=fun x h=>by
 rcases al.1 h with rfl|h
 ·exact wrA
 ·rw[bX.1 h];exact xlk
theorem vc{l:List Stp}(h:∀x∈l,Wrt okC x):l.all wrB=true:=aI.2 fun x y=>(bM x).2 (h x y)
theorem YG{l:List Stp}(h:∀x∈l,Wrt okC x):prT okC bK (fi bK l).length (fi bK l)=(l,true):=BY hdD l _ h (bc _)
theorem YM{l:List Stp}(h:∀x∈l,Wrt okC x):(fi bK l).length<=l.length*90001:=tS l fun x y=>(bM x).2 (h x y)
theorem FA{t:d9}(h:(prT okC bK t.length t).2=true):fi bK (prT okC bK t.length t).1=t/\∀x∈(prT okC bK t.length t).1,Wrt okC x:=
 No t.length t _ (bc _) (by rw[<-h])
theorem f7:call U 7 [] [] 0=some ⟨.bool true,[],[]⟩:=by have h:=up (f12 xey txA (by decide));have E:=YG xek;rw[GL]at E;rw[E]at h;simp only[if_true]at h;have y:=f10 (l:=[stA,stB]) (by decide);rw[vc xek,if_pos rfl,GL]at y;have z:=up (f13 [stA,stB] (by decide) (fun x J=>smW (xek x J)));have C:=f24;have hv:dO [stA,stB]=[stA.sv,stB.sv]:=rfl;have H:stA.sv=[.int .i64 2,.int .i64 1,.int .i64 3,.int .i64 0,.byt [] .no,.lst 2 [] .no,.lst 4 [] .no]:=rfl;have F:stB.sv=[.int .i64 7,.int .i64 0,.int .i64 5,.int .i64 0,.byt [] .no,.lst 2 [] .no,.lst 4 [] .no]:=rfl;have I:((([stA,stB]:List Stp).length:Nat):Int)=2:=rfl;rw[hv,H,F]at y h z;rw[I]at h;unfold txA at y h;unfold YY QN at C;rw[am U_7];simp only[go_sem,Q0,Q1,Q2,Q3,Q4,Q5,Q6,Q7,Q8,Q9,Qa,Qb,Qc,Qd,Qe,Qf,Qg,Qh,Qi,Qj,Qk,reduceCtorEq,reduceIte,US,h,EF,y,Od,z,EE,C,xoh]
end Go.Proofs.YtmhhnklkcmpdkaaGreatDoor
