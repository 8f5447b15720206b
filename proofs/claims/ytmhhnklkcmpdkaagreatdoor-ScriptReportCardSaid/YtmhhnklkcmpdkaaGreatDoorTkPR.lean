/- Contracts. No condition. -/
import Derived.Test.YtmhhnklkcmpdkaaGreatDoorTiPR
import Derived.Test.YtmhhnklkcmpdkaaGreatDoorTjPR
open Bool renaming eq_iff_iff -> fm
open Int renaming cast_ofNat_Int -> aN, natCast_zero -> ak, reduceEq -> ul, tmod_eq_emod_of_nonneg -> fN
open Go.IntKind renaming bits -> ll, i64 -> ah, signed -> iW, u64 -> az, wrap -> ou
open List renaming append_assoc -> aI, append_nil -> bO, cons_append -> aL, flatMap_cons -> cA, flatMap_nil -> ji, foldl_cons -> kf, getD_eq_getElem?_getD -> aa, getElem_mem -> aF, getElem_of_mem -> cr, length_append -> af, length_cons -> ai, length_drop -> aQ, length_map -> av, length_nil -> al, length_set -> bM, length_singleton -> aT, length_take -> aw, map_cons -> ax, map_drop -> nz, map_nil -> aK, map_take -> gw, mem_append -> am, mem_cons -> aq, mem_cons_of_mem -> an, mem_cons_self -> aD, mem_filter -> dY, mem_map -> aS, mem_of_mem_drop -> ny, mem_of_mem_take -> cg, mem_singleton -> bC, nil_append -> aA, not_mem_nil -> cY, take -> dq, take_length -> cG, take_of_length_le -> bp
open Nat renaming add_mul -> bW, le_of_ble_eq_true -> cP, le_refl -> aM, le_succ -> fO, le_trans -> fi, reduceAdd -> bt, reduceBEq -> aW, reduceDiv -> fM, reduceEqDiff -> aJ, reduceLT -> aX, reduceLeDiff -> bK, reduceMod -> fL, reduceMul -> eU, reducePow -> fK, zero_le -> aC
open UInt8 renaming ofNat -> eL
set_option maxRecDepth 100000
set_option maxHeartbeats 16000000
set_option linter.unusedSimpArgs false
set_option linter.unusedVariables false
noncomputable section
namespace Go.Proofs.YtmhhnklkcmpdkaaGreatDoor
open Go.Sy

def zEv:aG:= .rc [iV 0,.byt [] .clip,.byt [] .clip,.byt [] .clip]
def re(m key k:Int):List (Nat×SV):=[(2,iV m),(8,.ptr 108 0),(9,.ptr 19100 0),(10,iV key),(11,.ptr 111 0),(12,.ptr 112 0),(13,iV k)]
def qm(C s0:Int)(y:List Ev)(B:t8)(j:Nat)(q z:LAa):List (Nat×aG):=[(105,.rc (bL C s0 y)),(108,zEv),(111,.rc q),(112,.rc z),(19100,.rc [bN B,iV j])]
structure W59(q:Qt)(f:Int)(l:List Ev)(n:Nat):Prop where
 q:QtD q
 f:ir f
 n:l.length<=n
theorem xfM(B:t8)(J:B.length<=1000)(f0 s0:Int)(e0:List Ev)(m:Int)(j:Nat)(key k:Nat)(hk:k<=5)(q:Qt)(f s:Int)(l:List Ev)(n:Nat)(hn:n<=900)(z:W59 q f l n):
 ∃(j' Q:Nat)(q':Qt)(f' s':Int)(l':List Ev),W59 q' f' l' (n+1)/\run U (.loop qW) ⟨re m key (k+1:Nat),qm f0 s0 e0 B j q.sv (bL f s l),[]⟩=run U (.loop qW) ⟨re m Q k,qm f0 s0 e0 B j' q'.sv (bL f' s' l'),[]⟩:=by
 obtain⟨v,K,hv,g1⟩:=nxe B J 9 9 rfl (by decide) j;have k1:(0:Int)<((k+1:Nat):Int):=by omega
 have k2:ah.wrap (((k+1:Nat):Int)-1)=(k:Int):=by rw[w64];omega
 have Z:=cW l;have C:∀x y,W59 q x y n->W59 q x y (n+1):=fun x y h=>⟨h.q,h.f,by have:=h.n;omega⟩
 match v,hv with
 |0,_=>obtain⟨w,I,H,F⟩:=nxe B J 5 5 rfl (by decide) K;have g3:=f31 [ub w];have hl:=pO [ub w];refine⟨I,key,{q with no:=oB [ub w]},f,s,l,⟨⟨z.q.nm,by show(oB _).length<=1000;omega,z.q.dg⟩,z.f,by have:=z.n;omega⟩, ?_⟩;clear z C;unfold ub at*;unfold re qm zEv Qt.sv bL at*;rw[ab (T:=U) (c:=⟨[(2,iV m),(8,.ptr 108 0),(9,.ptr 19100 0),(10,iV key),(11,.ptr 111 0),(12,.ptr 112 0),(13,iV (k+1:Nat))],_,_⟩)];simp only[go_sem,simprocAttr,k1,k2,g1,up 15,F,g3,up 31]
 |1,_=>obtain⟨w,I,H,F⟩:=nxe B J 3 3 rfl (by decide) K;refine⟨I,key,{q with c1:=ah.wrap (q.c1+ah.wrap (1+(w:Int)))},f,s,l,⟨⟨z.q.nm,z.q.no,z.q.dg⟩,z.f,by have:=z.n;omega⟩, ?_⟩;clear z C;unfold re qm zEv Qt.sv bL at*;rw[ab (T:=U) (c:=⟨[(2,iV m),(8,.ptr 108 0),(9,.ptr 19100 0),(10,iV key),(11,.ptr 111 0),(12,.ptr 112 0),(13,iV (k+1:Nat))],_,_⟩)];simp only[go_sem,simprocAttr,k1,k2,g1,up 15,F]
 |2,_=>obtain⟨w,I,H,F⟩:=nxe B J 3 3 rfl (by decide) K;refine⟨I,key,{q with c2:=(w:Int)},f,s,l,⟨⟨z.q.nm,z.q.no,z.q.dg⟩,z.f,by have:=z.n;omega⟩, ?_⟩;clear z C;unfold re qm zEv Qt.sv bL at*;rw[ab (T:=U) (c:=⟨[(2,iV m),(8,.ptr 108 0),(9,.ptr 19100 0),(10,iV key),(11,.ptr 111 0),(12,.ptr 112 0),(13,iV (k+1:Nat))],_,_⟩)];simp only[go_sem,simprocAttr,k1,k2,g1,up 15,F]
 |3,_=>
  obtain⟨w,I,H,F⟩:=nxe B J 2 2 rfl (by decide) K;obtain⟨x,j3,hx,g3⟩:=nxe B J 13 13 rfl (by decide) I;have a1:az.wrap (x:Int)=(x:Int):=by rw[ou];simp[iW,ll];omega
  have a6:(0:Int)<=(x:Int):=by omega
  match w,H with
  |0,_=>refine⟨j3,key,{q with s0:=cy .xor .i64 q.s0 (ah.wrap (1*2^min x 64))},f,s,l,⟨⟨z.q.nm,z.q.no,z.q.dg⟩,z.f,by have:=z.n;omega⟩, ?_⟩;clear z C;unfold re qm zEv Qt.sv bL at*;rw[ab (T:=U) (c:=⟨[(2,iV m),(8,.ptr 108 0),(9,.ptr 19100 0),(10,iV key),(11,.ptr 111 0),(12,.ptr 112 0),(13,iV (k+1:Nat))],_,_⟩)];simp only[go_sem,simprocAttr,k1,k2,g1,up 15,F,g3,a1,a6]
  |1,_=>refine⟨j3,key,{q with s1:=cy .xor .i64 q.s1 (ah.wrap (1*2^min x 64))},f,s,l,⟨⟨z.q.nm,z.q.no,z.q.dg⟩,z.f,by have:=z.n;omega⟩, ?_⟩;clear z C;unfold re qm zEv Qt.sv bL at*;rw[ab (T:=U) (c:=⟨[(2,iV m),(8,.ptr 108 0),(9,.ptr 19100 0),(10,iV key),(11,.ptr 111 0),(12,.ptr 112 0),(13,iV (k+1:Nat))],_,_⟩)];simp only[go_sem,simprocAttr,k1,k2,g1,up 15,F,g3,a1,a6]
 |4,_=>
  obtain⟨x,j3,hx,g3⟩:=nxe B J 32 32 rfl (by decide) K;have hd:=z.q.dg;have h1:(x:Int)<(q.dg.length:Int):=by omega
  have h2:x<q.dg.length:=by omega
  have h3:(q.dg.length:Int)<=140737488355328:=by omega
  have h4:q.dg.length<=140737488355328:=by omega
  have h5:¬q.dg=[]:=by intro h;rw[h]at hd;simp at hd
  have h6:q.dg.length<=(q.dg.set x (q.dg.getD x 0^^^1)).length:=by rw[bM];exact aM _
  have h7:dq q.dg.length (q.dg.set x (q.dg.getD x 0^^^1))=q.dg.set x (q.dg.getD x 0^^^1):=bp (by rw[bM];exact aM _);refine⟨j3,key,{q with dg:=q.dg.set x (q.dg.getD x 0^^^1)},f,s,l,⟨⟨z.q.nm,z.q.no,by show(q.dg.set _ _).length=32;rw[bM];exact hd⟩,z.f,by have:=z.n;omega⟩, ?_⟩;clear z C;unfold re qm zEv Qt.sv bL at*;rw[ab (T:=U) (c:=⟨[(2,iV m),(8,.ptr 108 0),(9,.ptr 19100 0),(10,iV key),(11,.ptr 111 0),(12,.ptr 112 0),(13,iV (k+1:Nat))],_,_⟩)];simp only[go_sem,simprocAttr,k1,k2,g1,up 15,g3,h1,h2,h4,h5,h6,h7]
 |5,_=>obtain⟨w,I,H,F⟩:=nxe B J 12 12 rfl (by decide) K;refine⟨I,w,q,f,s,l,C _ _ z, ?_⟩;clear z C;unfold re qm zEv Qt.sv bL at*;rw[ab (T:=U) (c:=⟨[(2,iV m),(8,.ptr 108 0),(9,.ptr 19100 0),(10,iV key),(11,.ptr 111 0),(12,.ptr 112 0),(13,iV (k+1:Nat))],_,_⟩)];simp only[go_sem,simprocAttr,k1,k2,g1,up 15,F]
 |6,_=>
  have a7:=z.n;have e1:ah.wrap ((l.length:Int)+1)=(l.length:Int)+1:=w64;obtain⟨w,I,H,F⟩:=nxe B J (l.length+1) ((l.length:Int)+1) (by push_cast;rfl) (by omega) K;have h1:w<=l.length:=by omega
  have h2:(w:Int)<=(l.length:Int):=by omega
  have h3:(fA l).take w=fA (l.take w):=by simp[fA,gw]
  refine⟨I,key,q,f,s,l.take w,⟨z.q,z.f,by rw[aw];omega⟩, ?_⟩;clear z C;unfold re qm zEv Qt.sv bL at*;rw[ab (T:=U) (c:=⟨[(2,iV m),(8,.ptr 108 0),(9,.ptr 19100 0),(10,iV key),(11,.ptr 111 0),(12,.ptr 112 0),(13,iV (k+1:Nat))],_,_⟩)];simp only[go_sem,simprocAttr,k1,k2,g1,up 15,F,Z,e1,h2,h3]
 |7,_=>
  have a7:=z.n;obtain⟨e,I,he,F⟩:=f60 B J K f z.f;have h1:l.length*64<=140737488355328:=by omega
  have h2:(l.length+1)*64<=140737488355328:=by omega
  have h3:fA l++ [e.sv]=fA (l++ [e]):=by simp[fA]
  refine⟨I,key,q,f,s,l++ [e],⟨z.q,z.f,by rw[af,aT];omega⟩, ?_⟩;clear z C;unfold bE at F;unfold re qm zEv Qt.sv bL Ev.sv at*;rw[ab (T:=U) (c:=⟨[(2,iV m),(8,.ptr 108 0),(9,.ptr 19100 0),(10,iV key),(11,.ptr 111 0),(12,.ptr 112 0),(13,iV (k+1:Nat))],_,_⟩)];simp only[go_sem,simprocAttr,k1,k2,g1,up 15,F,up 60,Z,h1,h2,h3]
 |8,_=>obtain⟨w,I,H,F⟩:=nxe B J 3 3 rfl (by decide) K;have e1:ah.wrap (1+(w:Int))=1+(w:Int):=w64;refine⟨I,key,q,1+(w:Int),s,l,⟨z.q,by unfold ir;omega,by have:=z.n;omega⟩, ?_⟩;clear z C;unfold re qm zEv Qt.sv bL at*;rw[ab (T:=U) (c:=⟨[(2,iV m),(8,.ptr 108 0),(9,.ptr 19100 0),(10,iV key),(11,.ptr 111 0),(12,.ptr 112 0),(13,iV (k+1:Nat))],_,_⟩)];simp only[go_sem,simprocAttr,k1,k2,g1,up 15,F,e1]
theorem xhW(b:t8)(n:Nat):call T 28 [bN b,iV n] [] 0=okV (bN (b.take n)):=by
 rw[ccT 28]
 by_cases h:n<b.length
 ·have h1:(n:Int)<(b.length:Int):=by omega
  have h2:n<=b.length:=by omega
  have h3:(n:Int)<=(b.length:Int):=by omega
  simp only[go_sem,simprocAttr,h1,h3]
 ·have h1:¬(n:Int)<(b.length:Int):=by omega
  rw[bp (by omega)];simp only[go_sem,simprocAttr,h1]
theorem l59(B:t8)(hB:B.length<=1000)(I s0:Int)(H:List Ev)(m:Int):∀(k:Nat),k<=5->∀(j key:Nat)(q:Qt)(f s:Int)(l:List Ev)(n:Nat),n+k<=900->W59 q f l n->
 ∃(j' z:Nat)(Q:Qt)(Z s':Int)(l':List Ev),W59 Q Z l' (n+k)/\run U (.loop qW) ⟨re m key k,qm I s0 H B j q.sv (bL f s l),[]⟩=
  some (.x 0,⟨[(2,iV m),(8,.ptr 108 0),(9,.ptr 19100 0),(10,iV z),(11,.ptr 111 0),(12,.ptr 112 0)],qm I s0 H B j' Q.sv (bL Z s' l'),[]⟩):=by
 intro k;induction k with
 |zero=>intro _ j key q f s l n hn J;refine⟨j,key,q,f,s,l,J, ?_⟩;unfold re qm zEv Qt.sv bL;rw[ab];simp only[go_sem,simprocAttr,show((0:Nat):Int)=0 from rfl]
 |succ k ih=>intro hk j key q f s l n hn J;obtain⟨j1,F,q1,f1,s1,l1,K,g1⟩:=xfM B hB I s0 H m j key k (by omega) q f s l n (by omega) J;obtain⟨j2,C,q2,f2,s2,l2,y,g2⟩:=ih (by omega) j1 F q1 f1 s1 l1 (n+1) (by omega) K;exact⟨j2,C,q2,f2,s2,l2,⟨y.q,y.f,by have:=y.n;omega⟩,g1.trans g2⟩
theorem f59(H:yO)(C:t8)(f s:Int)(hf:ir f)(l:List Ev)(hl:l.length<=200)(m:Nat)(hm:m<=100)(N:t8)(hN:N.length<=100000):
 ∃(em:Int)(A S L:t8),A.length<=1000000/\L.length<=100000/\call U 59 [bN C,.agg (bL f s l),iV m,bN N] [] 0=okV (.agg [iV em,bN A,bN S,bN L]):=by
 have g1:=f14 C 30;have F:(C.take 30).length<=1000:=by rw[aw];omega
 generalize C.take 30=B at*;rw[show((30:Nat):Int)=30 from rfl]at g1;unfold bE at g1;obtain⟨w,j1,hw,Z⟩:=nxe B F 2 2 rfl (by decide) 0;rw[ak]at g1 Z;have e1:ah.wrap (2*(m:Int))=2*(m:Int):=w64;have e2:ah.wrap (2*(m:Int)+(w:Int))=((2*m+w:Nat):Int):=by rw[w64];push_cast;rfl
 obtain⟨q,hq,g3⟩:=xfa H f s l (by omega) m (2*m+w) N hN;obtain⟨k,j2,hk,g4⟩:=nxe B F 3 3 rfl (by decide) j1;obtain⟨j3,key,q',f',s',l',I,g5⟩:=l59 B F f s l m k (by omega) j2 (2*m+w) q f s l 200 (by omega) ⟨hq,hf,hl⟩;obtain⟨lf,j4,b4,g6⟩:=nxe B F 2 2 rfl (by decide) j3;obtain⟨A,S,L,hA,hS,hL,Q⟩:=xfb f' s' l' (by have:=I.n;omega) m key lf q' I.q;obtain⟨v,j5,hv,g8⟩:=nxe B F 8 8 rfl (by decide) j4;clear I hq;unfold re qm zEv at g5;unfold evd at Q;generalize b3:((2*m+w:Nat):Int)=kk at*
 by_cases h5:v=5
 ·subst h5
  obtain⟨x,j6,hx,g9⟩:=nxe B F 4 4 rfl (by decide) j5;refine⟨ah.wrap (1+(x:Int)),A,S,L,by omega,by omega, ?_⟩;unfold Qt.sv bL at*;rw[ccU 59];simp only[go_sem,ul,fK,fM,fL,bt,eU,aX,bK,aJ,aW,reduceCtorEq,reduceIte,g1,up 14,Z,up 15,e1,e2,g3,g4,g5,g6,Q,up 127,g8,g9,aN]
 by_cases h6:v=6
 ·subst h6
  obtain⟨x,j6,hx,g9⟩:=nxe B F 256 256 rfl (by decide) j5;have K:=xhW S x;refine⟨m,A,S.take x,L,by omega,by omega, ?_⟩;unfold Qt.sv bL at*;rw[ccU 59];simp only[go_sem,ul,fK,fM,fL,bt,eU,aX,bK,aJ,aW,reduceCtorEq,reduceIte,g1,up 14,Z,up 15,e1,e2,g3,g4,g5,g6,Q,up 127,g8,g9,K,up 28,aN]
 by_cases h7:v=7
 ·subst h7
  by_cases a7:L.length=0
  ·refine⟨m,A,S,L,by omega,by omega, ?_⟩
   have J:¬(0:Int)<(L.length:Int):=by omega
   unfold Qt.sv bL at*;rw[ccU 59];simp only[go_sem,ul,fK,fM,fL,bt,eU,aX,bK,aJ,aW,reduceCtorEq,reduceIte,g1,up 14,Z,up 15,e1,e2,g3,g4,g5,g6,Q,up 127,g8,J,aN]
  ·have J:(0:Int)<(L.length:Int):=by omega
   obtain⟨x,j6,hx,g9⟩:=nxe B F 256 256 rfl (by decide) j5;obtain⟨y,j7,hy,K⟩:=nxe B F 256 256 rfl (by decide) j6;obtain⟨z,j8,hz,a1⟩:=nxe B F 8 8 rfl (by decide) j7;have c1:ah.wrap ((x:Int)*256)=(x:Int)*256:=w64;have c2:ah.wrap ((x:Int)*256+(y:Int))=(x:Int)*256+(y:Int):=w64
   have c3:Int.tmod ((x:Int)*256+(y:Int)) (L.length:Int)=(((x*256+y) % L.length:Nat):Int):=by rw[fN (by omega)];push_cast;rfl
   have c4:(x*256+y) % L.length<L.length:=Nat.mod_lt _ (by omega);generalize (x*256+y) % L.length=r at*;have c5:ah.wrap (r:Int)=(r:Int):=w64;have c6:(r:Int)<(L.length:Int):=by omega
   have c7:¬(L.length:Int)=0:=by omega
   have c8:¬L=[]:=fun h=>a7 (by rw[h];rfl)
   have c9:(L.length:Int)<=140737488355328:=by omega
   have d1:L.length<=140737488355328:=by omega
   have b0:az.wrap (z:Int)=(z:Int):=by rw[ou];simp[iW,ll];omega
   have b2:(0:Int)<=(z:Int):=by omega
   have y6:L.length<=(L.set r (L.getD r 0^^^eL (UInt8.toNat 1*2^min z 8))).length:=by rw[bM];exact aM _
   have y7:dq L.length (L.set r (L.getD r 0^^^eL (UInt8.toNat 1*2^min z 8)))=L.set r (L.getD r 0^^^eL (UInt8.toNat 1*2^min z 8)):=bp (by rw[bM];exact aM _);refine⟨m,A,S,L.set r (L.getD r 0^^^eL (UInt8.toNat 1*2^min z 8)),by omega,by rw[bM];omega, ?_⟩;unfold Qt.sv bL at*;rw[ccU 59];simp only[go_sem,ul,fK,fM,fL,bt,eU,aX,bK,aJ,aW,reduceCtorEq,reduceIte,g1,up 14,Z,up 15,e1,e2,g3,g4,g5,g6,Q,up 127,g8,g9,K,a1,J,c1,c2,c3,c4,c6,c7,c8,d1,b0,b2,y6,y7,aN]
 ·have a6:¬(v:Int)=5:=by omega
  have b1:¬(v:Int)=6:=by omega
  have a8:¬(v:Int)=7:=by omega
  refine⟨m,A,S,L,by omega,by omega, ?_⟩;unfold Qt.sv bL at*;rw[ccU 59];simp only[go_sem,fK,fM,fL,bt,eU,aX,bK,aJ,aW,reduceCtorEq,reduceIte,g1,up 14,Z,up 15,e1,e2,g3,g4,g5,g6,Q,up 127,g8,a6,b1,a8]
def EE:List En:=[enN 1 3,enN 2 2,enN 3 3]
structure Iv(n:Nat)(s:Sv):Prop where
 c:∃c:Ct,SvC s c/\tE c/\c.ms.length<=n+1/\c.ws.length<=n+1
 wf:WF s.l
 k0:0<=s.k
 k1:s.k<=40*(n:Int)
 u:∀x∈s.l.ls,0<=x.u/\x.u<=40*(n:Int)+64
 r:∀x∈s.l.hs,0<=x.r/\x.r<=1000
 key:s.key.length=32
 o:∃ops,s.O=jm ops/\ops.length<=n
 e:s.E=EE
 s:∃l,s.S=iz l/\(∀y∈l,CB y)/\l.length<=10
theorem Iv.mono{n:Nat}{s:Sv}(h:Iv n s):Iv (n+1) s:=by obtain⟨c,h1,h2,h3,h4⟩:=h.c;obtain⟨ops,z,C⟩:=h.o;have:=h.k1;exact⟨⟨c,h1,h2,by omega,by omega⟩,h.wf,h.k0,by push_cast;omega,fun x y=>⟨(h.u x y).1,by have:=(h.u x y).2;push_cast;omega⟩,h.r,h.key,⟨ops,z,by omega⟩,h.e,h.s⟩
theorem Iv.sm{n:Nat}{s:Sv}(h:Iv n s)(z:n<=20):Sm s:=⟨h.wf,h.k0,by have:=h.k1;omega,fun x y=>⟨(h.u x y).1,by have:=(h.u x y).2;omega⟩,h.r⟩
theorem Iv.desk{n:Nat}{s:Sv}(h:Iv n s)(nx:Int)(ops:List Op)(y:ops.length<=n+1):Iv (n+1) {s with nx:=nx,O:=jm ops}:=by have g:=h.mono;obtain⟨c,h1,h2,h3,h4⟩:=g.c;exact⟨⟨c,⟨h1.a,h1.t,h1.m,h1.w⟩,h2,h3,h4⟩,g.wf,g.k0,g.k1,g.u,g.r,g.key,⟨ops,rfl,y⟩,g.e,g.s⟩
theorem Iv.lea{n:Nat}{s:Sv}(h:Iv n s)(l:Ls)(C:WF l)(H:∀x∈l.ls,x∈s.l.ls\/x.u=s.k+64)(F:∀x∈l.hs,x∈s.l.hs\/0<=x.r/\x.r<=1000):Iv n {s with l:=l}:=by
 obtain⟨c,h1,h2,h3,h4⟩:=h.c;refine⟨⟨c,⟨h1.a,h1.t,h1.m,h1.w⟩,h2,h3,h4⟩,C,h.k0,h.k1,fun x z=> ?_,fun x z=> ?_,h.key,h.o,h.e,h.s⟩
 ·rcases H x z with y|y
  ·exact h.u x y
  ·have:=h.k0;have:=h.k1;omega
 ·rcases F x z with y|y
  ·exact h.r x y
  ·exact y
theorem Jr{l:List bj}{j:Int}:∀x∈(dv l j).toList,x∈l:=by intro x y;unfold dv at y;exact(iG (Option.mem_toList.1 y)).1
theorem Jb{l:List bj}{y:bj}{j:Int}:∀x∈gt l y j,x∈l\/x=y:=by
 intro x z;unfold gt at z;split at z
 ·exact .inr (bC.1 z)
 ·exact .inl (Jr x z)
theorem Ci{l:Ls}{m z:Int}{g:List t8}:∀x∈(ft l m z g).1.ls,x∈l.ls\/x.u=z+64:=by
 intro x y;unfold ft at y
 repeat' split at y
 all_goals first
  |(cases y;done)
  |(
   simp only[am]at y;rcases y with((y|y)|y)|y<;>rcases Jb x y with h|h<;>first|exact .inl h|exact .inr (by rw[h]))
theorem Cj{l:Ls}{m z:Int}{g:List t8}:∀x∈(ft l m z g).1.hs,x∈l.hs:=by
 intro x y;unfold ft at y
 repeat' split at y
 all_goals first|(cases y;done)|exact y
theorem Jg{l:Ls}{m r s:Int}:∀x∈(ki l m r s).ls,x∈l.ls:=by
 intro x y;unfold ki at y;split at y
 ·exact y
 ·exact(dY.1 y).1
theorem Jh{l:Ls}{m r s:Int}:∀x∈(ki l m r s).hs,x∈l.hs\/x.r=r:=by
 intro x y;unfold ki at y;split at y
 ·exact .inl y
 ·rcases am.1 y with h|h
  ·exact .inl (cg h)
  ·rcases aq.1 h with h|h
   ·exact .inr (by rw[h])
   ·exact .inl (ny h)
structure Msg where
 kd:Int
 mc:Int
 n:Int
 no:List UInt8
 em:Int
 A:List UInt8
 S:List UInt8
 L:List UInt8
 bo:List (List SV)
def Msg.sv(m:Msg):LAa:=[iV m.kd,iV m.mc,iV m.n,bN m.no,iV m.em,bN m.A,bN m.S,bN m.L,.lst 8 m.bo .no]
structure nS(m:Msg):Prop where
 no:m.no.length<=32
 A:m.A.length<=1000000
 L:m.L.length<=100000
 m1:1<=m.mc
 m4:m.mc<=4
 kd:m.kd=1\/m.kd=3
theorem jT(m r:Int):AH m r=Msg.sv ⟨5,m,r,[],0,[],[],[],[]⟩:=rfl
def Ng:Prop:=∀(m:Int)(A S L:t8)(e:En)(us:List t8)(N:t8)(ms:List Man),A.length<=1000000->L.length<=100000->N.length<=100000->e.q=kys us->(∀u∈us,u.length<=1000)->us.length<=1000->ww ms->
 ∃(er x1:Int)(rs:List (Int×Int))(y:Int),rs.length<=1000000/\call U 121 [.agg [iV m,bN A,bN S,bN L],.agg e.sv,bN N,.lst 7 (fg ms) .no] [] 0=okV (.agg [iV er,iV x1,.lst 2 (rsv rs) .no,iV y])
theorem R5(k:Nat):(AJ (mZ k) 1).length<=1000:=by
 have h16:(Q2 (lvs (mZ k) 1 2)).length=16:=by rw[SC];exact gk _ _
 show(ub 1::Q2 (lvs (mZ k) 1 2)).length<=1000;rw[ai];omega
theorem L6(m:Nat)(a:Int):(enN m a).q=kys [AJ (mZ (2*m)) 1,AJ (mZ (2*m+1)) 1]:=rfl
theorem UR:∀e∈EE,∃m a,e=enN m a/\ir a/\1<=m/\m<=3:=by
 intro e y;simp only[EE,aq,cY,or_false]at y;rcases y with rfl|rfl|rfl
 ·exact⟨1,3,rfl,.inr (.inr rfl),by decide,by decide⟩
 ·exact⟨2,2,rfl,.inr (.inl rfl),by decide,by decide⟩
 ·exact⟨3,3,rfl,.inr (.inr rfl),by decide,by decide⟩
theorem Qb{e:En}(z:e∈EE):ir e.a/\e.p2.length<=64/\∃us,e.q=kys us/\(∀u∈us,u.length<=1000)/\us.length<=1000:=by
 obtain⟨m,a,rfl,C,_,_⟩:=UR e z;refine⟨C, ?_,_,L6 m a, ?_,by simp⟩
 ·show(sha [112,ub m]).length<=64
  rw[fC];decide
 ·intro u y
  simp only[aq,cY,or_false]at y;rcases y with rfl|rfl<;>exact R5 _
def zMs:aG:= .rc [iV 0,iV 0,iV 0,.byt [] .clip,iV 0,.byt [] .clip,.byt [] .clip,.byt [] .clip,.lst 8 [] .clip]
def oMs(mc n:Int)(L:f9)(t:Tok):aG:= .rc [iV 4,iV mc,iV n,.byt [] .clip,iV 0,.byt [] .clip,.byt [] .clip,.byt [] .clip,.lst 8 L t]
theorem l53(H:uW)(s:Sv)(l:List Sc)(Z:s.S=iz l)(hl:∀y∈l,CB y)(hn:l.length<=50)(e:En)(ha:ir e.a)(hp:e.p2.length<=64)(m:Msg)(mc nn:Int)(dk:t8)(dn:Int)(dp:List Op)(er x1 x3:Int)(rs:List (Int×Int)):∀(n i:Nat),l.length-i=n->i<=l.length->
 ∀(L:f9)(t:Tok)(tks:LAb),(L=[]/\t= .clip/\tks=[]\/t= .id 299/\tks=[299])->L.length<=i->
 ∃J I z,(J=[]/\I= .clip/\z=[]\/I= .id 299/\z=[299])/\
  run U (.loop yX) ⟨[(2,.ptr 102 0),(3,.ptr 103 0),(4,.ptr 104 0),(5,.ptr 105 0),(6,.ptr 106 0),(16,.ptr 116 0),(17,iV i)],[(102,.rc s.sv),(103,.rc m.sv),(104,zSv),(105,zMs),(106,.rc e.sv),(112,.rc (ey dk dn dp)),(115,.rc [iV er,iV x1,.lst 2 (rsv rs) .no,iV x3]),(116,oMs mc nn L t)],tks⟩=
   some (.x 0,⟨[(2,.ptr 102 0),(4,.ptr 104 0),(5,.ptr 105 0),(16,.ptr 116 0)],[(102,.rc s.sv),(103,.rc m.sv),(104,zSv),(105,zMs),(106,.rc e.sv),(112,.rc (ey dk dn dp)),(115,.rc [iV er,iV x1,.lst 2 (rsv rs) .no,iV x3]),(116,oMs mc nn J I)],z⟩):=by
 intro n;have hv:=tJ l;induction n with
 |zero=>
  intro i h0 h1 L t tks K hL;have hi:i=l.length:=by omega
  subst hi;refine⟨L,t,tks,K, ?_⟩;unfold ey zSv zMs oMs Sv.sv Msg.sv En.sv;rw[Z,ab];rcases K with⟨rfl,rfl,rfl⟩|⟨rfl,rfl⟩<;>simp only[go_sem,simprocAttr,hv]
 |succ n ih=>
  intro i h0 h1 L t tks K hL;have hi:i<l.length:=by omega
  have F:(i:Int)<(l.length:Int):=by omega
  have hg:=tK l i hi;have e1:=bJ i;have hx:CB (l.getD i sc0):=by rw[db hi];exact hl _ (aF hi)
  generalize l.getD i sc0=y at*
  by_cases hm:y.m=m.mc
  ·obtain⟨b,c,g1⟩:=xfe H e y ha hp hx
   obtain⟨J,I,z,Q,C⟩:=ih (i+1) (by omega) (by omega) (L++ [b.sv]) (.id 299) [299] (.inr ⟨rfl,rfl⟩) (by rw[af,aT];omega);have b1:(L.length+1)*128<=140737488355328:=by omega
   refine⟨J,I,z,Q, ?_⟩;clear Q hx hl ih;obtain⟨k,A,t0,M,W,key,nx,O',l0,E,S⟩:=s;simp only at Z;subst Z;obtain⟨m1,m2,m3,m4,m5,m6,m7,m8,m9⟩:=m;simp only at hm;subst hm;unfold ey zSv zMs oMs Sv.sv Msg.sv En.sv Sc.sv Bo.sv at*;rw[ab];rcases K with⟨rfl,rfl,rfl⟩|⟨rfl,rfl⟩
   ·simp only[go_sem,simprocAttr,hv,F,hg,g1,e1]
    exact C
   ·simp only[go_sem,simprocAttr,hv,F,hg,g1,b1,e1]
    exact C
  ·obtain⟨J,I,z,Q,C⟩:=ih (i+1) (by omega) (by omega) L t tks K (by omega)
   refine⟨J,I,z,Q, ?_⟩;clear Q hx hl ih;obtain⟨k,A,t0,M,W,key,nx,O',l0,E,S⟩:=s;simp only at Z;subst Z;unfold ey zSv zMs oMs Sv.sv Msg.sv En.sv Sc.sv at*;rw[ab];rcases K with⟨rfl,rfl,rfl⟩|⟨rfl,rfl⟩
   ·simp only[go_sem,simprocAttr,hv,F,hg,hm,e1]
    exact C
   ·simp only[go_sem,simprocAttr,hv,F,hg,hm,e1]
    exact C
def yD(l:List Msg):f9:=l.map Msg.sv
theorem tO(l:List Msg):(yD l).length=l.length:=av ..
def ms0:Msg:=⟨0,0,0,[],0,[],[],[],[]⟩
theorem LB(l:List Msg)(i:Nat)(h:i<l.length):(yD l).getD i []=(l.getD i ms0).sv:=by simp[yD,aa,h]
structure Tk where
 ch:List Img
 es:List Ent
 n0:List UInt8
 n1:List UInt8
 n2:List UInt8
 n3:List UInt8
 n4:List UInt8
 st:List Msg
def Tk.obT(t:Tk)(k:Tok):aG:= .rc [.lst 4 (gK t.ch) .no,.str [97,99,109,101],iV 2,iV 0,iV 0,iV mT,.lst 4 (gV t.es) .no,.lst 4 [[iV 1,.str [],iV 0,iV 0]] .no,
 bN t.n0,bN t.n1,bN t.n2,bN t.n3,bN t.n4,.lst 9 (yD t.st) k]
def Tk.ob(t:Tk):aG:=t.obT (.id 50)
def Tk.oc(t:Tk):aG:=t.obT (.id 60)
structure lk(t:Tk):Prop where
 ch:dZ t.ch
 es:ot t.es
 el:t.es.length<=1000
 h0:t.n0.length<=32
 h1:t.n1.length<=32
 h2:t.n2.length<=32
 h3:t.n3.length<=32
 h4:t.n4.length<=32
 st:∀m∈t.st,nS m
theorem dZ.img{l:List Img}(h:dZ l):∀x∈l,mu x=0:=by intro x y;obtain⟨i,hi,rfl⟩:=cr y;have:=h.ok i hi;rwa[db hi]at this
theorem f18(C:t8):∃(l:List Img)(es:List Ent),dZ l/\ot es/\es.length<=l.length/\call T 18 [bN C] [] 0=some ⟨.ptr 100 0,[(100,.rc [.lst 4 (gK l) .no,.str [97,99,109,101],iV 2,iV 0,iV 0,iV mT,.lst 4 (gV es) .no,
 .lst 4 [[iV 1,.str [],iV 0,iV 0]] (.id 60),.byt [] (.id 61),.byt [] (.id 62),.byt [] (.id 63),.byt [] (.id 64),.byt [] (.id 65),.lst 9 [] (.id 66)])],[60,61,62,63,64,65,66]⟩:=by
 obtain⟨l,y,g1⟩:=f32 C;obtain⟨es,I,J,H⟩:=f44 l y.img (by have:=y.n8;omega) (by obtain⟨k,F,z⟩:=y.fw;exact⟨k,F,z⟩) [97,99,109,101] 2;refine⟨l,es,y,J,I, ?_⟩;rw[ccT 18];simp only[go_sem,simprocAttr,g1,H]
theorem Hi(l:List Img)(a:Int)(h:dZ l):(evF l a).length<=200:=Ib l a h.n8
theorem f58(t:Tk)(y:lk t)(m r:Int)(a:Int)(z:ah.wrap (2+m.tmod 2)=a)(hv:ir a):call T 58 [.ptr 0 0,iV m,iV r] [t.ob] 1=some ⟨.agg (bL a r (evF t.ch a)),[(0,t.oc)],[60]⟩:=by have g1:=f129 t.ch y.ch a hv;unfold Tk.ob Tk.oc Tk.obT bL;rw[ccT 58];simp only[go_sem,simprocAttr,z,g1]
def Tk.put(t:Tk)(m:Int)(N:t8):Tk:=if m=1 then {t with n1:=N}else if m=2 then {t with n2:=N}else if m=3 then {t with n3:=N}else {t with n4:=N}
theorem Tk.put_ok{t:Tk}(h:lk t)(m:Int){N:t8}(y:N.length<=32):lk (t.put m N):=by
 unfold Tk.put;split
 ·exact⟨h.ch,h.es,h.el,h.h0,y,h.h2,h.h3,h.h4,h.st⟩
 split
 ·exact⟨h.ch,h.es,h.el,h.h0,h.h1,y,h.h3,h.h4,h.st⟩
 split
 ·exact⟨h.ch,h.es,h.el,h.h0,h.h1,h.h2,y,h.h4,h.st⟩
 ·exact⟨h.ch,h.es,h.el,h.h0,h.h1,h.h2,h.h3,y,h.st⟩
theorem f23(t:Tk)(m:Msg):call T 23 [.ptr 0 0,.agg m.sv] [t.ob] 1=some ⟨.tup [],[(0,(if m.kd=2/\1<=m.mc/\m.mc<=4 then t.put m.mc m.no else t).oc)],[60]⟩:=by
 obtain⟨m1,y,m3,m4,H,C,F,m8,z⟩:=m;unfold Tk.ob Tk.oc Tk.obT Msg.sv;rw[ccT 23]
 by_cases h1:m1=2
 ·by_cases h2:1<=y
  ·by_cases h3:y<=4
   ·rw[if_pos ⟨h1,h2,h3⟩]
    subst h1;unfold Tk.put;have h4:y=1\/y=2\/y=3\/y=4:=by omega
    rcases h4 with rfl|rfl|rfl|rfl<;>simp only[go_sem,simprocAttr,h2,h3]
   ·rw[if_neg (fun h=>h3 h.2.2)]
    subst h1;simp only[go_sem,simprocAttr,h2,h3]
  ·rw[if_neg (fun h=>h2 h.2.1)]
   subst h1;simp only[go_sem,simprocAttr,h2]
 ·rw[if_neg (fun h=>h1 h.1)]
  simp only[go_sem,simprocAttr,h1]
theorem xiD(H2:yO):Ng:=by
 intro m A S L e us N ms H I K hq J hn y
 by_cases hm:m=e.m
 ·obtain⟨
   q,c,hqo,g1⟩:=xii m A S L N us H I K J hn
  rw[<-hq]at g1;subst hm
  by_cases hc:c=0
  ·subst hc
   obtain⟨x,Q,g2⟩:=YW e.a
   by_cases a0:q.s0=x.1
   ·by_cases a1:q.s1=x.2
    ·have hs:q.s0=x.1/\q.s1=x.2:=⟨a0,a1⟩
     clear a0 a1;obtain⟨f,s,l,c3,hl,F,g3⟩:=xih L
     by_cases h3:c3=0
     ·subst h3
      by_cases hf:f=e.a
      ·subst hf
       by_cases hb:cy .and .i64 e.a 2=0
       ·refine⟨27,0,[],0,by decide, ?_⟩
        rw[show rsv []=[]from rfl];clear F y J Q I H K hqo;obtain⟨x0,x1⟩:=x;obtain⟨z,C⟩:=hs;simp only at z C;subst z C;unfold En.sv Qt.sv fW bL at*;rw[ccU 121];simp only[go_sem,simprocAttr,g1,up 189,g2,up 190,g3,up 191,hb]
       ·by_cases hr:s=q.c1
        ·subst hr
         by_cases Z:q.c2=0
         ·obtain⟨D,c4,hD,g4⟩:=H2 e.a q.c1 l x (by omega) Q
          by_cases h4:c4=0
          ·subst h4
           have g5:=f95 D q.dg
           by_cases hd:D=q.dg
           ·rw[decide_eq_true hd]at g5
            obtain⟨rs,n,c6,a6,g6⟩:=xig e.a q.c1 l ⟨by omega,fun e he=>(F e he).bd⟩ ms y
            by_cases h6:c6=0
            ·subst h6
             refine⟨0,0,rs,q.c3,by omega, ?_⟩;clear F y J Q I H K hqo hd hD a6;obtain⟨x0,x1⟩:=x;obtain⟨z,C⟩:=hs;simp only at z C;subst z C;unfold En.sv Qt.sv fW bL at*;rw[ccU 121];simp only[go_sem,simprocAttr,g1,up 189,g2,up 190,g3,up 191,hb,Z,g4,g5,up 95,g6,up 193]
            ·refine⟨c6,n,[],0,by decide, ?_⟩
             rw[show rsv []=[]from rfl];clear F y J Q I H K hqo hd hD a6;obtain⟨x0,x1⟩:=x;obtain⟨z,C⟩:=hs;simp only at z C;subst z C;unfold En.sv Qt.sv fW bL at*;rw[ccU 121];simp only[go_sem,simprocAttr,g1,up 189,g2,up 190,g3,up 191,hb,Z,g4,g5,up 95,g6,up 193,h6]
           ·rw[decide_eq_false hd]at g5
            refine⟨46,0,[],0,by decide, ?_⟩;rw[show rsv []=[]from rfl];clear F y J Q I H K hqo hd hD;obtain⟨x0,x1⟩:=x;obtain⟨z,C⟩:=hs;simp only at z C;subst z C;unfold En.sv Qt.sv fW bL at*;rw[ccU 121];simp only[go_sem,simprocAttr,g1,up 189,g2,up 190,g3,up 191,hb,Z,g4,g5,up 95]
          ·refine⟨c4,0,[],0,by decide, ?_⟩
           rw[show rsv []=[]from rfl];clear F y J Q I H K hqo hD;obtain⟨x0,x1⟩:=x;obtain⟨z,C⟩:=hs;simp only at z C;subst z C;unfold En.sv Qt.sv fW bL at*;rw[ccU 121];simp only[go_sem,simprocAttr,g1,up 189,g2,up 190,g3,up 191,hb,Z,g4,h4]
         ·refine⟨12,0,[],0,by decide, ?_⟩
          rw[show rsv []=[]from rfl];clear F y J Q I H K hqo;obtain⟨x0,x1⟩:=x;obtain⟨z,C⟩:=hs;simp only at z C;subst z C;unfold En.sv Qt.sv fW bL at*;rw[ccU 121];simp only[go_sem,simprocAttr,g1,up 189,g2,up 190,g3,up 191,hb,Z]
        ·refine⟨12,0,[],0,by decide, ?_⟩
         rw[show rsv []=[]from rfl];clear F y J Q I H K hqo;obtain⟨x0,x1⟩:=x;obtain⟨z,C⟩:=hs;simp only at z C;subst z C;unfold En.sv Qt.sv fW bL at*;rw[ccU 121];simp only[go_sem,simprocAttr,g1,up 189,g2,up 190,g3,up 191,hb,hr]
      ·refine⟨27,0,[],0,by decide, ?_⟩
       rw[show rsv []=[]from rfl];clear F y J Q I H K hqo;obtain⟨x0,x1⟩:=x;obtain⟨z,C⟩:=hs;simp only at z C;subst z C;unfold En.sv Qt.sv fW bL at*;rw[ccU 121];simp only[go_sem,simprocAttr,g1,up 189,g2,up 190,g3,up 191,hf]
     ·refine⟨c3,0,[],0,by decide, ?_⟩
      rw[show rsv []=[]from rfl];clear F y J Q I H K hqo;obtain⟨x0,x1⟩:=x;obtain⟨z,C⟩:=hs;simp only at z C;subst z C;unfold En.sv Qt.sv fW bL at*;rw[ccU 121];simp only[go_sem,simprocAttr,g1,up 189,g2,up 190,g3,up 191,h3]
    ·refine⟨1,0,[],0,by decide, ?_⟩
     rw[show rsv []=[]from rfl];clear y J Q I H K hqo;obtain⟨x0,x1⟩:=x;simp only at a0 a1;unfold En.sv Qt.sv fW at*;rw[ccU 121];simp only[go_sem,simprocAttr,g1,up 189,g2,up 190,a0,a1]
   ·refine⟨1,0,[],0,by decide, ?_⟩
    rw[show rsv []=[]from rfl];clear y J Q I H K hqo;obtain⟨x0,x1⟩:=x;simp only at a0;unfold En.sv Qt.sv fW at*;rw[ccU 121];simp only[go_sem,simprocAttr,g1,up 189,g2,up 190,a0]
  ·refine⟨c,0,[],0,by decide, ?_⟩
   rw[show rsv []=[]from rfl];clear y J I H K hqo;unfold En.sv Qt.sv at*;rw[ccU 121];simp only[go_sem,simprocAttr,g1,up 189,hc]
 ·refine⟨49,0,[],0,by decide, ?_⟩
  rw[show rsv []=[]from rfl];unfold En.sv;rw[ccU 121];simp only[go_sem,simprocAttr,hm]
theorem xhE(n:Nat)(s:Sv)(hs:Iv n s)(hn:n<=20)(m:Msg)(hm:nS m)(y:m.kd=1):
 ∃(s':Sv)(m':Msg),Iv (n+1) s'/\(m'.kd=2->m'.no.length<=32)/\call U 53 [.agg s.sv,.agg m.sv] [] 0=okV (.tup [.agg s'.sv,.agg m'.sv]):=by
 have hE:s.E.length=3:=by rw[hs.e];rfl
 obtain⟨e,b,hb,g1⟩:=UK s m.mc;have K:=f69 s.l m.mc (by have:=hs.wf.len2;omega);obtain⟨ops,F,ho⟩:=hs.o;obtain⟨K',C,z,N,c,h1,h2,g3⟩:=xiF s.key s.nx ops m.mc s.k hs.key;cases b with
 |false=>have g0:=Kj m.mc 49;refine⟨s,⟨5,m.mc,49,[],0,[],[],[],[]⟩,hs.mono,(fun h=>by cases h), ?_⟩;rw[<-jT];unfold AH at*;obtain⟨m1,I,m3,m4,Z,H,Q,m8,J⟩:=m;simp only at y;subst y;unfold Sv.sv Msg.sv En.sv at*;rw[ccU 53];simp only[go_sem,simprocAttr,g1,up 114,g0,up 117]
 |true=>
  generalize (s.l.hs.map bS.m).contains m.mc=hd at*;cases hd with
  |true=>have g0:=Kj m.mc 48;refine⟨s,⟨5,m.mc,48,[],0,[],[],[],[]⟩,hs.mono,(fun h=>by cases h), ?_⟩;rw[<-jT];unfold AH at*;obtain⟨m1,I,m3,m4,Z,H,Q,m8,J⟩:=m;simp only at y;subst y;unfold Sv.sv Msg.sv En.sv Ls.sv iB iE at*;rw[ccU 53];simp only[go_sem,simprocAttr,g1,up 114,K,up 69,g0,up 117]
  |false=>
   by_cases hc:c=0
   ·obtain⟨rfl,h3⟩:=h1 hc
    subst hc;refine⟨{s with nx:=C,O:=jm z},⟨2,m.mc,0,N,0,[],[],[],[]⟩,hs.desk C z (by omega),(fun _=>h2), ?_⟩;clear hs hb h1;obtain⟨k,A,t0,M,W,key,nx,O',l0,E,S⟩:=s;simp only at F;subst F;obtain⟨m1,I,m3,m4,Z,H,Q,m8,J⟩:=m;simp only at y;subst y;unfold Sv.sv Msg.sv En.sv Ls.sv iB iE ey at*;rw[ccU 53];simp only[go_sem,simprocAttr,g1,up 114,K,up 69,g3,up 118]
    try rfl
   ·have g0:=Kj m.mc c
    refine⟨s,⟨5,m.mc,c,[],0,[],[],[],[]⟩,hs.mono,(fun h=>by cases h), ?_⟩;rw[<-jT];clear hs hb h1;obtain⟨k,A,t0,M,W,key,nx,O',l0,E,S⟩:=s;simp only at F;subst F;obtain⟨m1,I,m3,m4,Z,H,Q,m8,J⟩:=m;simp only at y;subst y;unfold AH Sv.sv Msg.sv En.sv Ls.sv iB iE ey at*;rw[ccU 53];simp only[go_sem,simprocAttr,g1,up 114,K,up 69,g3,up 118,hc,g0,up 117]
theorem xhD(
 H:uW)(HA:Ng)(n:Nat)(s:Sv)(hs:Iv n s)(hn:n<=20)(m:Msg)(hm:nS m)(C:m.kd=3):
 ∃(s':Sv)(m':Msg),Iv (n+1) s'/\(m'.kd=2->m'.no.length<=32)/\call U 53 [.agg s.sv,.agg m.sv] [] 0=okV (.tup [.agg s'.sv,.agg m'.sv]):=by
 have hE:s.E.length=3:=by rw[hs.e];rfl
 obtain⟨e,b,K,g1⟩:=UK s m.mc;have g2:=f69 s.l m.mc (by have:=hs.wf.len2;omega);obtain⟨ops,I,ho⟩:=hs.o;obtain⟨y,c,h1,g3⟩:=xiE s.key s.nx ops m.mc m.no s.k hs.key (by omega) (by have:=hm.no;omega);cases b with
 |false=>have g0:=Kj m.mc 49;refine⟨s,⟨5,m.mc,49,[],0,[],[],[],[]⟩,hs.mono,(fun h=>by cases h), ?_⟩;rw[<-jT];unfold AH at*;obtain⟨m1,m2,m3,m4,m5,m6,m7,m8,m9⟩:=m;simp only at C;subst C;unfold Sv.sv Msg.sv En.sv at*;rw[ccU 53];simp only[go_sem,simprocAttr,g1,up 114,g0,up 117]
 |true=>
  have J:=hs.desk s.nx y (by omega);have he:=(K rfl).1;rw[hs.e]at he;obtain⟨ea,ep,us,eq,eu,b1⟩:=Qb he
  by_cases hc:c=0
  ·subst hc
   generalize hh:(s.l.hs.map bS.m).contains m.mc=hd at*;cases hd with
   |true=>have g0:=Kj m.mc 48;refine⟨{s with nx:=s.nx,O:=jm y},⟨5,m.mc,48,[],0,[],[],[],[]⟩,J,(fun h=>by cases h), ?_⟩;rw[<-jT];clear hs K h1 J;obtain⟨k,A,t0,M,W,key,nx,O',l0,E,S⟩:=s;simp only at I;subst I;obtain⟨m1,m2,m3,m4,m5,m6,m7,m8,m9⟩:=m;simp only at C;subst C;unfold AH Sv.sv Msg.sv En.sv Ls.sv iB iE ey at*;rw[ccU 53];simp only[go_sem,simprocAttr,g1,up 114,g2,up 69,g3,up 119,g0,up 117]
   |false=>
    obtain⟨ct,a6,z,b3,b5⟩:=hs.c;obtain⟨Z,z1,z2,g4⟩:=xfd ct z s.k;have hZ:ww Z:=⟨by have:=z.nm;omega,fun x hx=>(z.m x (z2 x hx)).1⟩;obtain⟨er,x1,rs,x3,b0,g5⟩:=HA m.em m.A m.S m.L e us m.no Z hm.A hm.L (by have:=hm.no;omega) eq eu b1 hZ
    by_cases a8:er=0
    ·subst a8
     obtain⟨G,y1,y2,g6⟩:=xiA Z hZ rs b0;have hG:okG G:=⟨by omega,fun b K=>by have:=y2 b K;omega⟩;have Q:=xiB s.l m.mc s.k G (by have:=hs.wf.len;omega) (by have:=hs.wf.len2;omega);have F:Iv (n+1) {s with nx:=s.nx,O:=jm y,l:=(ft s.l m.mc s.k G).1}:=J.lea _ (Jj s.l hs.wf m.mc s.k G hG) Ci (fun x hx=> .inl (Cj x hx));obtain⟨l,hS,hl,b4⟩:=hs.s;obtain⟨L',t',b2,ht,k1⟩:=l53 H {s with nx:=s.nx,O:=jm y,l:=(ft s.l m.mc s.k G).1} l hS hl (by omega) e ea ep m m.mc (ah.wrap (s.k+64)) s.key s.nx y 0 x1 x3 rs _ 0 rfl (aC _) [] .clip [] (.inl ⟨rfl,rfl,rfl⟩) (aC _);refine⟨_,⟨4,m.mc,ah.wrap (s.k+64),[],0,[],[],[],L'⟩,F,(fun h=>by cases h), ?_⟩;clear F J hs K h1 hl hm hZ z z2 hG y2 eu;unfold zSv zMs oMs at k1;rw[ak]at k1;obtain⟨c1,c2,c3,c4⟩:=a6;unfold Ct.sv at g4;rw[<-c1,<-c2,<-c3,<-c4]at g4;unfold MZ gZ at Q;rw[show G.map pJ=bys G from rfl]at Q;generalize (ft s.l m.mc s.k G).1=LL at*;generalize (ft s.l m.mc s.k G).2=ee at*;generalize fg Z=ZZ at*;generalize bys G=GG at*;obtain⟨k,A,t0,M,W,key,nx,O',l0,E,S⟩:=s;simp only at I;subst I;obtain⟨m1,m2,m3,m4,m5,m6,m7,m8,m9⟩:=m;simp only at C;subst C;simp only at k1;unfold Sv.sv Msg.sv En.sv at*;unfold Ls.sv iB iE at*;unfold ey at*;rw[ccU 53];rcases ht with⟨rfl,rfl,rfl⟩|⟨rfl,rfl⟩
     ·simp only[go_sem,simprocAttr,g1,up 114,g2,up 69,g3,up 119,g4,up 120,g5,g6,up 124,Q,up 123,k1]
     ·simp only[go_sem,simprocAttr,g1,up 114,g2,up 69,g3,up 119,g4,up 120,g5,g6,up 124,Q,up 123,k1]
    ·have g0:=Kj m.mc er
     by_cases hq:er=41\/er=47
     ·have Q:=xiC s.l m.mc er s.k (by have:=hs.wf.len2;omega) (by have:=hs.wf.len;omega)
      have F:Iv (n+1) {s with nx:=s.nx,O:=jm y,l:=ki s.l m.mc er s.k}:=J.lea _ (S3 s.l hs.wf m.mc er s.k) (fun x hx=> .inl (Jg x hx)) (fun x hx=>by
       rcases Jh x hx with h|h
       ·exact .inl h
       ·right;rw[h];omega)
      refine⟨_,⟨5,m.mc,er,[],0,[],[],[],[]⟩,F,(fun h=>by cases h), ?_⟩;rw[<-jT];clear F J hs K h1 hm hZ z z2 eu;obtain⟨c1,c2,c3,c4⟩:=a6;unfold Ct.sv at g4;rw[<-c1,<-c2,<-c3,<-c4]at g4;generalize ki s.l m.mc er s.k=LL at*;generalize fg Z=ZZ at*;obtain⟨k,A,t0,M,W,key,nx,O',l0,E,S⟩:=s;simp only at I;subst I;obtain⟨m1,m2,m3,m4,m5,m6,m7,m8,m9⟩:=m;simp only at C;subst C;unfold AH at*;unfold Sv.sv Msg.sv En.sv at*;unfold Ls.sv iB iE at*;unfold ey at*;rw[ccU 53]
      by_cases a7:er=41
      ·subst a7
       simp only[go_sem,simprocAttr,g1,up 114,g2,up 69,g3,up 119,g4,up 120,g5,Q,up 122,g0,up 117]
      ·have a1:er=47:=by omega
       subst a1;simp only[go_sem,simprocAttr,g1,up 114,g2,up 69,g3,up 119,g4,up 120,g5,Q,up 122,g0,up 117]
     ·refine⟨{s with nx:=s.nx,O:=jm y},⟨5,m.mc,er,[],0,[],[],[],[]⟩,J,(fun h=>by cases h), ?_⟩
      rw[<-jT];have a7:¬er=41:=fun h=>hq (.inl h)
      have a1:¬er=47:=fun h=>hq (.inr h)
      clear J hs K h1 hm hZ z z2 eu;obtain⟨c1,c2,c3,c4⟩:=a6;unfold Ct.sv at g4;rw[<-c1,<-c2,<-c3,<-c4]at g4;generalize fg Z=ZZ at*;obtain⟨k,A,t0,M,W,key,nx,O',l0,E,S⟩:=s;simp only at I;subst I;obtain⟨m1,m2,m3,m4,m5,m6,m7,m8,m9⟩:=m;simp only at C;subst C;unfold AH at*;unfold Sv.sv Msg.sv En.sv at*;unfold Ls.sv iB iE at*;unfold ey at*;rw[ccU 53];simp only[go_sem,simprocAttr,g1,up 114,g2,up 69,g3,up 119,g4,up 120,g5,a8,a7,a1,g0,up 117]
  ·have g0:=Kj m.mc c
   refine⟨{s with nx:=s.nx,O:=jm y},⟨5,m.mc,c,[],0,[],[],[],[]⟩,J,(fun h=>by cases h), ?_⟩;rw[<-jT];clear hs K h1 J;obtain⟨k,A,t0,M,W,key,nx,O',l0,E,S⟩:=s;simp only at I;subst I;obtain⟨m1,m2,m3,m4,m5,m6,m7,m8,m9⟩:=m;simp only at C;subst C;unfold AH Sv.sv Msg.sv En.sv Ls.sv iB iE ey at*;rw[ccU 53];simp only[go_sem,simprocAttr,g1,up 114,g2,up 69,g3,up 119,hc,g0,up 117]
theorem f53(H:uW)(I:Ng)(n:Nat)(s:Sv)(hs:Iv n s)(F:n<=20)(m:Msg)(y:nS m):
 ∃(C:Sv)(z:Msg),Iv (n+1) C/\(z.kd=2->z.no.length<=32)/\call U 53 [.agg s.sv,.agg m.sv] [] 0=okV (.tup [.agg C.sv,.agg z.sv]):=by
 rcases y.kd with h|h
 ·exact xhE n s hs F m y h
 ·exact xhD H I n s hs F m y h
theorem H8:∀(l:List Ent)(B:t8),(∀x∈l,x.name.length<=12/\x.dig.length<=32)->(l.foldl rj B).length<=B.length+l.length*60
 |[],B,_=>by simp
 |x::r,B,h=>by
  rw[kf,ai];have h1:=H8 r (rj B x) (fun y z=>h y (an _ z));obtain⟨a,c⟩:=h x aD
  have h2:(rj B x).length<=B.length+60:=by unfold rj;rw[af,af,eW,af,eZ,eZ];omega
  rw[bW];omega
theorem H7:∀(l:List Rul)(B:t8),(∀x∈l,x.text.length<=32)->(l.foldl qh B).length<=B.length+l.length*60
 |[],B,_=>by simp
 |x::r,B,h=>by
  rw[kf,ai];have h1:=H7 r (qh B x) (fun y z=>h y (an _ z));have h3:=h x aD
  have h2:(qh B x).length<=B.length+60:=by unfold qh;rw[af,af,eW,af,eZ,eZ,eZ];omega
  rw[bW];omega
theorem xbo{k:Int}{t:t8}{lo hi:Int}(h:chk k t lo hi=0):t.length<=32:=by
 unfold chk at h
 repeat' split at h
 all_goals first
  |(exfalso;omega)
  |(rename_i e;subst e;exact aC _)
  |omega
  |(simp_all;done)
theorem HE:∀{l:List Rul},oD l=0->∀x∈l,x.text.length<=32
 |r::t,h,x,hx=>by
  unfold oD at h;split at h
  ·rename_i h0
   rcases aq.1 hx with rfl|hx
   ·exact xbo h0
   ·exact HE h x hx
  ·rename_i h0
   exact absurd h h0
theorem HT{s:t8}(h:Pr.nameB s=true):s.length<=12:=by
 unfold Pr.nameB at h;split at h
 ·cases h
 ·omega
theorem XR{l:List Ent}{i:Nat}(h:uM l i=0):(l.getD i en0).name.length<=12/\(l.getD i en0).dig.length<=32:=by
 unfold uM at h
 repeat' split at h
 all_goals first
  |(exfalso;omega)
  |(refine⟨HT (by assumption),by omega⟩)
theorem Ic{l:List Ent}:∀{n i:Nat},lK l n i=0->∀j,i<=j->j<i+n->(l.getD j en0).name.length<=12/\(l.getD j en0).dig.length<=32
 |0,i,_,j,h1,h2=>by omega
 |n+1,i,h,j,h1,h2=>by
  unfold lK at h;split at h
  ·rename_i h0
   by_cases e:j=i
   ·rw[e];exact XR h0
   ·exact Ic h j (by omega) (by omega)
  ·rename_i h0
   exact absurd h h0
theorem M1(m:Man):(nu m).length<=10000:=by
 unfold nu
 by_cases hv:pD m=0
 ·rw[if_pos hv]
  obtain⟨h16,F⟩:=pU hv;unfold pD at hv
  repeat' split at hv
  all_goals first|(exfalso;omega)|skip
  rename_i z _ _ _ _ _ _ _ _ y
  have h1:=H8 m.ents (hdM m) (fun x C=>by obtain⟨i,hi,rfl⟩:=cr C;have:=Ic y i (aC _) (by omega);rwa[db hi]at this)
  have h2:=H7 m.ruls (m.ents.foldl rj (hdM m)++bu 1 (m.ruls.length:Int)) (HE hv)
  have h3:(hdM m).length<=1000:=by have:=HT z;unfold hdM;simp only[af,eW,eZ,al];omega
  rw[af,eZ]at h2;omega
 ·rw[if_neg hv];exact aC _
def b22:RC:=z22.1
def kQ:RC:=match b22 with| .seq _ (.seq _ (.seq _ (.seq _ t)))=>t|c=>c
def ke:RC:=match kQ with| .seq a _=>a|c=>c
def ox:RC:=match kQ with| .seq _ t=>t|c=>c
theorem Qr:kQ= .seq ke ox:=rfl
structure Inp where
 kd:Int
 m:Msg
 B:List UInt8
 ms:List Mk
 n:Int
def Inp.sv(x:Inp):LAa:=iV x.kd::(x.m.sv++ [bN x.B,.lst 2 (jy x.ms) .no,iV x.n])
def zIn:aG:= .rc [iV 0,iV 0,iV 0,iV 0,.byt [] .clip,iV 0,.byt [] .clip,.byt [] .clip,.byt [] .clip,.lst 8 [] .clip,.byt [] .clip,.lst 2 [] .clip,iV 0]
def mO(m:Msg)(a b c:Tok):aG:= .rc [iV m.kd,iV m.mc,iV m.n,.byt m.no a,iV m.em,.byt m.A b,.byt m.S b,.byt m.L b,.lst 8 m.bo c]
def mOk(m:Msg)(a b c:Tok):Prop:=(a= .no/\b= .no/\c= .no)\/(a= .no/\b= .no/\c= .clip/\m.bo=[])\/(a= .clip/\b= .clip/\c= .clip/\m.bo=[]/\m.no=[]/\m.A=[]/\m.S=[]/\m.L=[])
def Tk.add(t:Tk)(m:Msg):Tk:= {t with st:=t.st++ [m]}
theorem SJ(t:Tk)(hs:t.st.length<=1000)(K:Nat)(y:K=50\/K=46060\/K=82060\/K=96060)(B:t8)(j:Nat)(m:Msg)(a b c:Tok)(h:mOk m a b c):
 my F22 2 (run U ox ⟨[(0,.ptr 0 0),(4,.ptr 104 0),(6,.ptr 106 0)],[(0,t.obT (.id K)),(1,.rc [bN B,iV j]),(104,zIn),(106,mO m a b c)],[K]⟩)=
  some ⟨.agg (Inp.sv ⟨0,m,[],[],0⟩),[(0,(t.add m).oc),(1,.rc [bN B,iV j])],[60]⟩:=by
 have hv:=tO t.st;have h1:(t.st.length+1)*152<=140737488355328:=by omega
 have h2:yD (t.st++ [m])=yD t.st++ [m.sv]:=by simp[yD]
 have e:ox=ox:=rfl
 conv at e=>rhs;unfold ox kQ b22 z22
 simp only at e;rw[e];unfold Tk.add Tk.oc Tk.obT Inp.sv;simp only;rw[h2,show jy []=[]from rfl];obtain⟨m1,F,m3,m4,H,z,C,m8,I⟩:=m;unfold zIn mO Msg.sv;rcases h with⟨rfl,rfl,rfl⟩|⟨rfl,rfl,rfl,x1⟩|⟨rfl,rfl,rfl,x1,x2,x3,x4,x5⟩
 ·rcases y with rfl|rfl|rfl|rfl<;>simp only[go_sem,simprocAttr,hv,h1]
 ·simp only at x1
  subst x1;rcases y with rfl|rfl|rfl|rfl<;>simp only[go_sem,simprocAttr,hv,h1]
 ·simp only at x1 x2 x3 x4 x5
  subst x1 x2 x3 x4 x5;rcases y with rfl|rfl|rfl|rfl<;>simp only[go_sem,simprocAttr,hv,h1]
def Tk.rt(t:Tk):Man:=⟨[97,99,109,101],2,0,0,mT,t.es,[⟨1,[],0,0⟩]⟩
theorem Tk.rt_bd{t:Tk}(h:lk t):gg t.rt:=⟨by show [97,99,109,101].length<=_;decide,by show t.es.length<=_;have:=h.el;omega,by show [_].length<=_;decide,h.es,by intro x y;rw[bC.1 y];exact aC _⟩
theorem c1c:((1:Nat):Int)=1:=rfl
theorem c2c:((2:Nat):Int)=2:=rfl
theorem c3c:((3:Nat):Int)=3:=rfl
theorem f19(H:uW)(t:Tk)(ht:lk t):∃s,Iv 0 s/\call U 19 [.ptr 0 0] [t.ob] 1=some ⟨.agg (Sv.sv s),[(0,t.oc)],[60]⟩:=by
 have g1:=f46;obtain⟨au,th,e,g2⟩:=f45 ⟨[⟨3,AJ (mW 3) 1⟩],1⟩;have g3:=f48 t.rt (Tk.rt_bd ht);have hB:=M1 t.rt;have g4:=f29 (nu t.rt) (by omega) 1;have b6:=tI 1 (nu t.rt);obtain⟨c,e2,Z,g5⟩:=f47 ⟨au,th,[],[]⟩ ⟨fun x z=>(by cases z),fun x z=>(by cases z),cP rfl,cP rfl⟩ (cP rfl) (cP rfl) (nu t.rt) (Az 1 (nu t.rt));have g6:=f31 [100,101,115,107];have hK:=pO [100,101,115,107];have g7:=f49 c (oB [100,101,115,107]) hK;generalize oB [100,101,115,107]=K at*;obtain⟨s0,I⟩:∃s0:Sv,s0=⟨0,nR c.au,c.th,fg c.ms,jw c.ws,K,1,[],⟨[],[]⟩,[],[]⟩:=⟨_,rfl⟩;rw[<-I]at g7;have a6:s0.E=[]:=by rw[I]
 have a1:=f51 1 3 (by decide);have a2:=f51 2 2 (by decide);have a3:=f51 3 3 (by decide);rw[c1c]at a1;rw[c2c]at a2;rw[c3c]at a3;have b1:=f50 s0 (enN 1 3) (by decide) (by decide) (.inr rfl) rfl (by rw[a6];intro x z;cases z) (by rw[a6];decide);obtain⟨s1,Q⟩:∃s1:Sv,s1= {s0 with E:=s0.E++ [enN 1 3]}:=⟨_,rfl⟩;rw[<-Q]at b1;have a7:s1.E=[enN 1 3]:=by rw[Q,a6];rfl
 have b2:=f50 s1 (enN 2 2) (by decide) (by decide) (.inl rfl) rfl (by rw[a7];intro x z;rw[bC.1 z];decide) (by rw[a7];decide);obtain⟨s2,F⟩:∃s2:Sv,s2= {s1 with E:=s1.E++ [enN 2 2]}:=⟨_,rfl⟩;rw[<-F]at b2;have a8:s2.E=[enN 1 3,enN 2 2]:=by rw[F,a7];rfl
 have b3:=f50 s2 (enN 3 3) (by decide) (by decide) (.inr rfl) rfl (by
  rw[a8];intro x z;rcases aq.1 z with rfl|z
  ·decide
  ·rw[bC.1 z];decide) (by rw[a8];exact cP rfl)
 obtain⟨s3,hs3⟩:∃s3:Sv,s3= {s2 with E:=s2.E++ [enN 3 3]}:=⟨_,rfl⟩;rw[<-hs3]at b3;have C:s3.E=EE:=by rw[hs3,a8];rfl
 have b4:∀e∈s3.E,ir e.a/\e.p2.length<=64:=by rw[C];intro e he;exact⟨(Qb he).1,(Qb he).2.1⟩
 have z:∀c∈ [t.ch],dZ c:=by intro c Z;rw[bC.1 Z];exact ht.ch
 have b5:∀c∈ [t.ch,t.ch],dZ c:=by
  intro c Z;rcases aq.1 Z with rfl|Z
  ·exact ht.ch
  ·rw[bC.1 Z];exact ht.ch
 obtain⟨l1,d1,p1,p2,g8⟩:=f52 H s3 [] (by rw[hs3,F,Q,I];rfl) (fun y hy=>by cases hy) (cP rfl) (by rw[C];decide) b4 ⟨1,2,[116,119,111],[t.ch]⟩ ⟨cP rfl,z,cP rfl,cP rfl⟩;obtain⟨s4,J⟩:∃s4:Sv,s4= {s3 with S:=iz l1}:=⟨_,rfl⟩;rw[<-J]at g8;have b0:s4.E=EE:=by rw[J];exact C
 obtain⟨l2,d2,p3,p4,g9⟩:=f52 H s4 l1 (by rw[J]) p1 (by simp at p2;omega) (by rw[b0];decide) (by rw[b0,<-C];exact b4) ⟨1,1,[111,110,101],[t.ch,t.ch]⟩ ⟨cP rfl,b5,cP rfl,cP rfl⟩;refine⟨{s4 with S:=iz l2}, ?_, ?_⟩
 ·have hl:=p2
  have hm:=Z.m;have hw:=Z.w;simp only[al]at hl hm hw;refine⟨⟨c,⟨?_, ?_, ?_, ?_⟩,Z.bd,by omega,by omega⟩, ?_, ?_, ?_, ?_, ?_, ?_,⟨[], ?_,by decide⟩,b0,⟨l2,rfl,p3,by omega⟩⟩<;>simp only[J,hs3,F,Q,I]
  ·exact WF.nil
  ·exact Int.le_refl _
  ·decide
  ·intro x z;cases z
  ·intro x z;cases z
  ·exact hK
  ·rfl
 ·generalize ({s4 with S:=iz l2}:Sv)=s5 at*
  clear J hs3 F Q I a6 a7 a8 C b0 b4 z b5 b6 hB p1 p2 p3 p4 Z;unfold Tk.rt Man.sv at g3;simp only[jS,Rul.sv,ax,aK]at g3;rw[show(nu ⟨[97,99,109,101],2,0,0,mT,t.es,[⟨1,[],0,0⟩]⟩)=nu t.rt from rfl]at g3;generalize nu t.rt=BB at*;generalize Az 1 BB=MM at*;generalize enN 1 3=E1 at*;generalize enN 2 2=E2 at*;generalize enN 3 3=E3 at*;have k1:ah.wrap 1=1:=rfl;have k2:ah.wrap 2=2:=rfl;have k3:ah.wrap 3=3:=rfl;have k4:ah.wrap 4=4:=rfl;have m1:Int.tmod 1 2=1:=rfl;have m2:Int.tmod 2 2=0:=rfl;have m3:Int.tmod 3 2=1:=rfl;unfold eK at*;simp only[Sc.sv,chs,ax,aK]at g8 g9;simp only[Tr.sv,nR,Au.sv,ax,aK]at g1 g2;unfold Ct.sv at*;unfold Sv.sv En.sv Tk.ob Tk.oc Tk.obT at*;rw[show jw []=[]from rfl,show fg []=[]from rfl]at*;rw[ccU 19];simp only[go_sem,simprocAttr,g1,up 46,g2,up 45,g3,up 48,g4,up 29,g5,up 47,g6,up 31,g7,up 49];rw[ab];simp only[go_sem,simprocAttr,a1,up 51,b1,up 50,k2,k3,m1];rw[ab];simp only[go_sem,simprocAttr,a2,up 51,b2,up 50,k2,k3,m2];rw[ab];simp only[go_sem,simprocAttr,a3,up 51,b3,up 50,k3,k4,m3];rw[ab];simp only[go_sem,simprocAttr,g8,g9]
def ln(t:Tk)(B:t8)(j:Nat)(m:Int):CSt:=⟨[(0,.ptr 0 0),(1,.ptr 1 0),(4,.ptr 104 0),(5,iV m),(6,.ptr 106 0)],[(0,t.ob),(1,.rc [bN B,iV j]),(104,zIn),(106,mO ⟨1,m,0,[],0,[],[],[],[]⟩ .clip .clip .clip)],[50]⟩
theorem gA(c:CSt):run U kQ c=sq (run U) ox (run U ke c):=by rw[Qr,HC]
structure CC(x:Inp):Prop where
 k:x.kd=0\/x.kd=1\/x.kd=2\/x.kd=3
 m:x.kd=0->nS x.m
 n:x.kd=1->1<=x.n/\x.n<=40
 B:x.B.length<=1000000
 ms:x.ms.length<=1000000
def mP(t:Tk)(B:t8)(r:Option eI):Prop:=∃(y:Tk)(x:Inp)(j:Nat),lk y/\CC x/\y.st.length<=t.st.length+1/\r=some ⟨.agg x.sv,[(0,y.oc),(1,.rc [bN B,iV j])],[60]⟩
theorem S0{m:Msg}(h:nS m):CC ⟨0,m,[],[],0⟩:=⟨.inl rfl,fun _=>h,(fun h=>by cases h),aC _,aC _⟩
theorem Tk.add_ok{t:Tk}(h:lk t){m:Msg}(z:nS m):lk (t.add m):=⟨h.ch,h.es,h.el,h.h0,h.h1,h.h2,h.h3,h.h4,fun x y=>by
 rcases am.1 y with y|y
 ·exact h.st x y
 ·rw[bC.1 y];exact z⟩
theorem Tk.add_len(t:Tk)(m:Msg):(t.add m).st.length<=t.st.length+1:=by show(t.st++ [m]).length<=_;rw[af,aT];exact aM _
theorem ng{t:Tk}(h:lk t){m:Msg}(y:nS m){B:t8}{j:Nat}{r:Option eI}(z:r=some ⟨.agg (Inp.sv ⟨0,m,[],[],0⟩),[(0,(t.add m).oc),(1,.rc [bN B,iV j])],[60]⟩):mP t B r:=
 ⟨t.add m,_,j,Tk.add_ok h y,S0 y,t.add_len m,z⟩
theorem MR(m:Int)(h1:1<=m)(h4:m<=4):nS ⟨1,m,0,[],0,[],[],[],[]⟩:=⟨aC _,aC _,aC _,h1,h4,.inl rfl⟩
theorem xhl(t:Tk)(z:lk t)(hs:t.st.length<=1000)(B:t8)(C:B.length<=1000)(j:Nat)(m:Int)(h1:1<=m)(h4:m<=4)(v y:Nat)(hv:v<=2)(g:call T 15 [.ptr 0 0,iV 12] [.rc [bN B,iV j]] 0=some ⟨iV v,[(0,.rc [bN B,iV y])],[]⟩):
 mP t B (my F22 2 (run U kQ (ln t B j m))):=by
 refine ng (j:=y) z (MR m h1 h4) ?_;rw[<-SJ t hs 50 (.inl rfl) B y ⟨1,m,0,[],0,[],[],[],[]⟩ .clip .clip .clip (.inr (.inr ⟨rfl,rfl,rfl,rfl,rfl,rfl,rfl,rfl⟩))];rw[gA];have e:ke=ke:=rfl
 conv at e=>rhs;unfold ke kQ b22 z22
 simp only at e;rw[e];unfold ln zIn mO Tk.ob Tk.obT
 match v,hv with
 |0,_=>simp only[go_sem,simprocAttr,g,up 15,aN]
 |1,_=>simp only[go_sem,simprocAttr,g,up 15,show((1:Nat):Int)=1 from rfl]
 |2,_=>simp only[go_sem,simprocAttr,g,up 15,aN]
def Tk.nn(t:Tk)(m:Nat):t8:=if m=1 then t.n1 else if m=2 then t.n2 else if m=3 then t.n3 else t.n4
theorem Tk.nn_len{t:Tk}(h:lk t)(m:Nat):(t.nn m).length<=32:=by
 unfold Tk.nn
 repeat' split
 ·exact h.h1
 ·exact h.h2
 ·exact h.h3
 ·exact h.h4
theorem NQ(m:Nat)(h1:1<=m)(h4:m<=4){N:t8}(z:N.length<=32){em:Int}{A S L:t8}(C:A.length<=1000000)(y:L.length<=100000):nS ⟨3,m,0,N,em,A,S,L,[]⟩:=⟨z,C,y,by show(1:Int)<=m;omega,by show(m:Int)<=4;omega,.inr rfl⟩
def acO(m:Nat):Int:=if m=1 then 3 else if m=2 then 2 else if m=3 then 3 else 2
theorem uV(m:Nat):ir (acO m):=by
 unfold acO ir
 repeat' split
 all_goals simp
theorem xhk(H:yO)(t:Tk)(y:lk t)(hs:t.st.length<=1000)(B:t8)(Z:B.length<=1000)(j:Nat)(m:Nat)(h1:1<=m)(h4:m<=4)(v C:Nat)(hv:v=3\/v=4\/v=5)(g:call T 15 [.ptr 0 0,iV 12] [.rc [bN B,iV j]] 0=some ⟨iV v,[(0,.rc [bN B,iV C])],[]⟩):
 mP t B (my F22 2 (run U kQ (ln t B j m))):=by
 obtain⟨r,I,hr,z⟩:=nxe B Z 3 3 rfl (by decide) C
 have g3:=f58 t y m r (acO m) (by
  have:m=1\/m=2\/m=3\/m=4:=by omega
  rcases this with rfl|rfl|rfl|rfl<;>rfl) (uV m)
 have J:=Hi t.ch (acO m) y.ch;obtain⟨A,S,L,hA,K,hL,g4⟩:=f57 H (acO m) r (evF t.ch (acO m)) (by omega) m (by omega) (t.nn m) (by have:=Tk.nn_len y m;omega);refine ng (j:=I) y (NQ m h1 h4 (Tk.nn_len y m) (em:=m) (A:=A) (S:=S) (L:=L) (by omega) (by omega)) ?_;have F:=SJ t hs 46060 (.inr (.inl rfl)) B I ⟨3,m,0,t.nn m,m,A,S,L,[]⟩ .no .no .clip (.inr (.inl ⟨rfl,rfl,rfl,rfl⟩));rw[<-F];clear F J hA K hL;generalize evF t.ch (acO m)=ev at*;rw[gA];have e:ke=ke:=rfl
 conv at e=>rhs;unfold ke kQ b22 z22
 simp only at e;rw[e];have Q:m=1\/m=2\/m=3\/m=4:=by omega
 unfold ln zIn mO;unfold Tk.ob Tk.oc Tk.obT at*;unfold bL evd at*;rcases Q with rfl|rfl|rfl|rfl
 ·rw[show acO 1=3 from rfl,show((1:Nat):Int)=1 from rfl]at g3
  rw[show acO 1=3 from rfl,show t.nn 1=t.n1 from rfl,show((1:Nat):Int)=1 from rfl]at g4;rw[show t.nn 1=t.n1 from rfl,show((1:Nat):Int)=1 from rfl];rcases hv with rfl|rfl|rfl<;>simp only[go_sem,simprocAttr,g,up 15,z,g3,up 58,g4,aN]
 ·rw[show acO 2=2 from rfl,show((2:Nat):Int)=2 from rfl]at g3
  rw[show acO 2=2 from rfl,show t.nn 2=t.n2 from rfl,show((2:Nat):Int)=2 from rfl]at g4;rw[show t.nn 2=t.n2 from rfl,show((2:Nat):Int)=2 from rfl];rcases hv with rfl|rfl|rfl<;>simp only[go_sem,simprocAttr,g,up 15,z,g3,up 58,g4,aN]
 ·rw[show acO 3=3 from rfl,show((3:Nat):Int)=3 from rfl]at g3
  rw[show acO 3=3 from rfl,show t.nn 3=t.n3 from rfl,show((3:Nat):Int)=3 from rfl]at g4;rw[show t.nn 3=t.n3 from rfl,show((3:Nat):Int)=3 from rfl];rcases hv with rfl|rfl|rfl<;>simp only[go_sem,simprocAttr,g,up 15,z,g3,up 58,g4,aN]
 ·rw[show acO 4=2 from rfl,show((4:Nat):Int)=4 from rfl]at g3
  rw[show acO 4=2 from rfl,show t.nn 4=t.n4 from rfl,show((4:Nat):Int)=4 from rfl]at g4;rw[show t.nn 4=t.n4 from rfl,show((4:Nat):Int)=4 from rfl];rcases hv with rfl|rfl|rfl<;>simp only[go_sem,simprocAttr,g,up 15,z,g3,up 58,g4,aN]
theorem xhj(H:yO)(t:Tk)(I:lk t)(hs:t.st.length<=1000)(B:t8)(hB:B.length<=1000)(j:Nat)(m:Nat)(h1:1<=m)(h4:m<=4)(F:Nat)(g:call T 15 [.ptr 0 0,iV 12] [.rc [bN B,iV j]] 0=some ⟨iV 6,[(0,.rc [bN B,iV F])],[]⟩):
 mP t B (my F22 2 (run U kQ (ln t B j m))):=by
 have g3:=f58 t I m 1 (acO m) (by
  have:m=1\/m=2\/m=3\/m=4:=by omega
  rcases this with rfl|rfl|rfl|rfl<;>rfl) (uV m)
 have J:=Hi t.ch (acO m) I.ch
 obtain⟨x,a1,z⟩:∃x:Nat,x<=B.length/\(if B.length<F then(B.length:Int)else(F:Int))=(x:Int):=by
  by_cases h:F<=B.length
  ·exact⟨F,h,by rw[if_neg (by omega)]⟩
  ·exact⟨B.length,aM _,by rw[if_pos (by omega)]⟩
 have C:B.take B.length=B:=cG;have y:(x:Int)<=(B.length:Int):=by omega
 obtain⟨em,A,S,L,Z,hL,g4⟩:=f59 H (B.drop x) (acO m) 1 (uV m) (evF t.ch (acO m)) J m (by omega) (t.nn m) (by have:=Tk.nn_len I m;omega);refine ng (j:=F) I (NQ m h1 h4 (Tk.nn_len I m) (em:=em) (A:=A) (S:=S) (L:=L) (by omega) (by omega)) ?_;have K:=SJ t hs 82060 (.inr (.inr (.inl rfl))) B F ⟨3,m,0,t.nn m,em,A,S,L,[]⟩ .no .no .clip (.inr (.inl ⟨rfl,rfl,rfl,rfl⟩));rw[<-K];clear K J Z hL;generalize evF t.ch (acO m)=ev at*;rw[gA];have e:ke=ke:=rfl
 conv at e=>rhs;unfold ke kQ b22 z22
 simp only at e;rw[e];have Q:m=1\/m=2\/m=3\/m=4:=by omega
 unfold ln zIn mO;unfold Tk.ob Tk.oc Tk.obT at*;unfold bL at*;rcases Q with rfl|rfl|rfl|rfl
 ·rw[show acO 1=3 from rfl,show((1:Nat):Int)=1 from rfl]at g3
  rw[show acO 1=3 from rfl,show t.nn 1=t.n1 from rfl,show((1:Nat):Int)=1 from rfl]at g4;rw[show t.nn 1=t.n1 from rfl,show((1:Nat):Int)=1 from rfl];simp only[go_sem,simprocAttr,g,up 15,g3,up 58,z,y,C,g4]
 ·rw[show acO 2=2 from rfl,show((2:Nat):Int)=2 from rfl]at g3
  rw[show acO 2=2 from rfl,show t.nn 2=t.n2 from rfl,show((2:Nat):Int)=2 from rfl]at g4;rw[show t.nn 2=t.n2 from rfl,show((2:Nat):Int)=2 from rfl];simp only[go_sem,simprocAttr,g,up 15,g3,up 58,z,y,C,g4]
 ·rw[show acO 3=3 from rfl,show((3:Nat):Int)=3 from rfl]at g3
  rw[show acO 3=3 from rfl,show t.nn 3=t.n3 from rfl,show((3:Nat):Int)=3 from rfl]at g4;rw[show t.nn 3=t.n3 from rfl,show((3:Nat):Int)=3 from rfl];simp only[go_sem,simprocAttr,g,up 15,g3,up 58,z,y,C,g4]
 ·rw[show acO 4=2 from rfl,show((4:Nat):Int)=4 from rfl]at g3
  rw[show acO 4=2 from rfl,show t.nn 4=t.n4 from rfl,show((4:Nat):Int)=4 from rfl]at g4;rw[show t.nn 4=t.n4 from rfl,show((4:Nat):Int)=4 from rfl];simp only[go_sem,simprocAttr,g,up 15,g3,up 58,z,y,C,g4]
theorem Tm(l:List Img)(a:Int):8<=(evF l a).length:=by have y:=oA a 8 0;unfold evF;simp only[af];omega
theorem xgI(t:Tk)(hs:t.st.length<=1000)(B:t8)(j:Nat)(m:Msg)(y:m.bo=[])(a r:Int)(l:f9):
 my F22 2 (run U ox ⟨[(0,.ptr 0 0),(4,.ptr 104 0),(6,.ptr 106 0)],[(0,t.obT (.id 96060)),(1,.rc [bN B,iV j]),(104,zIn),(106,mO m .no .no .clip),(107,.rc [iV a,iV r,.lst 4 l (.id 217)])],[217,96060]⟩)=
  some ⟨.agg (Inp.sv ⟨0,m,[],[],0⟩),[(0,(t.add m).oc),(1,.rc [bN B,iV j])],[60]⟩:=by
 have hv:=tO t.st;have h1:(t.st.length+1)*152<=140737488355328:=by omega
 have h2:yD (t.st++ [m])=yD t.st++ [m.sv]:=by simp[yD]
 have e:ox=ox:=rfl
 conv at e=>rhs;unfold ox kQ b22 z22
 simp only at e;rw[e];unfold Tk.add Tk.oc Tk.obT Inp.sv;simp only;rw[h2,show jy []=[]from rfl];obtain⟨m1,F,m3,m4,H,z,C,m8,I⟩:=m;simp only at y;subst y;unfold zIn mO Msg.sv;simp only[go_sem,simprocAttr,hv,h1]
theorem xhi(H:yO)(t:Tk)(F:lk t)(hs:t.st.length<=1000)(B:t8)(hB:B.length<=1000)(j:Nat)(m:Nat)(h1:1<=m)(h4:m<=4)(j1:Nat)(g:call T 15 [.ptr 0 0,iV 12] [.rc [bN B,iV j]] 0=some ⟨iV 7,[(0,.rc [bN B,iV j1])],[]⟩):
 mP t B (my F22 2 (run U kQ (ln t B j m))):=by
 have g3:=f58 t F m 1 (acO m) (by
  have:m=1\/m=2\/m=3\/m=4:=by omega
  rcases this with rfl|rfl|rfl|rfl<;>rfl) (uV m)
 have hl:=Hi t.ch (acO m) F.ch;have hp:=Tm t.ch (acO m);obtain⟨k,j2,hk,I⟩:=nxe B hB (evF t.ch (acO m)).length ((evF t.ch (acO m)).length:Int) rfl (by omega) j1;obtain⟨e,j3,he,C⟩:=f60 B hB j2 (acO m) (uV m);unfold bE at C;generalize evF t.ch (acO m)=ev at*;have y:=cW ev;have J:(fA ev).take k=fA (ev.take k):=by simp[fA,gw]
 have q2:(fA ev).drop k=fA (ev.drop k):=by simp[fA,nz]
 have K:(fA ev).take ev.length=fA ev:=bp (by rw[y];exact aM _);have Q:=cW (ev.take k);have t2:=cW (ev.drop k);have t3:(ev.take k).length=k:=by rw[aw];omega
 have t4:(ev.drop k).length=ev.length-k:=aQ;have s0:k<=ev.length:=by omega
 have z:(k:Int)<=(ev.length:Int):=by omega
 have s1:k*64<=140737488355328:=by omega
 have s2:(k+1)*64<=140737488355328:=by omega
 have Z:(k+1+(ev.length-k))*64<=140737488355328:=by omega
 have r1:fA (ev.take k)++ [e.sv]++fA (ev.drop k)=fA (ev.take k++ [e]++ev.drop k):=by simp[fA]
 obtain⟨A,S,L,hA,hS,hL,g4⟩:=f57 H (acO m) 1 (ev.take k++ [e]++ev.drop k) (by rw[af,af,aT];omega) m (by omega) (t.nn m) (by have:=Tk.nn_len F m;omega);unfold bL at g4 g3;rw[<-r1]at g4;simp only[aI,aL,aA]at g4;refine ng (j:=j3) F (NQ m h1 h4 (Tk.nn_len F m) (em:=m) (A:=A) (S:=S) (L:=L) (by omega) (by omega)) ?_;have g5:=xgI t hs B j3 ⟨3,m,0,t.nn m,m,A,S,L,[]⟩ rfl (acO m) 1 (fA (ev.take k)++e.sv::fA (ev.drop k));rw[<-g5];clear g5 hA hS hL r1 he;rw[gA];have e0:ke=ke:=rfl
 conv at e0=>rhs;unfold ke kQ b22 z22
 simp only at e0;rw[e0];have h5:m=1\/m=2\/m=3\/m=4:=by omega
 unfold ln zIn mO;unfold Tk.ob Tk.oc Tk.obT at*;unfold evd Ev.sv at*;rcases h5 with rfl|rfl|rfl|rfl
 ·rw[show acO 1=3 from rfl,show((1:Nat):Int)=1 from rfl]at g3
  rw[show acO 1=3 from rfl,show t.nn 1=t.n1 from rfl,show((1:Nat):Int)=1 from rfl]at g4;rw[show acO 1=3 from rfl]at C;rw[show acO 1=3 from rfl,show t.nn 1=t.n1 from rfl,show((1:Nat):Int)=1 from rfl];simp only[go_sem,simprocAttr,g,up 15,g3,up 58,I,C,up 60,y,J,q2,K,Q,t2,t3,t4,z,s1,s2,Z,g4]
 ·rw[show acO 2=2 from rfl,show((2:Nat):Int)=2 from rfl]at g3
  rw[show acO 2=2 from rfl,show t.nn 2=t.n2 from rfl,show((2:Nat):Int)=2 from rfl]at g4;rw[show acO 2=2 from rfl]at C;rw[show acO 2=2 from rfl,show t.nn 2=t.n2 from rfl,show((2:Nat):Int)=2 from rfl];simp only[go_sem,simprocAttr,g,up 15,g3,up 58,I,C,up 60,y,J,q2,K,Q,t2,t3,t4,z,s1,s2,Z,g4]
 ·rw[show acO 3=3 from rfl,show((3:Nat):Int)=3 from rfl]at g3
  rw[show acO 3=3 from rfl,show t.nn 3=t.n3 from rfl,show((3:Nat):Int)=3 from rfl]at g4;rw[show acO 3=3 from rfl]at C;rw[show acO 3=3 from rfl,show t.nn 3=t.n3 from rfl,show((3:Nat):Int)=3 from rfl];simp only[go_sem,simprocAttr,g,up 15,g3,up 58,I,C,up 60,y,J,q2,K,Q,t2,t3,t4,z,s1,s2,Z,g4]
 ·rw[show acO 4=2 from rfl,show((4:Nat):Int)=4 from rfl]at g3
  rw[show acO 4=2 from rfl,show t.nn 4=t.n4 from rfl,show((4:Nat):Int)=4 from rfl]at g4;rw[show acO 4=2 from rfl]at C;rw[show acO 4=2 from rfl,show t.nn 4=t.n4 from rfl,show((4:Nat):Int)=4 from rfl];simp only[go_sem,simprocAttr,g,up 15,g3,up 58,I,C,up 60,y,J,q2,K,Q,t2,t3,t4,z,s1,s2,Z,g4]
theorem xhh(t:Tk)(F:lk t)(hs:t.st.length<=1000)(B:t8)(hB:B.length<=1000)(j:Nat)(m:Int)(h1:1<=m)(h4:m<=4)(C:Nat)(g:call T 15 [.ptr 0 0,iV 12] [.rc [bN B,iV j]] 0=some ⟨iV 8,[(0,.rc [bN B,iV C])],[]⟩):
 mP t B (my F22 2 (run U kQ (ln t B j m))):=by
 have hv:=tO t.st;have z:ke=ke:=rfl
 conv at z=>rhs;unfold ke kQ b22 z22
 simp only at z
 by_cases h0:t.st.length=0
 ·refine ng (j:=C) F (MR m h1 h4) ?_
  rw[<-SJ t hs 50 (.inl rfl) B C ⟨1,m,0,[],0,[],[],[],[]⟩ .clip .clip .clip (.inr (.inr ⟨rfl,rfl,rfl,rfl,rfl,rfl,rfl,rfl⟩))];rw[gA,z];have y:¬(0:Int)<(t.st.length:Int):=by omega
  unfold ln zIn mO Tk.ob Tk.obT;simp only[go_sem,simprocAttr,g,up 15,hv,y]
 ·obtain⟨k,K,H,Z⟩:=nxe B hB t.st.length (t.st.length:Int) rfl (by omega) C
  have Q:nS (t.st.getD k ms0):=by rw[db H];exact F.st _ (aF H)
  have J:=LB t.st k H;have I:(k:Int)<(t.st.length:Int):=by omega
  refine ng (j:=K) F Q ?_;rw[<-SJ t hs 50 (.inl rfl) B K (t.st.getD k ms0) .no .no .no (.inl ⟨rfl,rfl,rfl⟩)];rw[gA,z];generalize t.st.getD k ms0=x at*;have y:(0:Int)<(t.st.length:Int):=by omega
  unfold Msg.sv at J;unfold ln zIn mO Tk.ob Tk.obT;simp only[go_sem,simprocAttr,g,up 15,hv,y,Z,J,I]
theorem Ut(k n:Int)(y:k≠0)(h3:k=1\/k=3)(h:k=1->1<=n/\n<=40):CC ⟨k,ms0,[],[],n⟩:=⟨by show k=0\/k=1\/k=2\/k=3;omega,fun h=>absurd h y,h,aC _,aC _⟩
theorem oG{t:Tk}(h:lk t){x:Inp}(z:CC x){B:t8}{j:Nat}{r:Option eI}(y:r=some ⟨.agg x.sv,[(0,t.oc),(1,.rc [bN B,iV j])],[60]⟩):mP t B r:=
 ⟨t,x,j,h,z,fO _,y⟩
theorem xhg(t:Tk)(I:lk t)(B:t8)(H:B.length<=1000)(j:Nat)(m:Int)(h1:1<=m)(h4:m<=4)(z:Nat)(g:call T 15 [.ptr 0 0,iV 12] [.rc [bN B,iV j]] 0=some ⟨iV 9,[(0,.rc [bN B,iV z])],[]⟩):
 mP t B (my F22 2 (run U kQ (ln t B j m))):=by
 obtain⟨k,J,K,C⟩:=nxe B H 40 40 rfl (by decide) z;have y:ke=ke:=rfl
 conv at y=>rhs;unfold ke kQ b22 z22
 simp only at y;have F:ah.wrap (1+(k:Int))=1+(k:Int):=w64;refine oG I (Ut 1 (1+(k:Int)) (by decide) (.inl rfl) (fun _=>by omega)) (j:=J) ?_;rw[gA,y];unfold ln zIn mO Tk.ob Tk.oc Tk.obT Inp.sv ms0 Msg.sv;rw[show jy []=[]from rfl];simp only[go_sem,simprocAttr,g,up 15,C,F]
theorem xhf(t:Tk)(C:lk t)(B:t8)(F:B.length<=1000)(j:Nat)(m:Int)(h1:1<=m)(h4:m<=4)(z:Nat)(g:call T 15 [.ptr 0 0,iV 12] [.rc [bN B,iV j]] 0=some ⟨iV 11,[(0,.rc [bN B,iV z])],[]⟩):
 mP t B (my F22 2 (run U kQ (ln t B j m))):=by
 have y:ke=ke:=rfl
 conv at y=>rhs;unfold ke kQ b22 z22
 simp only at y;refine oG C (Ut 3 m (by decide) (.inr rfl) (fun h=>by cases h)) (j:=z) ?_;rw[gA,y];unfold ln zIn mO Tk.ob Tk.oc Tk.obT Inp.sv ms0 Msg.sv;rw[show jy []=[]from rfl];simp only[go_sem,simprocAttr,g,up 15]
theorem xhe(t:Tk)(y:lk t)(B:t8)(Q:B.length<=1000)(j:Nat)(m:Int)(h1:1<=m)(h4:m<=4)(Z:Nat)(g:call T 15 [.ptr 0 0,iV 12] [.rc [bN B,iV j]] 0=some ⟨iV 10,[(0,.rc [bN B,iV Z])],[]⟩):
 mP t B (my F22 2 (run U kQ (ln t B j m))):=by
 have z:ke=ke:=rfl
 conv at z=>rhs;unfold ke kQ b22 z22
 simp only at z;obtain⟨k,j2,hk,g2⟩:=nxe B Q 2 2 rfl (by decide) Z
 by_cases K:k=0
 ·subst K
  obtain⟨D,hD,g3⟩:=f61 t.rt (Tk.rt_bd y);obtain⟨w,I,hw,g4⟩:=nxe B Q 90 90 rfl (by decide) j2;have J:=f30 ⟨D,(w:Int)⟩
  have F:(Cr ⟨D,(w:Int)⟩).length<=1000:=by
   unfold Cr;split
   ·have hb:(be 6 (az.wrap (w:Int))).length<=100:=by simp[be]
    show(22::(D++be 6 (az.wrap (w:Int)))).length<=1000;rw[ai,af];omega
   ·exact aC _
  have C:=f29 (Cr ⟨D,(w:Int)⟩) (by omega) 1;have h3:=tI 1 (Cr ⟨D,(w:Int)⟩);refine oG (x:=⟨2,ms0,Cr ⟨D,(w:Int)⟩,Az 1 (Cr ⟨D,(w:Int)⟩),0⟩) y ⟨.inr (.inr (.inl rfl)),(fun h=>by cases h),(fun h=>by cases h),by show(Cr _).length<=_;omega,fi h3 (by decide)⟩ (j:=I) ?_;rw[gA,z];clear F h3;unfold Tk.rt Man.sv at g3;simp only[jS,Rul.sv,ax,aK]at g3;unfold eK Wd.sv at*;unfold ln zIn mO Tk.ob Tk.oc Tk.obT Inp.sv ms0 Msg.sv;simp only[go_sem,simprocAttr,g,up 15,g2,g3,up 61,g4,J,up 30,C,up 29,ak]
 ·have H:¬(k:Int)=0:=by omega
  obtain⟨n,I,hn,g3⟩:=f62 B Q j2 t.ch y.ch.img (by have:=y.ch.n8;omega) (by obtain⟨k,a,b⟩:=y.ch.fw;exact⟨k,a,b⟩);have J:=f48 n hn;have F:=M1 n;have C:=f29 (nu n) (by omega) 1;have h3:=tI 1 (nu n);unfold bE at g3;refine oG (x:=⟨2,ms0,nu n,Az 1 (nu n),0⟩) y ⟨.inr (.inr (.inl rfl)),(fun h=>by cases h),(fun h=>by cases h),by show(nu _).length<=_;omega,fi h3 (by decide)⟩ (j:=I) ?_;rw[gA,z];clear F h3;unfold Man.sv eK at*;unfold ln zIn mO Tk.ob Tk.oc Tk.obT Inp.sv ms0 Msg.sv;simp only[go_sem,simprocAttr,g,up 15,g2,H,g3,up 62,J,up 48,C,up 29]
theorem k22(H:yO)(t:Tk)(C:lk t)(hs:t.st.length<=1000)(B:t8)(y:B.length<=1000)(j:Nat)(m:Nat)(h1:1<=m)(h4:m<=4):
 mP t B (my F22 2 (run U kQ (ln t B j m))):=by
 obtain⟨v,z,hv,g⟩:=nxe B y 12 12 rfl (by decide) j
 by_cases F:v<=2
 ·exact xhl t C hs B y j m (by omega) (by omega) v z F g
 by_cases a2:v<=5
 ·exact xhk H t C hs B y j m h1 h4 v z (by omega) g
 match v,hv,a2,g with
 |6,_,_,g=>exact xhj H t C hs B y j m h1 h4 z g
 |7,_,_,g=>exact xhi H t C hs B y j m h1 h4 z g
 |8,_,_,g=>exact xhh t C hs B y j m (by omega) (by omega) z g
 |9,_,_,g=>exact xhg t C B y j m (by omega) (by omega) z g
 |10,_,_,g=>exact xhe t C B y j m (by omega) (by omega) z g
 |11,_,_,g=>exact xhf t C B y j m (by omega) (by omega) z g
 |v+12,hv,_,g=>omega
def c22(t:Tk)(B:t8)(j:Nat):CSt:=⟨[(0,.ptr 0 0),(1,.ptr 1 0)],[(0,t.ob),(1,.rc [bN B,iV j])],[50]⟩
theorem i22(t:Tk)(B:t8)(j:Nat):call U 22 [.ptr 0 0,.ptr 1 0] [t.ob,.rc [bN B,iV j]] 1=my F22 2 (run U b22 (c22 t B j)):=by rw[ccU 22];rfl
def R7(X:RC):RC:=match b22 with
 | .seq a (.seq b (.seq c (.seq d _)))=> .seq a (.seq b (.seq c (.seq d X)))
 |c=>c
theorem X8:b22=R7 kQ:=rfl
theorem p22(t:Tk)(B:t8)(H:B.length<=1000)(j:Nat):∃m J:Nat,1<=m/\m<=4/\∀X,run U (R7 X) (c22 t B j)=run U X (ln t B J m):=by
 obtain⟨v,C,hv,g1⟩:=nxe B H 4 4 rfl (by decide) j;have K:ah.wrap (1+(v:Int))=((1+v:Nat):Int):=by rw[w64];push_cast;rfl
 by_cases Q:v=3
 ·subst Q
  obtain⟨w,I,Z,F⟩:=nxe B H 3 3 rfl (by decide) C
  by_cases y:(0:Int)<(w:Int)
  ·refine⟨1,I,by decide,by decide,fun X=> ?_⟩
   rw[show((1:Nat):Int)=1 from rfl];unfold R7 b22 z22 c22 ln zIn mO Tk.ob Tk.obT;simp only[go_sem,simprocAttr,g1,up 15,F,y,show ah.wrap 4=4 from rfl]
  ·refine⟨4,I,by decide,by decide,fun X=> ?_⟩
   rw[show((4:Nat):Int)=4 from rfl];unfold R7 b22 z22 c22 ln zIn mO Tk.ob Tk.obT;simp only[go_sem,simprocAttr,g1,up 15,F,y,show ah.wrap 4=4 from rfl]
 ·have z:¬((1+v:Nat):Int)=4:=by omega
  refine⟨1+v,C,by omega,by omega,fun X=> ?_⟩;unfold R7 b22 z22 c22 ln zIn mO Tk.ob Tk.obT;simp only[go_sem,simprocAttr,g1,up 15,K,z]
theorem f22(H:yO)(t:Tk)(F:lk t)(hs:t.st.length<=1000)(B:t8)(y:B.length<=1000)(j:Nat):mP t B (call U 22 [.ptr 0 0,.ptr 1 0] [t.ob,.rc [bN B,iV j]] 1):=by obtain⟨m,C,h1,h4,z⟩:=p22 t B y j;rw[i22,X8,z];exact k22 H t F hs B y C m h1 h4
theorem Iv.swp{n:Nat}{s:Sv}(h:Iv n s)(z:List t8):Iv n (swp s z):=
 h.lea ⟨s.l.ls.filter (nM s.k z),s.l.hs⟩ (Ju s.l h.wf _) (fun x y=> .inl (dY.1 y).1) (fun x y=> .inl y)
theorem Iv.tick{n:Nat}{s:Sv}(h:Iv n s){d:Int}(h1:1<=d)(h2:d<=40):Iv (n+1) {s with k:=s.k+d}:=by
 have g:=h.mono;obtain⟨c,c1,c2,c3,c4⟩:=g.c;refine⟨⟨c,⟨c1.a,c1.t,c1.m,c1.w⟩,c2,c3,c4⟩,g.wf, ?_, ?_,g.u,g.r,g.key,g.o,g.e,g.s⟩
 ·show 0<=s.k+d
  have:=h.k0;omega
 ·show s.k+d<=_
  have:=h.k1;push_cast;omega
theorem Iv.pub{n:Nat}{s:Sv}(h:Iv n s){c:Ct}(hs:SvC s c)(F:c.ms.length<=n+1)(C:c.ws.length<=n+1){y:Ct}(z:UT c y):Iv (n+1) {s with A:=nR y.au,t:=y.th,M:=fg y.ms,W:=jw y.ws}:=by have g:=h.mono;exact⟨⟨y,⟨rfl,rfl,rfl,rfl⟩,z.bd,by have:=z.m;omega,by have:=z.w;omega⟩,g.wf,g.k0,g.k1,g.u,g.r,g.key,g.o,g.e,g.s⟩
theorem Lb{l:Ls}{m:Int}:∀x∈(kT l m).1.ls,x∈l.ls:=by
 intro x y;unfold kT at y
 repeat' split at y
 all_goals first|(cases y;done)|exact y
theorem Lc{l:Ls}{m:Int}:∀x∈(kT l m).1.hs,x∈l.hs:=by
 intro x y;unfold kT at y
 repeat' split at y
 all_goals first|(cases y;done)|exact(dY.1 y).1
theorem f21(H:uW)(HA:Ng)(n:Nat)(s:Sv)(hs:Iv n s)(Z:n<=20)(x:Inp)(I:CC x):
 ∃(F:Sv)(Q:Msg)(e:Int),Iv (n+1) F/\(Q.kd=2->Q.no.length<=32)/\call U 21 [.agg s.sv,.agg x.sv] [] 0=okV (.tup [.agg F.sv,.agg Q.sv,iV e]):=by
 obtain⟨c,J,K,a1,a6⟩:=hs.c;have z:okL s.l.ls:=hs.wf.ok;rcases I.k with h|h|h|h
 ·obtain⟨F,Q,h1,h2,g⟩:=f53 H HA n s hs Z x.m (I.m h)
  refine⟨F,Q,0,h1,h2, ?_⟩;clear h1 h2 hs I J z;obtain⟨k,m,B,ms,d⟩:=x;simp only at h;subst h;unfold Inp.sv Sv.sv Msg.sv at*;rw[ccU 21];simp only[go_sem,simprocAttr,g]
 ·obtain⟨F,e,g,C⟩:=f54 s c x.n J K z hs.k0 (by have:=hs.k1;omega)
  refine⟨F,ms0,e, ?_,(fun h=>by cases h), ?_⟩
  ·have Z:=I.n h
   rcases C with rfl|⟨_,fs,rfl⟩
   ·exact hs.mono
   ·exact(hs.tick Z.1 Z.2).swp fs
  clear C hs I J z;obtain⟨k,m,B,ms,d⟩:=x;simp only at h;subst h;unfold Inp.sv Sv.sv Msg.sv ms0 at*;rw[ccU 21];simp only[go_sem,simprocAttr,g,up 54]
 ·obtain⟨F,e,g,C⟩:=f55 s c x.B x.ms J K z (by omega) (by omega) I.B I.ms
  refine⟨F,ms0,e, ?_,(fun h=>by cases h), ?_⟩
  ·rcases C with rfl|⟨c',fs,hle,rfl⟩
   ·exact hs.mono
   ·exact(hs.pub J a1 a6 hle).swp fs
  clear C hs I J z;obtain⟨k,m,B,ms,d⟩:=x;simp only at h;subst h;unfold Inp.sv Sv.sv Msg.sv ms0 eK at*;rw[ccU 21];simp only[go_sem,simprocAttr,g,up 55]
 ·have g:=f56 s x.n (by have:=hs.wf.len2;omega)
  refine⟨(if(kT s.l x.n).2=0 then {s with l:=(kT s.l x.n).1}else s),ms0,(kT s.l x.n).2, ?_,(fun h=>by cases h), ?_⟩
  ·split
   ·exact hs.mono.lea _ (Q5 s.l hs.wf x.n) (fun y hy=> .inl (Lb y hy)) (fun y hy=> .inl (Lc y hy))
   ·exact hs.mono
  ·clear hs I J z
   generalize (kT s.l x.n).2=e at*;generalize (if e=0 then {s with l:=(kT s.l x.n).1}else s)=F at*;obtain⟨k,m,B,ms,d⟩:=x;simp only at h;subst h;unfold Inp.sv Sv.sv Msg.sv ms0 at*;rw[ccU 21];simp only[go_sem,simprocAttr,g,up 56]
def flO(s:Sv)(m:f9)(k:Tok):aG:= .rc (s.sv++ [.lst 40 m k,.lst 9 [] .clip])
def st6(s:Sv)(t:Tk)(K:Nat)(B:t8)(j:Nat):List (Nat×aG):=[(108,flO s [] .clip),(25100,t.obT (.id K)),(30100,.rc [bN B,iV j])]
theorem l6a(H:uW)(H2:yO)(HA:Ng)(u:Int)(B:t8)(hB:B.length<=1000):∀(d n:Nat),n+d=6->∀(s:Sv)(t:Tk)(K:Nat)(j:Nat),Iv n s->lk t->t.st.length<=n->(K=27060\/K=53060)->
 ∃(I:Sv)(Z:Tk)(F Q J:Nat),J<=6/\Iv J I/\(F=27060\/F=53060)/\
  run U (.loop JO) ⟨[(2,iV u),(7,.ptr 25100 0),(8,.ptr 108 0),(9,.ptr 30100 0),(10,iV n)],st6 s t K B j,[K]⟩=
   some (.x 0,⟨[(2,iV u),(8,.ptr 108 0)],st6 I Z F B Q,[F]⟩):=by
 intro d;induction d with
 |zero=>
  intro n hn s t K j hs ht a1 C;have z:n=6:=by omega
  subst z;have g1:=f20 B j;unfold bE at g1;refine⟨s,t,K,j,6,by omega,hs,C, ?_⟩;unfold st6 flO Tk.obT Sv.sv;rw[ab];cases hb:decide (j<B.length)<;>rw[hb]at g1<;>rcases C with rfl|rfl<;>simp only[go_sem,simprocAttr,g1,up 20,show((6:Nat):Int)=6 from rfl]
 |succ d ih=>
  intro n hn s t K j hs ht a1 C;have g1:=f20 B j;unfold bE at g1;cases hb:decide (j<B.length)with
  |false=>rw[hb]at g1;refine⟨s,t,K,j,n,by omega,hs,C, ?_⟩;unfold st6 flO Tk.obT Sv.sv;rw[ab];rcases C with rfl|rfl<;>simp only[go_sem,simprocAttr,g1,up 20]
  |true=>
   rw[hb]at g1;have z:(n:Int)<6:=by omega
   have e1:=bJ n;obtain⟨y,x,j1,h1,h2,h3,g2⟩:=f22 H2 t ht (by omega) B hB j;obtain⟨s1,m1,e,h4,h5,g3⟩:=f21 H HA n s hs (by omega) x h2;have g4:=f23 y m1
   have h6:lk (if m1.kd=2/\1<=m1.mc/\m1.mc<=4 then y.put m1.mc m1.no else y):=by
    split
    ·rename_i h;exact Tk.put_ok h1 _ (h5 h.1)
    ·exact h1
   have h7:(if m1.kd=2/\1<=m1.mc/\m1.mc<=4 then y.put m1.mc m1.no else y).st.length<=n+1:=by
    split
    ·unfold Tk.put
     repeat' split
     all_goals (show y.st.length<=_;omega)
    ·omega
   generalize (if m1.kd=2/\1<=m1.mc/\m1.mc<=4 then y.put m1.mc m1.no else y)=t2 at*;obtain⟨I,Z,F,Q,J,k1,k2,k3,k4⟩:=ih (n+1) (by omega) s1 t2 53060 j1 h4 h6 h7 (.inr rfl);refine⟨I,Z,F,Q,J,k1,k2,k3, ?_⟩;rw[<-k4];clear k4 k1 k2 k3 ih h1 h2 h3 h4 h5 h6 h7 hs ht;unfold st6 flO;unfold Inp.sv Tk.ob Tk.oc Tk.obT Sv.sv Msg.sv at*;simp only[aL,aA]at g2 g3;rw[ab];rcases C with rfl|rfl<;>simp only[go_sem,simprocAttr,g1,up 20,z,g2,g3,g4,up 23,e1]
def Dgt(l:t8):Prop:=l≠ []/\∀x∈l,48<=x.toNat/\x.toNat<=57
theorem yB(n:Int):Dgt (nmV n):=⟨XY _,TF _⟩
theorem Hj{x:UInt8}(h:48<=x.toNat/\x.toNat<=57)(a:UInt8)(y:¬(48<=a.toNat/\a.toNat<=57)):¬x=a:=by rintro rfl;exact y h
theorem M4:∀{l:t8},(∀x∈l,48<=x.toNat/\x.toNat<=57)->lnC l=0
 |[],_=>rfl
 |x::r,h=>by rw[lnC,if_neg (Hj (h x aD) 10 (by decide)),M4 (fun y z=>h y (an _ z))];rfl
theorem M3(a:UInt8)(z:¬(48<=a.toNat/\a.toNat<=57)):∀{l:t8}(p:UInt8),(∀x∈l,48<=x.toNat/\x.toNat<=57)->pcC a p l=0
 |[],_,_=>rfl
 |x::r,p,h=>by rw[pcC,if_neg (fun h2=>Hj (h x aD) a z h2.2),M3 a z x (fun y C=>h y (an _ C))];rfl
theorem Bd:∀{l:t8}(p:UInt8),Dgt l->zL p l≠32
 |[],_,h=>absurd rfl h.1
 |[x],_,h=>Hj (h.2 x aD) 32 (by decide)
 |x::y::r,_,h=>Bd x ⟨by simp,fun z C=>h.2 z (an _ C)⟩
theorem kB(a:UInt8)(y:¬(48<=a.toNat/\a.toNat<=57))(p:UInt8)(n:Int)(r:t8):∃q,q≠32/\pcC a p (nmV n++r)=pcC a q r:=by refine⟨zL p (nmV n),Bd p (yB n), ?_⟩;rw[jW,M3 a y p (yB n).2];omega
theorem ra(n:Int)(r:t8):lnC (nmV n++r)=lnC r:=by rw[jZ,M4 (yB n).2];omega
def adI(s:Sv)(m:Int):Int:=if uU s.l.ls m s.k=true then 1 else 0
def heI(s:Sv)(m:Int):Int:=if uU s.l.ls m s.k=true then 0 else if(kj s.l.hs m).isSome=true then 1 else 0
theorem ZY(s:Sv)(m:Int)(r:t8):∃q,q≠32/\pcC 97 32 (stV s m++r)=adI s m+pcC 97 q r:=by
 unfold stV adI;split
 ·obtain⟨q,h1,h2⟩:=kB 97 (by decide) 32 ((dv s.l.ls m).getD default).u r
  refine⟨q,h1, ?_⟩;rw[aI,<-h2];simp[pcC]
 ·cases kj s.l.hs m with
  |some x=>obtain⟨q,h1,h2⟩:=kB 97 (by decide) 32 x.r r;refine⟨q,h1, ?_⟩;show pcC 97 32 (([104,101,108,100,32]++nmV x.r)++r)=_;rw[aI,<-h2];simp[pcC]
  |none=>exact⟨116,by decide,by simp[pcC]⟩
theorem ZX(s:Sv)(m:Int)(r:t8):∃q,q≠32/\pcC 104 32 (stV s m++r)=heI s m+pcC 104 q r:=by
 unfold stV heI;split
 ·obtain⟨q,h1,h2⟩:=kB 104 (by decide) 32 ((dv s.l.ls m).getD default).u r
  refine⟨q,h1, ?_⟩;rw[aI,<-h2];simp[pcC]
 ·cases kj s.l.hs m with
  |some x=>obtain⟨q,h1,h2⟩:=kB 104 (by decide) 32 x.r r;refine⟨q,h1, ?_⟩;show pcC 104 32 (([104,101,108,100,32]++nmV x.r)++r)=_;rw[aI,<-h2];simp[pcC]
  |none=>exact⟨116,by decide,by simp[pcC]⟩
theorem xam(s:Sv)(m:Int)(r:t8):lnC (stV s m++r)=lnC r:=by
 unfold stV;split
 ·rw[aI,jZ,ra]
  simp[lnC]
 ·cases kj s.l.hs m with
  |some x=>show lnC (([104,101,108,100,32]++nmV x.r)++r)=_;rw[aI,jZ,ra];simp[lnC]
  |none=>simp[lnC]
theorem WW(s:Sv)(m:Int)(r:t8):pcC 97 10 (iO s m++r)=adI s m+pcC 97 10 r:=by
 have e:iO s m++r=[109,97,99,104,105,110,101,32]++(nmV m++(32::(stV s m++(10::r)))):=by unfold iO;simp
 obtain⟨q,h1,h2⟩:=kB 97 (by decide) 32 m (32::(stV s m++(10::r)));obtain⟨y,h3,h4⟩:=ZY s m (10::r);rw[e,jW];show pcC 97 10 [109,97,99,104,105,110,101,32]+pcC 97 32 _=_;rw[h2];simp only[pcC,h4];simp[h1,h3]
theorem WV(s:Sv)(m:Int)(r:t8):pcC 104 10 (iO s m++r)=heI s m+pcC 104 10 r:=by
 have e:iO s m++r=[109,97,99,104,105,110,101,32]++(nmV m++(32::(stV s m++(10::r)))):=by unfold iO;simp
 obtain⟨q,h1,h2⟩:=kB 104 (by decide) 32 m (32::(stV s m++(10::r)));obtain⟨y,h3,h4⟩:=ZX s m (10::r);rw[e,jW];show pcC 104 10 [109,97,99,104,105,110,101,32]+pcC 104 32 _=_;rw[h2];simp only[pcC,h4];simp[h1,h3]
theorem Xv(s:Sv)(m:Int)(r:t8):lnC (iO s m++r)=1+lnC r:=by
 have e:iO s m++r=[109,97,99,104,105,110,101,32]++(nmV m++(32::(stV s m++(10::r)))):=by unfold iO;simp
 rw[e,jZ,ra];simp only[lnC,xam];simp
theorem MH(a:UInt8)(z:a=97\/a=104)(x:Int×Bool)(r:t8):pcC a 10 (iP x++r)=pcC a 10 r:=by
 obtain⟨n,b⟩:=x;have y:¬(48<=a.toNat/\a.toNat<=57):=by rcases z with rfl|rfl<;>decide
 cases b with
 |true=>
  have e:iP (n,true)++r=[104,111,115,116,32]++(nmV n++(32::117::112::10::r)):=by unfold iP;simp
  obtain⟨q,h1,h2⟩:=kB a y 32 n (32::117::112::10::r);rw[e,jW];show pcC a 10 [104,111,115,116,32]+pcC a 32 _=_;rw[h2];rcases z with rfl|rfl<;>simp[pcC,h1]
 |false=>
  have e:iP (n,false)++r=[104,111,115,116,32]++(nmV n++(32::100::111::119::110::10::r)):=by unfold iP;simp
  obtain⟨q,h1,h2⟩:=kB a y 32 n (32::100::111::119::110::10::r);rw[e,jW];show pcC a 10 [104,111,115,116,32]+pcC a 32 _=_;rw[h2];rcases z with rfl|rfl<;>simp[pcC,h1]
theorem Xw(x:Int×Bool)(r:t8):lnC (iP x++r)=1+lnC r:=by
 obtain⟨n,b⟩:=x;cases b with
 |true=>
  have e:iP (n,true)++r=[104,111,115,116,32]++(nmV n++(32::117::112::10::r)):=by unfold iP;simp
  rw[e,jZ,ra];simp[lnC]
 |false=>
  have e:iP (n,false)++r=[104,111,115,116,32]++(nmV n++(32::100::111::119::110::10::r)):=by unfold iP;simp
  rw[e,jZ,ra];simp[lnC]
def hs3(C z y:Bool):List (Int×Bool):=[(1,C),(2,z),(3,y)]
theorem oE(s:Sv)(h:List (Int×Bool))(F:s.E=EE)(z y C:Bool)(H:h=hs3 z y C):
 nT s h=[99,108,111,99,107,32]++(nmV s.k++(10::(iO s 1++(iO s 2++(iO s 3++(iP (1,z)++(iP (2,y)++(iP (3,C)++ [])))))))):=by
 subst H;unfold nT hs3;rw[F];simp only[EE,cA,ji,bO,aI];rfl
theorem VB(s:Sv)(h:List (Int×Bool))(F:s.E=EE)(z y C:Bool)(H:h=hs3 z y C):lnC (nT s h)=7:=by rw[oE s h F z y C H,jZ,ra];simp only[lnC,Xv,Xw];simp
theorem VA(s:Sv)(h:List (Int×Bool))(F:s.E=EE)(y z C:Bool)(H:h=hs3 y z C):pcC 97 0 (nT s h)=adI s 1+adI s 2+adI s 3:=by rw[oE s h F y z C H,jW];show pcC 97 0 [99,108,111,99,107,32]+pcC 97 32 _=_;obtain⟨q,h1,h2⟩:=kB 97 (by decide) 32 s.k (10::(iO s 1++(iO s 2++(iO s 3++(iP (1,y)++(iP (2,z)++(iP (3,C)++ [])))))));rw[h2];simp only[pcC,WW,MH 97 (.inl rfl)];simp[h1];omega
theorem Vz(s:Sv)(h:List (Int×Bool))(F:s.E=EE)(y z C:Bool)(H:h=hs3 y z C):hcC 0 0 (nT s h)=heI s 1+heI s 2+heI s 3:=by have e:=oE s h F y z C H;rw[e];show hcC 0 0 (99::108::111::99::107::(32::(nmV s.k++_)))=_;rw[S4];show pcC 104 0 ([99,108,111,99,107,32]++(nmV s.k++_))=_;rw[jW];show pcC 104 0 [99,108,111,99,107,32]+pcC 104 32 _=_;obtain⟨q,h1,h2⟩:=kB 104 (by decide) 32 s.k (10::(iO s 1++(iO s 2++(iO s 3++(iP (1,y)++(iP (2,z)++(iP (3,C)++ [])))))));rw[h2];simp only[pcC,WV,MH 104 (.inr rfl)];simp[h1];omega
theorem Js{l:Ls}(y:WF l)(m:Int):has (l.hs.map bS.m) m=(kj l.hs m).isSome:=by
 rw[nZ _ _ y.s2];unfold kj;rw[fm,List.contains_iff_mem,List.find?_isSome,aS];constructor
 ·rintro⟨x,h1,h2⟩;exact⟨x,h1,by simpa using h2⟩
 ·rintro⟨x,h1,h2⟩;exact⟨x,h1,by simpa using h2⟩
end Go.Proofs.YtmhhnklkcmpdkaaGreatDoor
