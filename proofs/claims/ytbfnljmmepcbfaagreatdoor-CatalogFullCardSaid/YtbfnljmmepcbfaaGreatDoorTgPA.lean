/- What the functions come to. No condition. -/
import Derived.Test.YtbfnljmmepcbfaaGreatDoorTbPA
import Derived.Test.YtbfnljmmepcbfaaGreatDoorTdPA
import Derived.Test.YtbfnljmmepcbfaaGreatDoorTfPA
open Array renaming getD_eq_getD_getElem? -> aQ, getElem?_toList -> cP
open Bool renaming and_eq_true -> aA, or_eq_true -> eV
open Go.IntKind renaming i64 -> ah
open List renaming cons -> kZ, cons_append -> bg, getD_eq_getElem?_getD -> aa, getElem?_eq_getElem -> ac, getElem?_map -> aR, getElem?_range -> ch, getElem_mem -> bo, length_cons -> am, length_map -> aY, length_nil -> aB, map_cons -> aF, map_nil -> bX, mem_append -> al, mem_cons_of_mem -> av, mem_cons_self -> aE, mem_map -> aT, mem_range -> dJ, mem_singleton -> bw, nil_append -> aI, nodup_cons -> dN, range -> bA
open Nat renaming mul_one -> iJ, zero_le -> bH
open Option renaming map_some -> bp
open UInt8 renaming ofInt -> cQ
set_option maxRecDepth 100000
set_option maxHeartbeats 16000000
set_option linter.unusedSimpArgs false
set_option linter.unusedVariables false
namespace Go.Proofs.YtbfnljmmepcbfaaGreatDoor
open Go.Sy
open UInt8 renaming reduceLT -> Q0, reduceLE -> Q1
open Int renaming reduceToNat -> Q2, reduceLE -> Q3, reduceLT -> Q4, reduceEq -> Q5, reduceNe -> Q6, reduceNeg -> Q7, reduceAdd -> Q8, reduceSub -> Q9, reduceMul -> Qa
open Nat renaming reducePow -> Qb, reduceDiv -> Qc, reduceMod -> Qd, reduceAdd -> Qe, reduceSub -> Qf, reduceMul -> Qg, reduceLT -> Qh, reduceLeDiff -> Qi, reduceEqDiff -> Qj, reduceBEq -> Qk
section
structure Mk where
 auth:Int
 sig:List UInt8
def Mk.sv(m:Mk):List SV:=[.int .i64 m.auth,.byt m.sig .no]
def mk0:Mk:=⟨0,[]⟩
def ju(l:List Mk):List (List SV):=l.map Mk.sv
theorem ii(l:List Mk):(ju l).length=l.length:=aY ..
theorem vr(l:List Mk)(i:Nat)(h:i<l.length):(ju l).getD i []=(l.getD i mk0).sv:=by simp[ju,aa,h]
def dX(B:List UInt8)(ms:List Mk):List SV:=[.byt B .no,.lst 2 (ju ms) .no]
def R4(t:Tr)(i:Nat):Int:=(t.au.getD i au0).id
def X2(ms:List Mk)(j:Nat):Int:=(ms.getD j mk0).auth
def xh2(t:Tr)(B:List UInt8)(ms:List Mk)(i j:Nat):Bool:=jT (t.au.getD i au0).key B (ms.getD j mk0).sig
def sgO(t:Tr)(B:List UInt8)(ms:List Mk):List Int:=Si.out (R4 t) (X2 ms) (xh2 t B ms) t.au.length ms.length
def sgL(t:Tr)(B:List UInt8)(ms:List Mk):List Int:=Si.srt (sgO t B ms)
def isv(l:List Int):List (List SV):=l.map fun z=> [.int .i64 z]
theorem Bz(l:List Int):(isv l).length=l.length:=aY ..
theorem BA(l:List Int)(i:Nat)(h:i<l.length):(isv l).getD i []=[.int .i64 (l.getD i 0)]:=by simp[isv,aa,h]
def sgR(t:Tr)(B:List UInt8)(ms:List Mk):dv:=⟨.lst 1 (isv (sgL t B ms)) .no,[],[]⟩
structure R8(t:Tr)(B:List UInt8)(ms:List Mk):Prop where
 n1:1<=t.au.length
 n2:t.au.length<=1000
 m2:ms.length<=1000
 b2:B.length<=100000000
 ids:∀a∈t.au, -9223372036854775808<=a.id/\a.id<=9223372036854775807
theorem vp:∀(S L:List Int),S.Nodup->(∀x∈S,x∈L)->S.length<=L.length
 |[],L,_,_=>bH _
 |x::S,L,hn,h=>by have hx:x∈L:=h x aE;obtain⟨hxs,hS⟩:=dN.1 hn;have ih:=vp S (L.erase x) hS (fun y hy=>(List.mem_erase_of_ne (show y≠x from fun e=>hxs (by rw[<-e];exact hy))).2 (h y (av _ hy)));have hl:=List.length_erase_of_mem hx;have hp:=List.length_pos_of_mem hx;rw[am];omega
section
variable (aid mid : Nat -> Int) (V : Nat -> Nat -> Bool)
theorem Cq{ks:List Int}(h:ks.Nodup)(i j:Nat):(Si.stp aid mid V ks i j).Nodup:=by
 unfold Si.stp;split
 ·rename_i hc
  exact List.nodup_append.2 ⟨h,by simp,fun a ha b hb=>by simp at hb;subst hb;exact fun e=>hc.2.1 (e ▸ ha)⟩
 ·exact h
theorem ri{ks:List Int}(h:ks.Nodup)(j:Nat):∀n,(Si.inn aid mid V j ks n).Nodup
 |0=>h
 |n+1=>Cq aid mid V (ri h j n) n j
theorem mm(n:Nat):∀m,(Si.out aid mid V n m).Nodup
 |0=>List.nodup_nil
 |m+1=>ri aid mid V (mm n m) m n
theorem Pk{ks:List Int}{i j:Nat}{x:Int}(h:x∈Si.stp aid mid V ks i j):x∈ks\/x=aid i:=by
 unfold Si.stp at h;split at h
 ·rcases al.1 h with h|h
  ·exact .inl h
  ·exact .inr (bw.1 h)
 ·exact .inl h
theorem BD{ks:List Int}{j:Nat}{x:Int}:∀{n:Nat},x∈Si.inn aid mid V j ks n->x∈ks\/∃i,i<n/\x=aid i
 |0,h=> .inl h
 |n+1,h=>by
  rcases Pk aid mid V h with h|h
  ·rcases BD h with h|⟨i,hi,e⟩
   ·exact .inl h
   ·exact .inr ⟨i,by omega,e⟩
  ·exact .inr ⟨n,by omega,h⟩
theorem Bj{n:Nat}{x:Int}:∀{m:Nat},x∈Si.out aid mid V n m->∃i,i<n/\x=aid i
 |0,h=>by cases h
 |m+1,h=>by
  rcases BD aid mid V h with h|h
  ·exact Bj h
  ·exact h
theorem xbs(n m:Nat)(S:List Int)(hS:S.Nodup)(h:∀x,x∈S->x∈Si.out aid mid V n m):S.length<=n:=by
 have:=vp S ((bA n).map aid) hS (fun x hx=>by obtain⟨i,hi,e⟩:=Bj aid mid V (h x hx);exact aT.2 ⟨i,dJ.2 hi,e.symm⟩)
 rwa[aY,List.length_range]at this
end
theorem EW{l l':List Int}(h:l.Perm l'):Si.srt l=Si.srt l':=by
 have tr:∀a b c:Int,decide (a<=b)=true->decide (b<=c)=true->decide (a<=c)=true:=fun a b c h1 h2=>by simp only[decide_eq_true_eq]at*;omega
 have to:∀a b:Int,(decide (a<=b)||decide (b<=a))=true:=fun a b=>by simp only[eV,decide_eq_true_eq];omega
 refine List.Perm.eq_of_pairwise (le:=fun a b=>decide (a<=b)=true) (fun a b _ _ h1 h2=> ?_) (List.pairwise_mergeSort tr to l) (List.pairwise_mergeSort tr to l') (((List.mergeSort_perm l _).trans h).trans (List.mergeSort_perm l' _).symm);simp only[decide_eq_true_eq]at h1 h2;omega
theorem uJ{l l':List Int}(h:l.Nodup)(h':l'.Nodup)(hm:∀x,x∈l↔x∈l'):Si.srt l=Si.srt l':=EW ((List.perm_ext_iff_of_nodup h h').2 hm)
section
open Go.RowKit Go.ChangeShapes Go.WideShapes
variable {x : Sit} {w w' : World}
theorem FX{G G':GM}(hG:∀b o v,G b o=some v->G' b o=some v)(h:Lay G):Lay G':=fun g cs hc j hj=>by obtain⟨v,h1,h2⟩:=h g cs hc j hj;exact⟨v,hG _ _ _ h1,h2.mono hG⟩
def slA:Value->Option Addr
 | .slice a _ _=>a
 |_=>none
def slN:Value->Nat
 | .slice _ n _=>n
 |_=>0
def slC:Value->Nat
 | .slice _ _ c=>c
 |_=>0
theorem xjx{G:GM}{k:IntKind}{n:Int}{v:Value}(h:co G (.int k n) v):v= .int k n:=by cases h;rfl
theorem sI{α:Type}(l:List α)(d:α)(i:Nat)(h:i<l.length):l.getD i d∈l:=by rw[aa,ac h];exact bo _
theorem gi{G:GM}{l:List UInt8}{t:Tok}{v:Value}(h:co G (.byt l t) v):v= .slice (slA v) (slN v) (slC v):=by
 cases h<;>rfl
theorem xkh(hper:∀b o v,x.G b o=some v->w.cell? ⟨b,o,none⟩=some v)(hb:Below w.heap.size w w'):∀b o v,x.G b o=some v->(nC w').G b o=some v:=fun b o v h=>by have h1:=hper b o v h;show w'.cell? ⟨b,o,none⟩=some v;rw[hb.cell (p:=⟨b,o,none⟩) (jn h1)];exact h1
theorem Cg{key B sig:List UInt8}{k b s:Value}(hB:B.length<=100000000)(hper:∀b o v,x.G b o=some v->w.cell? ⟨b,o,none⟩=some v)(hL:Lay x.G)(hk:co x.G (.byt key .no) k)(hb:co x.G (.byt B .no) b)(hs:co x.G (.byt sig .no) s)
 (wr:World) (hbw:Below w.heap.size w wr):Calls Tryz.prog 122 #[k,b,s] wr fun e w'=>∃l:Int,e= .returned (.tuple #[.int .i64 l,.bool (jT key B sig)])/\Below wr.heap.size wr w':=by
 have hG:=xkh hper hbw
 have hv:cj (nC wr) [.byt key .no,.byt B .no,.byt sig .no] [k,b,s]:=⟨rfl,fun i hi=>by
  match i,hi with
  |0,_=>exact .dat _ _ (hk.mono hG) trivial
  |1,_=>exact .dat _ _ (hb.mono hG) trivial
  |2,_=>exact .dat _ _ (hs.mono hG) trivial⟩
 refine(Gt GO (xlX key B sig hB) hv (FX hG hL)).mono ?_;rintro e w' ⟨v,x',rfl,hr,hbl⟩;obtain⟨vs,rfl,hvs⟩:=hr.tup_inv;obtain⟨u1,u2,rfl,q1,q2⟩:=Pr.repL2 hvs;rw[q1.int_inv,q2.bool_inv];exact⟨_,rfl,hbl⟩
theorem Ad{sz:Nat}{xs:List (List SV)}{v:Value}(h:Rep x (.lst sz xs .no) v):(xs=[]/\∃A c,v= .slice A 0 c)\/∃(b off cap:Nat)(val:Nat->Nat->Value),v= .slice (some ⟨b,off,none⟩) xs.length cap/\(∀i j,i<xs.length->j<sz->x.G b (off+i*sz+j)=some (val i j))/\(∀i j,i<xs.length->j<sz->co x.G ((xs.getD i []).getD j .undef) (val i j)):=by
 have hd:=h.data rfl;cases hd with
 |lstN=>exact .inl ⟨rfl,none,0,rfl⟩
 |lstE _ _ a=>exact .inl ⟨rfl,some a,0,rfl⟩
 |lst _ _ _ b off cap n val hn hc hl hg h2=>subst hn;exact .inr ⟨b,off,cap,val,rfl,hg,h2⟩
theorem Dx{g i:Nat}{cur:Array Value}{e:TypeId}{fr:Nat×Nat}(h:w.heap[g]? =some (.cells cur e fr))(hi:i<cur.size):w.cell? ⟨g,i,none⟩=some (cur.getD i Go.undef):=by simp only[World.cell?,h];simp[hi]
theorem xaF{t:Tr}{B:List UInt8}{ms:List Mk}(hok:R8 t B ms):fz Tryz.prog 73 [.agg t.sv,.agg (dX B ms)] [] 0 (· =sgR t B ms):=by
 refine wE (by kernel_rfl) fun x w vs hr hper hL=> ?_
 obtain⟨u,v,rfl,h1,h2⟩:=Pr.repL2 hr;obtain⟨us,rfl,ru⟩:=h1.agg_inv;obtain⟨su,sthr,rfl,r1,r2⟩:=Pr.repL2 ru;obtain⟨vs',rfl,rv⟩:=h2.agg_inv;obtain⟨sb,sm,rfl,q1,q2⟩:=Pr.repL2 rv;rw[r2.int_inv];have hB:=q1.data rfl;rw[gi hB];have hB':=hB;rw[gi hB]at hB';rcases Ad r1 with⟨he,_⟩|⟨ba,oa,ca,va,rfl,ga,da⟩
 ·have:=hok.n1
  rw[<-fk,he]at this;simp at this
 rw[fk]at ga da ⊢;have hba:ba<w.heap.size:=jn (hper _ _ _ (ga 0 0 hok.n1 (by decide)))
 have a0:∀i,i<t.au.length->va i 0= .int .i64 (R4 t i):=fun i hi=>by have:=da i 0 hi (by decide);rw[ij _ _ hi]at this;change co x.G (.int .i64 (R4 t i)) (va i 0)at this;exact xjx this
 have a1:∀i,i<t.au.length->co x.G (.byt (t.au.getD i au0).key .no) (va i 1):=fun i hi=>by have:=da i 1 hi (by decide);rw[ij _ _ hi]at this;exact this
 have none0:∀(A:Option Addr)(cm:Nat),ms=[]->Calls Tryz.prog 73 ⟨[.agg ⟨[.slice (some ⟨ba,oa,none⟩) t.au.length ca,.int .i64 t.thr]⟩,.agg ⟨[.slice (slA sb) (slN sb) (slC sb),.slice A 0 cm]⟩]⟩ w fun e w'=>∃v,e= .returned v/\Rep (x.grow w w') (sgR t B ms).r v/\Below w.heap.size w w':=by
  intro A cm hms;refine(Si.w73_0 w _ A t.thr cm (slA sb) (slN sb) (slC sb) (some ⟨ba,oa,none⟩) t.au.length ca rfl (fun wr=> ?_)).mono ?_
  ·refine(Si.w123 0 (.slice none 0 0) [] wr (by decide) (World.ownsRow_nil _ _ _ _)).mono ?_
   rintro e w' ⟨rfl,_,hg⟩;exact⟨rfl,hg⟩
  ·rintro e w' ⟨rfl,hb⟩
   subst hms;refine⟨_,rfl, ?_,hb⟩;show Rep _ (.lst 1 (isv (sgL t B [])) .no) _;rw[show sgL t B []=[]by simp[sgL,sgO,Si.out,Si.srt]];exact .dat _ _ (.lstN 1 .no) trivial
 rcases Ad q2 with⟨he,A,c,rfl⟩|⟨bm,om,cm,vm,rfl,gm,dm⟩
 ·exact none0 A c (List.eq_nil_of_length_eq_zero (by rw[<-ii,he];rfl))
 rw[ii]at gm dm ⊢
 by_cases hms:ms.length=0
 ·have:=none0 (some ⟨bm,om,none⟩) cm (List.eq_nil_of_length_eq_zero hms)
  rw[hms];exact this
 have hbm:bm<w.heap.size:=jn (hper _ _ _ (gm 0 0 (by omega) (by decide)))
 have m0:∀i,i<ms.length->vm i 0= .int .i64 (X2 ms i):=fun i hi=>by have:=dm i 0 hi (by decide);rw[vr _ _ hi]at this;change co x.G (.int .i64 (X2 ms i)) (vm i 0)at this;exact xjx this
 have m1:∀i,i<ms.length->co x.G (.byt (ms.getD i mk0).sig .no) (vm i 1):=fun i hi=>by have:=dm i 1 hi (by decide);rw[vr _ _ hi]at this;exact this
 have hw:=Si.w73 w t.au.length ms.length (R4 t) (X2 ms) (fun i=>slA (va i 1)) (fun j=>slA (vm j 1)) (fun i=>slN (va i 1)) (fun i=>slC (va i 1)) (fun j=>slN (vm j 1)) (fun j=>slC (vm j 1)) (xh2 t B ms) ba oa ca bm om cm t.thr (slA sb) (slN sb) (slC sb)
  hok.n2 hok.m2 hba hbm
  (fun i hi=>by have:=hper _ _ _ (ga i 0 hi (by decide));rw[a0 i hi]at this;exact this)
  (fun i hi=>by have:=hper _ _ _ (ga i 1 hi (by decide));rw[gi (a1 i hi)]at this;exact this)
  (fun i hi=>by have:=hper _ _ _ (gm i 0 hi (by decide));rw[m0 i hi]at this;exact this)
  (fun i hi=>by have:=hper _ _ _ (gm i 1 hi (by decide));rw[gi (m1 i hi)]at this;exact this)
  Si.srt (fun B1 v ss wr hl hrow=>Si.w123 B1 v ss wr (by have:=hok.n2;omega) hrow)
  (fun S hS h=>xbs _ _ _ _ _ S hS h)
  (fun i hi=>by
   have:=hok.ids _ (sI t.au au0 i hi);unfold R4;simp only[Lit.wf,IntKind.min,IntKind.max,IntKind.signed,IntKind.bits,aA,decide_eq_true_eq];constructor
   ·exact this.1
   ·exact this.2)
  (fun i j wr hi hj hbw=>by have:=Cg hok.b2 hper hL (a1 i hi) hB (m1 j hj) wr hbw;rw[gi (a1 i hi),gi hB,gi (m1 j hj)]at this;exact this)
 refine hw.mono ?_;rintro e w' ⟨v,ss,B1,hB1,rfl,hrow,hnil,hnd,hmem,hb⟩;have hs:Si.srt ss=sgL t B ms:=uJ hnd (mm _ _ _ _ _) hmem;rw[hs]at hrow;have hlen:(sgL t B ms).length=ss.length:=by rw[<-hs];simp[Si.srt]
 refine⟨v,rfl, ?_,hb⟩;show Rep _ (.lst 1 (isv (sgL t B ms)) .no) v;obtain⟨_,⟨rfl,h0⟩|⟨g,cap,cur,rfl,hbg,hg,hnc,hcm,hcs,htake⟩⟩:=hrow
 ·rw[List.eq_nil_of_length_eq_zero (hlen.trans h0)]
  exact .dat _ _ (.lstN 1 .no) trivial
 ·refine .dat _ _ (.lst 1 _ .no g 0 cap ss.length (fun i _=> .int .i64 ((sgL t B ms).getD i 0)) (by rw[Bz,hlen]) hnc (fun i hi=>by rw[BA _ _ (by omega)];rfl) (fun i j hi hj=> ?_) (fun i j hi hj=> ?_)) trivial
  ·have hj0:j=0:=by omega
   subst hj0;show(if w.heap.size<=g then w'.cell? ⟨g,0+i*1+0,none⟩else x.G g _)=_;rw[if_pos (by omega),show 0+i*1+0=i by omega,Dx hg (by omega)];have h3:=congrArg (fun l:List Value=>l[i]?) htake;simp only[iJ]at h3;have hi2:i<(sgL t B ms).length:=by omega
   rw[List.getElem?_take_of_lt hi,aR,ac hi2,bp,cP]at h3;rw[aQ,h3,aa,ac hi2];rfl
  ·have hj0:j=0:=by omega
   subst hj0;rw[BA _ _ (by omega)];exact .int _ _
end
end
theorem Au.sv_inj{a b:Au}(h:a.sv=b.sv):a=b:=by obtain⟨d,k⟩:=a;obtain⟨d2,k2⟩:=b;simp[Au.sv]at h;obtain⟨rfl,rfl⟩:=h;rfl
theorem Mk.sv_inj{a b:Mk}(h:a.sv=b.sv):a=b:=by obtain⟨d,k⟩:=a;obtain⟨d2,k2⟩:=b;simp[Mk.sv]at h;obtain⟨rfl,rfl⟩:=h;rfl
theorem sC{α β:Type}{f:α->β}(hf:∀a b,f a=f b->a=b):∀{l m:List α},l.map f=m.map f->l=m
 |[],[],_=>rfl
 |[],_::_,h=>by simp at h
 |_::_,[],h=>by simp at h
 |a::l,b::m,h=>by simp only[aF,kZ.injEq]at h;rw[hf a b h.1,sC hf h.2]
theorem Tr.sv_inj{a b:Tr}(h:a.sv=b.sv):a=b:=by obtain⟨d,k⟩:=a;obtain⟨d2,k2⟩:=b;simp only[Tr.sv,kZ.injEq,SV.lst.injEq,SV.int.injEq,true_and,and_true]at h;rw[sC (fun _ _=>Au.sv_inj) h.1,h.2]
theorem BK{B C:List UInt8}{ms ns:List Mk}(h:dX B ms=dX C ns):B=C/\ms=ns:=by simp only[dX,kZ.injEq,SV.lst.injEq,SV.byt.injEq,true_and,and_true]at h;exact⟨h.1,sC (fun _ _=>Mk.sv_inj) h.2⟩
def sgP(ar:List SV)(q:Tr×List UInt8×List Mk):Prop:=ar=[.agg q.1.sv,.agg (dX q.2.1 q.2.2)]/\R8 q.1 q.2.1 q.2.2
open Classical in
noncomputable def p73(ar:List SV)(os:List aC)(k:Nat):Option dv:=
 if h:(∃q,sgP ar q)/\os=[]/\k=0 then some (sgR (Classical.choose h.1).1 (Classical.choose h.1).2.1 (Classical.choose h.1).2.2)else none
theorem xbr{t:Tr}{B:List UInt8}{ms:List Mk}(hok:R8 t B ms):p73 [.agg t.sv,.agg (dX B ms)] [] 0=some (sgR t B ms):=by have hx:∃q,sgP [.agg t.sv,.agg (dX B ms)] q:=⟨(t,B,ms),rfl,hok⟩;unfold p73;rw[dif_pos ⟨hx,rfl,rfl⟩];have hs:=Classical.choose_spec hx;have e:=hs.1;simp only[kZ.injEq,SV.agg.injEq,and_true]at e;rw[<-Tr.sv_inj e.1,<-(BK e.2).1,<-(BK e.2).2]
theorem xbq:∀ar os k q,p73 ar os k=some q->fz Tryz.prog 73 ar os k (· =q):=by
 intro ar os k q h;unfold p73 at h;split at h
 ·rename_i hc
  have hs:=Classical.choose_spec hc.1;obtain⟨_,rfl,rfl⟩:=hc;generalize Classical.choose _=z at*;obtain⟨t,B,ms⟩:=z;obtain⟨rfl,hok⟩:=hs;cases h;exact xaF hok
 ·cases h
noncomputable def U:fP:=T.addP 73 p73
theorem GN:D3 T U:=ET T p73 rfl
theorem xh3:nt Tryz.prog U:=R5 GO xbq
theorem up{g:Nat}{a:List SV}{os:List aC}{k:Nat}{q:dv}(h:call T g a os k=some q):call U g a os k=some q:=Gu GN h
theorem US(k:Nat):U.sg k=T.sg k:=rfl
theorem f73{t:Tr}{B:List UInt8}{ms:List Mk}(hok:R8 t B ms):call U 73 [.agg t.sv,.agg (dX B ms)] [] 0=some ⟨.lst 1 (isv (sgL t B ms)) .no,[],[]⟩:=by have e:U.fn 73=some (.prim p73):=BV T 73 p73;rw[eF e];exact xbr hok
theorem R7:U.fn 46=some (.code F46):=GN.fn 46 _ xmI
theorem YB:T.sg 73= {}:=rfl
section
variable (aid mid : Nat -> Int) (V : Nat -> Nat -> Bool)
def gdF(n j:Nat):Bool:=(bA n).any fun i=>decide (aid i=mid j)&&V i j
theorem BG(n j:Nat):gdF aid mid V n j=true↔∃i,i<n/\aid i=mid j/\V i j=true:=by
 unfold gdF;rw[List.any_eq_true];constructor
 ·rintro⟨i,hi,h⟩
  simp only[aA,decide_eq_true_eq]at h;exact⟨i,dJ.1 hi,h.1,h.2⟩
 ·rintro⟨i,hi,h1,h2⟩
  exact⟨i,dJ.2 hi,by simp[h1,h2]⟩
theorem By(j:Nat)(ks:List Int)(x:Int):∀n,x∈Si.inn aid mid V j ks n↔x∈ks\/∃i,i<n/\aid i=mid j/\V i j=true/\aid i=x
 |0=>by simp[Si.inn]
 |n+1=>by
  have ih:=By j ks x n;show x∈Si.stp aid mid V (Si.inn aid mid V j ks n) n j↔_
  have e:(∃i,i<n+1/\aid i=mid j/\V i j=true/\aid i=x)↔(∃i,i<n/\aid i=mid j/\V i j=true/\aid i=x)\/(aid n=mid j/\V n j=true/\aid n=x):=by
   constructor
   ·rintro⟨i,h1,h2⟩
    by_cases e:i=n
    ·subst e;exact .inr h2
    ·exact .inl ⟨i,by omega,h2⟩
   ·rintro(⟨i,h1,h2⟩|h2)
    ·exact⟨i,by omega,h2⟩
    ·exact⟨n,by omega,h2⟩
  rw[e];unfold Si.stp;split
  ·rename_i hc
   rw[al,ih,bw];constructor
   ·rintro((h|h)|h)
    ·exact .inl h
    ·exact .inr (.inl h)
    ·exact .inr (.inr ⟨hc.1,hc.2.2,h.symm⟩)
   ·rintro(h|h|h)
    ·exact .inl (.inl h)
    ·exact .inl (.inr h)
    ·exact .inr h.2.2.symm
  ·rename_i hc
   constructor
   ·intro h
    rcases ih.1 h with h|h
    ·exact .inl h
    ·exact .inr (.inl h)
   ·rintro(h|h|h)
    ·exact ih.2 (.inl h)
    ·exact ih.2 (.inr h)
    ·by_cases hm:aid n∈Si.inn aid mid V j ks n
     ·rw[<-h.2.2];exact hm
     ·exact absurd ⟨h.1,hm,h.2.1⟩ hc
theorem Bx(n:Nat)(x:Int):∀m,x∈Si.out aid mid V n m↔∃j,j<m/\gdF aid mid V n j=true/\mid j=x
 |0=>by simp[Si.out]
 |m+1=>by
  show x∈Si.inn aid mid V m (Si.out aid mid V n m) n↔_;rw[By,Bx n x m];constructor
  ·rintro(⟨j,h1,h2,h3⟩|⟨i,h1,h2,h3,h4⟩)
   ·exact⟨j,by omega,h2,h3⟩
   ·exact⟨m,by omega,(BG aid mid V n m).2 ⟨i,h1,h2,h3⟩,by rw[<-h2];exact h4⟩
  ·rintro⟨j,h1,h2,h3⟩
   by_cases e:j=m
   ·subst e
    obtain⟨i,k1,k2,k3⟩:=(BG aid mid V n j).1 h2;exact .inr ⟨i,k1,k2,k3,by rw[k2];exact h3⟩
   ·exact .inl ⟨j,by omega,h2,h3⟩
end
theorem FV{l:List Int}(h:l.Pairwise (· < ·)):l.Nodup:=h.imp fun h e=>by omega
theorem Cu{l:List Int}(h:l.Pairwise (· < ·)):Si.srt l=l:=by
 have tr:∀a b c:Int,decide (a<=b)=true->decide (b<=c)=true->decide (a<=c)=true:=fun a b c h1 h2=>by simp only[decide_eq_true_eq]at*;omega
 have to:∀a b:Int,(decide (a<=b)||decide (b<=a))=true:=fun a b=>by simp only[eV,decide_eq_true_eq];omega
 refine List.Perm.eq_of_pairwise (le:=fun a b=>decide (a<=b)=true) (fun a b _ _ h1 h2=> ?_) (List.pairwise_mergeSort tr to l) (h.imp fun h=>by simp only[decide_eq_true_eq];omega) (List.mergeSort_perm l _);simp only[decide_eq_true_eq]at h1 h2;omega
def gdB(t:Tr)(B:List UInt8)(m:Mk):Bool:=(bA t.au.length).any fun i=>decide ((t.au.getD i au0).id=m.auth)&&jT (t.au.getD i au0).key B m.sig
def ed(i:Nat):List UInt8:=sha [107,ub i]
theorem eD(i:Nat):(ed i).length=32:=lV _
theorem f38(i:Nat):call T 38 [.int .i64 i] [] 0=some ⟨.byt (ed i) .no,[],[]⟩:=by have g:=f68 [107,ub i] (by simp);unfold ub at g;rw[an xmL];simp only[go_sem,Qh,Qi,Qj,Qk,reduceCtorEq,reduceIte,g,YC,ed,ub]
theorem f37(seed:List UInt8)(hs:seed.length<=64):call T 37 [.byt seed .no,.int .i64 1] [] 0=some ⟨.byt (iB seed 1) .no,[],[]⟩:=by
 have g1:=xdC seed hs;rw[xdz]at g1;simp only[bys,aF,bX]at g1;have g2:=xlz (pubL (lsV seed 1) 0) (pubL (lsV seed 1) 1) (by rw[ee];decide) (by rw[ee];decide);have e:iB seed 1=cQ 1::jw 0 0 (pubL (lsV seed 1) 0) (pubL (lsV seed 1) 1):=rfl;have hl:(jw 0 0 (pubL (lsV seed 1) 0) (pubL (lsV seed 1) 1)).length=16:=eA _ _;rw[e];generalize jw 0 0 (pubL (lsV seed 1) 0) (pubL (lsV seed 1) 1)=J at*;generalize pubL (lsV seed 1) 0=A at*;generalize pubL (lsV seed 1) 1=B at*;have c1:1+16<=140737488355328:=by decide
 have c2:16+1<=140737488355328:=by decide
 rw[an xmM];simp (config:= {decide:=true}) only[go_sem,Qe,Qh,Qi,Qj,Qk,reduceCtorEq,reduceIte,g1,g2,YD,xm0,hl,c1]
def auV(i:Nat):Au:=⟨3+2*(i:Int),iB (ed (3+2*i)) 1⟩
def auL(k:Nat):List Au:=(bA (k+1)).map auV
def trL(k:Nat)(thr:Int):Tr:=⟨auL k,1+gN thr ((k+1:Nat):Int)⟩
theorem C0(ms:List Mk)(m:Mk):ju (ms++ [m])=ju ms++ [m.sv]:=by simp[ju]
theorem f61(B:List UInt8)(ms:List Mk)(a:Int)(seed:List UInt8)(h leaf:Int)(hm:ms.length<=1000)(hs:seed.length<=64)(hB:B.length<=100000000)(hh:h<0\/3<h\/h=0\/h=1):
 call T 61 [.agg (dX B ms),.int .i64 a,.byt seed .no,.int .i64 h,.int .i64 leaf] [] 0=some ⟨.agg (dX B (ms++ [⟨a,sgn seed h leaf B⟩])),[],[]⟩:=by
 have g1:=xl5 seed h leaf B hs hB hh;have hl:=ii ms;have c1:(ms.length+1)*32<=140737488355328:=by omega
 have c2:ms.length*32<=140737488355328:=by omega
 unfold dX;rw[C0];simp only[Mk.sv];rw[an xmE];simp only[go_sem,Qb,Qc,Qd,Qe,Qh,Qi,Qj,Qk,reduceCtorEq,reduceIte,g1,xhY,hl,c1,c2]
theorem kw3:ah.wrap 3=3:=by decide
theorem kw4:ah.wrap 4=4:=by decide
theorem kw5:ah.wrap 5=5:=by decide
theorem kw7:ah.wrap 7=7:=by decide
theorem jt(a b:Int)(h:1<=b):0<=gN a b/\gN a b<b:=by
 unfold gN;rw[if_neg (by omega)];have h1:=Int.tmod_lt_of_pos a (show 0<b by omega)
 have h2: -b<a.tmod b:=by have:=Int.tmod_lt_of_pos (-a) (show 0<b by omega);rw[Int.neg_tmod]at this;omega
 split<;>omega
theorem xgs(n thr:Int)(h0: -9223372036854775808<=thr)(h1:thr<=9223372036854775807)(hn0: -9223372036854775808<=n)(hn1:n<=9223372036854775807)(hk:gN n 3=0):call T 10 [.int .i64 n,.int .i64 thr] [] 0=some ⟨.agg (trL 0 thr).sv,[],[]⟩:=by
 have gm:=f21 n 3 hn0 hn1 (by decide);rw[hk]at gm;have gt:=f21 thr 1 h0 h1 (by decide);have hb:=jt thr 1 (by decide);have ht:ah.wrap (1+gN thr 1)=1+gN thr 1:=w64 (by omega) (by omega);have s0:=f38 3;have p0:=f37 (ed 3) (by rw[eD];decide);have s1:=f38 5;have p1:=f37 (ed 5) (by rw[eD];decide);have s2:=f38 7;have p2:=f37 (ed 7) (by rw[eD];decide);have e3:((3:Nat):Int)=3:=rfl;have e5:((5:Nat):Int)=5:=rfl;have e7:((7:Nat):Int)=7:=rfl;rw[e3]at s0;rw[e5]at s1;rw[e7]at s2;have e:(trL 0 thr).sv=[.lst 2 [[.int .i64 3,.byt (iB (ed 3) 1) .no]] .no,.int .i64 (1+gN thr 1)]:=rfl;rw[e];generalize iB (ed 3) 1=P0 at*;generalize iB (ed 5) 1=P1 at*;generalize iB (ed 7) 1=P2 at*;generalize ed 3=S0 at*;generalize ed 5=S1 at*;generalize ed 7=S2 at*;rw[an xdN];simp (config:= {decide:=true}) only[go_sem,Qe,Qh,Qi,Qj,reduceCtorEq,reduceIte];rw[ai];simp (config:= {decide:=true}) only[go_sem,Q8,Qa,Qe,Qg,Qh,Qi,Qj,Qk,reduceCtorEq,reduceIte,gm,tq,kw0,kw1,kw3,s0,p0,rK,Nz,am,aB,bg,aI];rw[ai];simp (config:= {decide:=true}) only[go_sem,Qe,Qh,Qi,Qj,Qk,reduceCtorEq,reduceIte,gm,tq,am,aB,bg,aI];simp (config:= {decide:=true}) only[go_sem,Qe,Qh,Qj,Qk,reduceIte,gt,ht,am,aB]
 trace_state
theorem xgr(n thr:Int)(h0: -9223372036854775808<=thr)(h1:thr<=9223372036854775807)(hn0: -9223372036854775808<=n)(hn1:n<=9223372036854775807)(hk:gN n 3=1):call T 10 [.int .i64 n,.int .i64 thr] [] 0=some ⟨.agg (trL 1 thr).sv,[],[]⟩:=by
 have gm:=f21 n 3 hn0 hn1 (by decide);rw[hk]at gm;have gt:=f21 thr 2 h0 h1 (by decide);have hb:=jt thr 2 (by decide);have ht:ah.wrap (1+gN thr 2)=1+gN thr 2:=w64 (by omega) (by omega);have s0:=f38 3;have p0:=f37 (ed 3) (by rw[eD];decide);have s1:=f38 5;have p1:=f37 (ed 5) (by rw[eD];decide);have s2:=f38 7;have p2:=f37 (ed 7) (by rw[eD];decide);have e3:((3:Nat):Int)=3:=rfl;have e5:((5:Nat):Int)=5:=rfl;have e7:((7:Nat):Int)=7:=rfl;rw[e3]at s0;rw[e5]at s1;rw[e7]at s2;have e:(trL 1 thr).sv=[.lst 2 [[.int .i64 3,.byt (iB (ed 3) 1) .no],[.int .i64 5,.byt (iB (ed 5) 1) .no]] .no,.int .i64 (1+gN thr 2)]:=rfl;rw[e];generalize iB (ed 3) 1=P0 at*;generalize iB (ed 5) 1=P1 at*;generalize iB (ed 7) 1=P2 at*;generalize ed 3=S0 at*;generalize ed 5=S1 at*;generalize ed 7=S2 at*;rw[an xdN];simp (config:= {decide:=true}) only[go_sem,Qe,Qh,Qi,Qj,reduceCtorEq,reduceIte];rw[ai];simp (config:= {decide:=true}) only[go_sem,Q8,Qa,Qe,Qg,Qh,Qi,Qj,Qk,reduceCtorEq,reduceIte,gm,tq,kw0,kw1,kw3,s0,p0,rK,Nz,am,aB,bg,aI];rw[ai];simp (config:= {decide:=true}) only[go_sem,Q8,Qa,Qe,Qg,Qh,Qi,Qj,Qk,reduceCtorEq,reduceIte,gm,tq,kw2,kw5,s1,p1,rK,Nz,am,aB,bg,aI];rw[ai];simp (config:= {decide:=true}) only[go_sem,Qe,Qh,Qi,Qj,Qk,reduceCtorEq,reduceIte,gm,tq,am,aB,bg,aI]
 simp (config:= {decide:=true}) only[go_sem,Qe,Qh,Qj,Qk,reduceIte,gt,ht,am,aB]
 trace_state
theorem xgq(n thr:Int)(h0: -9223372036854775808<=thr)(h1:thr<=9223372036854775807)(hn0: -9223372036854775808<=n)(hn1:n<=9223372036854775807)(hk:gN n 3=2):call T 10 [.int .i64 n,.int .i64 thr] [] 0=some ⟨.agg (trL 2 thr).sv,[],[]⟩:=by
 have gm:=f21 n 3 hn0 hn1 (by decide);rw[hk]at gm;have gt:=f21 thr 3 h0 h1 (by decide);have hb:=jt thr 3 (by decide);have ht:ah.wrap (1+gN thr 3)=1+gN thr 3:=w64 (by omega) (by omega);have s0:=f38 3;have p0:=f37 (ed 3) (by rw[eD];decide);have s1:=f38 5;have p1:=f37 (ed 5) (by rw[eD];decide);have s2:=f38 7;have p2:=f37 (ed 7) (by rw[eD];decide);have e3:((3:Nat):Int)=3:=rfl;have e5:((5:Nat):Int)=5:=rfl;have e7:((7:Nat):Int)=7:=rfl;rw[e3]at s0;rw[e5]at s1;rw[e7]at s2;have e:(trL 2 thr).sv=[.lst 2 [[.int .i64 3,.byt (iB (ed 3) 1) .no],[.int .i64 5,.byt (iB (ed 5) 1) .no],[.int .i64 7,.byt (iB (ed 7) 1) .no]] .no,.int .i64 (1+gN thr 3)]:=rfl;rw[e];generalize iB (ed 3) 1=P0 at*;generalize iB (ed 5) 1=P1 at*;generalize iB (ed 7) 1=P2 at*;generalize ed 3=S0 at*;generalize ed 5=S1 at*;generalize ed 7=S2 at*;rw[an xdN];simp (config:= {decide:=true}) only[go_sem,Qe,Qh,Qi,Qj,reduceCtorEq,reduceIte];rw[ai];simp (config:= {decide:=true}) only[go_sem,Q8,Qa,Qe,Qg,Qh,Qi,Qj,Qk,reduceCtorEq,reduceIte,gm,tq,kw0,kw1,kw3,s0,p0,rK,Nz,am,aB,bg,aI];rw[ai];simp (config:= {decide:=true}) only[go_sem,Q8,Qa,Qe,Qg,Qh,Qi,Qj,Qk,reduceCtorEq,reduceIte,gm,tq,kw2,kw5,s1,p1,rK,Nz,am,aB,bg,aI];rw[ai];simp (config:= {decide:=true}) only[go_sem,Q8,Qa,Qe,Qg,Qh,Qi,Qj,Qk,reduceCtorEq,reduceIte,gm,tq,kw3,kw4,kw7,s2,p2,rK,Nz,am,aB,bg,aI]
 rw[ai];simp (config:= {decide:=true}) only[go_sem,Qe,Qh,Qi,Qj,Qk,reduceCtorEq,reduceIte,gm,tq,am,aB,bg,aI];simp (config:= {decide:=true}) only[go_sem,Qe,Qh,Qj,Qk,reduceIte,gt,ht,am,aB]
 trace_state
theorem DA(l:List Au)(n:Nat):(kX l).take n=kX (l.take n):=by simp[kX,List.map_take]
theorem BT(k:Nat):(auL k).length=k+1:=by simp[auL]
theorem RX(i:Nat):(auV i).key.length=17:=by
 show(iB _ 1).length=17;have e:∀s,iB s 1=cQ 1::jw 0 0 (pubL (lsV s 1) 0) (pubL (lsV s 1) 1):=fun _=>rfl
 rw[e,am];have:(jw 0 0 (pubL (lsV (ed (3+2*i)) 1) 0) (pubL (lsV (ed (3+2*i)) 1) 1)).length=16:=eA _ _;omega
theorem md(k i:Nat)(h:i<=k):(auL k).getD i au0=auV i:=by simp only[auL,aa,aR];rw[ch (by omega)];rfl
theorem xgH(k i:Nat)(h:i<=k)(hk:k<=2):auE (auL k) i=0:=by
 unfold auE;rw[md k i h];have hkl:=RX i
 by_cases h0:i=0
 ·subst h0
  rw[if_neg (by show ¬(3+2*((0:Nat):Int))<1;omega),if_neg (by show ¬1000<(3+2*((0:Nat):Int));omega),if_pos (by omega),if_pos rfl]
 ·rw[md k (i-1) (by omega)]
  rw[if_neg (by show ¬(3+2*(i:Int))<1;omega),if_neg (by show ¬1000<(3+2*(i:Int));omega),if_pos (by omega),if_neg h0,if_neg (by show ¬(3+2*(i:Int))<=(3+2*((i-1:Nat):Int));omega)]
theorem Nv(k:Nat)(hk:k<=2):∀n i,i+n<=k+1->kY (auL k) n i=0
 |0,_,_=>rfl
 |n+1,i,h=>by show(if auE (auL k) i=0 then kY (auL k) n (i+1)else auE (auL k) i)=0;rw[if_pos (xgH k i (by omega) hk)];exact Nv k hk n (i+1) (by omega)
theorem DE(k:Nat)(hk:k<=2)(thr:Int):trE (trL k thr)=0:=by have hb:=jt thr ((k+1:Nat):Int) (by omega);have hl:=BT k;unfold trE;show(if(4:Int)<(auL k).length then(4:Int)else if kY (auL k) (auL k).length 0=0 then(if 1+gN thr ((k+1:Nat):Int)<1 then 1 else if((auL k).length:Int)<1+gN thr ((k+1:Nat):Int)then 1 else 0)else kY (auL k) (auL k).length 0)=0;rw[hl,if_neg (by omega),if_pos (Nv k hk (k+1) 0 (by omega)),if_neg (by omega),if_neg (by omega)]
theorem f10(n thr:Int)(h0: -9223372036854775808<=thr)(h1:thr<=9223372036854775807)(hn0: -9223372036854775808<=n)(hn1:n<=9223372036854775807):∃k:Nat,k<=2/\(k:Int)=gN n 3/\call T 10 [.int .i64 n,.int .i64 thr] [] 0=some ⟨.agg (trL k thr).sv,[],[]⟩:=by
 have hb:=jt n 3 (by decide);rcases (by omega:gN n 3=0\/gN n 3=1\/gN n 3=2)with h|h|h
 ·exact⟨0,by decide,h.symm,xgs n thr h0 h1 hn0 hn1 h⟩
 ·exact⟨1,by decide,h.symm,xgr n thr h0 h1 hn0 hn1 h⟩
 ·exact⟨2,by decide,h.symm,xgq n thr h0 h1 hn0 hn1 h⟩
end Go.Proofs.YtbfnljmmepcbfaaGreatDoor
