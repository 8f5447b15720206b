/- Contracts. No condition. -/
import Derived.Test.YtbfnljmmepcbfaaGreatDoorTgPC
open Go.IntKind renaming i64 -> af
open List renaming append_assoc -> ay, append_nil -> bA, getD_eq_getElem?_getD -> aa, getElem?_eq_getElem -> ac, getElem_mem -> bv, getElem_of_mem -> bg, length_append -> ae, length_drop -> aE, length_eq_zero_iff -> b8, length_map -> aV, length_nil -> aB, length_range -> ij, length_singleton -> aG, length_take -> an, map_drop -> mF, map_take -> fN, mem_append -> am, mem_cons -> av, mem_cons_of_mem -> aw, mem_cons_self -> aA, mem_range -> dt, nil_append -> aF, nodup_cons -> dR, pairwise_cons -> bJ, pairwise_iff_getElem -> cD, range -> bC, take_append_drop -> cT, take_of_length_le -> aT
open Nat renaming le_refl -> aK, mod_eq_of_lt -> ct, mod_lt -> vq, zero_le -> aY
open Option renaming getD_some -> aM
set_option maxRecDepth 100000
set_option maxHeartbeats 16000000
set_option linter.unusedSimpArgs false
set_option linter.unusedVariables false
namespace Go.Proofs.YtbfnljmmepcbfaaGreatDoor
open Go.Sy
open UInt8 renaming reduceLT -> Q0, reduceLE -> Q3
open Int renaming reduceToNat -> Q4, reduceLE -> Q5, reduceLT -> Q6, reduceEq -> Q7, reduceNe -> Q8, reduceNeg -> Q9, reduceAdd -> Qa, reduceSub -> Qb, reduceMul -> Qc
open Nat renaming reducePow -> Qd, reduceDiv -> Qe, reduceMod -> Qf, reduceAdd -> Qg, reduceSub -> Qh, reduceMul -> Qi, reduceLT -> Qj, reduceLeDiff -> Qk, reduceEqDiff -> Ql, reduceBEq -> Qm
structure xbd(k:Nat)(thr:Int)(n:Nat)(c:Cat):Prop where
 s:w6 c
 t:c.t=trL k thr
 n:c.ms.length+c.ws.length<=n
theorem xaM{k:Nat}(I:k<=2){thr:Int}{n:Nat}(hn:n<16){c:Cat}(h:xbd k thr n c){x:Itm}(F:x.OK):
 (lL c x).2=0/\xbd k thr (n+1) (lL c x).1/\(∀m∈c.ms,m∈(lL c x).1.ms)/\(∀w∈c.ws,w∈(lL c x).1.ws):=by
 have C:=CZ h.s x.body (gi 7 x.body);have hN:=h.n;have E:=h.t;change w6 (lL c x).1 at C;cases x with
 |m m=>
  have e:lL c (.m m)=mN c m:=xT F.2 (by rw[E];exact Iw k I thr _ (IV F.2));rw[e]at C ⊢;unfold mN at C ⊢
  by_cases q:m∈c.ms
  ·rw[if_pos q]at C ⊢
   exact⟨rfl,⟨C,E,by show c.ms.length+c.ws.length<=n+1;omega⟩,fun m h=>h,fun w h=>h⟩
  ·rw[if_neg q,if_neg (by omega)]at C ⊢
   have J:(mz c.ms m).length=c.ms.length+1:=rX _ _;exact⟨rfl,⟨C,E,by show(mz c.ms m).length+c.ws.length<=n+1;omega⟩,fun y h=>(rQ _ _ _).2 (.inr h),fun w h=>h⟩
 |w w=>
  have e:lL c (.w w)=ng c w:=C0 F (by rw[E];exact Iw k I thr _ (VZ F));rw[e]at C ⊢;unfold ng at C ⊢
  by_cases q:w∈c.ws
  ·rw[if_pos q]at C ⊢
   exact⟨rfl,⟨C,E,by show c.ms.length+c.ws.length<=n+1;omega⟩,fun m h=>h,fun w h=>h⟩
  ·rw[if_neg q,if_neg (by omega)]at C ⊢
   have J:(tj c.ws w).length=c.ws.length+1:=zi _ _;exact⟨rfl,⟨C,E,by show c.ms.length+(tj c.ws w).length<=n+1;omega⟩,fun m h=>h,fun y h=>(rP _ _ _).2 (.inr h)⟩
theorem Lj{k:Nat}(C:k<=2)(thr:Int):xbd k thr 0 (kI (trL k thr)).1:=by have y:=UI (trL k thr);have e:kI (trL k thr)=(⟨trL k thr,[],[]⟩,0):=if_pos (Ai k C thr);rw[e]at y ⊢;exact⟨y,rfl,aK _⟩
theorem Gc{c:Cat}(h:ge c)(y:Int):(∀x∈wb c y,dC x)/\(wb c y).length<=100000:=by have hn:=h.n;have E:(wb c y).length<=c.ms.length:=List.length_filter_le _ _;exact⟨fun x C=>(h.m x (List.mem_filter.1 C).1).1,by omega⟩
def jy(l:t8):d8:=l.map fun(k:Nat)=> [SV.int .i64 (k:Int)]
theorem jZ(l:t8):(jy l).length=l.length:=aV ..
theorem yX(l:t8)(i:Nat)(h:i<l.length):(jy l).getD i []=[.int .i64 ((l.getD i 0:Nat):Int)]:=by simp[jy,aa,h]
theorem ut(l:t8)(k:Nat):jy l++ [[.int .i64 (k:Int)]]=jy (l++ [k]):=by simp[jy]
theorem HK(l:t8)(n:Nat):(jy l).take n=jy (l.take n):=by simp[jy,fN]
theorem HM(l:t8)(n:Nat):(jy l).drop n=jy (l.drop n):=by simp[jy,mF]
theorem xwL(B:d9)(n:Nat)(hn:n<=100):∀(m i:Nat),n-i=m->i<=n->
 run T (.loop VG) ⟨[(0,.int .i64 n),(5,.ptr 12100 0),(6,.lst 1 (jy (bC i)) (.id 106)),(7,.lst 1 [] .clip),(8,.int .i64 i)],[(12100,aX B 0)],[106]⟩=
  some (.x 0,⟨[(5,.ptr 12100 0),(6,.lst 1 (jy (bC n)) (.id 106)),(7,.lst 1 [] .clip)],[(12100,aX B 0)],[106]⟩):=by
 intro m;induction m with
 |zero=>
  intro i E L;have hi:i=n:=by omega
  subst hi;simp only[aX];rw[ai];simp only[go_sem,Qj,Ql,Qm,reduceCtorEq,reduceIte]
 |succ m J=>
  intro i E L;have O:i<n:=by omega
  have I:=cr i (by omega);have y:=J (i+1) (by omega) (by omega);rw[List.range_succ,<-ut]at y;have C:=jZ (bC i);rw[ij]at C;have F:(i+1)*8<=140737488355328:=by omega
  simp only[aX,c0]at y ⊢;rw[ai];simp only[go_sem,Qg,Qj,Qk,Ql,Qm,reduceCtorEq,reduceIte,O,C,F,I,y]
def stO(B:d9)(left out:t8)(j:Nat):CSt:=⟨[(5,.ptr 12100 0),(6,.lst 1 (jy left) (.id 106)),(7,.lst 1 (jy out) (.id 107))],[(12100,aX B j)],[106,107]⟩
theorem s30(B:d9)(hB:B.length<=1000)(left out:t8)(j:Nat)(I:left≠ [])(hl:left.length<=1000)(ho:out.length<=1000):∃q C:Nat,q<left.length/\
 run T (.loop sY) (stO B left out j)=run T (.loop sY) (stO B (left.take q++left.drop (q+1)) (out++ [left.getD q 0]) C):=by
 have y:=List.length_pos_iff.2 I;obtain⟨q,C,E,g⟩:=ku B hB j left.length y;refine⟨q,C,E, ?_⟩;have Z:=cr q (by omega);have hv:=jZ left;have F:=jZ out;have W:=yX left q E;have hz:(0:Int)<left.length:=by omega
 have O:=HK left q;have L:=HM left (q+1);have t3:=jZ (left.take q);have t4:=jZ (left.drop (q+1));have t5:(left.take q).length=q:=by rw[an];omega
 have t6:(left.drop (q+1)).length=left.length-(q+1):=aE;have t7:(jy left).take left.length=jy left:=aT (by omega);have q1:q<=left.length:=by omega
 have q2:q+1<=left.length:=by omega
 have Q:(out.length+1)*8<=140737488355328:=by omega
 have b2:q*8<=140737488355328:=by omega
 have b3:(q+(left.length-(q+1)))*8<=140737488355328:=by omega
 have r1:jy (left.take q++left.drop (q+1))=jy (left.take q)++jy (left.drop (q+1)):=by simp[jy]
 have J:=ut out (left.getD q 0);unfold stO;rw[r1,<-J];generalize left.getD q 0=v at*;simp only[aX]at*
 conv=>lhs;rw[ai]
 simp only[go_sem,Q4,Q5,Qd,Qe,Qf,Qg,Qi,Qj,Qk,Ql,Qm,reduceCtorEq,reduceIte,hv,hz,g,gO,E,W,F,Q,Z,q1,q2,O,L,t3,t4,t5,t6,t7,b2,b3]
theorem HF(left out:t8)(q:Nat)(C:q<left.length):(out++left).Perm ((out++ [left.getD q 0])++(left.take q++left.drop (q+1))):=by
 have e:left=left.take q++left.getD q 0::left.drop (q+1):=by rw[aa,ac C,aM,List.getElem_cons_drop,cT]
 have y:left.Perm (left.getD q 0::(left.take q++left.drop (q+1))):=by
  conv=>lhs;rw[e]
  exact List.perm_middle
 rw[ay];exact List.Perm.append_left out y
theorem xwK(B:d9)(O:B.length<=1000):∀(n:Nat)(left out:t8)(j:Nat),left.length=n->out.length+left.length<=1000->
 ∃(o:t8)(ob:List (Nat×aH))(tk:t8),(out++left).Perm o/\run T (.loop sY) (stO B left out j)=some (.x 2,⟨[(7,.lst 1 (jy o) (.id 107))],ob,[106,107]⟩):=by
 intro n;induction n with
 |zero=>intro left out j h0 h1;obtain rfl:=b8.1 h0;refine⟨out,[(12100,aX B j)],[],by rw[bA], ?_⟩;unfold stO;have L:jy []=[]:=rfl;simp only[aX,L];rw[ai];simp only[go_sem,Q6,Qj,Ql,Qm,reduceIte]
 |succ n C=>
  intro left out j h0 h1;obtain⟨q,F,I,e⟩:=s30 B O left out j (fun h=>by rw[h]at h0;simp at h0) (by omega) (by omega);have E:(left.take q++left.drop (q+1)).length=n:=by rw[ae,an,aE];omega
  obtain⟨o,ob,tk,y,J⟩:=C (left.take q++left.drop (q+1)) (out++ [left.getD q 0]) F E (by rw[ae,aG];omega);exact⟨o,ob,tk,(HF left out q I).trans y,e.trans J⟩
theorem f30(n:Nat)(hn:n<=100)(a:d9):∃o:t8,(bC n).Perm o/\call T 30 [.int .i64 n,.byt a .no] [] 0=some ⟨.lst 1 (jy o) .no,[],[]⟩:=by
 have g0:=f16 a 100;rw[show((100:Nat):Int)=100 from rfl]at g0;have F:(a.take 100).length<=1000:=by rw[an];omega
 generalize a.take 100=B at*;have y:=xwL B n hn _ 0 rfl (aY _);obtain⟨o,ob,tk,E,C⟩:=xwK B F _ (bC n) [] 0 rfl (by rw[ij,aB];omega);refine⟨o,by rw[aF]at E;exact E, ?_⟩;have d0:jy []=[]:=rfl;rw[List.range_zero,d0]at y;rw[aj xy1];simp only[stO,aX,c0,d0]at g0 y C ⊢;simp only[go_sem,Qg,Qi,Qj,Qk,Ql,Qm,reduceCtorEq,reduceIte,g0,xiO,y,C]
theorem od{α:Type}{r:α->α->Prop}(C:∀a,¬r a a)(E:∀a b c,r a b->r b c->r a c):∀{L M:List α},L.Pairwise r->M.Pairwise r->(∀x,x∈L↔x∈M)->L=M
 |[],[],_,_,_=>rfl
 |[],y::M,_,_,h=>by have:=(h y).2 aA;cases this
 |x::L,[],_,_,h=>by have:=(h x).1 aA;cases this
 |x::L,y::M,hl,hm,h=>by
  obtain⟨F,J⟩:=bJ.1 hl;obtain⟨I,m2⟩:=bJ.1 hm
  have e:x=y:=by
   rcases av.1 ((h x).1 aA)with e|hx
   ·exact e
   ·rcases av.1 ((h y).2 aA)with e|hy
    ·exact e.symm
    ·exact absurd (E _ _ _ (I x hx) (F y hy)) (C y)
  subst e
  have:L=M:=od C E J m2 fun z=>by
   constructor
   ·intro hz
    rcases av.1 ((h z).1 (aw _ hz))with e|hz'
    ·subst e;exact absurd (F z hz) (C z)
    ·exact hz'
   ·intro hz
    rcases av.1 ((h z).2 (aw _ hz))with e|hz'
    ·subst e;exact absurd (I z hz) (C z)
    ·exact hz'
  rw[this]
def ltM(a b:Man):Prop:=Lib.compareBytes (bU a) (bU b)<0
theorem xnt(a:Man):¬ltM a a:=by unfold ltM;rw[iD];decide
theorem xns(a b c:Man)(h:ltM a b)(k:ltM b c):ltM a c:=nC _ _ _ h k
theorem xtv{L:List Man}(C:pd L)(hd:L.Pairwise fun a b=>bU a≠bU b):L.Pairwise ltM:=by
 refine(C.and hd).imp fun{a b} h=> ?_
 obtain⟨E,y⟩:=h;have F:¬Lib.compareBytes (bU b) (bU a)=0:=fun e=>y ((gM _ _).1 e).symm
 exact jh E F
theorem xkY{L M:List Man}(O:pd L)(F:pd M)(hd:L.Pairwise fun a b=>bU a≠bU b)(hn:M.Nodup)(h:∀x,x∈L↔x∈M):L=M:=by
 have hL:=xtv O hd
 have y:∀a∈L,∀b∈L,bU a=bU b->a=b:=fun a J b I e=>by
  obtain⟨i,hi,rfl⟩:=bg J;obtain⟨j,C,rfl⟩:=bg I;rcases Nat.lt_trichotomy i j with q|q|q
  ·exact absurd e (cD.1 hd i j hi C q)
  ·subst q;rfl
  ·exact absurd e.symm (cD.1 hd j i C hi q)
 have hM:M.Pairwise fun a b=>bU a≠bU b:=by rw[cD];intro i j hi C E e;have:=y _ ((h _).2 (bv hi)) _ ((h _).2 (bv C)) e;exact absurd this (cD.1 hn i j hi C E)
 exact od xnt xns hL (xtv F hM) h
theorem xkX{L M:List Wd}(y:vd L)(C:vd M)(h:∀x,x∈L↔x∈M):L=M:=
 od z7 (fun _ _ _=>Gx) y C h
theorem Be{L:List Man}(hn:L.Nodup){m:Man}(C:m∉L):(mz L m).Nodup:=by
 unfold mz;rw[<-cT (ubM L (bU m)) L]at hn C;rw[List.nodup_append]at hn ⊢;obtain⟨O,J,a3⟩:=hn;rw[am,not_or]at C;obtain⟨I,b2⟩:=C;refine⟨O,dR.2 ⟨b2,J⟩,fun x F y E=> ?_⟩;rcases av.1 E with rfl|E
 ·rintro rfl;exact I F
 ·exact a3 x F y E
def xog(c:Cat):Itm->Prop
 | .m m=>m∈c.ms
 | .w w=>w∈c.ws
theorem Li{k:Nat}(I:k<=2){thr:Int}{n:Nat}(hn:n<16){c:Cat}(h:xbd k thr n c)(hd:c.ms.Nodup){x:Itm}(E:x.OK):
 (lL c x).1.ms.Nodup/\∀y,xog (lL c x).1 y↔(y=x\/xog c y):=by
 have hN:=h.n;have F:=h.t;cases x with
 |m m=>
  have e:lL c (.m m)=mN c m:=xT E.2 (by rw[F];exact Iw k I thr _ (IV E.2));rw[e];unfold mN
  by_cases q:m∈c.ms
  ·rw[if_pos q]
   refine⟨hd,fun y=>⟨.inr, ?_⟩⟩;rintro(rfl|C)
   ·exact q
   ·exact C
  ·rw[if_neg q,if_neg (by omega)]
   refine⟨Be hd q,fun y=> ?_⟩;cases y with
   |m y=>
    show y∈mz c.ms m↔_;rw[rQ];constructor
    ·rintro(rfl|C)
     ·exact .inl rfl
     ·exact .inr C
    ·rintro(C|C)
     ·exact .inl (Itm.m.inj C)
     ·exact .inr C
   |w y=>
    constructor
    ·exact .inr
    ·rintro(C|C)
     ·cases C
     ·exact C
 |w w=>
  have e:lL c (.w w)=ng c w:=C0 E (by rw[F];exact Iw k I thr _ (VZ E));rw[e];unfold ng
  by_cases q:w∈c.ws
  ·rw[if_pos q]
   refine⟨hd,fun y=>⟨.inr, ?_⟩⟩;rintro(rfl|C)
   ·exact q
   ·exact C
  ·rw[if_neg q,if_neg (by omega)]
   refine⟨hd,fun y=> ?_⟩;cases y with
   |w y=>
    show y∈tj c.ws w↔_;rw[rP];constructor
    ·rintro(rfl|C)
     ·exact .inl rfl
     ·exact .inr C
    ·rintro(C|C)
     ·exact .inl (Itm.w.inj C)
     ·exact .inr C
   |m y=>
    constructor
    ·exact .inr
    ·rintro(C|C)
     ·cases C
     ·exact C
structure Acc(k:Nat)(thr:Int)(i:Nat)(P:Itm->Prop)(c:Cat):Prop where
 d:xbd k thr i c
 nd:c.ms.Nodup
 h:∀y,xog c y↔P y
theorem GC{k:Nat}(J:k<=2)(thr:Int)(P:Itm->Prop)(F:∀y,¬P y):Acc k thr 0 P (kI (trL k thr)).1:=by
 have h:=Lj J thr;have hn:=h.n;have E:(kI (trL k thr)).1.ms=[]:=b8.1 (by omega);have I:(kI (trL k thr)).1.ws=[]:=b8.1 (by omega);refine⟨h,by rw[E];exact List.nodup_nil,fun y=>⟨fun C=> ?_,fun C=>absurd C (F y)⟩⟩;cases y with
 |m y=>have:y∈(kI (trL k thr)).1.ms:=C;rw[E]at this;cases this
 |w y=>have:y∈(kI (trL k thr)).1.ws:=C;rw[I]at this;cases this
theorem Aa{k:Nat}(E:k<=2){thr:Int}{i:Nat}(hi:i<16){P Q:Itm->Prop}{c:Cat}(h:Acc k thr i P c){x:Itm}(C:x.OK)(J:∀y,Q y↔(y=x\/P y)):
 (lL c x).2=0/\Acc k thr (i+1) Q (lL c x).1:=by
 obtain⟨L,O, -, -⟩:=xaM E hi h.d C;obtain⟨I,F⟩:=Li E hi h.d h.nd C;exact⟨L,O,I,fun y=>by rw[F y,J y,h.h y]⟩
theorem Lz{k:Nat}{thr:Int}{i:Nat}{P Q:Itm->Prop}{a b:Cat}(E:Acc k thr i P a)(C:Acc k thr i Q b)(F:∀y,P y↔Q y)(hd:a.ms.Pairwise fun x y=>bU x≠bU y):a=b:=by
 have L:a.ms=b.ms:=xkY E.d.s.ok.sm C.d.s.ok.sm hd C.nd fun x=>by have J:=E.h (.m x);have I:=C.h (.m x);exact J.trans ((F _).trans I.symm)
 have T:a.ws=b.ws:=xkX E.d.s.ok.sw C.d.s.ok.sw fun x=>by have J:=E.h (.w x);have I:=C.h (.w x);exact J.trans ((F _).trans I.symm)
 have O:a.t=b.t:=E.d.t.trans C.d.t.symm;obtain⟨t,ms,ws⟩:=a;obtain⟨t',Z,W⟩:=b;simp only at L T O;rw[L,T,O]
def giv(l:List Itm)(s:Nat->Nat)(i:Nat)(y:Itm):Prop:=∃j,j<i/\y=l.getD (s j) (.w wd0)
theorem xh2(l:List Itm)(s:Nat->Nat)(y:Itm):¬giv l s 0 y:=fun⟨_,h,_⟩=>by omega
theorem xh1(l:List Itm)(s:Nat->Nat)(i:Nat)(y:Itm):giv l s (i+1) y↔(y=l.getD (s i) (.w wd0)\/giv l s i y):=by
 constructor
 ·rintro⟨j,h,e⟩
  by_cases q:j=i
  ·subst q;exact .inl e
  ·exact .inr ⟨j,by omega,e⟩
 ·rintro(e|⟨j,h,e⟩)
  ·exact⟨i,by omega,e⟩
  ·exact⟨j,by omega,e⟩
theorem Gf(l:List Itm)(s:Nat->Nat)(n:Nat)(E:∀j,j<n->s j<l.length)(C:∀i,i<l.length->∃j,j<n/\s j=i)(y:Itm):giv l s n y↔y∈l:=by
 constructor
 ·rintro⟨j,h,rfl⟩
  exact(iw l (.w wd0) _).2 ⟨_,E j h,rfl⟩
 ·intro h
  obtain⟨i,hi,e⟩:=(iw l (.w wd0) y).1 h;obtain⟨j,F,rfl⟩:=C i hi;exact⟨j,F,e.symm⟩
theorem qB{n j:Nat}(h:j<2*n):j % n<n:=vq _ (by omega)
theorem xry(l:List Itm)(y:Itm):giv l (fun j=>j % l.length) (2*l.length) y↔y∈l:=
 Gf l _ _ (fun j h=>qB h) (fun i hi=>⟨i,by omega,ct hi⟩) y
theorem xrx(l:List Itm)(o:t8)(C:(bC l.length).Perm o)(y:Itm):giv l (fun j=>o.getD (j % l.length) 0) (2*l.length) y↔y∈l:=by
 have E:o.length=l.length:=by rw[<-C.length_eq,ij]
 refine Gf l _ _ (fun j h=> ?_) (fun i hi=> ?_) y
 ·have:=bP o 0 (j % l.length) (by rw[E];exact qB h)
  exact dt.1 (C.mem_iff.2 this)
 ·obtain⟨j,F,e⟩:=(iw o 0 i).1 (C.mem_iff.1 (dt.2 hi))
  exact⟨j,by omega,by rw[ct (by omega)];exact e⟩
def dif(L:List Man)(i:Nat):Prop:=∀p q,q<p->p<i->bU (L.getD p mnz)≠bU (L.getD q mnz)
theorem xnW{L:List Man}(h:dif L L.length):L.Pairwise fun x y=>bU x≠bU y:=by rw[cD];intro i j hi E C e;refine h j i C E ?_;rw[aa,ac E,aa,ac hi];exact e.symm
theorem U_7:U.fn 7=some (.code F7):=LH.fn 7 _ T_7
theorem xkM(c:CSt):run U xk c=run U IY c:=rfl
theorem xkL(c:CSt):run U tG c=run U IX c:=rfl
theorem xkK(c:CSt):run U tF c=run U IW c:=rfl
attribute [go_sem] xkM xkL xkK
noncomputable def stA(y:Int)(l:List Itm)(o:t8)(t:Tr)(a b:Cat)(i:Nat):CSt:=
 ⟨[(5,.int .i64 y),(14,.lst 2 (pH l) .no),(15,.lst 1 (jy o) .no),(16,.ptr 116 0),(18,.ptr 118 0),(20,.int .i64 i)],[(113,.rc t.sv),(116,.rc a.sv),(118,.rc b.sv)],[]⟩
def stB(y:Int)(t:Tr)(a b:Cat)(i:Nat):CSt:=
 ⟨[(5,.int .i64 y),(16,.ptr 116 0),(18,.ptr 118 0),(25,.int .i64 i)],[(113,.rc t.sv),(116,.rc a.sv),(118,.rc b.sv)],[]⟩
def stC(y:Int)(t:Tr)(a b:Cat)(i k:Nat):CSt:=
 ⟨[(5,.int .i64 y),(16,.ptr 116 0),(18,.ptr 118 0),(25,.int .i64 i),(26,.int .i64 k)],[(113,.rc t.sv),(116,.rc a.sv),(118,.rc b.sv)],[]⟩
theorem s7a(F:Int)(l:List Itm)(hd:DcS l)(hl:l.length<=1000)(o:t8)(ho:o.length=l.length)(E:∀q∈o,q<l.length)(t:Tr)(a b:Cat)(ha:ge a)(hb:ge b)(i:Nat)(hi:i<2*l.length)
 (Z:(lL a (l.getD (i % l.length) (.w wd0))).2=0) (eb:(lL b (l.getD (o.getD (i % l.length) 0) (.w wd0))).2=0):
 run U (.loop xk) (stA F l o t a b i)=run U (.loop xk) (stA F l o t (lL a (l.getD (i % l.length) (.w wd0))).1 (lL b (l.getD (o.getD (i % l.length) 0) (.w wd0))).1 (i+1)):=by
 have O:=qB hi;have hr:(i:Int).tmod ((l.length:Nat):Int)=((i % l.length:Nat):Int):=(Int.ofNat_tmod _ _).symm;generalize i % l.length=p at*;have Q:=E _ (bP o 0 p (by omega));have I:=yX o p (by omega);generalize o.getD p 0=q at*;have J:=sC l p O;have L:=sC l q Q;have hx:=hd _ (bP l (.w wd0) p O);have hy:=hd _ (bP l (.w wd0) q Q);have hv:=iB l;have C:=jZ o;rw[ho]at C;have e1:=cr i (by omega);have e2:af.wrap (2*((l.length:Nat):Int))=2*((l.length:Nat):Int):=w64 (by omega) (by omega);have T:(i:Int)<2*((l.length:Nat):Int):=by omega
 have hz:¬((l.length:Nat):Int)=0:=by omega
 generalize l.getD p (.w wd0)=x at*;generalize l.getD q (.w wd0)=y at*;have W:=f19 a ha x.body (gi 7 x.body) (sG hx);have g2:=f19 b hb y.body (gi 7 y.body) (sG hy);change call U 19 _ _ _=some ⟨fk (lL a x),[],[]⟩at W;change call U 19 _ _ _=some ⟨fk (lL b y),[],[]⟩at g2;clear hx hy hd ha hb E;generalize x.body=E1 at*;generalize gi 7 E1=S1 at*;generalize y.body=E2 at*;generalize gi 7 E2=S2 at*;generalize lL a x=Q1 at*;generalize lL b y=Q2 at*;obtain⟨⟨⟨qa,qt⟩,qm,qw⟩,qe⟩:=Q1;obtain⟨⟨⟨ra,rt⟩,rm,a1⟩,re⟩:=Q2;obtain⟨⟨au,th⟩,ms,ws⟩:=a;obtain⟨⟨bu,bh⟩,bs,bw⟩:=b;obtain⟨ta,tt⟩:=t;simp only at Z eb;subst Z;subst eb;unfold stA;simp only[Cat.sv,Tr.sv,fk,cJ]at*
 conv=>lhs;rw[ai]
 simp only[go_sem,Qd,Qe,Qf,Qg,Qj,Qk,Ql,Qm,reduceCtorEq,reduceIte,US,hv,C,e2,T,hz,hr,O,J,W,Ad,I,Q,L,g2,e1]
theorem l7a(y:Int)(l:List Itm)(hd:DcS l)(hl:l.length<=6)(o:t8)(Z:(bC l.length).Perm o)(k:Nat)(hk:k<=2)(thr:Int)(t:Tr):∀(n i:Nat)(a b:Cat),
 Acc k thr i (giv l (fun j=>j % l.length) i) a->Acc k thr i (giv l (fun j=>o.getD (j % l.length) 0) i) b->2*l.length-i=n->i<=2*l.length->
 ∃J I,Acc k thr (2*l.length) (giv l (fun j=>j % l.length) (2*l.length)) J/\Acc k thr (2*l.length) (giv l (fun j=>o.getD (j % l.length) 0) (2*l.length)) I/\
  run U (.loop xk) (stA y l o t a b i)=some (.x 0,⟨[(5,.int .i64 y),(16,.ptr 116 0),(18,.ptr 118 0)],[(113,.rc t.sv),(116,.rc J.sv),(118,.rc I.sv)],[]⟩):=by
 have O:o.length=l.length:=by rw[<-Z.length_eq,ij]
 have C:∀q∈o,q<l.length:=fun q Q=>dt.1 (Z.mem_iff.2 Q)
 intro n;induction n with
 |zero=>
  intro i a b F E h0 h1;have hi:i=2*l.length:=by omega
  subst hi;refine⟨a,b,F,E, ?_⟩;have hv:=iB l;have e2:af.wrap (2*((l.length:Nat):Int))=2*((l.length:Nat):Int):=w64 (by omega) (by omega);have e3:((2*l.length:Nat):Int)=2*((l.length:Nat):Int):=by omega
  have W:¬2*((l.length:Nat):Int)<2*((l.length:Nat):Int):=by omega
  clear F E;obtain⟨⟨au,th⟩,ms,ws⟩:=a;obtain⟨⟨bu,bh⟩,bs,bw⟩:=b;obtain⟨ta,tt⟩:=t;unfold stA;simp only[Cat.sv,Tr.sv]at*;rw[ai];simp only[go_sem,Qj,Ql,Qm,reduceIte,hv,e2,e3,W]
 |succ n ih=>
  intro i a b F E h0 h1;have hi:i<2*l.length:=by omega
  have hp:=qB hi;have Q:=C _ (bP o 0 (i % l.length) (by omega));obtain⟨ea,T⟩:=Aa hk (by omega) F (hd _ (bP l (.w wd0) _ hp)) (xh1 l (fun j=>j % l.length) i);obtain⟨eb,L⟩:=Aa hk (by omega) E (hd _ (bP l (.w wd0) _ Q)) (xh1 l (fun j=>o.getD (j % l.length) 0) i);obtain⟨J,I,h2,h3,h4⟩:=ih (i+1) _ _ T L (by omega) (by omega);exact⟨J,I,h2,h3,(s7a y l hd (by omega) o O C t a b F.d.s.ok E.d.s.ok i hi ea eb).trans h4⟩
theorem l7c(C:Int)(t:Tr)(a b:Cat)(Q:ge a)(i:Nat)(hi:i<a.ms.length):∀(n k:Nat),i-k=n->k<=i->
 (∃ob,run U (.loop tG) (stC C t a b i k)=some (.r,⟨[(12,.bool true)],ob,[]⟩))\/
  (run U (.loop tG) (stC C t a b i k)=some (.x 4,stB C t a b i)/\∀q,k<=q->q<i->bU (a.ms.getD i mnz)≠bU (a.ms.getD q mnz)):=by
 have hn:=Q.n;have hv:=dd a.ms;intro n;induction n with
 |zero=>
  intro k h0 h1;have Z:k=i:=by omega
  subst Z;refine .inr ⟨?_,fun q h2 h3=>by omega⟩;obtain⟨⟨au,th⟩,ms,ws⟩:=a;obtain⟨⟨bu,bh⟩,bs,bw⟩:=b;obtain⟨ta,tt⟩:=t;unfold stC stB;simp only[Cat.sv,Tr.sv]at*;rw[ai];simp only[go_sem,Qj,Ql,Qm,reduceIte]
 |succ n ih=>
  intro k h0 h1;have Z:k<i:=by omega
  have F:k<a.ms.length:=by omega
  have e1:=cr k (by omega);have L:=fd a.ms i hi;have O:=fd a.ms k F;obtain⟨bi,mi⟩:=Q.m _ (bP a.ms mnz i hi);obtain⟨bk,mk⟩:=Q.m _ (bP a.ms mnz k F);have g1:=up (f32 _ bi);have g2:=up (f32 _ bk);have T:=up (f31 (bU (a.ms.getD i mnz)) (bU (a.ms.getD k mnz)) (by rw[zP mi];decide));have I:=ih (k+1) (by omega) (by omega);have a1:∀q,k<=q->q<i->q=k\/k+1<=q:=fun q h2 h3=>by omega
  by_cases W:bU (a.ms.getD i mnz)=bU (a.ms.getD k mnz)
  ·rw[decide_eq_true W]at T
   clear ih I Q hn;generalize bU (a.ms.getD i mnz)=D at*;generalize bU (a.ms.getD k mnz)=E at*;generalize hx:a.ms.getD i mnz=x at*;generalize hy:a.ms.getD k mnz=y at*;refine .inl ⟨[(113,.rc t.sv),(116,.rc a.sv),(118,.rc b.sv)], ?_⟩;clear bi bk mi mk;obtain⟨xv,x1,x2,x3,x4,xe,xr⟩:=x;obtain⟨yv,y1,y2,y3,y4,ye,yr⟩:=y;obtain⟨⟨au,th⟩,ms,ws⟩:=a;obtain⟨⟨bu,bh⟩,bs,bw⟩:=b;obtain⟨ta,tt⟩:=t;unfold stC;simp only[Cat.sv,Tr.sv,Man.sv]at*;rw[ai];simp only[go_sem,Qd,Qe,Qf,Qg,Qj,Qk,Ql,Qm,reduceCtorEq,reduceIte,US,hv,Z,hi,F,L,O,g1,wY,g2,T,vg]
  ·rw[decide_eq_false W]at T
   have J:run U (.loop tG) (stC C t a b i k)=run U (.loop tG) (stC C t a b i (k+1)):=by
    clear ih I Q hn W;generalize bU (a.ms.getD i mnz)=D at*;generalize bU (a.ms.getD k mnz)=E at*;generalize hx:a.ms.getD i mnz=x at*;generalize hy:a.ms.getD k mnz=y at*;clear bi bk mi mk;obtain⟨xv,x1,x2,x3,x4,xe,xr⟩:=x;obtain⟨yv,y1,y2,y3,y4,ye,yr⟩:=y;obtain⟨⟨au,th⟩,ms,ws⟩:=a;obtain⟨⟨bu,bh⟩,bs,bw⟩:=b;obtain⟨ta,tt⟩:=t;unfold stC;simp only[Cat.sv,Tr.sv,Man.sv]at*
    conv=>lhs;rw[ai]
    simp only[go_sem,Qd,Qe,Qf,Qg,Qj,Qk,Ql,Qm,reduceCtorEq,reduceIte,US,hv,Z,hi,F,L,O,g1,wY,g2,T,vg,e1]
   rw[J];rcases I with h|⟨h,h2⟩
   ·exact .inl h
   ·refine .inr ⟨h,fun q h3 h4=> ?_⟩
    rcases a1 q h3 h4 with rfl|h5
    ·exact W
    ·exact h2 q h5 h4
theorem l7b(y:Int)(t:Tr)(a b:Cat)(E:ge a):∀(n i:Nat),a.ms.length-i=n->i<=a.ms.length->dif a.ms i->
 (∃ob,run U (.loop tF) (stB y t a b i)=some (.r,⟨[(12,.bool true)],ob,[]⟩))\/
  (run U (.loop tF) (stB y t a b i)=some (.x 2,⟨[(5,.int .i64 y),(16,.ptr 116 0),(18,.ptr 118 0)],[(113,.rc t.sv),(116,.rc a.sv),(118,.rc b.sv)],[]⟩)/\dif a.ms a.ms.length):=by
 have hn:=E.n;have I:=dd a.ms;intro n;induction n with
 |zero=>
  intro i Z h1 hd;have hi:i=a.ms.length:=by omega
  rw[hi]at hd ⊢;refine .inr ⟨?_,hd⟩;clear E hn hd;obtain⟨⟨au,L⟩,ms,ws⟩:=a;obtain⟨⟨bu,O⟩,bs,W⟩:=b;obtain⟨J,Q⟩:=t;unfold stB;simp only[Cat.sv,Tr.sv]at*;rw[ai];simp only[go_sem,Qg,Qj,Qk,Ql,Qm,reduceIte,I]
 |succ n F=>
  intro i Z h1 hd;have hi:i<a.ms.length:=by omega
  have e1:=cr i (by omega);rcases l7c y t a b E i hi _ 0 rfl (aY _)with⟨ob,h⟩|⟨h,h2⟩
  ·refine .inl ⟨ob, ?_⟩
   clear F E hn hd;obtain⟨⟨au,L⟩,ms,ws⟩:=a;obtain⟨⟨bu,O⟩,bs,W⟩:=b;obtain⟨J,Q⟩:=t;unfold stC at h;unfold stB;simp only[Cat.sv,Tr.sv,c0]at*;rw[ai];simp only[go_sem,Qg,Qj,Qk,Ql,Qm,reduceIte,I,hi,h]
  ·have C:run U (.loop tF) (stB y t a b i)=run U (.loop tF) (stB y t a b (i+1)):=by
    clear F E hn hd h2;obtain⟨⟨au,L⟩,ms,ws⟩:=a;obtain⟨⟨bu,O⟩,bs,W⟩:=b;obtain⟨J,Q⟩:=t;unfold stC at h;unfold stB at h ⊢;simp only[Cat.sv,Tr.sv,c0]at*
    conv=>lhs;rw[ai]
    simp only[go_sem,Qg,Qj,Qk,Ql,Qm,reduceIte,I,hi,h,e1]
   rw[C];refine F (i+1) (by omega) (by omega) fun p q T h4=> ?_
   by_cases hp:p=i
   ·subst hp;exact h2 q (aY _) T
   ·exact hd p q T (by omega)
theorem f7(F L J:d9)(n thr C:Int)(n1: -9223372036854775808<=n)(n2:n<=9223372036854775807)(h1: -9223372036854775808<=thr)(h2:thr<=9223372036854775807)(m1: -9223372036854775808<=C)(m2:C<=9223372036854775807):
 call U 7 [.byt F .no,.byt L .no,.byt J .no,.int .i64 n,.int .i64 thr,.int .i64 C] [] 0=some ⟨.bool true,[],[]⟩:=by
 have g9:=f9;obtain⟨k,hk, -,W⟩:=f10 n thr h1 h2 n1 n2;replace W:=up W;obtain⟨ch,a6,T⟩:=f15 L;replace T:=up T;obtain⟨l,a2,a7,I⟩:=f14 F ch a6 6 (by decide);replace I:=up I;rw[show((6:Nat):Int)=6 from rfl]at I;obtain⟨o,ho,O⟩:=f30 l.length (by omega) J;replace O:=up O;have a8:=up (f11 (trL k thr));have hv:=iB l;obtain⟨a,b,hA,hB,a1⟩:=l7a C l a2 a7 o ho k hk thr (trL k thr) _ 0 (kI (trL k thr)).1 (kI (trL k thr)).1 (GC hk thr _ (xh2 l _)) (GC hk thr _ (xh2 l _)) rfl (aY _);have E:=l7b C (trL k thr) a b hA.d.s.ok _ 0 rfl (aY _) (fun p q _ h=>by omega);have hE:(kI (trL k thr)).2=0:=by unfold kI;rw[if_pos (Ai k hk thr)]
 rcases E with⟨ob,E⟩|⟨E,hdif⟩
 ·generalize kI (trL k thr)=Q at*
  generalize trL k thr=t at*;clear hA hB a2 a7 a6 ho;obtain⟨⟨⟨qa,qt⟩,qm,qw⟩,qe⟩:=Q;obtain⟨⟨au,th⟩,ms,ws⟩:=a;obtain⟨⟨bu,bh⟩,bs,bw⟩:=b;obtain⟨ta,tt⟩:=t;simp only at hE;subst hE;unfold stA at a1;unfold stB at E;simp only[Cat.sv,Tr.sv,fk,c0]at*;rw[aj U_7];simp only[go_sem,Qg,Qj,Qk,Ql,Qm,reduceCtorEq,reduceIte,US,g9,S_9,W,xi8,T,xoD,I,xoE,hv,O,xvJ,a8,xi4,a1,E]
 ·have e:=Lz hA hB (fun y=>(xry l y).trans (xrx l o ho y).symm) (xnW hdif)
  subst e;have hS:=hA.d.s;have b4:=up (f21 C 45 m1 m2 (by decide));have b3:=up (xva hS);have b0:=up (f28 a hS.ok.bd (iv C 45));have b1:=up (f27 _ (Gc hS.ok (iv C 45)).1 (Gc hS.ok (iv C 45)).2);generalize wb a (iv C 45)=Z at*;generalize iv C 45=N at*;generalize kI (trL k thr)=Q at*;generalize trL k thr=t at*;clear hA hB a2 a7 a6 ho hS hdif;obtain⟨⟨⟨qa,qt⟩,qm,qw⟩,qe⟩:=Q;obtain⟨⟨au,th⟩,ms,ws⟩:=a;obtain⟨ta,tt⟩:=t;simp only at hE;subst hE;unfold stA at a1;unfold stB at E;simp only[Cat.sv,Tr.sv,fk,c0]at*;rw[aj U_7];simp only[go_sem,Qd,Qe,Qf,Qg,Qj,Qk,Ql,Qm,reduceCtorEq,reduceIte,US,g9,S_9,W,xi8,T,xoD,I,xoE,hv,O,xvJ,a8,xi4,a1,E,b4,Ac,b3,BG,b0,xvK,b1,xvL]
end Go.Proofs.YtbfnljmmepcbfaaGreatDoor
