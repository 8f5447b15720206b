/- Contracts. No condition. -/
import Derived.Test.YtmhhnklkcmpdkaaGreatDoorTcPA
import Derived.Test.YtmhhnklkcmpdkaaGreatDoorTgPA
open Bool renaming and_eq_true -> aw, and_false -> dp, and_self -> dL, and_true -> du, false_and -> dl, false_eq_true -> az, not_false -> Ew, not_true -> rP, or_eq_true -> gG, true_and -> df
open Int renaming natCast_zero -> aA
open List renaming all_cons -> fV, all_eq_true -> aI, append_assoc -> ay, append_nil -> aZ, cons_append -> br, drop_eq_getElem_cons -> aF, drop_length -> bB, drop_zero -> bj, getD_cons_succ -> nt, getD_cons_zero -> dE, getD_eq_getElem?_getD -> aa, getElem?_eq_getElem -> ab, getElem_mem -> aU, getElem_of_mem -> bH, length -> mq, length_append -> ac, length_cons -> ah, length_eq_zero_iff -> bx, length_map -> aC, length_nil -> au, length_singleton -> aD, length_take -> av, map_append -> cz, map_cons -> aG, map_nil -> cV, mem_append -> an, mem_cons -> al, mem_cons_of_mem -> af, mem_cons_self -> aq, mem_singleton -> bX, nil_append -> aR, not_mem_nil -> bA, singleton_append -> cf, take_length -> ba
open Nat renaming add_mul -> bN, add_zero -> bW, zero_add -> cd, zero_le -> bC
open Prod renaming fst -> cI
set_option maxRecDepth 100000
set_option maxHeartbeats 16000000
set_option linter.unusedSimpArgs false
set_option linter.unusedVariables false
namespace Go.Proofs.YtmhhnklkcmpdkaaGreatDoor
open Go.Sy
open UInt8 renaming reduceLT -> Q0, reduceLE -> Q1
open Int renaming reduceToNat -> Q2, reduceLE -> Q3, reduceLT -> Q4, reduceEq -> Q5, reduceNe -> Q6, reduceNeg -> Q7, reduceAdd -> Q8, reduceSub -> Q9, reduceMul -> Qa
open Nat renaming reducePow -> Qb, reduceDiv -> Qc, reduceMod -> Qd, reduceAdd -> Qe, reduceSub -> Qf, reduceMul -> Qg, reduceLT -> Qh, reduceLeDiff -> Qi, reduceEqDiff -> Qj, reduceBEq -> Qk
structure Stp where
 kind:Int
 mach:Int
 n:Int
 torn:Int
 body:List UInt8
 marks:List Mk
 chain:List Img
section
variable (okC : List Img -> Prop) (bK : List Img -> List UInt8) (decC : List UInt8 -> List Img)
def jc(n:Int):Prop:=0<=n/\n<=1099511627776
structure Wrt(s:Stp):Prop where
 k1:1<=s.kind
 k12:s.kind<=12
 fm:jc s.mach
 fn:jc s.n
 ft:jc s.torn
 m0:4<=s.kind->s.kind<=8->s.mach=0
 n0:¬(s.kind=2\/(4<=s.kind/\s.kind<=7))->s.n=0
 t0:s.kind≠2->s.torn=0
 b0:s.kind≠8->s.body=[]/\s.marks=[]
 c0:s.kind≠9->s.chain=[]
 b8:s.body.length<=4096
 m4:s.marks.length<=4
 mks:∀m∈s.marks,jc m.auth/\m.sig.length<=1024
 ch:s.kind=9->okC s.chain
def bZ(k:Int):d9:=
 if k=1 then [98,111,111,116]else if k=2 then [99,117,116]else if k=3 then [104,101,108,108,111]else if k=4 then [100,101,108,105,118,101,114]
 else if k=5 then [108,111,115,101]else if k=6 then [114,101,112,101,97,116]else if k=7 then [116,105,99,107]else if k=8 then [112,117,98,108,105,115,104]
 else if k=9 then [105,110,115,116,97,108,108]else if k=10 then [112,114,111,99,101,101,100]else if k=11 then [111,112,101,110]else if k=12 then [114,101,108,101,97,115,101]else []
def nmW(n:Int):d9:=dec n.toNat
def mkW:List Mk->List d9
 |[]=> []
 |m::r=>nmW m.auth::iY m.sig::mkW r
def wds(s:Stp):List d9:=
 bZ s.kind::(if s.kind=2 then [nmW s.mach,nmW s.n,nmW s.torn]else if 4<=s.kind/\s.kind<=7 then [nmW s.n]else if s.kind=8 then iY s.body::mkW s.marks
  else if s.kind=9 then [nmW s.mach,iY (bK s.chain)]else [nmW s.mach])
def ln(s:Stp):d9:=fx (wds bK s)
def aM(w:d9):Int:=
 if w=bZ 1 then 1 else if w=bZ 2 then 2 else if w=bZ 3 then 3 else if w=bZ 4 then 4 else if w=bZ 5 then 5 else if w=bZ 6 then 6 else if w=bZ 7 then 7
 else if w=bZ 8 then 8 else if w=bZ 9 then 9 else if w=bZ 10 then 10 else if w=bZ 11 then 11 else if w=bZ 12 then 12 else 13
def prM:List d9->List Mk
 |[]=> []
 |[_]=> []
 |a::b::r=>⟨vlV a,ip b⟩::prM r
def rfX(ws:List d9):Stp:=
 let k:=aM (ws.getD 0 [])
 let r:=ws.drop 1
 if k=2 then⟨k,vlV (r.getD 0 []),vlV (r.getD 1 []),vlV (r.getD 2 []),[],[],[]⟩
 else if 4<=k/\k<=7 then⟨k,0,vlV (r.getD 0 []),0,[],[],[]⟩
 else if k=8 then⟨k,0,0,0,ip (r.getD 0 []),prM (r.drop 1),[]⟩
 else if k=9 then⟨k,vlV (r.getD 0 []),0,0,[],[],decC (ip (r.getD 1 []))⟩
 else⟨k,vlV (r.getD 0 []),0,0,[],[],[]⟩
theorem dC(k:Int)(y:1<=k)(h:k<=12):aM (bZ k)=k:=by
 have:k=1\/k=2\/k=3\/k=4\/k=5\/k=6\/k=7\/k=8\/k=9\/k=10\/k=11\/k=12:=by omega
 rcases this with rfl|rfl|rfl|rfl|rfl|rfl|rfl|rfl|rfl|rfl|rfl|rfl<;>decide
theorem EH{c:UInt8}(k:Int)(h:c∈bZ k):c≠32/\c≠10:=by
 by_cases z:1<=k/\k<=12
 ·have:k=1\/k=2\/k=3\/k=4\/k=5\/k=6\/k=7\/k=8\/k=9\/k=10\/k=11\/k=12:=by omega
  have y:∀x:Int,x=1\/x=2\/x=3\/x=4\/x=5\/x=6\/x=7\/x=8\/x=9\/x=10\/x=11\/x=12->∀c∈bZ x,c≠32/\c≠10:=by rintro x (rfl|rfl|rfl|rfl|rfl|rfl|rfl|rfl|rfl|rfl|rfl|rfl)<;>decide
  exact y k this c h
 ·have:bZ k=[]:=by
   unfold bZ;rw[if_neg (by omega),if_neg (by omega),if_neg (by omega),if_neg (by omega),if_neg (by omega),if_neg (by omega),if_neg (by omega),if_neg (by omega),if_neg (by omega),if_neg (by omega),if_neg (by omega),if_neg (by omega)]
  rw[this]at h;cases h
theorem nE{c:UInt8}{n:Int}(h:c∈nmW n):c≠32/\c≠10:=by have:=tY _ c h;constructor<;>(intro e;subst e;revert this;decide)
theorem Ce{c:UInt8}{w:d9}:∀{y:List Mk},w∈mkW y->c∈w->c≠32/\c≠10
 |[],h,_=>by cases h
 |m::r,h,hc=>by
  simp only[mkW,al]at h;rcases h with rfl|rfl|h
  ·exact nE hc
  ·exact qN _ hc
  ·exact Ce h hc
theorem Ap{c:UInt8}{s:Stp}{w:d9}(h:w∈wds bK s)(y:c∈w):c≠32/\c≠10:=by
 unfold wds at h;rcases al.1 h with rfl|h
 ·exact EH _ y
 ·split at h
  ·simp only[al,bA,or_false]at h
   rcases h with rfl|rfl|rfl<;>exact nE y
  ·split at h
   ·simp only[al,bA,or_false]at h
    subst h;exact nE y
   ·split at h
    ·rcases al.1 h with rfl|h
     ·exact qN _ y
     ·exact Ce h y
    ·split at h
     ·simp only[al,bA,or_false]at h
      rcases h with rfl|rfl
      ·exact nE y
      ·exact qN _ y
     ·simp only[al,bA,or_false]at h
      subst h;exact nE y
theorem yw(s:Stp):dY (ln bK s)=wds bK s:=rX _ (by unfold wds;simp) fun w y h=>(Ap bK y h).1 rfl
theorem xgR(s:Stp):(10:UInt8)∉ln bK s:=fun h=>by
 rcases sx _ h with h|⟨w,hw,hc⟩
 ·exact absurd h (by decide)
 ·exact(Ap bK hw hc).2 rfl
theorem uC{n:Int}(h:jc n):((vlV (nmW n):Nat):Int)=n:=by unfold nmW;obtain⟨y,z⟩:=h;rw[PO _ (by omega)];omega
theorem BZ:∀(y:List Mk),(∀m∈y,jc m.auth)->prM (mkW y)=y
 |[],_=>rfl
 |m::r,h=>by rw[mkW,prM,uC (h m aq),og,BZ r fun x z=>h x (af _ z)]
variable {okC bK decC}
theorem QM(hd:∀c,okC c->decC (bK c)=c){s:Stp}(h:Wrt okC s):rfX decC (wds bK s)=s:=by
 obtain⟨k,m,n,t,B,M,C⟩:=s;have I:=dC k h.k1 h.k12;have y:=uC h.fm;have hn:=uC h.fn;have L:=uC h.ft;have J:=BZ M fun m y=>(h.mks m y).1
 have m0:=h.m0;have n0:=h.n0;have t0:=h.t0;have b0:=h.b0;have c0:=h.c0;have ch:=h.ch;simp only at*;unfold rfX wds;simp only[dE,I,List.drop_succ_cons,bj]
 by_cases z:k=2
 ·subst z
  simp only[if_pos,dE,nt,y,hn,L];obtain⟨rfl,rfl⟩:=b0 (by decide);rw[c0 (by decide)]
 by_cases E:4<=k/\k<=7
 ·simp only[if_neg z,if_pos E,dE,hn]
  obtain⟨rfl,rfl⟩:=b0 (by omega);rw[c0 (by omega),m0 (by omega) (by omega),t0 (by omega)]
 by_cases F:k=8
 ·subst F
  simp only[if_neg z,if_neg E,if_pos,dE,List.drop_succ_cons,bj,og,J];rw[c0 (by decide),m0 (by decide) (by decide),n0 (by decide),t0 (by decide)]
 by_cases H:k=9
 ·subst H
  simp only[if_neg z,if_neg E,if_neg F,if_pos,dE,nt,og,y,hd C (ch rfl)];obtain⟨rfl,rfl⟩:=b0 (by decide);rw[n0 (by decide),t0 (by decide)]
 simp only[if_neg z,if_neg E,if_neg F,if_neg H,dE,y];obtain⟨rfl,rfl⟩:=b0 (by omega);rw[c0 (by omega),n0 (by omega),t0 (by omega)]
theorem yy(hd:∀c,okC c->decC (bK c)=c){s:Stp}(h:Wrt okC s):rfX decC (dY (ln bK s))=s:=by rw[yw,QM hd h]
theorem xdM(hd:∀c,okC c->decC (bK c)=c){s t:Stp}(h:Wrt okC s)(y:Wrt okC t)(e:ln bK s=ln bK t):s=t:=by rw[<-yy hd h,<-yy hd y,e]
variable (okC bK)
open Classical in
noncomputable def rd(t:d9):Option Stp:=if h:∃x,Wrt okC x/\ln bK x=t then some (Classical.choose h)else none
variable {okC bK}
theorem QO{t:d9}{x:Stp}(h:rd okC bK t=some x):Wrt okC x/\ln bK x=t:=by
 unfold rd at h;split at h
 ·rename_i y
  cases h;exact Classical.choose_spec y
 ·cases h
theorem Om(hd:∀c,okC c->decC (bK c)=c){x:Stp}(h:Wrt okC x):rd okC bK (ln bK x)=some x:=by unfold rd;have z:∃y,Wrt okC y/\ln bK y=ln bK x:=⟨x,h,rfl⟩;rw[dif_pos z];have:=Classical.choose_spec z;rw[xdM hd this.1 h this.2]
theorem AJ{t:d9}(h:∀x,Wrt okC x->ln bK x≠t):rd okC bK t=none:=by unfold rd;rw[dif_neg];rintro⟨x,z,y⟩;exact h x z y
def cut:d9->d9×Option d9
 |[]=>([],none)
 |c::r=>if c=10 then([],some r)else(c::(cut r).1,(cut r).2)
theorem ua:∀(a r:d9),10∉a->cut (a++10::r)=(a,some r)
 |[],r,_=>rfl
 |c::a,r,h=>by
  have y:c≠10:=fun e=>h (by rw[e];exact aq)
  rw[br,cut,if_neg y,ua a r fun z=>h (af _ z)]
theorem ng:∀{t a r:d9},cut t=(a,some r)->t=a++10::r
 |[],a,r,h=>by cases h
 |c::t,a,r,h=>by
  rw[cut]at h;split at h
  ·rename_i C
   cases h;rw[C];rfl
  ·have z:=congrArg cI h
   have y:=congrArg Prod.snd h;simp only at z y;rw[<-z,br,<-ng (t:=t) (a:=(cut t).1) (r:=r) (by rw[<-y])]
theorem zK{t a r:d9}(h:cut t=(a,some r)):r.length<t.length/\a.length<=t.length:=by have:=congrArg mq (ng h);rw[ac,ah]at this;omega
variable (okC bK)
noncomputable def prT:Nat->d9->List Stp×Bool
 |0,_=>([],true)
 |f+1,t=>if t=[]then([],true)else match cut t with
  |(a,some r)=>match rd okC bK a with
   |some x=>(x::(prT f r).1,(prT f r).2)
   |none=>([],false)
  |(_,none)=>([],false)
def fi:List Stp->d9
 |[]=> []
 |x::r=>ln bK x++10::fi r
variable {okC bK}
theorem BY(hd:∀c,okC c->decC (bK c)=c):∀(l:List Stp)(f:Nat),(∀x∈l,Wrt okC x)->(fi bK l).length<=f->prT okC bK f (fi bK l)=(l,true)
 |[],f,_,_=>by
  cases f with
  |zero=>rfl
  |succ f=>simp[prT,fi]
 |x::r,0,_,h=>by simp[fi]at h
 |x::r,f+1,hw,h=>by rw[fi,ac,ah]at h;have z:=BY hd r f (fun y C=>hw y (af _ C)) (by omega);rw[prT,if_neg (by simp[fi]),fi,ua _ _ (xgR bK x)];simp only[Om hd (hw x aq),z]
theorem No:∀(f:Nat)(t:d9)(l:List Stp),t.length<=f->prT okC bK f t=(l,true)->fi bK l=t/\∀x∈l,Wrt okC x
 |0,t,l,h,e=>by have:t=[]:=bx.1 (by omega);cases e;subst this;exact⟨rfl,fun x z=>by cases z⟩
 |f+1,t,l,h,e=>by
  rw[prT]at e;split at e
  ·rename_i J
   cases e;subst J;exact⟨rfl,fun x z=>by cases z⟩
  ·split at e
   ·rename_i a r H
    split at e
    ·rename_i x z
     have F:=congrArg cI e;have E:=congrArg Prod.snd e;simp only at F E;have Q:=zK H;obtain⟨O,L⟩:=No f r (prT okC bK f r).1 (by omega) (by rw[<-E]);obtain⟨w1,I⟩:=QO z;subst F;refine⟨by rw[fi,O,I,<-ng H],fun y C=> ?_⟩;rcases al.1 C with rfl|C
     ·exact w1
     ·exact L y C
    ·cases e
   ·cases e
end
theorem xbs{l:List Img}(h:qp l)(i:Nat)(hi:i<l.length):stE l i=0:=by
 unfold stE;rw[if_neg (by rw[h.ok i hi];simp),if_neg,if_neg]
 ·intro hd
  unfold xlb at hd;rw[List.any_eq_true]at hd;obtain⟨y,I,z⟩:=hd;obtain⟨k,H,rfl⟩:=bH I;rw[av]at H;have F:k<i:=by omega
  have E:k<l.length:=by omega
  rw[List.getElem_take]at z;unfold smI at z;rw[aw,decide_eq_true_iff,decide_eq_true_iff]at z;have e:l.getD k im0=l[k]:=by rw[aa,ab E];rfl
  have C:=h.dup i hi k F;rw[e]at C
  first
  |exact C z.1 z.2
  |exact C z.1.symm z.2.symm
 ·rintro⟨L,J⟩
  have:=h.ord (i-1) (by omega);rw[show i-1+1=i from by omega]at this;omega
theorem NX{l:List Img}(h:qp l):∀(n i:Nat),i+n<=l.length->chR l n i=0
 |0,i,_=>rfl
 |n+1,i,hn=>by rw[chR,xbs h i (by omega),if_neg (by simp),NX h n (i+1) (by omega)]
theorem Cy{l:List Img}{r:Int}(h:∃i,i<l.length/\(l.getD i im0).role=r):anR l r l.length=true:=by obtain⟨i,hi,y⟩:=h;unfold anR;rw[ba,List.any_eq_true];refine⟨l.getD i im0,by rw[aa,ab hi];exact aU hi, ?_⟩;rw[y];simp
theorem DO{l:List Img}(h:qp l):chE l=0:=by have y:=h.n1;have z:=h.n8;unfold chE;rw[if_neg (by omega),if_neg (by rw[NX h l.length 0 (by omega)];simp),if_pos ⟨Cy h.fw,Cy h.kn⟩]
theorem qZ(w:Int)(B:d9)(i:Nat)(hi:i<=2)(z:List Mk)(h:∀m∈z,jc m.auth):∀m∈iZ w B i z,jc m.auth:=by
 unfold iZ;split
 ·intro m y
  rcases an.1 y with y|y
  ·exact h m y
  ·rw[bX.1 y]
   unfold mkS jc;simp only;omega
 ·exact h
theorem Fb(w:Int)(B:d9):∀m∈tj w B,jc m.auth:=qZ _ _ _ (by omega) _ (qZ _ _ _ (by omega) _ (qZ _ _ _ (by omega) _ (fun m h=>by cases h)))
def Stp.sv(s:Stp):t6:=[.int .i64 s.kind,.int .i64 s.mach,.int .i64 s.n,.int .i64 s.torn,.byt s.body .no,.lst 2 (dZ s.marks) .no,.lst 4 (cZ s.chain) .no]
def st0:Stp:=⟨0,0,0,0,[],[],[]⟩
def dO(l:List Stp):d8:=l.map Stp.sv
theorem co(l:List Stp):(dO l).length=l.length:=aC ..
theorem mN(l:List Stp)(i:Nat)(h:i<l.length):(dO l).getD i []=(l.getD i st0).sv:=by simp[dO,aa,h]
theorem bS(l:List Stp)(x:Stp):dO l++ [x.sv]=dO (l++ [x]):=by rw[dO,dO,cz];rfl
theorem f80(k:Int):call T 80 [.int .i64 k] [] 0=some ⟨.str (bZ k),[],[]⟩:=by
 rw[am xnK];unfold bZ
 by_cases J:k=1
 ·subst J;simp only[go_sem,Q0,Q1,Q2,Q3,Q4,Q5,Q6,Q7,Q8,Q9,Qa,Qb,Qc,Qd,Qe,Qf,Qg,Qh,Qi,Qj,Qk,reduceCtorEq,reduceIte]
 by_cases H:k=2
 ·subst H;simp only[go_sem,Q0,Q1,Q2,Q3,Q4,Q5,Q6,Q7,Q8,Q9,Qa,Qb,Qc,Qd,Qe,Qf,Qg,Qh,Qi,Qj,Qk,reduceCtorEq,reduceIte]
 by_cases Q:k=3
 ·subst Q;simp only[go_sem,Q0,Q1,Q2,Q3,Q4,Q5,Q6,Q7,Q8,Q9,Qa,Qb,Qc,Qd,Qe,Qf,Qg,Qh,Qi,Qj,Qk,reduceCtorEq,reduceIte]
 by_cases I:k=4
 ·subst I;simp only[go_sem,Q0,Q1,Q2,Q3,Q4,Q5,Q6,Q7,Q8,Q9,Qa,Qb,Qc,Qd,Qe,Qf,Qg,Qh,Qi,Qj,Qk,reduceCtorEq,reduceIte]
 by_cases E:k=5
 ·subst E;simp only[go_sem,Q0,Q1,Q2,Q3,Q4,Q5,Q6,Q7,Q8,Q9,Qa,Qb,Qc,Qd,Qe,Qf,Qg,Qh,Qi,Qj,Qk,reduceCtorEq,reduceIte]
 by_cases F:k=6
 ·subst F;simp only[go_sem,Q0,Q1,Q2,Q3,Q4,Q5,Q6,Q7,Q8,Q9,Qa,Qb,Qc,Qd,Qe,Qf,Qg,Qh,Qi,Qj,Qk,reduceCtorEq,reduceIte]
 by_cases O:k=7
 ·subst O;simp only[go_sem,Q0,Q1,Q2,Q3,Q4,Q5,Q6,Q7,Q8,Q9,Qa,Qb,Qc,Qd,Qe,Qf,Qg,Qh,Qi,Qj,Qk,reduceCtorEq,reduceIte]
 by_cases C:k=8
 ·subst C;simp only[go_sem,Q0,Q1,Q2,Q3,Q4,Q5,Q6,Q7,Q8,Q9,Qa,Qb,Qc,Qd,Qe,Qf,Qg,Qh,Qi,Qj,Qk,reduceCtorEq,reduceIte]
 by_cases L:k=9
 ·subst L;simp only[go_sem,Q0,Q1,Q2,Q3,Q4,Q5,Q6,Q7,Q8,Q9,Qa,Qb,Qc,Qd,Qe,Qf,Qg,Qh,Qi,Qj,Qk,reduceCtorEq,reduceIte]
 by_cases z:k=10
 ·subst z;simp only[go_sem,Q0,Q1,Q2,Q3,Q4,Q5,Q6,Q7,Q8,Q9,Qa,Qb,Qc,Qd,Qe,Qf,Qg,Qh,Qi,Qj,Qk,reduceCtorEq,reduceIte]
 by_cases y:k=11
 ·subst y;simp only[go_sem,Q0,Q1,Q2,Q3,Q4,Q5,Q6,Q7,Q8,Q9,Qa,Qb,Qc,Qd,Qe,Qf,Qg,Qh,Qi,Qj,Qk,reduceCtorEq,reduceIte]
 by_cases h:k=12
 ·subst h;simp only[go_sem,Q0,Q1,Q2,Q3,Q4,Q5,Q6,Q7,Q8,Q9,Qa,Qb,Qc,Qd,Qe,Qf,Qg,Qh,Qi,Qj,Qk,reduceCtorEq,reduceIte]
 simp only[go_sem,Q0,Q1,Q2,Q3,Q4,Q5,Q6,Q7,Q8,Q9,Qa,Qb,Qc,Qd,Qe,Qf,Qg,Qh,Qi,Qj,Qk,reduceCtorEq,reduceIte,J,H,Q,I,E,F,O,C,L,z,y,h]
theorem f85(k:Int):call T 85 [.int .i64 k] [] 0=some ⟨.str (bZ k),[],[]⟩:=by
 rw[am xnG];unfold bZ
 by_cases J:k=1
 ·subst J;simp only[go_sem,Q0,Q1,Q2,Q3,Q4,Q5,Q6,Q7,Q8,Q9,Qa,Qb,Qc,Qd,Qe,Qf,Qg,Qh,Qi,Qj,Qk,reduceCtorEq,reduceIte]
 by_cases H:k=2
 ·subst H;simp only[go_sem,Q0,Q1,Q2,Q3,Q4,Q5,Q6,Q7,Q8,Q9,Qa,Qb,Qc,Qd,Qe,Qf,Qg,Qh,Qi,Qj,Qk,reduceCtorEq,reduceIte]
 by_cases Q:k=3
 ·subst Q;simp only[go_sem,Q0,Q1,Q2,Q3,Q4,Q5,Q6,Q7,Q8,Q9,Qa,Qb,Qc,Qd,Qe,Qf,Qg,Qh,Qi,Qj,Qk,reduceCtorEq,reduceIte]
 by_cases I:k=4
 ·subst I;simp only[go_sem,Q0,Q1,Q2,Q3,Q4,Q5,Q6,Q7,Q8,Q9,Qa,Qb,Qc,Qd,Qe,Qf,Qg,Qh,Qi,Qj,Qk,reduceCtorEq,reduceIte]
 by_cases E:k=5
 ·subst E;simp only[go_sem,Q0,Q1,Q2,Q3,Q4,Q5,Q6,Q7,Q8,Q9,Qa,Qb,Qc,Qd,Qe,Qf,Qg,Qh,Qi,Qj,Qk,reduceCtorEq,reduceIte]
 by_cases F:k=6
 ·subst F;simp only[go_sem,Q0,Q1,Q2,Q3,Q4,Q5,Q6,Q7,Q8,Q9,Qa,Qb,Qc,Qd,Qe,Qf,Qg,Qh,Qi,Qj,Qk,reduceCtorEq,reduceIte]
 by_cases O:k=7
 ·subst O;simp only[go_sem,Q0,Q1,Q2,Q3,Q4,Q5,Q6,Q7,Q8,Q9,Qa,Qb,Qc,Qd,Qe,Qf,Qg,Qh,Qi,Qj,Qk,reduceCtorEq,reduceIte]
 by_cases C:k=8
 ·subst C;simp only[go_sem,Q0,Q1,Q2,Q3,Q4,Q5,Q6,Q7,Q8,Q9,Qa,Qb,Qc,Qd,Qe,Qf,Qg,Qh,Qi,Qj,Qk,reduceCtorEq,reduceIte]
 by_cases L:k=9
 ·subst L;simp only[go_sem,Q0,Q1,Q2,Q3,Q4,Q5,Q6,Q7,Q8,Q9,Qa,Qb,Qc,Qd,Qe,Qf,Qg,Qh,Qi,Qj,Qk,reduceCtorEq,reduceIte]
 by_cases z:k=10
 ·subst z;simp only[go_sem,Q0,Q1,Q2,Q3,Q4,Q5,Q6,Q7,Q8,Q9,Qa,Qb,Qc,Qd,Qe,Qf,Qg,Qh,Qi,Qj,Qk,reduceCtorEq,reduceIte]
 by_cases y:k=11
 ·subst y;simp only[go_sem,Q0,Q1,Q2,Q3,Q4,Q5,Q6,Q7,Q8,Q9,Qa,Qb,Qc,Qd,Qe,Qf,Qg,Qh,Qi,Qj,Qk,reduceCtorEq,reduceIte]
 by_cases h:k=12
 ·subst h;simp only[go_sem,Q0,Q1,Q2,Q3,Q4,Q5,Q6,Q7,Q8,Q9,Qa,Qb,Qc,Qd,Qe,Qf,Qg,Qh,Qi,Qj,Qk,reduceCtorEq,reduceIte]
 simp only[go_sem,Q0,Q1,Q2,Q3,Q4,Q5,Q6,Q7,Q8,Q9,Qa,Qb,Qc,Qd,Qe,Qf,Qg,Qh,Qi,Qj,Qk,reduceCtorEq,reduceIte,J,H,Q,I,E,F,O,C,L,z,y,h]
def ftB(n:Int):Bool:=decide (0<=n)&&decide (n<=1099511627776)
theorem cw(n:Int):ftB n=true↔jc n:=by simp[ftB,jc]
theorem f87(n:Int):call T 87 [.int .i64 n] [] 0=some ⟨.bool (ftB n),[],[]⟩:=by
 rw[am xnE];unfold ftB
 by_cases h:0<=n
 ·by_cases y:n<=1099511627776
  ·simp only[go_sem,Q0,Q1,Q2,Q3,Q4,Q5,Q6,Q7,Q8,Q9,Qa,Qb,Qc,Qd,Qe,Qf,Qg,Qh,Qi,Qj,Qk,reduceCtorEq,reduceIte,h,y]
  ·simp only[go_sem,Q0,Q1,Q2,Q3,Q4,Q5,Q6,Q7,Q8,Q9,Qa,Qb,Qc,Qd,Qe,Qf,Qg,Qh,Qi,Qj,Qk,reduceCtorEq,reduceIte,h,y]
 ·simp only[go_sem,Q0,Q1,Q2,Q3,Q4,Q5,Q6,Q7,Q8,Q9,Qa,Qb,Qc,Qd,Qe,Qf,Qg,Qh,Qi,Qj,Qk,reduceCtorEq,reduceIte,h]
theorem xne(n:Int):call T 147 [.int .i64 n] [] 0=some ⟨.bool (!ftB n),[],[]⟩:=by
 rw[am xio];unfold ftB
 by_cases z:n<0
 ·have h:¬0<=n:=by omega
  simp only[go_sem,Q0,Q1,Q2,Q3,Q4,Q5,Q6,Q7,Q8,Q9,Qa,Qb,Qc,Qd,Qe,Qf,Qg,Qh,Qi,Qj,Qk,reduceCtorEq,reduceIte,z,h]
 ·have h:0<=n:=by omega
  by_cases C:1099511627776<n
  ·have y:¬n<=1099511627776:=by omega
   simp only[go_sem,Q0,Q1,Q2,Q3,Q4,Q5,Q6,Q7,Q8,Q9,Qa,Qb,Qc,Qd,Qe,Qf,Qg,Qh,Qi,Qj,Qk,reduceCtorEq,reduceIte,z,h,C,y]
  ·have y:n<=1099511627776:=by omega
   simp only[go_sem,Q0,Q1,Q2,Q3,Q4,Q5,Q6,Q7,Q8,Q9,Qa,Qb,Qc,Qd,Qe,Qf,Qg,Qh,Qi,Qj,Qk,reduceCtorEq,reduceIte,z,h,C,y]
def nsv(l:List Int):d8:=l.map fun z=> [.int .i64 z]
theorem B7(l:List Int):(nsv l).length=l.length:=aC ..
theorem Rz(l:List Int)(i:Nat)(h:i<l.length):(nsv l).getD i []=[.int .i64 (l.getD i 0)]:=by simp[nsv,aa,h]
theorem xmp(l:List Int)(L:l.length<=1000000):∀(n i:Nat),l.length-i=n->i<=l.length->
 run T (.loop ze) ⟨[(0,.lst 1 (nsv l) .no),(1,.fn 147 [] []),(7,.int .i64 l.length),(8,.int .i64 i)],[],[]⟩=
  if(l.drop i).all ftB=true then some (.x 0,⟨[],[],[]⟩)else some (.r,⟨[(4,.int .i64 (i+((l.drop i).takeWhile ftB).length:Nat))],[],[]⟩):=by
 intro n;induction n with
 |zero=>
  intro i I H;have:i=l.length:=by omega
  subst this;rw[aj,bB];simp only[go_sem,Q0,Q1,Q2,Q3,Q4,Q5,Q6,Q7,Q8,Q9,Qa,Qb,Qc,Qd,Qe,Qf,Qg,Qh,Qi,Qj,Qk,reduceCtorEq,reduceIte]
 |succ n F=>
  intro i I H;have hi:i<l.length:=by omega
  have h:(i:Int)<(l.length:Int):=by omega
  have E:=cX i (by omega);have y:=F (i+1) (by omega) (by omega);have hv:=B7 l;have C:=Rz l i hi;have hd:l.drop i=l.getD i 0::l.drop (i+1):=by rw[aF hi,aa,ab hi];rfl
  have g:=xne (l.getD i 0);rw[aj,hd,fV,List.takeWhile_cons];generalize l.getD i 0=z at*;generalize O:(l.drop (i+1)).all ftB=A at*;generalize J:(l.drop (i+1)).takeWhile ftB=B at*;cases hz:ftB z with
  |true=>rw[hz]at g;simp only[rP]at g;simp only[go_sem,Q0,Q1,Q2,Q3,Q4,Q5,Q6,Q7,Q8,Q9,Qa,Qb,Qc,Qd,Qe,Qf,Qg,Qh,Qi,Qj,Qk,reduceCtorEq,reduceIte,hi,h,E,hv,C,g,ZM,y,ah];rw[show i+1+B.length=i+(B.length+1)from by omega]
  |false=>rw[hz]at g;simp only[Ew]at g;simp only[go_sem,Q0,Q1,Q2,Q3,Q4,Q5,Q6,Q7,Q8,Q9,Qa,Qb,Qc,Qd,Qe,Qf,Qg,Qh,Qi,Qj,Qk,reduceCtorEq,reduceIte,hi,h,E,hv,C,g,ZM,au,bW]
theorem f77(l:List Int)(C:l.length<=1000000):call T 77 [.lst 1 (nsv l) .no] [] 0=some ⟨.bool (l.all ftB),[],[]⟩:=by
 have g:=xmp l C _ 0 rfl (bC _);rw[bj,aA]at g;have hv:=B7 l
 have y:call T 214 [.lst 1 (nsv l) .no,.fn 147 [] []] [] 0=some ⟨.int .i64 (if l.all ftB=true then-1 else((l.takeWhile ftB).length:Nat)),[],[]⟩:=by
  rw[am xh1];cases h:l.all ftB with
  |true=>rw[if_pos h]at g;simp only[go_sem,Q0,Q1,Q2,Q3,Q4,Q5,Q6,Q7,Q8,Q9,Qa,Qb,Qc,Qd,Qe,Qf,Qg,Qh,Qi,Qj,Qk,reduceCtorEq,reduceIte,hv,g]
  |false=>rw[if_neg (by rw[h];simp)]at g;rw[cd]at g;simp only[go_sem,Q0,Q1,Q2,Q3,Q4,Q5,Q6,Q7,Q8,Q9,Qa,Qb,Qc,Qd,Qe,Qf,Qg,Qh,Qi,Qj,Qk,reduceCtorEq,reduceIte,hv,g]
 have g3:call T 146 [.lst 1 (nsv l) .no,.fn 147 [] []] [] 0=some ⟨.bool (!l.all ftB),[],[]⟩:=by
  rw[am xip];cases h:l.all ftB with
  |true=>rw[h]at y;simp only[if_pos]at y;simp only[go_sem,Q0,Q1,Q2,Q3,Q4,Q5,Q6,Q7,Q8,Q9,Qa,Qb,Qc,Qd,Qe,Qf,Qg,Qh,Qi,Qj,Qk,reduceCtorEq,reduceIte,y,ZE]
  |false=>
   rw[h]at y;simp only[az,if_false]at y;have z:(0:Int)<=((l.takeWhile ftB).length:Nat):=by omega
   simp only[go_sem,Q0,Q1,Q2,Q3,Q4,Q5,Q6,Q7,Q8,Q9,Qa,Qb,Qc,Qd,Qe,Qf,Qg,Qh,Qi,Qj,Qk,reduceCtorEq,reduceIte,y,ZE,z]
 rw[am xnL];simp only[go_sem,Q0,Q1,Q2,Q3,Q4,Q5,Q6,Q7,Q8,Q9,Qa,Qb,Qc,Qd,Qe,Qf,Qg,Qh,Qi,Qj,Qk,reduceCtorEq,reduceIte,g3,xiN,Bool.not_not]
def kdB(k:Int):Bool:=decide (1<=k)&&decide (k<=12)
def shw(s:Stp):Stp:=
 if s.kind=1\/s.kind=3\/s.kind=10\/s.kind=11\/s.kind=12 then⟨s.kind,s.mach,0,0,[],[],[]⟩
 else if s.kind=2 then⟨s.kind,s.mach,s.n,s.torn,[],[],[]⟩
 else if s.kind=4\/s.kind=5\/s.kind=6\/s.kind=7 then⟨s.kind,0,s.n,0,[],[],[]⟩
 else if s.kind=8 then⟨s.kind,0,0,0,s.body,s.marks,[]⟩
 else if s.kind=9 then⟨s.kind,s.mach,0,0,[],[],s.chain⟩
 else⟨s.kind,0,0,0,[],[],[]⟩
theorem f76(s:Stp):call T 76 [.agg s.sv] [] 0=some ⟨.tup [.agg (shw s).sv,.bool (kdB s.kind)],[],[]⟩:=by
 obtain⟨k,m,n,t,B,M,C⟩:=s;simp only[Stp.sv];rw[am xnM]
 by_cases I:k=1
 ·subst I;simp only[go_sem,Q0,Q1,Q2,Q3,Q4,Q5,Q6,Q7,Q8,Q9,Qa,Qb,Qc,Qd,Qe,Qf,Qg,Qh,Qi,Qj,Qk,reduceCtorEq,reduceIte];rfl
 by_cases H:k=2
 ·subst H;simp only[go_sem,Q0,Q1,Q2,Q3,Q4,Q5,Q6,Q7,Q8,Q9,Qa,Qb,Qc,Qd,Qe,Qf,Qg,Qh,Qi,Qj,Qk,reduceCtorEq,reduceIte];rfl
 by_cases W:k=3
 ·subst W;simp only[go_sem,Q0,Q1,Q2,Q3,Q4,Q5,Q6,Q7,Q8,Q9,Qa,Qb,Qc,Qd,Qe,Qf,Qg,Qh,Qi,Qj,Qk,reduceCtorEq,reduceIte];rfl
 by_cases O:k=4
 ·subst O;simp only[go_sem,Q0,Q1,Q2,Q3,Q4,Q5,Q6,Q7,Q8,Q9,Qa,Qb,Qc,Qd,Qe,Qf,Qg,Qh,Qi,Qj,Qk,reduceCtorEq,reduceIte];rfl
 by_cases F:k=5
 ·subst F;simp only[go_sem,Q0,Q1,Q2,Q3,Q4,Q5,Q6,Q7,Q8,Q9,Qa,Qb,Qc,Qd,Qe,Qf,Qg,Qh,Qi,Qj,Qk,reduceCtorEq,reduceIte];rfl
 by_cases J:k=6
 ·subst J;simp only[go_sem,Q0,Q1,Q2,Q3,Q4,Q5,Q6,Q7,Q8,Q9,Qa,Qb,Qc,Qd,Qe,Qf,Qg,Qh,Qi,Qj,Qk,reduceCtorEq,reduceIte];rfl
 by_cases L:k=7
 ·subst L;simp only[go_sem,Q0,Q1,Q2,Q3,Q4,Q5,Q6,Q7,Q8,Q9,Qa,Qb,Qc,Qd,Qe,Qf,Qg,Qh,Qi,Qj,Qk,reduceCtorEq,reduceIte];rfl
 by_cases E:k=8
 ·subst E;simp only[go_sem,Q0,Q1,Q2,Q3,Q4,Q5,Q6,Q7,Q8,Q9,Qa,Qb,Qc,Qd,Qe,Qf,Qg,Qh,Qi,Qj,Qk,reduceCtorEq,reduceIte];rfl
 by_cases Q:k=9
 ·subst Q;simp only[go_sem,Q0,Q1,Q2,Q3,Q4,Q5,Q6,Q7,Q8,Q9,Qa,Qb,Qc,Qd,Qe,Qf,Qg,Qh,Qi,Qj,Qk,reduceCtorEq,reduceIte];rfl
 by_cases h:k=10
 ·subst h;simp only[go_sem,Q0,Q1,Q2,Q3,Q4,Q5,Q6,Q7,Q8,Q9,Qa,Qb,Qc,Qd,Qe,Qf,Qg,Qh,Qi,Qj,Qk,reduceCtorEq,reduceIte];rfl
 by_cases z:k=11
 ·subst z;simp only[go_sem,Q0,Q1,Q2,Q3,Q4,Q5,Q6,Q7,Q8,Q9,Qa,Qb,Qc,Qd,Qe,Qf,Qg,Qh,Qi,Qj,Qk,reduceCtorEq,reduceIte];rfl
 by_cases y:k=12
 ·subst y;simp only[go_sem,Q0,Q1,Q2,Q3,Q4,Q5,Q6,Q7,Q8,Q9,Qa,Qb,Qc,Qd,Qe,Qf,Qg,Qh,Qi,Qj,Qk,reduceCtorEq,reduceIte];rfl
 have Z:kdB k=false:=by
  unfold kdB
  by_cases a:1<=k
  ·rw[decide_eq_true a,decide_eq_false (by omega)];rfl
  ·rw[decide_eq_false a];rfl
 have hs:shw ⟨k,m,n,t,B,M,C⟩=⟨k,0,0,0,[],[],[]⟩:=by unfold shw;simp only[I,H,W,O,F,J,L,E,Q,h,z,y,or_self,if_false]
 rw[hs,Z];simp only[go_sem,Q0,Q1,Q2,Q3,Q4,Q5,Q6,Q7,Q8,Q9,Qa,Qb,Qc,Qd,Qe,Qf,Qg,Qh,Qi,Qj,Qk,reduceCtorEq,reduceIte,I,H,W,O,F,J,L,E,Q,h,z,y];rfl
def mk1(m:Mk):Bool:=ftB m.auth&&decide (m.sig.length<=1024)
structure xix(s:Stp):Prop where
 b:s.body.length<=1000000
 m:s.marks.length<=1000
 c:s.chain.length<=1000
theorem l33(s F:Stp)(hM:s.marks.length<=1000):∀(q i:Nat),s.marks.length-i=q->i<=s.marks.length->
 run T (.loop yX) ⟨[(1,.ptr 101 0),(91,.lst 2 (dZ s.marks) .no),(92,.int .i64 s.marks.length),(93,.int .i64 i)],[(101,.rc s.sv),(103,.rc F.sv)],[]⟩=
  if(s.marks.drop i).all mk1=true then some (.x 0,⟨[(1,.ptr 101 0)],[(101,.rc s.sv),(103,.rc F.sv)],[]⟩)else some (.r,⟨[(2,.bool false)],[(101,.rc s.sv),(103,.rc F.sv),(106,.rc (s.marks.getD (i+((s.marks.drop i).takeWhile mk1).length) mk0).sv)],[]⟩):=by
 obtain⟨k,m,n,t,B,M,C⟩:=s;obtain⟨k',m',n',t',B',M',C'⟩:=F;simp only[Stp.sv]at*;intro q;induction q with
 |zero=>
  intro i h0 Z;have:i=M.length:=by omega
  subst this;have hv:=cS M;rw[aj,bB];simp only[go_sem,Q0,Q1,Q2,Q3,Q4,Q5,Q6,Q7,Q8,Q9,Qa,Qb,Qc,Qd,Qe,Qf,Qg,Qh,Qi,Qj,Qk,reduceCtorEq,reduceIte,hv]
 |succ q O=>
  intro i h0 Z;have hi:i<M.length:=by omega
  have h:(i:Int)<(M.length:Int):=by omega
  have L:=cX i (by omega);have I:=O (i+1) (by omega) (by omega);have hv:=cS M;have H:=mV M i hi;have hd:M.drop i=M.getD i mk0::M.drop (i+1):=by rw[aF hi,aa,ab hi];rfl
  have g:=f77 [(M.getD i mk0).auth] (by simp);rw[aj,hd,fV,List.takeWhile_cons];have W:∀p:Nat,M.getD (i+(p+1)) mk0=M.getD (i+1+p) mk0:=fun p=>by rw[show i+(p+1)=i+1+p from by omega]
  generalize hA:(M.drop (i+1)).all mk1=A at*;generalize hB:(M.drop (i+1)).takeWhile mk1=Q at*;generalize hz:M.getD i mk0=z at*;obtain⟨a,sg⟩:=z;simp only[nsv,aG,cV,fV,List.all_nil,du,Mk.sv]at*;cases ha:ftB a with
  |false=>
   have E:mk1 ⟨a,sg⟩=false:=by simp[mk1,ha]
   rw[ha]at g;simp only[go_sem,Q0,Q1,Q2,Q3,Q4,Q5,Q6,Q7,Q8,Q9,Qa,Qb,Qc,Qd,Qe,Qf,Qg,Qh,Qi,Qj,Qk,reduceCtorEq,reduceIte,hi,h,hv,H,g,oB,E,hz,au,bW]
  |true=>
   rw[ha]at g
   by_cases J:1024<sg.length
   ·have E:mk1 ⟨a,sg⟩=false:=by simp[mk1,ha];omega
    have y:(1024:Int)<(sg.length:Int):=by omega
    simp only[go_sem,Q0,Q1,Q2,Q3,Q4,Q5,Q6,Q7,Q8,Q9,Qa,Qb,Qc,Qd,Qe,Qf,Qg,Qh,Qi,Qj,Qk,reduceCtorEq,reduceIte,hi,h,hv,H,g,oB,E,hz,J,y,au,bW]
   ·have E:mk1 ⟨a,sg⟩=true:=by simp[mk1,ha];omega
    have y:¬(1024:Int)<(sg.length:Int):=by omega
    simp only[go_sem,Q0,Q1,Q2,Q3,Q4,Q5,Q6,Q7,Q8,Q9,Qa,Qb,Qc,Qd,Qe,Qf,Qg,Qh,Qi,Qj,Qk,reduceCtorEq,reduceIte,hi,h,L,hv,H,g,oB,E,J,y,I,ah,W]
def wrB(s:Stp):Bool:=
 kdB s.kind&&([s.mach,s.n,s.torn].all ftB&&(decide (s.body.length<=4096)&&(decide (s.marks.length<=4)&&
  (decide ((shw s).mach=s.mach)&&(decide ((shw s).n=s.n)&&(decide ((shw s).torn=s.torn)&&(decide ((shw s).body.length=s.body.length)&&(decide ((shw s).marks.length=s.marks.length)&&(decide ((shw s).chain.length=s.chain.length)&&
   (s.marks.all mk1&&(decide (s.kind≠9)||decide (chE s.chain=0))))))))))))
theorem f33(s:Stp):call T 33 [.agg s.sv] [] 0=some ⟨.bool (wrB s),[],[]⟩:=by
 have g1:=f76 s;have H:=f77 [s.mach,s.n,s.torn] (by simp);have g3:=fun h=>l33 s (shw s) h _ 0 rfl (bC _)
 have g4:=f78 s.chain;unfold wrB;simp only[bj,aA]at g3;simp only[nsv,aG,cV]at H;generalize shw s=sh at*;obtain⟨k,m,n,t,B,M,C⟩:=s;obtain⟨k',m',n',t',B',M',C'⟩:=sh;simp only[Stp.sv]at*;have I:=cS M;have y:=cS M';have J:=cg C;have z:=cg C';generalize List.all [m,n,t] ftB=F at*;generalize chE C=E at*;generalize kdB k=K at*;generalize hA:M.all mk1=A at*;rw[am xnW];cases K with
 |false=>simp only[go_sem,Q0,Q1,Q2,Q3,Q4,Q5,Q6,Q7,Q8,Q9,Qa,Qb,Qc,Qd,Qe,Qf,Qg,Qh,Qi,Qj,Qk,reduceCtorEq,reduceIte,g1,qj,I,y,J,z,df,dl,du,dp,dL]
 |true=>
  cases F with
  |false=>simp only[go_sem,Q0,Q1,Q2,Q3,Q4,Q5,Q6,Q7,Q8,Q9,Qa,Qb,Qc,Qd,Qe,Qf,Qg,Qh,Qi,Qj,Qk,reduceCtorEq,reduceIte,g1,qj,I,y,J,z,H,oB,df,dl,du,dp,dL]
  |true=>
   by_cases hb:4096<B.length
   ·have L:(4096:Int)<(B.length:Int):=by omega
    have O:decide (B.length<=4096)=false:=decide_eq_false (by omega);simp only[go_sem,Q0,Q1,Q2,Q3,Q4,Q5,Q6,Q7,Q8,Q9,Qa,Qb,Qc,Qd,Qe,Qf,Qg,Qh,Qi,Qj,Qk,reduceCtorEq,reduceIte,g1,qj,I,y,J,z,H,oB,L,O,df,dl,du,dp,dL]
   have L:¬(4096:Int)<(B.length:Int):=by omega
   have O:decide (B.length<=4096)=true:=decide_eq_true (by omega)
   by_cases hc:4<M.length
   ·have W:(4:Int)<(M.length:Int):=by omega
    have Q:decide (M.length<=4)=false:=decide_eq_false (by omega);simp only[go_sem,Q0,Q1,Q2,Q3,Q4,Q5,Q6,Q7,Q8,Q9,Qa,Qb,Qc,Qd,Qe,Qf,Qg,Qh,Qi,Qj,Qk,reduceCtorEq,reduceIte,g1,qj,I,y,J,z,H,oB,L,W,Q,O,df,dl,du,dp,dL]
   have W:¬(4:Int)<(M.length:Int):=by omega
   have Q:decide (M.length<=4)=true:=decide_eq_true (by omega);have g3:=g3 (by omega)
   by_cases em:m'=m
   rotate_left
   ·have Z:decide (m'=m)=false:=decide_eq_false em
    simp only[go_sem,Q0,Q1,Q2,Q3,Q4,Q5,Q6,Q7,Q8,Q9,Qa,Qb,Qc,Qd,Qe,Qf,Qg,Qh,Qi,Qj,Qk,reduceCtorEq,reduceIte,g1,qj,I,y,J,z,H,oB,L,W,em,Z,O,Q,df,dl,du,dp,dL]
   subst em;have Z:decide (m'=m')=true:=decide_eq_true rfl
   by_cases en:n'=n
   rotate_left
   ·have dn:decide (n'=n)=false:=decide_eq_false en
    simp only[go_sem,Q0,Q1,Q2,Q3,Q4,Q5,Q6,Q7,Q8,Q9,Qa,Qb,Qc,Qd,Qe,Qf,Qg,Qh,Qi,Qj,Qk,reduceCtorEq,reduceIte,g1,qj,I,y,J,z,H,oB,L,W,en,dn,O,Q,Z,df,dl,du,dp,dL]
   subst en;have dn:decide (n'=n')=true:=decide_eq_true rfl
   by_cases et:t'=t
   rotate_left
   ·have dt:decide (t'=t)=false:=decide_eq_false et
    simp only[go_sem,Q0,Q1,Q2,Q3,Q4,Q5,Q6,Q7,Q8,Q9,Qa,Qb,Qc,Qd,Qe,Qf,Qg,Qh,Qi,Qj,Qk,reduceCtorEq,reduceIte,g1,qj,I,y,J,z,H,oB,L,W,et,dt,O,Q,Z,dn,df,dl,du,dp,dL]
   subst et;have dt:decide (t'=t')=true:=decide_eq_true rfl
   by_cases ex:B'.length=B.length
   rotate_left
   ·have ix:¬(B'.length:Int)=(B.length:Int):=by omega
    have dx:decide (B'.length=B.length)=false:=decide_eq_false ex;simp only[go_sem,Q0,Q1,Q2,Q3,Q4,Q5,Q6,Q7,Q8,Q9,Qa,Qb,Qc,Qd,Qe,Qf,Qg,Qh,Qi,Qj,Qk,reduceCtorEq,reduceIte,g1,qj,I,y,J,z,H,oB,L,W,ix,dx,O,Q,Z,dn,dt,df,dl,du,dp,dL]
   have ix:(B'.length:Int)=(B.length:Int):=by omega
   have dx:decide (B'.length=B.length)=true:=decide_eq_true ex
   by_cases ey:M'.length=M.length
   rotate_left
   ·have iy:¬(M'.length:Int)=(M.length:Int):=by omega
    have dy:decide (M'.length=M.length)=false:=decide_eq_false ey;simp only[go_sem,Q0,Q1,Q2,Q3,Q4,Q5,Q6,Q7,Q8,Q9,Qa,Qb,Qc,Qd,Qe,Qf,Qg,Qh,Qi,Qj,Qk,reduceCtorEq,reduceIte,g1,qj,I,y,J,z,H,oB,L,W,ix,iy,dy,O,Q,Z,dn,dt,dx,df,dl,du,dp,dL]
   have iy:(M'.length:Int)=(M.length:Int):=by omega
   have dy:decide (M'.length=M.length)=true:=decide_eq_true ey
   by_cases ez:C'.length=C.length
   rotate_left
   ·have iz:¬(C'.length:Int)=(C.length:Int):=by omega
    have dz:decide (C'.length=C.length)=false:=decide_eq_false ez;simp only[go_sem,Q0,Q1,Q2,Q3,Q4,Q5,Q6,Q7,Q8,Q9,Qa,Qb,Qc,Qd,Qe,Qf,Qg,Qh,Qi,Qj,Qk,reduceCtorEq,reduceIte,g1,qj,I,y,J,z,H,oB,L,W,ix,iy,iz,dz,O,Q,Z,dn,dt,dx,dy,df,dl,du,dp,dL]
   have iz:(C'.length:Int)=(C.length:Int):=by omega
   have dz:decide (C'.length=C.length)=true:=decide_eq_true ez;cases A with
   |false=>simp only[az,if_false]at g3;simp only[go_sem,Q0,Q1,Q2,Q3,Q4,Q5,Q6,Q7,Q8,Q9,Qa,Qb,Qc,Qd,Qe,Qf,Qg,Qh,Qi,Qj,Qk,reduceCtorEq,reduceIte,g1,qj,I,y,J,z,H,oB,L,W,ix,iy,iz,g3,O,Q,Z,dn,dt,dx,dy,dz,df,dl,du,dp,dL]
   |true=>
    simp only[if_true]at g3
    by_cases h9:k=9
    ·subst h9
     by_cases hE:E=0
     ·simp only[go_sem,Q0,Q1,Q2,Q3,Q4,Q5,Q6,Q7,Q8,Q9,Qa,Qb,Qc,Qd,Qe,Qf,Qg,Qh,Qi,Qj,Qk,reduceCtorEq,reduceIte,g1,qj,I,y,J,z,H,oB,L,W,ix,iy,iz,g3,g4,N6,hE,O,Q,Z,dn,dt,dx,dy,dz,df,dl,du,dp,dL]
     ·simp only[go_sem,Q0,Q1,Q2,Q3,Q4,Q5,Q6,Q7,Q8,Q9,Qa,Qb,Qc,Qd,Qe,Qf,Qg,Qh,Qi,Qj,Qk,reduceCtorEq,reduceIte,g1,qj,I,y,J,z,H,oB,L,W,ix,iy,iz,g3,g4,N6,hE,O,Q,Z,dn,dt,dx,dy,dz,df,dl,du,dp,dL]
    ·simp only[go_sem,Q0,Q1,Q2,Q3,Q4,Q5,Q6,Q7,Q8,Q9,Qa,Qb,Qc,Qd,Qe,Qf,Qg,Qh,Qi,Qj,Qk,reduceCtorEq,reduceIte,g1,qj,I,y,J,z,H,oB,L,W,ix,iy,iz,g3,h9,O,Q,Z,dn,dt,dx,dy,dz,df,dl,du,dp,dL]
theorem RK(k:Int):kdB k=true↔1<=k/\k<=12:=by simp[kdB]
theorem bM(s:Stp):wrB s=true↔Wrt (fun c=>chE c=0) s:=by
 obtain⟨k,m,n,t,B,M,C⟩:=s
 have Q:M.all mk1=true↔∀x∈M,jc x.auth/\x.sig.length<=1024:=by
  rw[aI];constructor
  ·intro h x z
   have:=h x z;unfold mk1 at this;rw[aw,cw,decide_eq_true_iff]at this;exact this
  ·intro h x z
   unfold mk1;rw[aw,cw,decide_eq_true_iff];exact h x z
 have E:wrB ⟨k,m,n,t,B,M,C⟩=true↔(1<=k/\k<=12)/\(jc m/\jc n/\jc t)/\B.length<=4096/\M.length<=4/\(shw ⟨k,m,n,t,B,M,C⟩).mach=m/\(shw ⟨k,m,n,t,B,M,C⟩).n=n/\(shw ⟨k,m,n,t,B,M,C⟩).torn=t/\
  (shw ⟨k,m,n,t,B,M,C⟩).body.length=B.length/\(shw ⟨k,m,n,t,B,M,C⟩).marks.length=M.length/\(shw ⟨k,m,n,t,B,M,C⟩).chain.length=C.length/\(∀x∈M,jc x.auth/\x.sig.length<=1024)/\(k≠9\/chE C=0):=by
  unfold wrB;simp only[aw,gG,decide_eq_true_iff,RK,fV,List.all_nil,du,cw,Q]
 rw[E];unfold shw;constructor
 ·rintro⟨⟨H,a2⟩,⟨I,F,J⟩,c1,c2,d1,d2,d3,d4,O,W,E,L⟩
  simp only at*;have y:k=1\/k=2\/k=3\/k=4\/k=5\/k=6\/k=7\/k=8\/k=9\/k=10\/k=11\/k=12:=by omega
  rcases y with rfl|rfl|rfl|rfl|rfl|rfl|rfl|rfl|rfl|rfl|rfl|rfl<;>simp at d1 d2 d3 d4 O W L<;>
   (constructor<;>simp only at* <;>first|assumption|(intros;omega)|(intros;first|(constructor<;>(apply bx.1;omega))|(apply bx.1;omega)|simp_all))
 ·intro h
  obtain⟨H,a2,I,F,J,m0,n0,t0,T,Z,b8,m4,mks,ch⟩:=h;simp only at*;refine⟨⟨H,a2⟩,⟨I,F,J⟩,b8,m4, ?_⟩;have y:k=1\/k=2\/k=3\/k=4\/k=5\/k=6\/k=7\/k=8\/k=9\/k=10\/k=11\/k=12:=by omega
  rcases y with rfl|rfl|rfl|rfl|rfl|rfl|rfl|rfl|rfl|rfl|rfl|rfl<;>simp at m0 n0 t0 T Z ch ⊢ <;>simp_all
section
open Pr (wsv)
theorem cH(ws:List d9):(wsv ws).length=ws.length:=aC ..
theorem kS(ws:List d9)(w:d9):wsv ws++ [[.str w]]=wsv (ws++ [w]):=by unfold wsv;rw[cz];rfl
theorem f81(ws:List d9)(n:Int)(h:jc n)(C:ws.length<=1000):
 call T 81 [.int .i64 n,.ptr 0 0] [.rc [.lst 1 (wsv ws) (.id 50)]] 1=some ⟨.tup [],[(0,.rc [.lst 1 (wsv (ws++ [nmW n])) (.id 60)])],[60]⟩:=by
 obtain⟨z,E⟩:=h;have g:=f64 n z (by omega);have hv:=cH ws;have y:(ws.length+1)*16<=140737488355328:=by omega
 rw[am xnJ,<-kS];unfold nmW;generalize dec n.toNat=w at*;simp only[go_sem,Q0,Q1,Q2,Q3,Q4,Q5,Q6,Q7,Q8,Q9,Qa,Qb,Qc,Qd,Qe,Qf,Qg,Qh,Qi,Qj,Qk,reduceCtorEq,reduceIte,g,xoe,hv,y]
theorem l35(s:Stp)(M:List Mk)(hM:M.length<=4)(hm:∀m∈M,jc m.auth/\m.sig.length<=1024):∀(q i:Nat)(ws:List d9)(t:Nat),M.length-i=q->i<=M.length->ws.length+2*q<=500->(t=149\/t=167)->
 ∃h:Nat,(h=149\/h=167)/\
 run T (.loop yW) ⟨[(3,.ptr 103 0),(4,.fn 81 [] [.ptr 103 0]),(52,.lst 2 (dZ M) .no),(53,.int .i64 M.length),(54,.int .i64 i)],[(101,.rc s.sv),(103,.rc [.lst 1 (wsv ws) (.id t)])],[t]⟩=
  some (.x 1,⟨[(3,.ptr 103 0)],[(101,.rc s.sv),(103,.rc [.lst 1 (wsv (ws++mkW (M.drop i))) (.id h)])],[h]⟩):=by
 obtain⟨sk,sm,sn,st,sB,sM,sC⟩:=s;simp only[Stp.sv]at*;intro q;induction q with
 |zero=>
  intro i ws t h0 h1 W y;have:i=M.length:=by omega
  subst this;refine⟨t,y, ?_⟩;rw[aj,bB]
  rcases y with rfl|rfl<;>
   simp only[go_sem,Q0,Q1,Q2,Q3,Q4,Q5,Q6,Q7,Q8,Q9,Qa,Qb,Qc,Qd,Qe,Qf,Qg,Qh,Qi,Qj,Qk,reduceCtorEq,reduceIte,mkW,aZ]
 |succ q L=>
  intro i ws t h0 h1 W y;have hi:i<M.length:=by omega
  have C:(i:Int)<(M.length:Int):=by omega
  have J:=cX i (by omega);have hv:=cS M;have I:=mV M i hi;have hd:M.drop i=M.getD i mk0::M.drop (i+1):=by rw[aF hi,aa,ab hi];rfl
  have E:M.getD i mk0∈M:=by rw[aa,ab hi];exact aU hi
  obtain⟨Z,hs⟩:=hm _ E;obtain⟨h,H,F⟩:=L (i+1) (ws++ [nmW (M.getD i mk0).auth]++ [iY (M.getD i mk0).sig]) 167 (by omega) (by omega) (by simp only[ac,aD];omega) (.inr rfl);have g1:=f81 ws (M.getD i mk0).auth Z (by omega);have Q:=f82 (M.getD i mk0).sig (by omega);have hl:=cH (ws++ [nmW (M.getD i mk0).auth]);have hb:((ws++ [nmW (M.getD i mk0).auth]).length+1)*16<=140737488355328:=by simp only[ac,aD];omega
  have O:ws++mkW (M.drop i)=ws++ [nmW (M.getD i mk0).auth]++ [iY (M.getD i mk0).sig]++mkW (M.drop (i+1)):=by rw[hd,mkW];simp only[ay,cf,br,aR]
  rw[O];refine⟨h,H, ?_⟩;rw[<-F,<-kS,aj];generalize ws++ [nmW (M.getD i mk0).auth]=a1 at*;generalize M.getD i mk0=z at*;obtain⟨a,sg⟩:=z;simp only[Mk.sv]at*;generalize iY sg=hx at*
  rcases y with rfl|rfl<;>
   simp only[go_sem,Q0,Q1,Q2,Q3,Q4,Q5,Q6,Q7,Q8,Q9,Qa,Qb,Qc,Qd,Qe,Qf,Qg,Qh,Qi,Qj,Qk,reduceCtorEq,reduceIte,hi,C,hv,I,J,g1,S1,Q,xeN,hl,hb]
theorem Cp(n:Nat)(h:n<=1099511627776):(dec n).length<=13:=qW 12 n (Nat.lt_of_le_of_lt h (by decide))
theorem fR{n:Int}(h:jc n):(nmW n).length<=13:=by obtain⟨y,z⟩:=h;exact Cp _ (by omega)
theorem iI(k:Int):(bZ k).length<=7:=by
 by_cases h:1<=k/\k<=12
 ·have y:k=1\/k=2\/k=3\/k=4\/k=5\/k=6\/k=7\/k=8\/k=9\/k=10\/k=11\/k=12:=by omega
  rcases y with rfl|rfl|rfl|rfl|rfl|rfl|rfl|rfl|rfl|rfl|rfl|rfl<;>decide
 ·unfold bZ
  rw[if_neg (by omega),if_neg (by omega),if_neg (by omega),if_neg (by omega),if_neg (by omega),if_neg (by omega),if_neg (by omega),if_neg (by omega),if_neg (by omega),if_neg (by omega),if_neg (by omega),if_neg (by omega)];decide
theorem wq(k:Nat):∀ws:List d9,(∀w∈ws,w.length<=k)->(fx ws).length<=ws.length*(k+1)
 |[],_=>by simp[fx]
 |[w],h=>by have:=h w aq;simp only[fx,ah,au];omega
 |w::v::r,h=>by have C:=h w aq;have z:=wq k (v::r) (fun x y=>h x (af _ y));rw[fx];simp only[ac,ah]at*;rw[bN (r.length+1) 1 (k+1)];omega
theorem xdH{M:List Mk}:(∀m∈M,jc m.auth/\m.sig.length<=1024)->∀w∈mkW M,w.length<=2049:=by
 induction M with
 |nil=>intro _ w y;cases y
 |cons m r z=>
  intro h w y;obtain⟨E,F⟩:=h m aq;simp only[mkW,al]at y;rcases y with rfl|rfl|y
  ·have:=fR E;omega
  ·have:=ek m.sig;omega
  ·exact z (fun x C=>h x (af _ C)) w y
theorem Cf(M:List Mk):(mkW M).length=2*M.length:=by
 induction M with
 |nil=>rfl
 |cons m r h=>simp only[mkW,ah,h];omega
theorem rR{s:Stp}(h:Wrt (fun c=>chE c=0) s):(wds bK s).length<=10/\∀w∈wds bK s,w.length<=8193:=by
 have L:=fR h.fm;have I:=fR h.fn;have T:=fR h.ft;have J:=ek s.body;have F:=ek (bK s.chain);have H:=im s.chain;have Q:=iI s.kind;have C:=h.b8;have O:=h.m4;have z:=xdH h.mks;have E:=Cf s.marks;unfold wds;split
 ·refine⟨by simp,fun w y=> ?_⟩
  simp only[al,bA,or_false]at y;rcases y with rfl|rfl|rfl|rfl<;>omega
 ·split
  ·refine⟨by simp,fun w y=> ?_⟩
   simp only[al,bA,or_false]at y;rcases y with rfl|rfl<;>omega
  ·split
   ·refine⟨by simp only[ah];omega,fun w y=> ?_⟩
    simp only[al]at y;rcases y with rfl|rfl|y
    ·omega
    ·omega
    ·have:=z w y;omega
   ·split
    ·refine⟨by simp,fun w y=> ?_⟩
     simp only[al,bA,or_false]at y;rcases y with rfl|rfl|rfl<;>omega
    ·refine⟨by simp,fun w y=> ?_⟩
     simp only[al,bA,or_false]at y;rcases y with rfl|rfl<;>omega
theorem mZ{s:Stp}(h:Wrt (fun c=>chE c=0) s):(ln bK s).length<=90000:=by obtain⟨z,y⟩:=rR h;have:=wq 8193 _ y;unfold ln;omega
theorem f35{s:Stp}(h:Wrt (fun c=>chE c=0) s):call T 35 [.agg s.sv] [] 0=some ⟨.str (ln bK s),[],[]⟩:=by
 have I:=mZ h;have H:=(rR h).1;have y:=f84 (wds bK s) (by unfold wds;simp) (by omega) (by unfold ln at I;omega);obtain⟨a1,a2,b1,O,b3,m0,n0,t0,bb,cc,b8,m4,mks,ch⟩:=h;obtain⟨t',a6,L⟩:=l35 s s.marks m4 mks _ 0 [bZ 8,iY s.body] 149 rfl (bC _) (by simp only[ah,au];omega) (.inl rfl);rw[bj,aA]at L;have g0:=f80 s.kind;have g1:=f81 [bZ s.kind] s.mach b1 (by simp);have g2:=f81 [bZ s.kind] s.n O (by simp);have J:=f81 [bZ s.kind,nmW s.mach] s.n O (by simp);have g3:=f81 [bZ s.kind,nmW s.mach,nmW s.n] s.torn b3 (by simp);have g4:=f82 s.body (by omega);have g5:=f83 s.chain;have g6:=f82 (bK s.chain) (by have:=im s.chain;omega);have hM:=cS s.marks;unfold ln;obtain⟨k,m,n,t,B,M,C⟩:=s;clear I H b1 O b3;simp only[Stp.sv,wds]at*;generalize bK C=eC at*;generalize nmW m=wm at*;generalize nmW n=wn at*;generalize nmW t=wt at*;generalize iY B=F at*;generalize iY eC=hC at*;rw[am xnV]
 by_cases Q:k=2
 ·subst Q
  generalize bZ 2=z at*;simp only[if_true,wsv,aG,cV,br,aR]at y g1 J g3 ⊢;simp only[go_sem,Q0,Q1,Q2,Q3,Q4,Q5,Q6,Q7,Q8,Q9,Qa,Qb,Qc,Qd,Qe,Qf,Qg,Qh,Qi,Qj,Qk,reduceCtorEq,reduceIte,g0,EC,g1,J,g3,S1,y,S0]
 by_cases e4:4<=k/\k<=7
 ·have hk:k=4\/k=5\/k=6\/k=7:=by omega
  rcases hk with rfl|rfl|rfl|rfl
  all_goals
   rw[if_neg (by decide),if_pos (by decide)]at y ⊢;generalize bZ _=z at*;simp only[wsv,aG,cV,br,aR]at y g2 ⊢;simp only[go_sem,Q0,Q1,Q2,Q3,Q4,Q5,Q6,Q7,Q8,Q9,Qa,Qb,Qc,Qd,Qe,Qf,Qg,Qh,Qi,Qj,Qk,reduceCtorEq,reduceIte,g0,EC,g2,S1,y,S0]
 by_cases Z:k=8
 ·subst Z
  rw[if_neg (by decide),if_neg (by decide),if_pos (by decide)]at y ⊢;have hb:(([bZ 8].length)+1)*16<=140737488355328:=by decide
  generalize bZ 8=z at*;have E:[z,F]++mkW M=z::F::mkW M:=rfl;rw[E]at L;generalize z::F::mkW M=W at*;rw[show wsv [z,F]=[[.str z],[.str F]]from rfl]at L
  rcases a6 with rfl|rfl<;>
   simp only[go_sem,Q0,Q1,Q2,Q3,Q4,Q5,Q6,Q7,Q8,Q9,Qa,Qb,Qc,Qd,Qe,Qf,Qg,Qh,Qi,Qj,Qk,reduceCtorEq,reduceIte,g0,EC,g4,xeN,hM,L,y,S0]
 by_cases e9:k=9
 ·subst e9
  rw[if_neg (by decide),if_neg (by decide),if_neg (by decide),if_pos (by decide)]at y ⊢;generalize bZ 9=z at*;simp only[wsv,aG,cV,br,aR]at y g1 ⊢;simp only[go_sem,Q0,Q1,Q2,Q3,Q4,Q5,Q6,Q7,Q8,Q9,Qa,Qb,Qc,Qd,Qe,Qf,Qg,Qh,Qi,Qj,Qk,reduceCtorEq,reduceIte,g0,EC,g1,S1,g5,xod,g6,xeN,y,S0]
 have q4:¬k=4:=by omega
 have q5:¬k=5:=by omega
 have q6:¬k=6:=by omega
 have q7:¬k=7:=by omega
 rw[if_neg Q,if_neg e4,if_neg Z,if_neg e9]at y ⊢;generalize bZ k=z at*;simp only[wsv,aG,cV,br,aR]at y g1 ⊢;simp only[go_sem,Q0,Q1,Q2,Q3,Q4,Q5,Q6,Q7,Q8,Q9,Qa,Qb,Qc,Qd,Qe,Qf,Qg,Qh,Qi,Qj,Qk,reduceCtorEq,reduceIte,g0,EC,Q,q4,q5,q6,q7,Z,e9,g1,S1,y,S0]
end
end Go.Proofs.YtmhhnklkcmpdkaaGreatDoor
