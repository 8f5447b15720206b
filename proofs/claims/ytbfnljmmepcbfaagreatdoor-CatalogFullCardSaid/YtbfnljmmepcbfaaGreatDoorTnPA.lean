/- What the functions come to. No condition. -/
import Derived.Test.YtbfnljmmepcbfaaGreatDoorTmPA
open Int renaming natCast_zero -> aD
open Go.IntKind renaming u64 -> aU
open List renaming Pairwise -> qH, getD_eq_getElem?_getD -> aa, getElem?_eq_getElem -> ac, getElem_of_mem -> bn, length_singleton -> br, map_cons -> aF, map_nil -> bX
open Nat renaming le_refl -> aK, le_trans -> kL, zero_le -> bH
open Option renaming getD_some -> aM
set_option maxRecDepth 100000
set_option maxHeartbeats 16000000
set_option linter.unusedSimpArgs false
set_option linter.unusedVariables false
namespace Go.Proofs.YtbfnljmmepcbfaaGreatDoor
open Go.Sy
open UInt8 renaming reduceLT -> Q0, reduceLE -> Q1
open Int renaming reduceToNat -> Q2, reduceLE -> Q3, reduceLT -> Q4, reduceEq -> Q5, reduceNe -> Q6, reduceNeg -> Q7, reduceAdd -> Q8, reduceSub -> Q9, reduceMul -> Qa
open Nat renaming reducePow -> Qb, reduceDiv -> Qc, reduceMod -> Qd, reduceAdd -> Qe, reduceSub -> Qf, reduceMul -> Qg, reduceLT -> Qh, reduceLeDiff -> Qi, reduceEqDiff -> Qj, reduceBEq -> Qk

theorem l27(L:List Man)(hb:∀x∈L,dz x)(hn:L.length<=100000):∀(n i:Nat),L.length-i=n->i<=L.length->
 run T (.loop N4) ⟨[(0,.lst 7 (eH L) .no),(1,.lst 7 (eH L) .no),(5,.int .i64 i)],[],[]⟩=some (.x 0,⟨[],[],[]⟩):=by
 have hv:=dV L;intro n;induction n with
 |zero=>
  intro i h0 h1;have hi:i=L.length:=by omega
  subst hi;rw[ai];simp only[go_sem,Qh,Qj,Qk,reduceCtorEq,reduceIte,hv]
 |succ n ih=>
  intro i h0 h1;have hq:i<L.length:=by omega
  have e1:=cZ i (by omega);have hg:=ig L i hq;have g:=f56 (L.getD i mnz) (L.getD i mnz) (hb _ (cE L mnz i hq));rw[Yh rfl]at g;have ih':=ih (i+1) (by omega) (by omega);generalize L.getD i mnz=x at*;obtain⟨mv,m1,m2,m3,m4,me,mr⟩:=x;simp only[Man.sv]at*;rw[ai];simp only[go_sem,Qb,Qc,Qd,Qe,Qh,Qj,Qk,reduceCtorEq,reduceIte,hv,hq,hg,g,xm1,e1,ih']
theorem f27(L:List Man)(hb:∀x∈L,dz x)(hn:L.length<=100000):call T 27 [.lst 7 (eH L) .no,.lst 7 (eH L) .no] [] 0=some ⟨.bool true,[],[]⟩:=by have hl:=l27 L hb hn _ 0 rfl (bH _);have hv:=dV L;rw[aD]at hl;rw[an xmT];simp only[go_sem,Qe,Qh,Qi,Qj,Qk,reduceCtorEq,reduceIte,hv,hl]
theorem xlc(c:Cat)(hc:uo c):∀(n i:Nat),c.ws.length-i=n->i<=c.ws.length->
 run T (.loop N9) ⟨[(2,.ptr 102 0),(3,.ptr 103 0),(5,.int .i64 i)],[(102,.rc c.sv),(103,.rc c.sv)],[]⟩=some (.x 0,⟨[(2,.ptr 102 0),(3,.ptr 103 0)],[(102,.rc c.sv),(103,.rc c.sv)],[]⟩):=by
 have hv:=eQ c.ws;have hn:=hc.nw;intro n;induction n with
 |zero=>
  intro i h0 h1;have hi:i=c.ws.length:=by omega
  rw[hi];obtain⟨⟨au,th⟩,ms,ws⟩:=c;simp only[Cat.sv]at*;rw[ai];simp only[go_sem,Qe,Qh,Qj,Qk,reduceIte,hv]
 |succ n ih=>
  intro i h0 h1;have hq:i<c.ws.length:=by omega
  have e1:=cZ i (by omega);have hg:=ly c.ws i hq;have g:=f41 (c.ws.getD i wd0) (c.ws.getD i wd0) (by have:=hc.w _ (cE c.ws wd0 i hq);omega);rw[decide_eq_true rfl]at g;have ih':=ih (i+1) (by omega) (by omega);generalize c.ws.getD i wd0=x at*;obtain⟨wm,wf⟩:=x;obtain⟨⟨au,th⟩,ms,ws⟩:=c;simp only[Wd.sv,Cat.sv]at*;rw[ai];simp only[go_sem,Qb,Qc,Qd,Qe,Qh,Qj,Qk,reduceIte,hv,hq,hg,g,xm4,e1,ih']
theorem xlb(c:Cat)(hn:c.t.au.length<=100000)(hk:∀a∈c.t.au,a.key.length<=140737488355328):∀(n i:Nat),c.t.au.length-i=n->i<=c.t.au.length->
 run T (.loop yz) ⟨[(2,.ptr 102 0),(3,.ptr 103 0),(6,.int .i64 i)],[(102,.rc c.sv),(103,.rc c.sv)],[]⟩=some (.x 2,⟨[],[(102,.rc c.sv),(103,.rc c.sv)],[]⟩):=by
 have hv:=fk c.t.au;intro n;induction n with
 |zero=>
  intro i h0 h1;have hi:i=c.t.au.length:=by omega
  rw[hi];obtain⟨⟨au,th⟩,ms,ws⟩:=c;simp only[Cat.sv]at*;rw[ai];simp only[go_sem,Qe,Qh,Qi,Qj,Qk,reduceIte,hv]
 |succ n ih=>
  intro i h0 h1;have hq:i<c.t.au.length:=by omega
  have e1:=cZ i (by omega);have hg:=ij c.t.au i hq;have g:=f31 (c.t.au.getD i au0).key (c.t.au.getD i au0).key (hk _ (cE c.t.au au0 i hq));rw[decide_eq_true rfl]at g;have ih':=ih (i+1) (by omega) (by omega);obtain⟨⟨au,th⟩,ms,ws⟩:=c;simp only at hv hg g hq;generalize au.getD i au0=x at*;obtain⟨aid,ak⟩:=x;simp only[Au.sv,Cat.sv]at*;rw[ai];simp only[go_sem,Qb,Qc,Qd,Qe,Qh,Qi,Qj,Qk,reduceIte,hv,hq,hg,g,Sb,e1,ih']
theorem f13(c:Cat)(hc:uo c)(hn:c.t.au.length<=100000)(hk:∀a∈c.t.au,a.key.length<=140737488355328):call T 13 [.agg c.sv,.agg c.sv] [] 0=some ⟨.bool true,[],[]⟩:=by have g:=f27 c.ms hc.m hc.nm;have h1:=xlc c hc _ 0 rfl (bH _);have h2:=xlb c hn hk _ 0 rfl (bH _);have hw:=eQ c.ws;have ha:=fk c.t.au;rw[aD]at h1 h2;obtain⟨⟨au,th⟩,ms,ws⟩:=c;simp only[Cat.sv]at*;rw[an xmX];simp only[go_sem,Qe,Qh,Qi,Qj,Qk,reduceCtorEq,reduceIte,g,xm7,hw,ha,h1,h2]
theorem OZ(k:Nat)(hk:k<=2)(thr w:Int)(B:List UInt8)(hb:uc B)(hw:(trL k thr).thr<=(Yj w (k+1):Int)):pM (trL k thr) B (fS w B)=0:=by
 have hl:=Fc w B;unfold pM
 rw[if_pos (DE k hk thr),if_neg (by omega),if_neg (fun h=>by
  rcases hb with h1|h1
  ·exact h1 h.1
  ·exact h1 h.2),CK k hk,vH,if_neg (by omega)]
theorem wg(B:List UInt8)(hb:uc B):pM (trL 0 0) B (fS 1 B)=0:=OZ 0 (by decide) 0 1 B hb (by decide)
theorem xmb(w:Wd)(h:nz w):kU (ft w)=none:=by
 have h1:wT (ft w)=(22,⟨1,0⟩):=by
  have hb:be 6 (aU.wrap w.frm)=bu 6 w.frm:=rfl;have e:ft w=[]++([22]++(w.man++bu 6 w.frm)):=by rw[ft,if_pos h,hb];rfl
  have:=iP (B:=ft w) (P:=[]) (X:=[22]) 1 e rfl;exact this
 unfold kU;rw[if_neg];intro ho;have:=ho.1;change (wT (ft w)).1=21 at this;rw[h1]at this;exact absurd this (by decide)
theorem Ol{m:Man}(h:fm m=0):uc (dZ m):= .inl (by rw[ma h];simp)
theorem Ym{w:Wd}(h:nz w):uc (ft w):= .inr (by rw[vY w h];simp)
theorem yX{c:Cat}{m:Man}(h:fm m=0){ms:List Mk}(hv:pM c.t (dZ m) ms=0):kH c (dZ m) ms=j7 c m:=by unfold kH;rw[if_pos hv,ma h]
theorem Nr{c:Cat}{w:Wd}(h:nz w){ms:List Mk}(hv:pM c.t (ft w) ms=0):kH c (ft w) ms=kG c w:=by unfold kH;rw[if_pos hv,xmb w h,vY w h]
theorem xdm(c:Cat)(m:Man)(h:(j7 c m).2=0):(j7 c m).1.t=c.t:=by
 unfold j7 at h ⊢;split at h
 ·rename_i q;rw[if_pos q]
 ·rename_i q;rw[if_neg q]
  split at h
  ·cases h
  ·rename_i q2;rw[if_neg q2]
theorem xdl(c:Cat)(w:Wd)(h:(kG c w).2=0):(kG c w).1.t=c.t:=by
 unfold kG at h ⊢;split at h
 ·rename_i q;rw[if_pos q]
 ·rename_i q;rw[if_neg q]
  split at h
  ·cases h
  ·rename_i q2;rw[if_neg q2]
theorem xdn(c:Cat)(B:List UInt8)(ms:List Mk)(h:(kH c B ms).2=0):(kH c B ms).1.t=c.t:=by
 unfold kH at h ⊢;split at h
 ·rename_i q;rw[if_pos q]
  cases hp:kU B with
  |some m=>rw[hp]at h;exact xdm c m h
  |none=>
   cases hw:mW B with
   |some w=>rw[hp,hw]at h;exact xdl c w h
   |none=>rw[hp,hw]at h;cases h
 ·rename_i q;exact absurd h q
theorem oQ{c:Cat}(hc:iA c)(B:List UInt8)(ms:List Mk)(h:(kH c B ms).2=0):iA (kH c B ms).1:=by
 unfold kH at h ⊢;split at h
 ·rename_i q;rw[if_pos q]
  cases hp:kU B with
  |some m=>rw[hp]at h;exact RN hc (sL hp).1 (sL hp).2 h
  |none=>
   cases hw:mW B with
   |some w=>rw[hp,hw]at h;exact RM hc (Dt hw) h
   |none=>rw[hp,hw]at h;cases h
 ·rename_i q;exact absurd h q
theorem iA.bd{c:Cat}(h:iA c):uo c:=⟨fun x hx=>(h.m x hx).1,fun x hx=>Nat.le_of_eq (h.w x hx).1,by have:=h.n;omega,by have:=h.n;omega⟩
theorem sM(t:Tr):iA ⟨t,[],[]⟩:=⟨qH.nil,qH.nil,(fun x hx=>by cases hx),(fun x hx=>by cases hx),bH _⟩
def maA:Man:=⟨[118],1,0,0,100,[],[]⟩
def maB:Man:=⟨[118],2,2,10,100,[],[]⟩
noncomputable def wdC:Wd:=⟨cD maB,12⟩
theorem M9:fm maA=0:=by decide
theorem yT:fm maB=0:=by decide
theorem Na:dz maA:=by constructor<;>simp[maA]
theorem yU:dz maB:=by constructor<;>simp[maB]
theorem xI{m:Man}(h:fm m=0):(cD m).length=32:=by
 unfold cD
 rw[if_neg (fun e=>by have:=ma h;rw[e]at this;simp[kU,okP,uR]at this)]
 exact lV _
theorem x5:nz wdC:=⟨xI yT,by decide,by decide⟩
def cN:Cat:=⟨trL 0 0,[],[]⟩
theorem xgC:iA cN:=sM _
theorem xbt{L:List Man}(hL:L=[maA,maB]\/L=[maB,maA]):Ee ⟨trL 0 0,L,[wdC]⟩ 9=[maA]/\Ee ⟨trL 0 0,L,[wdC]⟩ 10=[maB]/\Ee ⟨trL 0 0,L,[wdC]⟩ 12=[]/\flr L [118] 12=2:=by rcases hL with rfl|rfl<;>simp[Ee,inF,flr,Ef,wdL,wdB,maA,maB,wdC]
theorem xei:∃L:List Man,(L=[maA,maB]\/L=[maB,maA])/\
 kH cN (dZ maA) (fS 1 (dZ maA))=(⟨trL 0 0,[maA],[]⟩,0)/\
 kH ⟨trL 0 0,[maA],[]⟩ (dZ maB) (fS 1 (dZ maB))=(⟨trL 0 0,L,[]⟩,0)/\
 kH ⟨trL 0 0,L,[]⟩ (ft wdC) (fS 1 (ft wdC))=(⟨trL 0 0,L,[wdC]⟩,0):=by
 refine⟨kT [maA] maB, ?_, ?_, ?_, ?_⟩
 ·unfold kT
  have hle:=ll [maA] (cD maB);rw[br]at hle;rcases (by omega:ubM [maA] (cD maB)=0\/ubM [maA] (cD maB)=1)with h|h
  ·rw[h];exact .inr rfl
  ·rw[h];exact .inl rfl
 ·rw[yX (c:=cN) M9 (wg _ (Ol M9))]
  unfold j7;rw[if_neg (by simp[cN]),if_neg (by simp[cN])];unfold kT cN;rw[oE]
 ·rw[yX (c:=⟨trL 0 0,[maA],[]⟩) yT (wg _ (Ol yT))]
  unfold j7;rw[if_neg (by simp[maA,maB]),if_neg (by simp)]
 ·have hl:(kT [maA] maB).length=2:=po _ _
  rw[Nr (c:=⟨trL 0 0,kT [maA] maB,[]⟩) x5 (wg _ (Ym x5))];unfold kG;rw[if_neg (by simp),if_neg (by show ¬16<=(kT [maA] maB).length+0;omega)];unfold oG;rw[oE]
theorem U_9:U.fn 9=some (.code F9):=GN.fn 9 _ T_9
theorem xjH:call T 10 [.int .i64 0,.int .i64 0] [] 0=some ⟨.agg (trL 0 0).sv,[],[]⟩:=by
 obtain⟨k,hk,h,g⟩:=f10 0 0 (by decide) (by decide) (by decide) (by decide);have h0:gN 0 3=0:=by decide
 have:k=0:=by omega
 subst this;exact g
theorem f9:call U 9 [] [] 0=some ⟨.bool true,[],[]⟩:=by obtain⟨L,hL,s1,s2,s3⟩:=xei;obtain⟨i1,i2,i3,i4⟩:=xbt hL;have k0:=xgC;have k1:=oQ k0 (dZ maA) (fS 1 (dZ maA)) (by rw[s1]);rw[s1]at k1;have k2:=oQ k1 (dZ maB) (fS 1 (dZ maB)) (by rw[s2]);rw[s2]at k2;have k3:=oQ k2 (ft wdC) (fS 1 (ft wdC)) (by rw[s3]);rw[s3]at k3;have lA:=j5 maA Na;have lB:=j5 maB yU;have lW:=pA wdC x5;have g1:=up xjH;have g2:=up (f11 (trL 0 0));rw[show v8 (trL 0 0)=(cN,0)from if_pos (DE 0 (by decide) 0)]at g2;have g3:=up (f34 maA Na);have g4:=up (f33 (dZ maA) lA 1);have g5:=f19 cN k0 (dZ maA) (fS 1 (dZ maA)) lA;rw[s1]at g5;have g6:=up (f34 maB yU);have g7:=up (f33 (dZ maB) lB 1);have g8:=f19 _ k1 (dZ maB) (fS 1 (dZ maB)) lB;rw[s2]at g8;have g9:=up (f36 maB yU);have g10:=up (f35 wdC);have g11:=up (f33 (ft wdC) (by omega) 1);have g12:=f19 _ k2 (ft wdC) (fS 1 (ft wdC)) (by omega);rw[s3]at g12;have g13:=up (f28 _ k3.bd 9);have g14:=up (f28 _ k3.bd 10);have g15:=up (f28 _ k3.bd 12);have g16:=up (f25 _ (kL k3.bd.nm (by decide)) [118] 12);rw[i1]at g13;rw[i2]at g14;rw[i3]at g15;simp only[i4]at g16;clear s1 s2 s3 i1 i2 i3 i4 k0 k1 k2 k3 lA lB lW hL;generalize trL 0 0=t at*;obtain⟨au,th⟩:=t;unfold wdC at*;generalize cD maB=D at*;simp only[cN,gp,Cat.sv,Tr.sv,Wd.sv,dX,eH,gy,bX,aF]at*;simp only[maA,maB,Man.sv,eC,eG,bX]at*;rw[an U_9];simp only[go_sem,Q2,Q3,Q4,Qb,Qc,Qd,Qe,Qh,Qi,Qj,Qk,reduceCtorEq,reduceIte,US,g1,NB,g2,NA,g3,YG,g4,xdR,g5,Sc,g6,g7,g8,g9,xm5,g10,xka,g11,g12,g13,xm6,g14,g15,g16,YH]
theorem Pb{t:Tr}(h:trE t=0):t.au.length<=4/\∀a∈t.au,a.key.length=17:=by
 unfold trE at h;split at h
 ·cases h
 ·rename_i h4
  refine⟨by omega,fun a ha=> ?_⟩;split at h
  ·rename_i h0
   obtain⟨i,hi,rfl⟩:=bn ha;have:=tj _ 0 h0 i (bH _) (by omega);unfold auE at this;rw[aa,ac hi]at this;simp only[aM]at this;split at this
   ·cases this
   ·split at this
    ·cases this
    ·split at this
     ·omega
     ·cases this
  ·rename_i h0;exact absurd h h0
structure EA(c:Cat):Prop where
 ok:iA c
 n:c.t.au.length<=4
 k:∀a∈c.t.au,a.key.length<=17
theorem xjF{c:Cat}(h:EA c):call T 13 [.agg c.sv,.agg c.sv] [] 0=some ⟨.bool true,[],[]⟩:=
 f13 c h.ok.bd (by have:=h.n;omega) (fun a ha=>by have:=h.k a ha;omega)
theorem Ns:EA oR:=⟨sM _,bH _,fun a ha=>by cases ha⟩
theorem Nq(t:Tr):EA (v8 t).1:=by
 unfold v8;split
 ·rename_i h
  obtain⟨h1,h2⟩:=Pb h;exact⟨sM t,h1,fun a ha=>by rw[h2 a ha];exact aK _⟩
 ·exact Ns
theorem xdo{c:Cat}(h:EA c)(B:List UInt8)(ms:List Mk):EA (kH c B ms).1:=by
 by_cases h0:(kH c B ms).2=0
 ·have ht:=xdn c B ms h0
  exact⟨oQ h.ok B ms h0,by rw[ht];exact h.n,by rw[ht];exact h.k⟩
 ·have:(kH c B ms).1=oR:=by
   unfold kH j7 kG at h0 ⊢
   repeat' split at h0
   all_goals (repeat' split)
   all_goals first|rfl|(exfalso;exact h0 rfl)|(exfalso;contradiction)
  rw[this];exact Ns
theorem U_3:U.fn 3=some (.code F3):=GN.fn 3 _ T_3
theorem f3(raw:Tr)(n thr:Int)(any:Bool)(n1: -9223372036854775808<=n)(n2:n<=9223372036854775807)(h1: -9223372036854775808<=thr)(h2:thr<=9223372036854775807):
 call U 3 [.agg raw.sv,.int .i64 n,.int .i64 thr,.bool any] [] 0=some ⟨.bool true,[],[]⟩:=by
 have g9:=f9;obtain⟨k,hk, -,g10⟩:=f10 n thr h1 h2 n1 n2;replace g10:=up g10
 have hfin:∀t:Tr,∃Q:Cat×Int,call U 11 [.agg t.sv] [] 0=some ⟨gp Q,[],[]⟩/\call U 12 [.agg t.sv] [] 0=some ⟨gp Q,[],[]⟩/\call U 13 [.agg Q.1.sv,.agg Q.1.sv] [] 0=some ⟨.bool true,[],[]⟩:=fun t=>
  ⟨v8 t,up (f11 t),up (f12 t),up (xjF (Nq t))⟩
 cases any with
 |false=>generalize trL k thr=t at*;obtain⟨Q,g11,g12,g13⟩:=hfin t;obtain⟨au,th⟩:=t;obtain⟨ra,rt⟩:=raw;obtain⟨⟨⟨qa,qt⟩,qm,qw⟩,qe⟩:=Q;simp only[Tr.sv,gp,Cat.sv]at*;rw[an U_3];simp only[go_sem,Q2,Q3,Qe,Qh,Qi,Qj,Qk,reduceCtorEq,reduceIte,US,g9,S_9,g10,NB,g11,NA,g12,xdS,g13,YW]
 |true=>
  generalize trL k thr=t at*;obtain⟨au,th⟩:=t;have hv:=fk raw.au
  by_cases q:raw.au.length<=6
  ·have q':¬(6:Int)<raw.au.length:=by omega
   obtain⟨Q,g11,g12,g13⟩:=hfin raw;obtain⟨ra,rt⟩:=raw;obtain⟨⟨⟨qa,qt⟩,qm,qw⟩,qe⟩:=Q;simp only[Tr.sv,gp,Cat.sv]at*;rw[an U_3];simp only[go_sem,Q2,Q3,Qe,Qh,Qi,Qj,Qk,reduceCtorEq,reduceIte,US,g9,S_9,g10,NB,hv,q',g11,NA,g12,xdS,g13,YW]
  ·have q':(6:Int)<raw.au.length:=by omega
   have q6:6<=raw.au.length:=by omega
   have q6i:(6:Int)<=raw.au.length:=by omega
   obtain⟨Q,g11,g12,g13⟩:=hfin ⟨raw.au.take 6,raw.thr⟩;have ht:=DA raw.au 6;obtain⟨ra,rt⟩:=raw;obtain⟨⟨⟨qa,qt⟩,qm,qw⟩,qe⟩:=Q;simp only[Tr.sv,gp,Cat.sv]at*;rw[an U_3];simp only[go_sem,Q2,Q3,Qe,Qh,Qi,Qj,Qk,reduceCtorEq,reduceIte,US,g9,S_9,g10,NB,hv,q',q6i,ht,g11,NA,g12,xdS,g13,YW]
end Go.Proofs.YtbfnljmmepcbfaaGreatDoor
