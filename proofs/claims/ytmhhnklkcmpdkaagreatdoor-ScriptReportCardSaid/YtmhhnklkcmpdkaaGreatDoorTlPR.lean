/- Contracts. No condition. -/
import Derived.Test.YtmhhnklkcmpdkaaGreatDoorTkPR
open Int renaming natCast_zero -> ak
open Go.IntKind renaming i64 -> ah, u64 -> az
open List renaming cons_append -> aL, drop_zero -> bw, getD_cons_succ -> cZ, getD_cons_zero -> gD, length -> uZ, length_append -> af, length_cons -> ai, length_nil -> al, length_take -> aw, map_cons -> ax, map_nil -> aK, mem_cons -> aq, nil_append -> aA, not_mem_nil -> cY
open Nat renaming zero_le -> aC
set_option maxRecDepth 100000
set_option maxHeartbeats 16000000
set_option linter.unusedSimpArgs false
set_option linter.unusedVariables false
noncomputable section
namespace Go.Proofs.YtmhhnklkcmpdkaaGreatDoor
open Go.Sy

theorem xh4{s:Sv}{h:List (Int×Bool)}(y:Kb s h):call U 24 [.agg (ks s h)] [] 0=okV (.str (nT s h)):=by
 rw[fH xfp];unfold Sd;split
 ·rename_i z
  have:=z.1;simp only[List.cons.injEq,SV.agg.injEq,and_true]at this;have e:=congrArg (fun l=>l.getD 10 .undef) this;have h0:=y.2.2.1;simp only[ks,Tb,cZ,gD,SV.lst.injEq,true_and,and_true]at e;have:=congrArg uZ e;rw[fY]at this;simp only[al]at this;omega
 ·exact WZ y
theorem Q3(s:Sv)(hs:Sm s)(h:List (Int×Bool))(F:s.E=EE)(y z C:Bool)(H:h=hs3 y z C):(nT s h).length<=10000:=by
 have h0:=fu (n:=s.k) (by have:=hs.k1;omega);have h1:=mq hs (m:=1) (by decide);have h2:=mq hs (m:=2) (by decide);have h3:=mq hs (m:=3) (by decide)
 have h4:∀n:Int,n<=4->∀b,(iP (n,b)).length<=60:=fun n I b=>by have:=fu (n:=n) (by omega);unfold iP;cases b<;>simp<;>omega
 have Q:=h4 1 (by decide) y;have J:=h4 2 (by decide) z;have K:=h4 3 (by decide) C;rw[oE s h F y z C H];simp only[af,ai,al];omega
def HP(s:Sv)(M:f9)(t:Tk)(K:Nat)(B:t8)(j:Nat):List (Nat×aG):=[(108,flO s M (.id 168)),(25100,t.obT (.id K)),(30100,.rc [bN B,iV j])]
theorem l39(s:Sv)(hs:Sm s)(M:f9)(t:Tk)(K:Nat)(F:K=27060\/K=53060)(B:t8)(j:Nat)(x a c:Int)(i:Int)(hi:i=1\/i=2\/i=3)(J:0<=a/\a<=10:=by omega)(Q:0<=c/\c<=10:=by omega):
 run U (.loop yU) ⟨[(8,.ptr 108 0),(16,iV x),(17,iV a),(18,iV c),(20,iV i)],HP s M t K B j,[168,K]⟩=
 run U (.loop yU) ⟨[(8,.ptr 108 0),(16,iV x),(17,iV (a-adI s i)),(18,iV (c-heI s i)),(20,iV (i+1))],HP s M t K B j,[168,K]⟩:=by
 have z:=f26 s i hs.wf;have y:=f27 s.l i hs.wf.s2 (by have:=hs.wf.len2;omega);rw[Js hs.wf]at y;have H:ah.wrap (a-1)=a-1:=w64;have I:ah.wrap (c-1)=c-1:=w64;have C:ah.wrap (i+1)=i+1:=w64;have h3:i<=3:=by omega
 unfold adI heI;generalize uU s.l.ls i s.k=p at*;generalize (kj s.l.hs i).isSome=q at*;unfold Sv.sv Ls.sv iB iE at*;unfold HP flO Sv.sv Tk.obT;simp only[aL,aA];cases p with
 |true=>rw[if_pos rfl,if_pos rfl,ab];rcases F with rfl|rfl<;>simp only[go_sem,simprocAttr,h3,z,up 26,H,C,Int.sub_zero]
 |false=>
  rw[if_neg (by decide),if_neg (by decide),ab];cases q with
  |true=>rw[if_pos rfl];rcases F with rfl|rfl<;>simp only[go_sem,simprocAttr,h3,z,up 26,y,up 27,I,C,Int.sub_zero]
  |false=>rw[if_neg (by decide)];rcases F with rfl|rfl<;>simp only[go_sem,simprocAttr,h3,z,up 26,y,up 27,C,Int.sub_zero]
theorem Ho(s:Sv)(m:Int):0<=adI s m/\adI s m<=1:=by unfold adI;split<;>decide
theorem Hg(s:Sv)(m:Int):0<=heI s m/\heI s m<=1:=by unfold heI;split<;>first|decide|(split<;>decide)
theorem xer(s:Sv)(hs:Sm s)(M:f9)(t:Tk)(K:Nat)(y:K=27060\/K=53060)(B:t8)(j:Nat):
 run U (.loop yU) ⟨[(8,.ptr 108 0),(16,iV 7),(17,iV (adI s 1+adI s 2+adI s 3)),(18,iV (heI s 1+heI s 2+heI s 3)),(20,iV 1)],HP s M t K B j,[168,K]⟩=
 some (.x 6,⟨[(16,iV 7),(17,iV 0),(18,iV 0)],HP s M t K B j,[168,K]⟩):=by
 have z:=Ho s 1;have a2:=Ho s 2;have a3:=Ho s 3;have c1:=Hg s 1;have c2:=Hg s 2;have c3:=Hg s 3;rw[l39 s hs M t K y B j 7 _ _ 1 (.inl rfl),show(1:Int)+1=2 from rfl];rw[l39 s hs M t K y B j 7 _ _ 2 (.inr (.inl rfl)),show(2:Int)+1=3 from rfl];rw[l39 s hs M t K y B j 7 _ _ 3 (.inr (.inr rfl)),show(3:Int)+1=4 from rfl];rw[show adI s 1+adI s 2+adI s 3-adI s 1-adI s 2-adI s 3=0 by omega,show heI s 1+heI s 2+heI s 3-heI s 1-heI s 2-heI s 3=0 by omega];unfold HP flO Sv.sv Tk.obT;simp only[aL,aA];rw[ab];rcases y with rfl|rfl<;>simp only[go_sem,simprocAttr]
theorem xeh:T.sg 24= {}:=rfl
theorem f6(H5:Kq)(HA:Ng)(A C:t8)(u:Int):call U 6 [bN A,bN C,iV u] [] 0=okV (.bool true):=by
 have g7:=f7;have H2:=xeX H5;have H9:=xhT H5;obtain⟨l,es,hl,a6,a7,g18⟩:=f18 C;have ht:lk ⟨l,es,[],[],[],[],[],[]⟩:=⟨hl,a6,by have:=hl.n8;show es.length<=1000;omega,aC _,aC _,aC _,aC _,aC _,fun m hm=>by cases hm⟩;obtain⟨s0,a1,g19⟩:=f19 H9 _ ht;have J:=f14 A 60;have hB:(A.take 60).length<=1000:=by rw[aw];omega
 generalize A.take 60=B at*;rw[show((60:Nat):Int)=60 from rfl]at J;unfold bE at J;obtain⟨s,t,K,j,n,hn,hs,hK,gl⟩:=l6a H9 H2 HA u B hB 6 0 rfl s0 _ 27060 0 a1 ht (aC _) (.inl rfl);rw[ak]at J;unfold st6 flO at gl;unfold Tk.ob Tk.oc at g19;unfold Tk.obT Sv.sv at*;simp only[aL,aA,show yD []=[]from rfl,ak]at gl g19
 have Z:∀y F z,Kb s (hs3 y F z):=fun y F z=>by
  refine⟨hs.sm (by omega),by rw[hs.e];decide,by rw[hs.e];decide,fun e he=> ?_,by show(3:Nat)<=10;decide,by show 0<(3:Nat);decide, ?_⟩
  ·rw[hs.e]at he
   obtain⟨m,a,rfl,_,h1,h3⟩:=UR e he;show(1:Int)<=m/\(m:Int)<=4;omega
  ·intro e he
   simp only[hs3,aq,cY,or_false]at he;rcases he with rfl|rfl|rfl
   ·show(1:Int)<=1/\(1:Int)<=4;decide
   ·show(1:Int)<=2/\(2:Int)<=4;decide
   ·show(1:Int)<=3/\(3:Int)<=4;decide
 rw[ccU 6];have k1:ah.wrap 1=1:=rfl;have k2:ah.wrap 2=2:=rfl;have k3:ah.wrap 3=3:=rfl;have k4:ah.wrap 4=4:=rfl;have v1:az.wrap 1=1:=rfl;have v2:az.wrap 2=2:=rfl;have v3:az.wrap 3=3:=rfl;simp only[go_sem,simprocAttr,g7,g18,up 18,g19,J,up 14,gl];have H:∀y F z,call U 24 [.agg (ks s (hs3 y F z))] [] 0=okV (.str (nT s (hs3 y F z))):=fun y F z=>xh4 (Z y F z)
 have I:∀y F z,call T 25 [.agg (ks s (hs3 y F z))] [] 0=okV (.str (nT s (hs3 y F z))):=fun y F z=>f25 s (hs.sm (by omega)) _ (Z y F z).2.1 (Z y F z).2.2.2.1 (Z y F z).2.2.2.2.1 (Z y F z).2.2.2.2.2.2
 unfold ks at H I;simp only[Kg,hs3,ax,aK,mcR]at H I
 have Q:∀(y F z:Bool)(ob:List (Nat×aG))(tk:LAb),run U (.loop vf) ⟨[(8,.ptr 108 0),(15,.str (nT s [(1,y),(2,F),(3,z)])),(16,iV 0),(17,iV 0),(18,iV 0),(19,iV 0)],ob,tk⟩=
  some (.x 4,⟨[(8,.ptr 108 0),(16,iV 7),(17,iV (adI s 1+adI s 2+adI s 3)),(18,iV (heI s 1+heI s 2+heI s 3))],ob,tk⟩):=fun y F z ob tk=>by
  have h:=l6c (nT s [(1,y),(2,F),(3,z)]) ob tk (Q3 s (hs.sm (by omega)) [(1,y),(2,F),(3,z)] hs.e y F z rfl) (nT s [(1,y),(2,F),(3,z)]) 0 0 bw (aC _) (fun h=>absurd h (Nat.lt_irrefl 0)) (fun _=>rfl) 0 0 0 (by decide) (by decide) (by decide);rw[VB s [(1,y),(2,F),(3,z)] hs.e y F z rfl,VA s [(1,y),(2,F),(3,z)] hs.e y F z rfl,Vz s [(1,y),(2,F),(3,z)] hs.e y F z rfl,Int.zero_add,Int.zero_add,Int.zero_add,ak]at h;exact h
 rcases hK with rfl|rfl
 ·have g39:=fun M=>xer s (hs.sm (by omega)) M t 27060 (.inl rfl) B j
  unfold HP flO Sv.sv Tk.obT at g39;simp only[aL,aA]at g39;rw[ab];simp only[go_sem,simprocAttr,k2,v1];rw[ab];simp only[go_sem,simprocAttr,k3,v2];rw[ab];simp only[go_sem,simprocAttr,k4,v3];rw[ab];simp only[go_sem,simprocAttr,H,xeh,I,up 25,Q,g39]
 ·have g39:=fun M=>xer s (hs.sm (by omega)) M t 53060 (.inr rfl) B j
  unfold HP flO Sv.sv Tk.obT at g39;simp only[aL,aA]at g39;rw[ab];simp only[go_sem,simprocAttr,k2,v1];rw[ab];simp only[go_sem,simprocAttr,k3,v2];rw[ab];simp only[go_sem,simprocAttr,k4,v3];rw[ab];simp only[go_sem,simprocAttr,H,xeh,I,up 25,Q,g39]
theorem f6z(A C:t8)(u:Int):call U 6 [bN A,bN C,iV u] [] 0=okV (.bool true):=f6 xew (xiD (xeX xew)) A C u
end Go.Proofs.YtmhhnklkcmpdkaaGreatDoor
