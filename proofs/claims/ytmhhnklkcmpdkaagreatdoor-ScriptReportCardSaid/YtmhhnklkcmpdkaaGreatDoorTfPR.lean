/- Contracts. No condition. -/
import Derived.Test.YtmhhnklkcmpdkaaGreatDoorTdPR
import Derived.Test.YtmhhnklkcmpdkaaGreatDoorTePR
open Bool renaming false_or -> gz, true_or -> qF
open Int renaming natCast_zero -> ak, reduceEq -> ul, reduceLE -> cE, reduceLT -> cJ, reduceToNat -> ci, tmod_eq_emod_of_nonneg -> fN
open Go.IntKind renaming bits -> ll, i64 -> ah, signed -> iW, u64 -> az, wrap -> ou, wrap_u64 -> dx
open List renaming cons_append -> aL, drop -> gT, drop_take -> Kd, flatMap_cons -> cA, getD_eq_getElem?_getD -> aa, getElem?_eq_getElem -> ac, getElem_mem -> aF, length_append -> af, length_cons -> ai, length_drop -> aQ, length_eq_zero_iff -> cD, length_map -> av, length_nil -> al, length_replicate -> cC, length_set -> bM, length_singleton -> aT, length_take -> aw, map_cons -> ax, map_nil -> aK, mem_append -> am, mem_cons_of_mem -> an, mem_cons_self -> aD, mem_map -> aS, mem_singleton -> bC, nil_append -> aA, replicate -> aB, take -> dq, take_length -> cG, take_of_length_le -> bp
open Nat renaming le_refl -> aM, reduceAdd -> bt, reduceBEq -> aW, reduceDiv -> fM, reduceEqDiff -> aJ, reduceLT -> aX, reduceLeDiff -> bK, reduceMod -> fL, reduceMul -> eU, reducePow -> fK, zero_add -> de, zero_le -> aC
open Option renaming getD_some -> bn
open UInt8 renaming ofInt -> aO
set_option maxRecDepth 100000
set_option maxHeartbeats 16000000
set_option linter.unusedSimpArgs false
set_option linter.unusedVariables false
noncomputable section
namespace Go.Proofs.YtmhhnklkcmpdkaaGreatDoor
open Go.Sy

theorem kw0:ah.wrap 0=0:=by decide
theorem kw1:ah.wrap 1=1:=by decide
theorem kw2:ah.wrap 2=2:=by decide
theorem n1c:((1:Nat):Int)=1:=rfl
theorem n2c:((2:Nat):Int)=2:=rfl
theorem sh3(n:Nat)(h:n<=3):ah.wrap (1*2^min n 64)=((2^n:Nat):Int):=by rcases (by omega:n=0\/n=1\/n=2\/n=3)with rfl|rfl|rfl|rfl<;>decide
theorem xa9:call T 236 [iV 1] [] 0=okV (.bool true):=by rw[ccT 236];simp+decide only[go_sem,simprocAttr,al]
theorem P3:call T 236 [iV 2] [] 0=okV (.bool true):=by rw[ccT 236];simp+decide only[go_sem,simprocAttr,al]
theorem YT(A B:t8)(z:A.length<=1000000)(y:B.length<=1000000):call T 237 [iV 0,.lst 1 [[bN A],[bN B]] .no] [] 0=okV (.lst 1 [[bN (yE 0 0 A B)]] .no):=by have g:=YO 0 0 A B z y;simp only[ak]at g;rw[ccT 237];simp only[go_sem,simprocAttr];rw[ab];simp+decide only[go_sem,simprocAttr,n2c,kw0,kw1,ai,al,g];rw[ab];simp+decide only[go_sem,simprocAttr,n2c,kw2,ai,al]
theorem xbf(A B:t8)(z:A.length<=1000000)(y:B.length<=1000000):call T 173 [.lst 1 [[bN A],[bN B]] .no] [] 0=okV (bN (yE 0 0 A B)):=by have g:=Tj (yE 0 0 A B) (by rw[yE,gk];decide);have g0:=P3;have g1:=YT A B z y;rw[ccT 173];simp+decide only[go_sem,simprocAttr,n2c,ai,al,g0];rw[ab];simp+decide only[go_sem,simprocAttr,n2c,kw1,ai,al,g1];rw[ab];simp+decide only[go_sem,simprocAttr,n1c,ai,al,g]
theorem xbc(A:t8):call T 213 [iV 0,.lst 1 [[bN A]] .no] [] 0=okV (.lst 1 [] .no):=by have g0:=xa9;rw[ccT 213];simp+decide only[go_sem,simprocAttr,n1c,ai,al,g0];rw[ab];simp+decide only[go_sem,simprocAttr,n1c,ai,al]
theorem x10:cy .xor .i64 0 1=1:=by decide
theorem x11:cy .xor .i64 1 1=0:=by decide
theorem xbb(A B:t8)(z:A.length<=1000000)(y:B.length<=1000000):call T 213 [iV 0,.lst 1 [[bN A],[bN B]] .no] [] 0=okV (.lst 1 [[bN B]] .no):=by have g:=Tj B;have g0:=P3;have g1:=YT A B z y;rw[ccT 213];simp+decide only[go_sem,simprocAttr,n2c,ai,al,g0];rw[ab];simp+decide only[go_sem,simprocAttr,n2c,kw0,kw1,ai,al,x10,g,g1];rw[ab];simp+decide only[go_sem,simprocAttr,n1c,ai,al]
theorem xba(A B:t8)(z:A.length<=1000000)(y:B.length<=1000000):call T 213 [iV 1,.lst 1 [[bN A],[bN B]] .no] [] 0=okV (.lst 1 [[bN A]] .no):=by have g:=Tj A;have g0:=P3;have g1:=YT A B z y;rw[ccT 213];simp+decide only[go_sem,simprocAttr,n2c,ai,al,g0];rw[ab];simp+decide only[go_sem,simprocAttr,n2c,kw0,kw1,ai,al,x11,g,g1];rw[ab];simp+decide only[go_sem,simprocAttr,n1c,ai,al]
theorem Tl(y:t8)(h:Nat)(hs:y.length<=64):call T 212 [bN y,iV h] [] 0=okV (bN (lsV y h)):=by have g:=f244 y T9 [ub h] 32 (by decide) (by decide) hs (by decide) (by simp);unfold T9 ub at g;rw[c32]at g;rw[ccT 212];simp only[go_sem,simprocAttr,g,lsV,T9,ub]
theorem xgd(y:t8)(h:Nat):lvs y h (2^0)=[pubL (lsV y h) 0]:=rfl
theorem SC(y:t8)(h:Nat):lvs y h (2^1)=[pubL (lsV y h) 0,pubL (lsV y h) 1]:=rfl
theorem xal(y:t8)(h:Nat):lvs y h 1=[pubL (lsV y h) 0]:=rfl
theorem xak(y:t8)(h:Nat):lvs y h 2=[pubL (lsV y h) 0,pubL (lsV y h) 1]:=rfl
theorem xbe(y:t8)(hs:y.length<=64):call T 174 [bN y,iV 0] [] 0=okV (.lst 1 (bys (lvs y 0 (2^0))) .no):=by have g0:=Tl y 0 hs;have g1:=YS (lsV y 0) 0 (by rw[np];decide);simp only[ak]at g0 g1;rw[ccT 174];simp+decide only[go_sem,simprocAttr,g0];rw[ab];simp+decide only[go_sem,simprocAttr,kw1,g1];rw[ab];simp+decide only[go_sem,simprocAttr,xal,bys,ax,aK]
theorem P4(y:t8)(hs:y.length<=64):call T 174 [bN y,iV 1] [] 0=okV (.lst 1 (bys (lvs y 1 (2^1))) .no):=by have g0:=Tl y 1 hs;have g1:=YS (lsV y 1) 0 (by rw[np];decide);have z:=YS (lsV y 1) 1 (by rw[np];decide);simp only[ak,Int.natCast_one]at g0 g1 z;rw[ccT 174];simp+decide only[go_sem,simprocAttr,g0];rw[ab];simp+decide only[go_sem,simprocAttr,kw1,g1];rw[ab];simp+decide only[go_sem,simprocAttr,kw2,z];rw[ab];simp+decide only[go_sem,simprocAttr,xak,bys,ax,aK]
def yA(h y:Int):Prop:=h<0\/3<h\/y<0\/ah.wrap (1*2^min (az.wrap h).toNat 64)<=y
instance (h leaf:Int):Decidable (yA h leaf):=by unfold yA;infer_instance
def sgn(z:t8)(h y:Int)(C:t8):t8:=if yA h y then []else yg z h.toNat y.toNat C
theorem Xr(y:Int):yA 0 y↔(y<0\/1<=y):=by
 have e:ah.wrap (1*2^min (az.wrap 0).toNat 64)=1:=by decide
 unfold yA;rw[e];omega
theorem Xq(y:Int):yA 1 y↔(y<0\/2<=y):=by
 have e:ah.wrap (1*2^min (az.wrap 1).toNat 64)=2:=by decide
 unfold yA;rw[e];omega
theorem w0:az.wrap 0=0:=by decide
theorem w1:az.wrap 1=1:=by decide
theorem n57(z:t8)(h y:Int)(C:t8)(H:yA h y):call T 143 [bN z,iV h,iV y,bN C] [] 0=okV (bN []):=by
 rw[ccT 143]
 by_cases h1:h<0
 ·simp only[go_sem,simprocAttr,h1]
 by_cases h2:3<h
 ·simp only[go_sem,simprocAttr,h1,h2]
 by_cases h3:y<0
 ·simp only[go_sem,simprocAttr,h1,h2,h3]
 have h4:ah.wrap (1*2^min (az.wrap h).toNat 64)<=y:=by unfold yA at H;omega
 have F:0<=az.wrap h:=by rw[dx];omega
 simp only[go_sem,simprocAttr,h1,h2,h3,h4,F]
theorem xbi(y z:t8)(hs:y.length<=64)(J:z.length<=100000000):call T 143 [bN y,iV 0,iV 0,bN z] [] 0=okV (bN (yg y 0 0 z)):=by
 have g1:=Tl y 0 hs;have F:=YU (lsV y 0) 0 z (by rw[np];decide) (by decide) J;have g3:=xbe y hs;have g4:=xbc (pubL (lsV y 0) 0);have H:=oz (lsV y 0) 0 z;have I:=fp (lsV y 0) 0;have C:=fp (lsV y 0) 1;rw[xgd]at g3;simp only[bys,ax,aK]at g3;simp only[c0,c1]at*;have e:yg y 0 0 z=aO 0::(BL (lsV y 0) 0 z++ []):=rfl;rw[e];generalize BL (lsV y 0) 0 z=S at*;generalize pubL (lsV y 0) 0=A at*;generalize pubL (lsV y 0) 1=B at*;have c2:1+S.length<=140737488355328:=by omega
 have c3:S.length+1<=140737488355328:=by omega
 have c4:1+S.length+16<=140737488355328:=by omega
 have c5:S.length+1+16<=140737488355328:=by omega
 rw[ccT 143];simp+decide only[go_sem,simprocAttr,w0,g1,F,g3,g4,H];rw[ab];simp+decide only[go_sem,simprocAttr]
theorem xbh(y z:t8)(hs:y.length<=64)(J:z.length<=100000000):call T 143 [bN y,iV 1,iV 0,bN z] [] 0=okV (bN (yg y 1 0 z)):=by
 have g1:=Tl y 1 hs;have H:=YU (lsV y 1) 0 z (by rw[np];decide) (by decide) J;have g3:=P4 y hs;have g4:=xbb (pubL (lsV y 1) 0) (pubL (lsV y 1) 1) (by rw[fp];decide) (by rw[fp];decide);have F:=oz (lsV y 1) 0 z;have I:=fp (lsV y 1) 0;have C:=fp (lsV y 1) 1;rw[SC]at g3;simp only[bys,ax,aK]at g3;simp only[c0,c1]at*;have e:yg y 1 0 z=aO 0::(BL (lsV y 1) 0 z++(pubL (lsV y 1) 1)):=rfl;rw[e];generalize BL (lsV y 1) 0 z=S at*;generalize pubL (lsV y 1) 0=A at*;generalize pubL (lsV y 1) 1=B at*;have c2:1+S.length<=140737488355328:=by omega
 have c3:S.length+1<=140737488355328:=by omega
 have c4:1+S.length+16<=140737488355328:=by omega
 have c5:S.length+1+16<=140737488355328:=by omega
 rw[ccT 143];simp+decide only[go_sem,simprocAttr,w1,g1,H,g3,g4,F];rw[ab];simp+decide only[go_sem,simprocAttr,F,C];rw[ab];simp+decide only[go_sem,simprocAttr]
theorem xbg(y z:t8)(hs:y.length<=64)(J:z.length<=100000000):call T 143 [bN y,iV 1,iV 1,bN z] [] 0=okV (bN (yg y 1 1 z)):=by
 have g1:=Tl y 1 hs;have I:=YU (lsV y 1) 1 z (by rw[np];decide) (by decide) J;have g3:=P4 y hs;have g4:=xba (pubL (lsV y 1) 0) (pubL (lsV y 1) 1) (by rw[fp];decide) (by rw[fp];decide);have F:=oz (lsV y 1) 1 z;have C:=fp (lsV y 1) 0;have H:=fp (lsV y 1) 1;rw[SC]at g3;simp only[bys,ax,aK]at g3;simp only[c0,c1]at*;have e:yg y 1 1 z=aO 1::(BL (lsV y 1) 1 z++(pubL (lsV y 1) 0)):=rfl;rw[e];generalize BL (lsV y 1) 1 z=S at*;generalize pubL (lsV y 1) 0=A at*;generalize pubL (lsV y 1) 1=B at*;have c2:1+S.length<=140737488355328:=by omega
 have c3:S.length+1<=140737488355328:=by omega
 have c4:1+S.length+16<=140737488355328:=by omega
 have c5:S.length+1+16<=140737488355328:=by omega
 rw[ccT 143];simp+decide only[go_sem,simprocAttr,w1,g1,I,g3,g4,F];rw[ab];simp+decide only[go_sem,simprocAttr,F,C];rw[ab];simp+decide only[go_sem,simprocAttr]
theorem Zu(y z:t8):sgn y 0 0 z=yg y 0 0 z:=by unfold sgn;rw[if_neg (by decide)];rfl
theorem Vv(y z:t8):sgn y 1 0 z=yg y 1 0 z:=by unfold sgn;rw[if_neg (by decide)];rfl
theorem Vu(y z:t8):sgn y 1 1 z=yg y 1 1 z:=by unfold sgn;rw[if_neg (by decide)];rfl
theorem f143(z:t8)(h y:Int)(C:t8)(hs:z.length<=64)(H:C.length<=100000000)(I:h<0\/3<h\/h=0\/h=1):
 call T 143 [bN z,iV h,iV y,bN C] [] 0=okV (bN (sgn z h y C)):=by
 by_cases F:yA h y
 ·have:sgn z h y C=[]:=if_pos F
  rw[this];exact n57 z h y C F
 ·have h1:h=0\/h=1:=by unfold yA at F;omega
  rcases h1 with rfl|rfl
  ·have h2:y=0:=by have:=(not_congr (Xr y)).1 F;omega
   subst h2;rw[Zu];exact xbi z C hs H
  ·have h2:y=0\/y=1:=by have:=(not_congr (Xq y)).1 F;omega
   rcases h2 with rfl|rfl
   ·rw[Vv];exact xbh z C hs H
   ·rw[Vu];exact xbg z C hs H
theorem xgq(g:t8)(z:Nat)(D:LAb)(hg:g.length=560)(hD:D.length=35)(hd:∀c,c<35->D.getD c 0<=15):∀(n c:Nat)(C:t8),35-c=n->c<=35->C.length=16*c->∃X:t8,X.length=560/\
 run T (.loop ze) ⟨[(0,iV z),(2,bN g),(8,.lst 1 (dgs D) .no),(9,.byt C (.id 109)),(10,iV c)],[],[109]⟩=
 some (.x 0,⟨[(0,iV z),(9,.byt X (.id 109))],[],[109]⟩):=by
 intro n;induction n with
 |zero=>
  intro c C h0 h1 ha;have hi:c=35:=by omega
  subst hi;refine⟨C,ha, ?_⟩;rw[ab];simp only[c35,go_sem,simprocAttr]
 |succ n ih=>
  intro c C h0 h1 ha;have hc:c<35:=by omega
  have H:(c:Int)<35:=by omega
  have e1:=bJ c;have J:=tt D;have I:=Ie D c;have m1:ah.wrap (16*(c:Int))=((16*c:Nat):Int):=by rw[w64];omega
  have m2:ah.wrap (((16*c:Nat):Int)+16)=((16*c+16:Nat):Int):=by rw[w64];omega
  have K:((16*c:Nat):Int)<=((16*c+16:Nat):Int):=by omega
  have F:((16*c+16:Nat):Int)<=560:=by omega
  have h4:(g.take (16*c+16)).drop (16*c)=(g.drop (16*c)).take 16:=by rw[Kd];congr 1;omega
  have Q:=ky z c (15-D.getD c 0) (D.getD c 0) ((g.drop (16*c)).take 16) (by rw[aw,aQ];omega);have g1:=YP z c (D.getD c 0) (15-D.getD c 0) 15 ((g.drop (16*c)).take 16) (by have:=hd c hc;omega) (by omega) (by rw[aw,aQ];omega);rw[c15]at g1;generalize rf z c (D.getD c 0) (15-D.getD c 0) ((g.drop (16*c)).take 16)=y at*;obtain⟨X,hX,Z⟩:=ih (c+1) (C++y) (by omega) (by omega) (by rw[af,Q];omega);have c1:C.length+y.length<=140737488355328:=by omega
  refine⟨X,hX, ?_⟩;rw[ab];simp only[go_sem,simprocAttr,H,J,hD,I,e1,m1,m2,hg,K,F,h4,g1,c1,Z]
theorem f322(y:Nat)(z g:t8)(Q:y<=255)(H:g.length=560)(I:z.length<=100000000):∃X:t8,X.length=16/\call T 322 [iV y,bN z,bN g] [] 0=okV (.tup [bN X,.bool true]):=by
 obtain⟨X,K,F⟩:=xgq g y (uO z) H (ud z) (Bc z) 35 0 [] rfl (by omega) rfl;have J:=xeJ z I;have g4:=xeH y X (by rw[K];decide);generalize uO z=D at*;refine⟨Ke y X,by rw[Ke,gk], ?_⟩;generalize Ke y X=Y at*;simp only[ak]at F;have h1:¬(y:Int)<0:=by omega
 have h2:¬(255:Int)<y:=by omega
 have C:((560:Nat):Int)=560:=rfl;rw[ccT 322];simp only[go_sem,simprocAttr,h1,h2,H,C,J,F,g4]
theorem xgp(P:List t8)(hP:P.length<=3)(hb:∀s∈P,s.length<=1000000):∀(n h i:Nat)(x:t8),P.length-h=n->h<=P.length->i<1000->x.length<=1000000->∃X:t8,X.length<=1000000/\
 run T (.loop rP) ⟨[(1,iV i),(2,.lst 1 (bys P) .no),(7,bN x),(8,iV h)],[],[]⟩=
 some (.x 0,⟨[(7,bN X)],[],[]⟩):=by
 intro n;induction n with
 |zero=>
  intro h i x h0 h1 h2 C;have hi:h=P.length:=by omega
  have z:=eD P;subst hi;refine⟨x,C, ?_⟩;rw[ab];simp only[go_sem,simprocAttr,z]
 |succ n Q=>
  intro h i x h0 h1 h2 C;have H:h<P.length:=by omega
  have I:(h:Int)<(P.length:Int):=by omega
  have K:=bJ h;have J:=jr P h H;have z:=eD P
  have hs:(P.getD h []).length<=1000000:=by rw[aa,ac H,bn];exact hb _ (aF H)
  generalize hc:P.getD h []=s at*;have e2:(i:Int).tdiv 2=((i/2:Nat):Int):=by rw[Int.tdiv_eq_ediv_of_nonneg (by omega)];omega
  have y:(i:Int).tmod 2=((i % 2:Nat):Int):=by rw[fN (by omega)];omega
  have Z:ah.wrap ((i/2:Nat):Int)=((i/2:Nat):Int):=w64;rw[ab];rcases (by omega:i % 2=1\/i % 2=0)with F|F
  ·have g:=YO h (i/2) s x hs C
   rw[F]at y;simp only[Int.natCast_one]at y;have z2:¬(1:Int)=0:=by decide
   simp only[go_sem,simprocAttr,I,K,J,z,e2,y,Z,g,z2];exact Q (h+1) (i/2) _ (by omega) (by omega) (by omega) (by rw[yE,gk];omega)
  ·have g:=YO h (i/2) x s C hs
   rw[F]at y;simp only[ak]at y;simp only[go_sem,simprocAttr,I,K,J,z,e2,y,Z,g];exact Q (h+1) (i/2) _ (by omega) (by omega) (by omega) (by rw[yE,gk];omega)
theorem xhM(x:t8)(i:Nat)(P:List t8)(z:P.length<=3)(F:∀s∈P,s.length<=1000000)(hi:i<2^P.length)(I:x.length<=1000000:=by omega):
 ∃X:t8,X.length<=1000000/\call T 323 [bN x,iV i,.lst 1 (bys P) .no] [] 0=okV (bN X):=by
 have C:=eD P;have Q:(2:Nat)^P.length<=2^3:=Nat.pow_le_pow_right (by decide) z;obtain⟨X,H,g⟩:=xgp P z F _ 0 i x rfl (aC _) (by omega) I;have h1:¬(3:Int)<P.length:=by omega
 have h2:¬(i:Int)<0:=by omega
 have J:az.wrap (P.length:Int)=P.length:=by rw[dx];omega
 have K:=sh3 P.length z;have y:¬((2^P.length:Nat):Int)<=(i:Int):=by omega
 have gc:=Tj x;simp only[ak]at g;refine⟨X,H, ?_⟩;rw[ccT 323];simp only[go_sem,simprocAttr,C,h1,h2,J,K,y,gc,g]
theorem Mm(P:List t8)(s:t8):bys (P++ [s])=bys P++ [[bN s]]:=by simp[bys]
theorem xgu(pub sig x:t8)(y:Int)(h:Nat)(hh:h<=3)(hs:sig.length=561+16*h):∀(n i:Nat)(P:List t8),i+n=h->P.length=i->(∀s∈P,s.length<=1000000)->∃R:List t8,R.length=h/\(∀s∈R,s.length<=1000000)/\
 run T (.loop rR) ⟨[(0,bN pub),(2,bN sig),(8,iV h),(9,iV y),(10,iV ((561+16*i:Nat):Int)),(11,bN x),(13,.lst 1 (bys P) (.id 113)),(14,iV i)],[],[113]⟩=
 some (.x 0,⟨[(0,bN pub),(9,iV y),(11,bN x),(13,.lst 1 (bys R) (.id 113))],[],[113]⟩):=by
 intro n;induction n with
 |zero=>
  intro i P h0 h1 F;have hi:i=h:=by omega
  subst hi;refine⟨P,h1,F, ?_⟩;clear h1;rw[ab];simp only[go_sem,simprocAttr]
 |succ n ih=>
  intro i P h0 h1 F;have hi:i<h:=by omega
  have J:(i:Int)<(h:Int):=by omega
  have Z:=bJ i;have m1:ah.wrap (((561+16*i:Nat):Int)+16)=((561+16*i+16:Nat):Int):=by rw[w64];omega
  have H:((561+16*i:Nat):Int)<=((561+16*i+16:Nat):Int):=by omega
  have C:((561+16*i+16:Nat):Int)<=((561+16*h:Nat):Int):=by omega
  have a3:(sig.take (561+16*i+16)).drop (561+16*i)=(sig.drop (561+16*i)).take 16:=by rw[Kd];congr 1;omega
  have a5:561+16*(i+1)=561+16*i+16:=by omega
  obtain⟨R,K,I,z⟩:=ih (i+1) (P++ [(sig.drop (561+16*i)).take 16]) (by omega) (by rw[af,aT];omega) (fun s hs=>by
   rcases am.1 hs with h|h
   ·exact F s h
   ·rw[bC.1 h,aw];omega)
  rw[a5,Mm]at z;have Q:=eD P;have c1:(P.length+1)*24<=140737488355328:=by omega
  refine⟨R,K,I, ?_⟩;clear K h1;rw[ab];generalize 561+16*i=q at*;simp only[go_sem,simprocAttr,J,Z,m1,H,C,a3,hs,Q,c1,z]
theorem xfG(n:Nat)(h:n<=3):ah.wrap (1*2^min (az.wrap (n:Int)).toNat 64)=((2^n:Nat):Int):=by rcases (by omega:n=0\/n=1\/n=2\/n=3)with rfl|rfl|rfl|rfl<;>decide
theorem xeG(pub I sig:t8)(hm:I.length<=100000000:=by omega):∃(i:Int)(b:Bool),call T 294 [bN pub,bN I,bN sig] [] 0=okV (.tup [iV i,.bool b]):=by
 by_cases h1:pub.length=17
 ·by_cases h2:(pub.getD 0 0).toNat<=3
  ·have g1:¬(3:Int)<((pub.getD 0 0).toNat:Int):=by omega
   have m1:ah.wrap (16*((pub.getD 0 0).toNat:Int))=((16*(pub.getD 0 0).toNat:Nat):Int):=by rw[w64];omega
   have J:ah.wrap (561+((16*(pub.getD 0 0).toNat:Nat):Int))=((561+16*(pub.getD 0 0).toNat:Nat):Int):=by rw[w64];omega
   by_cases h3:sig.length=561+16*(pub.getD 0 0).toNat
   ·have F:(0:Int)<((561+16*(pub.getD 0 0).toNat:Nat):Int):=by omega
    have K:=xfG _ h2;have H:0<=az.wrap ((pub.getD 0 0).toNat:Int):=by rw[dx];omega
    by_cases h5:(sig.getD 0 0).toNat<2^(pub.getD 0 0).toNat
    ·have C:¬2^(pub.getD 0 0).toNat<=(sig.getD 0 0).toNat:=by omega
     have t4:pub.take 17=pub:=bp (by omega);obtain⟨X,hX,g2⟩:=f322 (sig.getD 0 0).toNat I ((sig.drop 1).take 560) (by have:=(sig.getD 0 0).toNat_lt;omega) (by rw[aw,aQ];omega) hm;obtain⟨R,hR,a1,g3⟩:=xgu pub sig X (sig.getD 0 0).toNat (pub.getD 0 0).toNat h2 h3 (pub.getD 0 0).toNat 0 [] (de _) rfl (fun s h=>by cases h);obtain⟨Y,a7,g4⟩:=xhM X (sig.getD 0 0).toNat R (by rw[hR];exact h2) a1 (by rw[hR];exact h5);have t1:(sig.take 561).drop 1=(sig.drop 1).take 560:=by rw[Kd]
     have a5:(561:Int)<=((561+16*(pub.getD 0 0).toNat:Nat):Int):=by omega
     have gy:=f95 Y (pub.drop 1);have b0:bys []=[]:=rfl;have b1:561+16*0=561:=rfl;have b2:((561:Nat):Int)=561:=rfl;simp only[b0,b1,b2,ak]at g3;clear hR hX;generalize y:pub.getD 0 0=Q at*;generalize z:sig.getD 0 0=sb at*;rw[ccT 294]
     by_cases hY:Y=pub.drop 1
     ·rw[hY]at gy
      exact⟨_,_,by simp only[go_sem,simprocAttr,h1,y,z,g1,h3,F,t4,K,m1,J,C,H,t1,g2,a5,g3,g4,gy,hY];rfl⟩
     ·exact⟨_,_,by simp only[go_sem,simprocAttr,h1,y,z,g1,h3,F,t4,K,m1,J,C,H,t1,g2,a5,g3,g4,gy,hY];rfl⟩
    ·have C:2^(pub.getD 0 0).toNat<=(sig.getD 0 0).toNat:=by omega
     generalize y:pub.getD 0 0=Q at*;generalize z:sig.getD 0 0=sb at*;rw[ccT 294];exact⟨_,_,by simp only[go_sem,simprocAttr,h1,y,z,g1,h3,F,K,m1,J,C,H];rfl⟩
   ·have Z:¬(sig.length:Int)=((561+16*(pub.getD 0 0).toNat:Nat):Int):=by omega
    generalize y:pub.getD 0 0=Q at*;rw[ccT 294];exact⟨_,_,by simp only[go_sem,simprocAttr,h1,y,g1,Z,m1,J];rfl⟩
  ·have g1:(3:Int)<((pub.getD 0 0).toNat:Int):=by omega
   generalize y:pub.getD 0 0=Q at*;rw[ccT 294];exact⟨_,_,by simp only[go_sem,simprocAttr,h1,y,g1];rfl⟩
 ·have a6:¬(pub.length:Int)=17:=by omega
  rw[ccT 294];exact⟨_,_,by simp only[go_sem,simprocAttr,a6];rfl⟩
structure Mk where
 auth:Int
 sig:List UInt8
def Mk.sv(m:Mk):LAa:=[iV m.auth,bN m.sig]
def mk0:Mk:=⟨0,[]⟩
def jy(l:List Mk):f9:=l.map Mk.sv
theorem js(l:List Mk):(jy l).length=l.length:=av ..
theorem Lz(l:List Mk)(i:Nat)(h:i<l.length):(jy l).getD i []=(l.getD i mk0).sv:=by simp[jy,aa,h]
def eK(B:t8)(ms:List Mk):LAa:=[bN B,.lst 2 (jy ms) .no]
structure Wd where
 man:List UInt8
 frm:Int
 deriving DecidableEq
def Wd.sv(w:Wd):LAa:=[bN w.man,iV w.frm]
def Mu(w:Wd):Prop:=w.man.length=32/\0<=w.frm/\w.frm<=1099511627776
instance (w:Wd):Decidable (Mu w):=by unfold Mu;infer_instance
def Cr(w:Wd):t8:=if Mu w then 22::(w.man++be 6 (az.wrap w.frm))else []
theorem f30(w:Wd):call T 30 [.agg w.sv] [] 0=okV (bN (Cr w)):=by
 obtain⟨m,f⟩:=w;unfold Cr Mu Wd.sv;rw[ccT 30]
 by_cases h1:m.length=32
 ·have y:(m.length:Int)=32:=by omega
  by_cases h2:f<0
  ·have h3:¬(m.length=32/\0<=f/\f<=1099511627776):=by omega
   simp only[go_sem,simprocAttr,y,h2,h3]
  ·by_cases h4:1099511627776<f
   ·have h3:¬(m.length=32/\0<=f/\f<=1099511627776):=by omega
    simp only[go_sem,simprocAttr,y,h2,h4,h3]
   ·have h3:m.length=32/\0<=f/\f<=1099511627776:=by omega
    have z:=f74 (22::m) 6 f (by decide) (by decide) (by rw[ai,h1];decide);rw[c6]at z;simp only[go_sem,simprocAttr,h1,h2,h4,h3,z,aL,aA]
    trace_state
 ·have y:¬(m.length:Int)=32:=by omega
  have h3:¬(m.length=32/\0<=f/\f<=1099511627776):=by omega
  simp only[go_sem,simprocAttr,y,h3]
def mW(i:Nat):t8:=sha [107,ub i]
theorem oC(i:Nat):(mW i).length=32:=fC _
theorem f73(i:Nat):call T 73 [iV i] [] 0=okV (bN (mW i)):=by have g:=yH [107,ub i] (by simp);unfold ub at g;rw[ccT 73];simp only[go_sem,simprocAttr,g,mW,ub]
theorem I4(ms:List Mk)(m:Mk):jy (ms++ [m])=jy ms++ [m.sv]:=by simp[jy]
theorem f72(B:t8)(ms:List Mk)(a:Int)(y:t8)(h z:Int)(I:ms.length<=1000)(hs:y.length<=64)(H:B.length<=100000000)(F:h<0\/3<h\/h=0\/h=1):
 call T 72 [.agg (eK B ms),iV a,bN y,iV h,iV z] [] 0=okV (.agg (eK B (ms++ [⟨a,sgn y h z B⟩]))):=by
 have g1:=f143 y h z B hs H F;have C:=js ms;have c1:(ms.length+1)*32<=140737488355328:=by omega
 have c2:ms.length*32<=140737488355328:=by omega
 unfold eK;rw[I4];simp only[Mk.sv];rw[ccT 72];simp only[go_sem,simprocAttr,g1,C,c1,c2]
theorem R8(i:Nat)(l:List t8)(h:∀x∈l,x.length=16):(Yd i l).length<=16:=by
 unfold Yd;split
 ·rename_i a b
  split
  ·have:=h b (by simp);omega
  ·have:=h a (by simp);omega
 ·exact aC _
theorem QS(y C:t8)(h z:Int):(sgn y h z C).length<=1000:=by
 unfold sgn;split
 ·exact aC _
 ·have h1:=oz (lsV y h.toNat) z.toNat C
  have h2:=R8 z.toNat (lvs y h.toNat (2^h.toNat)) (fun x F=>by obtain⟨i,_,rfl⟩:=aS.1 F;exact fp _ _)
  rw[yg,ai,af,h1];omega
def bI(w:Int)(i:Nat):Int:=cy .and .i64 (w.fdiv (2^min i 64)) 1
def mkS(i:Nat)(B:t8):Mk:=⟨3+2*(i:Int),sgn (mW (3+2*i)) 1 (if i=1 then 1 else 0) B⟩
def lj(w:Int)(B:t8)(i:Nat)(ms:List Mk):List Mk:=if bI w i=1 then ms++ [mkS i B]else ms
def Az(w:Int)(B:t8):List Mk:=lj w B 2 (lj w B 1 (lj w B 0 []))
theorem mD(w:Int)(B:t8)(i:Nat)(ms:List Mk):(lj w B i ms).length<=ms.length+1:=by
 unfold lj;split
 ·rw[af];exact aM _
 ·omega
theorem tI(w:Int)(B:t8):(Az w B).length<=3:=by have h0:=mD w B 0 [];have h1:=mD w B 1 (lj w B 0 []);have h2:=mD w B 2 (lj w B 1 (lj w B 0 []));unfold Az;rw[al]at h0;omega
def qx:aG:= .rc [.byt [] .clip,.lst 2 [] .clip]
theorem Zy(w:Int)(B:t8)(hB:B.length<=100000000)(ms:List Mk)(hm:ms.length<=10)(I:Tok)(F:I= .no\/I= .clip/\ms=[]):∃C,(C= .no\/C= .clip/\lj w B 0 ms=[])/\
 run T (.loop nJ) ⟨[(1,iV w),(4,.ptr 104 0),(5,.ptr 105 0),(6,iV 0)],[(104,qx),(105,.rc [bN B,.lst 2 (jy ms) I])],[]⟩=
  run T (.loop nJ) ⟨[(1,iV w),(4,.ptr 104 0),(5,.ptr 105 0),(6,iV 1)],[(104,qx),(105,.rc [bN B,.lst 2 (jy (lj w B 0 ms)) C])],[]⟩:=by
 have u:az.wrap 0=0:=by decide
 have k1:ah.wrap (0+1)=1:=by decide
 have y:ah.wrap 1=1:=by decide
 have k2:ah.wrap (2*0)=0:=by decide
 have H:ah.wrap 0=0:=by decide
 have Q:ah.wrap 3=3:=by decide
 have kl:cy .and .i64 0 1=0:=by decide
 have g1:=f73 3;have J:=f72 B ms 3 (mW 3) 1 0 (by omega) (by rw[oC];decide) hB (.inr (.inr (.inr rfl)));have hv:=js ms;rw[show((3:Nat):Int)=3 from rfl]at g1;have em:mkS 0 B=⟨3,sgn (mW 3) 1 0 B⟩:=rfl
 by_cases z:bI w 0=1
 ·refine⟨.no,.inl rfl, ?_⟩
  have K:lj w B 0 ms=ms++ [mkS 0 B]:=if_pos z;rw[K,em];unfold eK at J;generalize jy (ms++ [⟨3,sgn (mW 3) 1 0 B⟩])=Z at*;generalize mW 3=S at*;unfold bI at z;unfold qx
  conv=>lhs;rw[ab]
  rcases F with rfl|⟨rfl,rfl⟩
  ·simp only[go_sem,simprocAttr,u,z,y,H,Q,kl,g1,J]
  ·have h0:jy []=[]:=rfl
   simp only[h0]at J ⊢;simp only[go_sem,simprocAttr,u,z,y,H,Q,kl,g1,J]
 ·have K:lj w B 0 ms=ms:=if_neg z
  rw[K];refine⟨I,F, ?_⟩;unfold bI at z;unfold qx
  conv=>lhs;rw[ab]
  rcases F with rfl|⟨rfl,rfl⟩
  ·simp only[go_sem,simprocAttr,u,z,y]
  ·simp only[go_sem,simprocAttr,u,z,y]
theorem Zx(w:Int)(B:t8)(hB:B.length<=100000000)(ms:List Mk)(hm:ms.length<=10)(H:Tok)(F:H= .no\/H= .clip/\ms=[]):∃C,(C= .no\/C= .clip/\lj w B 1 ms=[])/\
 run T (.loop nJ) ⟨[(1,iV w),(4,.ptr 104 0),(5,.ptr 105 0),(6,iV 1)],[(104,qx),(105,.rc [bN B,.lst 2 (jy ms) H])],[]⟩=
  run T (.loop nJ) ⟨[(1,iV w),(4,.ptr 104 0),(5,.ptr 105 0),(6,iV 2)],[(104,qx),(105,.rc [bN B,.lst 2 (jy (lj w B 1 ms)) C])],[]⟩:=by
 have u:az.wrap 1=1:=by decide
 have k1:ah.wrap (1+1)=2:=by decide
 have y:ah.wrap 2=2:=by decide
 have k2:ah.wrap (2*1)=2:=by decide
 have a1:ah.wrap 2=2:=by decide
 have K:ah.wrap 5=5:=by decide
 have Q:cy .and .i64 1 1=1:=by decide
 have g1:=f73 5;have I:=f72 B ms 5 (mW 5) 1 1 (by omega) (by rw[oC];decide) hB (.inr (.inr (.inr rfl)));have hv:=js ms;rw[show((5:Nat):Int)=5 from rfl]at g1;have em:mkS 1 B=⟨5,sgn (mW 5) 1 1 B⟩:=rfl
 by_cases z:bI w 1=1
 ·refine⟨.no,.inl rfl, ?_⟩
  have J:lj w B 1 ms=ms++ [mkS 1 B]:=if_pos z;rw[J,em];unfold eK at I;generalize jy (ms++ [⟨5,sgn (mW 5) 1 1 B⟩])=Z at*;generalize mW 5=S at*;unfold bI at z;unfold qx
  conv=>lhs;rw[ab]
  rcases F with rfl|⟨rfl,rfl⟩
  ·simp only[go_sem,simprocAttr,u,z,y,K,Q,g1,I]
  ·have h0:jy []=[]:=rfl
   simp only[h0]at I ⊢;simp only[go_sem,simprocAttr,u,z,y,K,Q,g1,I]
 ·have J:lj w B 1 ms=ms:=if_neg z
  rw[J];refine⟨H,F, ?_⟩;unfold bI at z;unfold qx
  conv=>lhs;rw[ab]
  rcases F with rfl|⟨rfl,rfl⟩
  ·simp only[go_sem,simprocAttr,u,z,y]
  ·simp only[go_sem,simprocAttr,u,z,y]
theorem Zw(w:Int)(B:t8)(hB:B.length<=100000000)(ms:List Mk)(hm:ms.length<=10)(I:Tok)(F:I= .no\/I= .clip/\ms=[]):∃C,(C= .no\/C= .clip/\lj w B 2 ms=[])/\
 run T (.loop nJ) ⟨[(1,iV w),(4,.ptr 104 0),(5,.ptr 105 0),(6,iV 2)],[(104,qx),(105,.rc [bN B,.lst 2 (jy ms) I])],[]⟩=
  run T (.loop nJ) ⟨[(1,iV w),(4,.ptr 104 0),(5,.ptr 105 0),(6,iV 3)],[(104,qx),(105,.rc [bN B,.lst 2 (jy (lj w B 2 ms)) C])],[]⟩:=by
 have u:az.wrap 2=2:=by decide
 have k1:ah.wrap (2+1)=3:=by decide
 have y:ah.wrap 3=3:=by decide
 have k2:ah.wrap (2*2)=4:=by decide
 have H:ah.wrap 4=4:=by decide
 have Q:ah.wrap 7=7:=by decide
 have kl:cy .and .i64 2 1=0:=by decide
 have g1:=f73 7;have J:=f72 B ms 7 (mW 7) 1 0 (by omega) (by rw[oC];decide) hB (.inr (.inr (.inr rfl)));have hv:=js ms;rw[show((7:Nat):Int)=7 from rfl]at g1;have em:mkS 2 B=⟨7,sgn (mW 7) 1 0 B⟩:=rfl
 by_cases z:bI w 2=1
 ·refine⟨.no,.inl rfl, ?_⟩
  have K:lj w B 2 ms=ms++ [mkS 2 B]:=if_pos z;rw[K,em];unfold eK at J;generalize jy (ms++ [⟨7,sgn (mW 7) 1 0 B⟩])=Z at*;generalize mW 7=S at*;unfold bI at z;unfold qx
  conv=>lhs;rw[ab]
  rcases F with rfl|⟨rfl,rfl⟩
  ·simp only[go_sem,simprocAttr,u,z,y,H,Q,kl,g1,J]
  ·have h0:jy []=[]:=rfl
   simp only[h0]at J ⊢;simp only[go_sem,simprocAttr,u,z,y,H,Q,kl,g1,J]
 ·have K:lj w B 2 ms=ms:=if_neg z
  rw[K];refine⟨I,F, ?_⟩;unfold bI at z;unfold qx
  conv=>lhs;rw[ab]
  rcases F with rfl|⟨rfl,rfl⟩
  ·simp only[go_sem,simprocAttr,u,z,y]
  ·simp only[go_sem,simprocAttr,u,z,y]
theorem f29(B:t8)(y:B.length<=100000000)(w:Int):call T 29 [bN B,iV w] [] 0=okV (.agg (eK B (Az w B))):=by
 have C:=mD w B 0 [];have l1:=mD w B 1 (lj w B 0 []);rw[al]at C;obtain⟨t0,F,z⟩:=Zy w B y [] (by simp) .clip (.inr ⟨rfl,rfl⟩);obtain⟨I,K,H⟩:=Zx w B y _ (by omega) t0 F;obtain⟨t2,Z,Q⟩:=Zw w B y _ (by omega) I K;have e:=z.trans (H.trans Q);have h0:jy []=[]:=rfl;rw[h0]at e;change _=run T (.loop nJ) ⟨_,[_,(105,.rc [bN B,.lst 2 (jy (Az w B)) t2])],_⟩at e
 have J:run T (.loop nJ) ⟨[(1,iV w),(4,.ptr 104 0),(5,.ptr 105 0),(6,iV 3)],[(104,qx),(105,.rc [bN B,.lst 2 (jy (Az w B)) t2])],[]⟩=some (.x 0,⟨[(4,.ptr 104 0),(5,.ptr 105 0)],[(104,qx),(105,.rc [bN B,.lst 2 (jy (Az w B)) t2])],[]⟩):=by rw[ab];unfold qx;rcases Z with rfl|⟨rfl,_⟩<;>simp only[go_sem,simprocAttr]
 rw[J]at e;unfold qx at e;unfold eK;rw[ccT 29];simp only[go_sem,simprocAttr,e]
def oB(B:t8):t8:=B.take 32++gT (B.take 32).length (aB 32 0)
theorem pO(B:t8):(oB B).length=32:=by unfold oB;rw[af,aQ,cC,aw];omega
theorem f31(B:t8):call T 31 [bN B] [] 0=okV (bN (oB B)):=by have y:=pO B;have z:(oB B).take 32=oB B:=bp (by omega);unfold oB at*;rw[ccT 31];simp only[go_sem,ci,cE,bt,aX,bK,aJ,aW,reduceCtorEq,reduceIte,y,z]
theorem f20(B:t8)(j:Nat):call T 20 [.ptr 0 0] [bE B j] 0=some ⟨.bool (decide (j<B.length)),[(0,bE B j)],[]⟩:=by
 rw[ccT 20];simp only[bE]
 by_cases h:j<B.length
 ·simp only[go_sem,simprocAttr,h]
 ·simp only[go_sem,simprocAttr,h]
def AH(m r:Int):LAa:=[iV 5,iV m,iV r,bN [],iV 0,bN [],bN [],bN [],.lst 8 [] .no]
theorem Kj(m r:Int):call T 117 [iV m,iV r] [] 0=okV (.agg (AH m r)):=by rw[ccT 117];simp only[go_sem,simprocAttr];rfl
def mZ(i:Nat):t8:=sha [113,ub i]
theorem xe1(i:Nat):call T 181 [iV i] [] 0=okV (bN (mZ i)):=by have g:=yH [113,ub i] (by simp);unfold ub at g;rw[ccT 181];simp only[go_sem,simprocAttr,g,mZ,ub]
theorem UC(a:Int):call T 329 [iV a] [] 0=okV (iV (if a=0 then 20 else if a=1 then 32 else 0)):=by
 rw[ccT 329]
 by_cases h0:a=0
 ·simp only[go_sem,simprocAttr,h0]
 ·by_cases h1:a=1
  ·simp only[go_sem,simprocAttr,h1]
  ·simp only[go_sem,simprocAttr,h0,h1]
theorem YR(a:Int):call T 242 [iV a] [] 0=okV (iV (if a=2 then 17 else 32)):=by
 rw[ccT 242]
 by_cases h0:a=2
 ·simp only[go_sem,simprocAttr,h0]
 ·simp only[go_sem,simprocAttr,h0]
theorem xhS:call T 300 [] [] 0=okV (bN (aB 32 0)):=by
 rw[ccT 300];simp only[go_sem,simprocAttr]
 skip
theorem xeL:call T 264 [] [] 0=okV (.byt [83,87,81,49] .no):=by rw[ccT 264];simp only[go_sem,simprocAttr]
theorem xeV:call T 201 [] [] 0=okV (.byt [0,0,0,0] .no):=by rw[ccT 201];simp only[go_sem,simprocAttr]
theorem xeT(a:Int)(i:Int)(hi:0<=i)(h2:i<=1000):∃b,call T 204 [iV a,iV i] [] 0=okV (.bool b):=by
 have y:az.wrap i=i:=by rw[ou];simp[iW,ll];omega
 rw[ccT 204];refine⟨decide (cy .and .i64 (a.fdiv (2^min i.toNat 64)) 1=1), ?_⟩;simp only[go_sem,simprocAttr,y,hi]
theorem xfh(y:t8)(hs:y.length<=64):call T 105 [bN y,iV 1] [] 0=okV (bN (AJ y 1)):=by
 have g:=P4 y hs;rw[SC]at g;have z:=xbf (pubL (lsV y 1) 0) (pubL (lsV y 1) 1) (by rw[fp];decide) (by rw[fp];decide);have F:(yE 0 0 (pubL (lsV y 1) 0) (pubL (lsV y 1) 1)).length=16:=gk _ _;have C:1+(yE 0 0 (pubL (lsV y 1) 0) (pubL (lsV y 1) 1)).length<=140737488355328:=by rw[F];decide
 unfold bys at g;simp only[ax,aK]at g;rw[ccT 105];simp only[go_sem,simprocAttr,g,z,C];rfl
structure Ar where
 k:Int
 at':Int
 h:Int
 po:List UInt8
 un:List UInt8
def Ar.sv(a:Ar):LAa:=[iV a.k,iV a.at',iV a.h,bN a.po,bN a.un]
def qtg(i:Nat):Ar:=⟨2,7,1,[],AJ (mZ i) 1⟩
theorem Y1(i:Nat):call T 115 [iV i] [] 0=okV (.agg (qtg i).sv):=by have g1:=xe1 i;have y:=xfh (mZ i) (by unfold mZ;rw[fC];decide);rw[ccT 115];simp only[go_sem,simprocAttr,g1,y];rfl
def tn(a:Ar):t8:=fd (fd [aO a.k,aO a.at',aO a.h] a.po) a.un
theorem fv(B X:t8):(fd B X).length<=B.length+2+X.length:=by unfold fd;simp[be];omega
theorem xeR(a:Ar)(h1:a.po.length<=1000000:=by omega)(h2:a.un.length<=1000000:=by omega):call T 248 [.agg a.sv] [] 0=okV (bN (tn a)):=by have g1:=og [aO a.k,aO a.at',aO a.h] a.po (by simp);have y:=og (fd [aO a.k,aO a.at',aO a.h] a.po) a.un (by have:=fv [aO a.k,aO a.at',aO a.h] a.po;simp only[ai,al]at this;omega);rw[ccT 248];unfold Ar.sv tn;simp only[go_sem,simprocAttr,g1,y]
theorem A9(a:Ar):(tn a).length<=7+a.po.length+a.un.length:=by have h1:=fv [aO a.k,aO a.at',aO a.h] a.po;have h2:=fv (fd [aO a.k,aO a.at',aO a.h] a.po) a.un;simp only[ai,al]at h1;unfold tn;omega
theorem YV(a:Ar)(h1:a.po.length<=1000000:=by omega)(h2:a.un.length<=1000000:=by omega):call T 199 [.agg a.sv] [] 0=okV (bN (lJ 6 (tn a))):=by have g1:=xeR a h1 h2;have y:=YZ 6 (tn a) (by have:=A9 a;omega);rw[ccT 199];unfold Ar.sv at*;simp only[go_sem,simprocAttr,g1,y]
instance (w:Wd):Decidable (Mu w):=by unfold Mu;infer_instance
def wT(B:t8):Int×Rs:=uR B 1 ⟨0,0⟩
def wM(B:t8):t8×Rs:=wR B 32 (wT B).2
def wF(B:t8):Int×Rs:=uR B 6 (wM B).2
def wdP(B:t8):Prop:=eR B (wF B).2=0/\(wT B).1=22/\(wF B).1<=1099511627776
instance (B:List UInt8):Decidable (wdP B):=by unfold wdP;infer_instance
def Kk(B:t8):Option Wd:=if wdP B then some ⟨(wM B).1,(wF B).1⟩else none
def wdO:Option Wd->SV
 |some w=> .tup [.agg w.sv,iV 0]
 |none=> .tup [.agg [bN [],iV 0],iV 30]
theorem xff(B:t8)(C:B.length<=1000000000:=by omega):call T 109 [bN B] [] 0=okV (wdO (Kk B)):=by
 have I:jP B ⟨0,0⟩:=⟨aC _⟩;have Q:jP B (wT B).2:=jA I;have K:jP B (wM B).2:=T2 Q;have Z:jP B (wF B).2:=jA K;have g0:=UI B;have g1:=qw B C 1 (by decide) (by decide) ⟨0,0⟩ I;have y:=xe3 B C 32 (by decide) (wT B).2 Q;have g3:=qw B C 6 (by decide) (by decide) (wM B).2 K;have g4:=f165 B C (wF B).2 Z;change call T 162 _ _ _=some ⟨iV (wT B).1,[(0,rqO B (wT B).2)],[]⟩at g1;change call T 176 _ _ _=some ⟨.byt (wM B).1 .no,[(0,rqO B (wM B).2)],[]⟩at y;change call T 162 _ _ _=some ⟨iV (wF B).1,[(0,rqO B (wF B).2)],[]⟩at g3;rw[c1]at g1;rw[c32]at y;rw[c6]at g3
 by_cases z:wdP B
 ·rw[show Kk B=some ⟨(wM B).1,(wF B).1⟩from if_pos z]
  obtain⟨h1,h2,h4⟩:=z;have h3:¬1099511627776<(wF B).1:=by omega
  generalize wT B=t at*;generalize wM B=m at*;generalize wF B=f at*;obtain⟨F,t2⟩:=t;obtain⟨m1,m2⟩:=m;obtain⟨J,H⟩:=f;simp only[rqO,ak]at g0 g1 y g3 g4 h1 h2 h3 ⊢;generalize eR B H=e at*;rw[ccT 109];simp only[go_sem,simprocAttr,g0,g1,y,g3,g4,h1,h2,h3,wdO,Wd.sv]
 ·rw[show Kk B=none from if_neg z]
  unfold wdP at z;generalize wT B=t at*;generalize wM B=m at*;generalize wF B=f at*;obtain⟨F,t2⟩:=t;obtain⟨m1,m2⟩:=m;obtain⟨J,H⟩:=f;simp only[rqO,ak]at g0 g1 y g3 g4 z ⊢;generalize eR B H=e at*;rw[ccT 109]
  by_cases h1:e=0
  ·by_cases h2:F=22
   ·have h3:1099511627776<J:=by omega
    simp only[go_sem,simprocAttr,g0,g1,y,g3,g4,h1,h2,h3,wdO]
   ·simp only[go_sem,simprocAttr,g0,g1,y,g3,h2,wdO]
  ·by_cases h2:F=22
   ·simp only[go_sem,simprocAttr,g0,g1,y,g3,g4,h1,h2,wdO]
   ·simp only[go_sem,simprocAttr,g0,g1,y,g3,h2,wdO]
theorem xin(v w:Wd)(h:v.man.length<=140737488355328:=by omega):call T 178 [.agg v.sv,.agg w.sv] [] 0=okV (.bool (decide (v=w))):=by
 obtain⟨a,b⟩:=v;obtain⟨c,d⟩:=w;have g:=f95 a c h
 by_cases h1:b=d
 ·have e:decide ((⟨a,b⟩:Wd)=⟨c,d⟩)=decide (a=c):=by subst h1;simp
  rw[e];unfold Wd.sv;rw[ccT 178];simp only[go_sem,simprocAttr,g,h1]
 ·have e:decide ((⟨a,b⟩:Wd)=⟨c,d⟩)=false:=by simp[h1]
  rw[e];unfold Wd.sv;rw[ccT 178];simp only[go_sem,simprocAttr,h1]
theorem P5(t:Int)(z:List t8)(H:z.length<=100)(C:∀x∈z,x.length<=10000000):
 call T 133 [iV t,.lst 1 (bys z) .no] [] 0=okV (bN (hsh t z)):=by
 have F:∀l:List t8,(∀x∈l,x.length<=10000000)->(frF l).length<=10000004*l.length:=by
  intro l;induction l with
  |nil=>intro _;simp[frF]
  |cons a l J=>
   intro h;have h1:=h a aD;have h2:=J fun y I=>h y (an _ I)
   unfold frF at*;rw[cA,af,af,ai,qT,Nat.mul_succ];omega
 have h3:=F z C;exact P0 t z H (fun i hi=>by rw[db hi];have:=C _ (aF hi);omega)
theorem xbd(t:Int)(A B C:t8)(F:A.length<=1000000:=by omega)(y:B.length<=1000000:=by omega)(z:C.length<=1000000:=by omega):
 call T 206 [iV t,.lst 1 [[bN A],[bN B],[bN C]] .no] [] 0=okV (bN (frL t [A,B,C])):=by
 have h:(frF [A,B,C]).length<=100000000000:=by simp[frF,qT];omega
 exact P1 t [A,B,C] (by simp) (xfn A B C) h
theorem xa7(K z C:t8)(n:Nat)(h1:1<=n)(h2:n<=1024)(hK:K.length<=64)(hl:z.length<=1000)(hc:C.length<=1000):
 ∃D,D.length=n/\call T 244 [bN K,.str z,bN C,iV n] [] 0=okV (bN D):=by
 have a1:¬(n:Int)<1:=by omega
 have a2:¬(1024:Int)<n:=by omega
 have e8:ah.wrap (8*(n:Int))=8*(n:Int):=w64;have g1:=UD (8*(n:Int));have I:∀x,(w4 x).length=4:=fun _=>rfl
 have Z:4+z.length<=140737488355328:=by omega
 have b2:4+z.length<=140737488355327:=by omega
 have b3:4+(z.length+1)+C.length<=140737488355328:=by omega
 have b4:4+(z.length+(C.length+1))<=140737488355324:=by omega
 have l:∀(k i:Nat)(y:t8)(tk:Tok)(tks:LAb),40-i=k->i<=34->y.length=32*i->(tk= .id 109/\tks=[109])->∃R,n<=R.length/\R.length<=2000/\
  run T (.loop rY) ⟨[(0,bN K),(1,.str z),(2,bN C),(3,iV n),(9,.byt y tk),(10,iV ((i:Int)+1))],[],tks⟩=some (.x 0,⟨[(3,iV n),(9,.byt R tk)],[],tks⟩):=by
  intro k;induction k with
  |zero=>intro i y tk tks h0 h1;omega
  |succ k ih=>
   intro i y tk tks h0 hi ha ht;obtain⟨rfl,rfl⟩:=ht
   by_cases Q:y.length<n
   ·have F:(y.length:Int)<(n:Int):=by omega
    have e1:ah.wrap ((i:Int)+1+1)=(i:Int)+1+1:=w64;have g2:=UD ((i:Int)+1);have g3:=YN K (w4 ((i:Int)+1)++(z++0::(C++w4 (8*(n:Int))))) hK (by simp[w4];omega);have ml:=oL K (w4 ((i:Int)+1)++(z++0::(C++w4 (8*(n:Int)))));generalize Kh K (w4 ((i:Int)+1)++(z++0::(C++w4 (8*(n:Int)))))=X at*;have c6:y.length+X.length<=140737488355328:=by omega
    obtain⟨R,J,H,g⟩:=ih (i+1) (y++X) _ _ (by omega) (by omega) (by rw[af];omega) ⟨rfl,rfl⟩
    push_cast at g
    refine⟨R,J,H, ?_⟩;rw[ab];simp only[go_sem,simprocAttr,F,e1,e8,g1,g2,g3,I,Z,b2,b3,b4,c6,g]
   ·have F:¬(y.length:Int)<(n:Int):=by omega
    refine⟨y,by omega,by omega, ?_⟩;rw[ab];simp only[go_sem,simprocAttr,F]
 obtain⟨R,J,H,g⟩:=l 40 0 [] (.id 109) [109] rfl (by decide) rfl ⟨rfl,rfl⟩;refine⟨R.take n,by rw[aw];omega, ?_⟩;rw[ak]at g;rw[ccT 244];simp only[go_sem,simprocAttr,a1,a2];simp only[Int.zero_add]at g;simp only[go_sem,simprocAttr,g,J]
theorem xhV(K L X:t8)(hK:K.length<=64)(hL:L.length<=1000)(hX:1<=X.length)(Q:X.length<=1000):∃R,R.length=X.length/\call T 297 [bN K,bN L,bN X] [] 0=okV (bN R):=by
 obtain⟨D,hd,g⟩:=xa7 K [101,110,99,114,121,112,116] L X.length hX (by omega) hK (by decide) hL
 have l:∀(n i:Nat)(y:t8),X.length-i=n->i<=X.length->y.length=X.length->∃R,R.length=X.length/\
  run T (.loop zf) ⟨[(2,bN X),(7,bN D),(8,.psl 117 1 0 X.length (some X.length)),(9,iV i)],[(117,.bar y)],[]⟩=some (.x 0,⟨[(8,.psl 117 1 0 X.length (some X.length))],[(117,.bar R)],[]⟩):=by
  intro n;induction n with
  |zero=>
   intro i y h0 h1 h2;have:i=X.length:=by omega
   subst this;refine⟨y,h2, ?_⟩;rw[ab];simp only[go_sem,simprocAttr]
  |succ n ih=>
   intro i y h0 h1 h2;have hi:i<X.length:=by omega
   have I:i<D.length:=by omega
   have F:i<y.length:=by omega
   have C:(i:Int)<(X.length:Int):=by omega
   have e1:=bJ i;have hz:¬X.length=0:=by omega
   obtain⟨R,H,z⟩:=ih (i+1) (y.set i (X.getD i 0^^^D.getD i 0)) (by omega) (by omega) (by rw[bM];exact h2);refine⟨R,H, ?_⟩;rw[ab];simp only[go_sem,simprocAttr,I,F,C,e1,z]
 obtain⟨R,H,z⟩:=l X.length 0 (aB X.length 0) rfl (aC _) (by simp);refine⟨R,H, ?_⟩;have hx:(X.length:Int)<=140737488355328:=by omega
 rw[ak]at z;have J:X.length<=R.length:=by omega
 have Z:R.take X.length=R:=bp (by omega);rw[ccT 297];simp only[go_sem,simprocAttr,g,hx,z,J,Z]
theorem xhU(K L Y X:t8)(C:K.length<=64)(F:L.length<=1000)(I:Y.length<=100000)(H:X.length<=1000:=by omega):∃R,R.length=32/\call T 298 [bN K,bN L,bN Y,bN X] [] 0=okV (bN R):=by
 have g:=f244 K [97,117,116,104,101,110,116,105,99,97,116,101] L 32 (by decide) (by decide) C (by decide) F;have y:=xbd 0 Y L X;have z:(frL 0 [Y,L,X]).length<=1000000000:=by simp[frL,frF,qT];omega
 have g3:=YN (yI K [97,117,116,104,101,110,116,105,99,97,116,101] L 32) (frL 0 [Y,L,X]) (by rw[kK _ _ _ _ (by decide)];decide) z;refine⟨Kh (yI K [97,117,116,104,101,110,116,105,99,97,116,101] L 32) (frL 0 [Y,L,X]),oL _ _, ?_⟩;rw[show((32:Nat):Int)=32 from rfl]at g;rw[ccT 298];simp only[go_sem,simprocAttr,g,y,g3]
theorem f246(K L Y X:t8)(C:K.length<=64:=by omega)(hL:L.length<=64:=by omega)(I:Y.length<=100000:=by omega)(F:1<=X.length:=by omega)(y:X.length<=1000:=by omega):∃R,R.length<=1200/\call T 246 [bN K,bN L,bN Y,bN X] [] 0=okV (bN R):=by
 obtain⟨D,Z,g1⟩:=xhV K L X C (by omega) F y;obtain⟨E,J,H⟩:=xhU K L Y D C (by omega) I;have g3:=og [] L (by simp);have z:=fv [] L;have g4:=og (fd [] L) D (by simp only[al]at z;omega);have Q:=fv (fd [] L) D;simp only[al]at z;have c1:¬(64:Int)<(L.length:Int):=by omega
 have c2:¬(1024:Int)<(X.length:Int):=by omega
 have c3:(fd (fd [] L) D).length+E.length<=140737488355328:=by omega
 refine⟨fd (fd [] L) D++E,by rw[af];omega, ?_⟩;rw[ccT 246];simp only[go_sem,simprocAttr,g1,H,g3,g4,c1,c2,c3]
structure Sn where
 au:List UInt8
 sd:List UInt8
 va:List UInt8
def Sn.sv(n:Sn):LAa:=[bN n.au,bN n.sd,bN n.va]
theorem f247(n:Sn)(X:t8)(h:n.sd.length<=64)(y:X.length<=1000:=by omega):call T 247 [.agg n.sv,bN X] [] 0=okV (bN (yI n.sd [112,114,105,118,97,116,101] X 32)):=by have g:=f244 n.sd [112,114,105,118,97,116,101] X 32 (by decide) (by decide) h (by decide) y;rw[show((32:Nat):Int)=32 from rfl]at g;rw[ccT 247];unfold Sn.sv;simp only[go_sem,simprocAttr,g]
theorem f245(n:Sn)(h:Int)(h1:n.sd.length<=64)(h2:n.va.length<=1000):call T 245 [.agg n.sv,iV 3,iV h] [] 0=okV (bN (hsh 13 [n.sd,n.va])):=by have g:=Za 13 n.sd n.va;rw[ccT 245];unfold Sn.sv;simp only[go_sem,simprocAttr,g]
def M8(p u:t8):Int:=if p.length=0 then 20 else if p.length≠32 then 1 else if u.length≠32 then 1 else 0
theorem f243(p u:t8):call T 243 [.agg (Ar.sv ⟨3,0,0,p,u⟩)] [] 0=okV (iV (M8 p u)):=by
 have g:=YR 3;have k1:cy .and .i64 0 4=0:=by decide
 have k2:cy .and .i64 0 1=0:=by decide
 rw[if_neg (by decide)]at g;rw[ccT 243];unfold Ar.sv M8
 by_cases h0:p.length=0
 ·simp only[go_sem,simprocAttr,h0,k1,k2]
 ·by_cases h1:p.length=32
  ·by_cases h2:u.length=32
   ·simp only[go_sem,simprocAttr,g,h1,h2,k1,k2]
   ·have y:¬(u.length:Int)=32:=by omega
    simp only[go_sem,simprocAttr,g,h1,h2,y,k1,k2]
  ·have C:¬(p.length:Int)=0:=by omega
   have z:¬(p.length:Int)=32:=by omega
   simp only[go_sem,simprocAttr,h0,C,h1,z,k1,k2]
structure rl(e:Ev):Prop where
 r0:0<=e.reg
 r1:e.reg<=11
 k0:1<=e.kind
 k1:e.kind<=5
 d:e.data.length<=64
 n:e.dg.length=2
 g0:(e.dg.getD 0 []).length<=32
 g1:(e.dg.getD 1 []).length<=32
theorem xhN(e:Ev)(a:Int):∃b,(b=true->e.dg.length=2/\(e.dg.getD 0 []).length<=32/\(e.dg.getD 1 []).length<=32)/\call T 309 [.agg e.sv,iV a] [] 0=okV (.bool b):=by
 have hv:=ug e.dg;obtain⟨K,s0⟩:=xeT a 0 (by decide) (by decide);obtain⟨J,s1⟩:=xeT a 1 (by decide) (by decide);have t0:=UC 0;have H:=UC 1;rw[if_pos rfl]at t0;rw[if_neg (by decide),if_pos rfl]at H;have k1:ah.wrap 1=1:=rfl;have k2:ah.wrap 2=2:=rfl
 by_cases y:e.dg.length=2
 ·have g0:=kL e.dg 0
  have g1:=kL e.dg 1;have c0:0<e.dg.length:=by omega
  have c1:1<e.dg.length:=by omega
  generalize Q:e.dg.getD 0 []=X at*;generalize Z:e.dg.getD 1 []=Y at*
  by_cases z:e.kind=5
  ·by_cases C:(X.length:Int)=0
   ·by_cases F:(Y.length:Int)=0
    ·refine⟨true,fun _=>⟨y,by omega,by omega⟩, ?_⟩
     unfold Ev.sv;rw[ccT 309];simp only[go_sem,simprocAttr,hv,y,z];rw[ab];simp only[go_sem,simprocAttr,hv,y,g0,k1,C];rw[ab];simp only[go_sem,simprocAttr,hv,y,g1,k2,F];rw[ab];simp only[go_sem,simprocAttr]
    ·refine⟨false,(by intro h;cases h), ?_⟩
     unfold Ev.sv;rw[ccT 309];simp only[go_sem,simprocAttr,hv,y,z];rw[ab];simp only[go_sem,simprocAttr,hv,y,g0,k1,C];rw[ab];simp only[go_sem,simprocAttr,hv,y,g1,F]
   ·refine⟨false,(by intro h;cases h), ?_⟩
    unfold Ev.sv;rw[ccT 309];simp only[go_sem,simprocAttr,hv,y,z];rw[ab];simp only[go_sem,simprocAttr,hv,y,g0,C]
  ·cases K with
   |true=>
    by_cases C:(X.length:Int)=20
    ·cases J with
     |true=>
      by_cases F:(Y.length:Int)=32
      ·refine⟨true,fun _=>⟨y,by omega,by omega⟩, ?_⟩
       unfold Ev.sv;rw[ccT 309];simp only[go_sem,simprocAttr,hv,y];rw[ab];simp only[go_sem,simprocAttr,hv,y,g0,k1,s0,t0,z,C];rw[ab];simp only[go_sem,simprocAttr,hv,y,g1,k2,s1,H,z,F];rw[ab];simp only[go_sem,simprocAttr]
      ·refine⟨false,(by intro h;cases h), ?_⟩
       unfold Ev.sv;rw[ccT 309];simp only[go_sem,simprocAttr,hv,y];rw[ab];simp only[go_sem,simprocAttr,hv,y,g0,k1,s0,t0,z,C];rw[ab];simp only[go_sem,simprocAttr,hv,y,g1,s1,H,z,F]
     |false=>
      by_cases F:(Y.length:Int)=0
      ·refine⟨true,fun _=>⟨y,by omega,by omega⟩, ?_⟩
       unfold Ev.sv;rw[ccT 309];simp only[go_sem,simprocAttr,hv,y];rw[ab];simp only[go_sem,simprocAttr,hv,y,g0,k1,s0,t0,z,C];rw[ab];simp only[go_sem,simprocAttr,hv,y,g1,k2,s1,z,F];rw[ab];simp only[go_sem,simprocAttr]
      ·refine⟨false,(by intro h;cases h), ?_⟩
       unfold Ev.sv;rw[ccT 309];simp only[go_sem,simprocAttr,hv,y];rw[ab];simp only[go_sem,simprocAttr,hv,y,g0,k1,s0,t0,z,C];rw[ab];simp only[go_sem,simprocAttr,hv,y,g1,s1,z,F]
    ·refine⟨false,(by intro h;cases h), ?_⟩
     unfold Ev.sv;rw[ccT 309];simp only[go_sem,simprocAttr,hv,y];rw[ab];simp only[go_sem,simprocAttr,hv,y,g0,s0,t0,z,C]
   |false=>
    by_cases C:(X.length:Int)=0
    ·cases J with
     |true=>
      by_cases F:(Y.length:Int)=32
      ·refine⟨true,fun _=>⟨y,by omega,by omega⟩, ?_⟩
       unfold Ev.sv;rw[ccT 309];simp only[go_sem,simprocAttr,hv,y];rw[ab];simp only[go_sem,simprocAttr,hv,y,g0,k1,s0,z,C];rw[ab];simp only[go_sem,simprocAttr,hv,y,g1,k2,s1,H,z,F];rw[ab];simp only[go_sem,simprocAttr]
      ·refine⟨false,(by intro h;cases h), ?_⟩
       unfold Ev.sv;rw[ccT 309];simp only[go_sem,simprocAttr,hv,y];rw[ab];simp only[go_sem,simprocAttr,hv,y,g0,k1,s0,z,C];rw[ab];simp only[go_sem,simprocAttr,hv,y,g1,s1,H,z,F]
     |false=>
      by_cases F:(Y.length:Int)=0
      ·refine⟨true,fun _=>⟨y,by omega,by omega⟩, ?_⟩
       unfold Ev.sv;rw[ccT 309];simp only[go_sem,simprocAttr,hv,y];rw[ab];simp only[go_sem,simprocAttr,hv,y,g0,k1,s0,z,C];rw[ab];simp only[go_sem,simprocAttr,hv,y,g1,k2,s1,z,F];rw[ab];simp only[go_sem,simprocAttr]
      ·refine⟨false,(by intro h;cases h), ?_⟩
       unfold Ev.sv;rw[ccT 309];simp only[go_sem,simprocAttr,hv,y];rw[ab];simp only[go_sem,simprocAttr,hv,y,g0,k1,s0,z,C];rw[ab];simp only[go_sem,simprocAttr,hv,y,g1,s1,z,F]
    ·refine⟨false,(by intro h;cases h), ?_⟩
     unfold Ev.sv;rw[ccT 309];simp only[go_sem,simprocAttr,hv,y];rw[ab];simp only[go_sem,simprocAttr,hv,y,g0,s0,z,C]
 ·have I:¬(e.dg.length:Int)=2:=by omega
  refine⟨false,(by intro h;cases h), ?_⟩;unfold Ev.sv;rw[ccT 309];simp only[go_sem,simprocAttr,hv,I]
structure Au where
 id:Int
 key:List UInt8
def Au.sv(a:Au):LAa:=[iV a.id,bN a.key]
def au0:Au:=⟨0,[]⟩
structure Tr where
 au:List Au
 thr:Int
def nR(l:List Au):f9:=l.map Au.sv
def Tr.sv(t:Tr):LAa:=[.lst 2 (nR t.au) .no,iV t.thr]
theorem mC(l:List Au):(nR l).length=l.length:=av ..
theorem uh(l:List Au)(i:Nat)(h:i<l.length):(nR l).getD i []=(l.getD i au0).sv:=by simp[nR,aa,h]
def auE(l:List Au)(i:Nat):Int:=
 if(l.getD i au0).id<1 then 1 else if 1000<(l.getD i au0).id then 1 else if((l.getD i au0).key.length:Int)=17 then(if i=0 then 0 else if(l.getD i au0).id<=(l.getD (i-1) au0).id then 41 else 0)else 1
def Ik(l:List Au):Nat->Nat->Int
 |0,_=>0
 |n+1,i=>if auE l i=0 then Ik l n (i+1)else auE l i
def trE(t:Tr):Int:=
 if(4:Int)<t.au.length then 4 else if Ik t.au t.au.length 0=0 then(if t.thr<1 then 1 else if(t.au.length:Int)<t.thr then 1 else 0)else Ik t.au t.au.length 0
def Bx(t:Tr)(i:Nat):CSt:=⟨[(1,.ptr 101 0),(3,iV i)],[(101,.rc t.sv)],[]⟩
theorem s24(t:Tr)(hn:t.au.length<=100)(i:Nat)(hi:i<t.au.length:=by omega):
 (auE t.au i=0->run T (.loop jV) (Bx t i)=run T (.loop jV) (Bx t (i+1)))/\
 (auE t.au i≠0->∃ob,run T (.loop jV) (Bx t i)=some (.r,⟨[(2,iV (auE t.au i))],ob,[]⟩)):=by
 have e1:=bJ i;have hv:=mC t.au;have F:=uh t.au i hi;have es:0<i->ah.wrap ((i:Int)-1)=((i-1:Nat):Int):=fun h=>by rw[w64];omega
 have C:i-1<t.au.length:=by omega
 have I:=uh t.au (i-1) C;unfold auE;obtain⟨au,th⟩:=t;simp only[Bx,Tr.sv]at*;generalize au.getD i au0=x at*;generalize au.getD (i-1) au0=y at*;obtain⟨d,k⟩:=x;obtain⟨d2,k2⟩:=y;simp only[Au.sv]at*
 by_cases z:d<1
 ·refine⟨fun h=>by simp[z]at h,fun _=>⟨[(101,.rc [.lst 2 (nR au) .no,iV th]),(104,.rc [iV d,bN k])], ?_⟩⟩
  rw[ab];simp only[go_sem,simprocAttr,hi,hv,F,z]
 by_cases a2:1000<d
 ·refine⟨fun h=>by simp[z,a2]at h,fun _=>⟨[(101,.rc [.lst 2 (nR au) .no,iV th]),(104,.rc [iV d,bN k])], ?_⟩⟩
  rw[ab];simp only[go_sem,simprocAttr,hi,hv,F,z,a2]
 by_cases a3:(k.length:Int)=17
 ·by_cases Q:i=0
  ·subst Q
   have Z:(0:Int)<au.length:=by omega
   refine⟨fun _=> ?_,fun h=>by simp[z,a2,a3]at h⟩;simp only[ak]at*;have k1:ah.wrap 1=((0+1:Nat):Int):=rfl;rw[ab];simp only[go_sem,simprocAttr,Z,hv,F,z,a2,a3,k1]
  ·have Z:0<i:=by omega
   have J:(0:Int)<(i:Int):=by omega
   have H:(i:Int)<(au.length:Int):=by omega
   have e2:=es Z
   by_cases K:d<=d2
   ·refine⟨fun h=>by simp[z,a2,a3,Q,K]at h,fun _=>⟨[(101,.rc [.lst 2 (nR au) .no,iV th]),(104,.rc [iV d,bN k])], ?_⟩⟩
    rw[ab];simp only[go_sem,simprocAttr,H,J,e2,C,hv,F,I,z,a2,a3,Q,K]
   ·refine⟨fun _=> ?_,fun h=>by simp[z,a2,a3,Q,K]at h⟩
    rw[ab];simp only[go_sem,simprocAttr,H,J,e1,e2,C,hv,F,I,z,a2,a3,K]
 ·refine⟨fun h=>by simp[z,a2,a3]at h,fun _=>⟨[(101,.rc [.lst 2 (nR au) .no,iV th]),(104,.rc [iV d,bN k])], ?_⟩⟩
  rw[ab];simp only[go_sem,simprocAttr,hi,hv,F,z,a2,a3]
theorem xes(t:Tr)(y:t.au.length<=100):∀(n i:Nat),i+n=t.au.length->
 (Ik t.au n i=0->run T (.loop jV) (Bx t i)=some (.x 0,⟨[(1,.ptr 101 0)],[(101,.rc t.sv)],[]⟩))/\
 (Ik t.au n i≠0->∃ob,run T (.loop jV) (Bx t i)=some (.r,⟨[(2,iV (Ik t.au n i))],ob,[]⟩))
 |0,i,h=>by
  have hi:i=t.au.length:=by omega
  have z:=mC t.au;refine⟨fun _=> ?_,fun h=>absurd rfl h⟩;subst hi;unfold Bx Tr.sv;rw[ab];simp only[go_sem,simprocAttr,z]
 |n+1,i,h=>by
  obtain⟨h1,h2⟩:=s24 t y i;obtain⟨k1,k2⟩:=xes t y n (i+1) (by omega);show(_->_)/\(_->_);simp only[Ik]
  by_cases e:auE t.au i=0
  ·rw[if_pos e,h1 e];exact⟨k1,k2⟩
  ·rw[if_neg e];exact⟨fun h=>absurd h e,fun _=>h2 e⟩
theorem xfi(t:Tr):call T 104 [.agg t.sv] [] 0=okV (iV (trE t)):=by
 have y:=mC t.au;rw[ccT 104];unfold trE
 by_cases h4:(4:Int)<t.au.length
 ·rw[if_pos h4]
  have C:4<t.au.length:=by omega
  simp only[Tr.sv,go_sem,simprocAttr,y,h4]
 ·rw[if_neg h4]
  have C:¬4<t.au.length:=by omega
  obtain⟨k1,k2⟩:=xes t (by omega) t.au.length 0 (de _)
  by_cases e:Ik t.au t.au.length 0=0
  ·have k:=k1 e
   rw[if_pos e];simp only[Bx,Tr.sv,ak]at k
   by_cases z:t.thr<1
   ·simp only[Tr.sv,go_sem,simprocAttr,y,h4,k,z]
   ·by_cases F:(t.au.length:Int)<t.thr
    ·simp only[Tr.sv,go_sem,simprocAttr,y,h4,k,z,F]
    ·simp only[Tr.sv,go_sem,simprocAttr,y,h4,k,z,F]
  ·obtain⟨ob,k⟩:=k2 e
   rw[if_neg e];simp only[Bx,Tr.sv,ak]at k;simp only[Tr.sv,go_sem,simprocAttr,y,h4,k]
def Uf(role:Int):Int:=if role=1 then 0 else if role=2 then 4 else if role=3 then 8 else if role=4 then 9 else-1
theorem xeK(role:Int):call T 265 [iV role] [] 0=okV (iV (Uf role)):=by
 rw[ccT 265];unfold Uf
 by_cases h1:role=1
 ·subst h1;simp only[go_sem,simprocAttr]
 by_cases h2:role=2
 ·subst h2;simp only[go_sem,simprocAttr]
 by_cases h3:role=3
 ·subst h3;simp only[go_sem,simprocAttr]
 by_cases h4:role=4
 ·subst h4;simp only[go_sem,simprocAttr]
 simp only[go_sem,simprocAttr,h1,h2,h3,h4]
def sW(a:Int)(b:Nat):Bool:=if b=0 then decide (a=1\/a=3)else decide (a=2\/a=3)
def ir(a:Int):Prop:=a=1\/a=2\/a=3
theorem UG(a:Int)(h:ir a):call T 204 [iV a,iV 0] [] 0=okV (.bool (sW a 0)):=by rcases h with rfl|rfl|rfl<;>(rw[ccT 204];simp only[go_sem,simprocAttr];rfl)
theorem UF(a:Int)(h:ir a):call T 204 [iV a,iV 1] [] 0=okV (.bool (sW a 1)):=by rcases h with rfl|rfl|rfl<;>(rw[ccT 204];simp only[go_sem,simprocAttr];rfl)
def Y9(b:t8)(a:Int):List t8:=if b=[]then [[],[]]else [if sW a 0 then yh b else [],if sW a 1 then sha b else []]
theorem f266(x:Img)(a:Int)(I:ir a)(F:x.name.length<=1000000)(C:x.pay.length<=1000000):call T 266 [.agg x.sv,iV a] [] 0=okV (.lst 1 (bls (Y9 (tc x) a)) .no):=by
 have g0:=xfj x F C;have Z:=A8 x F C;have g1:=UG a I;have H:=UF a I;have g3:=J9 (tc x);have g4:=J8 (tc x);have k1:ah.wrap 1=1:=rfl;have k2:ah.wrap 2=2:=rfl;obtain⟨K,J,Q,p⟩:=x;simp only[Img.sv]at*;generalize tc ⟨K,J,Q,p⟩=b at*;rw[ccT 266];unfold Y9 bls
 by_cases y:b=[]
 ·subst y
  simp only[go_sem,simprocAttr,g0,aB]
  iterate 3
   rw[ab];simp only[go_sem,simprocAttr,k1,k2]
 ·have z:(0:Int)<b.length:=by
   have:b.length≠0:=fun e=>y (cD.1 e)
   omega
  cases q1:sW a 0<;>cases q2:sW a 1<;>rw[q1]at g1<;>rw[q2]at H<;>
  ·simp only[go_sem,simprocAttr,g0,aB]
   iterate 3
    rw[ab];simp only[go_sem,simprocAttr,k1,k2,y,z,g1,H,g3,g4,iM]
def SH(name:t8)(ver:Int):t8:=name++32::dec ver.toNat
theorem f267(name:t8)(ver:Int)(z:name.length<=1000000)(h0:0<=ver)(h1:ver<=1000000):call T 267 [.str name,iV ver] [] 0=okV (bN (SH name ver)):=by
 obtain⟨v,rfl⟩:=Int.eq_ofNat_of_zero_le h0;have g:=YY v (by omega);have y:=ue 6 v (by omega);rw[ccT 267];unfold SH;have c1:name.length+1<=140737488355328:=by omega
 have c2:name.length+1+(dec v).length<=140737488355328:=by omega
 simp only[go_sem,simprocAttr,g,c1,c2]
def sn0:Sn:=⟨[],[],[]⟩
def ar0:Ar:=⟨0,0,0,[],[]⟩
theorem xik(pa n:Sn)(a:Ar)(h1:pa.sd.length<=64)(h2:n.au.length<=32)(h3:n.sd.length<=32)(h4:n.va.length<=128)(h5:a.po.length<=100)(Z:a.un.length<=1000)(hv:1<=(fd (fd (fd [] n.au) n.sd) n.va).length):
 ∃R,R.length<=1200/\call T 184 [.agg pa.sv,.agg a.sv,.agg n.sv] [] 0=okV (bN R):=by
 have g1:=YV a;have K:(lJ 6 (tn a)).length=32:=fC _;have F:=f247 pa (lJ 6 (tn a)) h1;have g3:=xeR a;have hA:=A9 a;have y:=og [] n.au (by simp);have c1:=fv [] n.au;have z:=og (fd [] n.au) n.sd (by simp only[al]at c1;omega);have c2:=fv (fd [] n.au) n.sd;have C:=og (fd (fd [] n.au) n.sd) n.va (by simp only[al]at c1;omega);have c3:=fv (fd (fd [] n.au) n.sd) n.va;simp only[al]at c1;generalize fd (fd (fd [] n.au) n.sd) n.va=X at*;generalize lJ 6 (tn a)=H at*;generalize tn a=Y at*;have g4:=kK pa.sd [112,114,105,118,97,116,101] H 32 (by decide);generalize yI pa.sd [112,114,105,118,97,116,101] H 32=D at*;have h16:(16:Int)<=(H.length:Int):=by omega
 have Q:(H.take 16).length=16:=by rw[aw];omega
 obtain⟨R,J,I⟩:=f246 D (H.take 16) Y X;refine⟨R,J, ?_⟩;unfold Sn.sv Ar.sv at*;rw[ccT 184];simp only[go_sem,simprocAttr,g1,F,g3,y,z,C,I,h16]
theorem xil(S p v:t8)(J:S.length<=64)(hv:v.length<=1000):∃(c:Int)(a:Ar)(n:Sn),(c=0->a.po=p/\p.length=32/\a.un.length=32/\n.au=[]/\n.sd.length=32/\n.va=v/\v.length<=128)/\call T 183 [bN S,.agg (Ar.sv ⟨3,0,0,p,[]⟩),bN [],bN v] [] 0=okV (.tup [.agg a.sv,.agg n.sv,iV c]):=by
 have g1:=YR 3;rw[if_neg (by decide)]at g1;have z:=f243 p (dq 32 (aB 32 0));have g3:=f244 S [115,101,101,100] [] 32 (by decide) (by decide) J (by decide) (by decide);rw[show((32:Nat):Int)=32 from rfl]at g3;have I:=kK S [115,101,101,100] [] 32 (by decide);generalize yI S [115,101,101,100] [] 32=D at*;have g4:=f245 ⟨[],D,v⟩ 0 (by show D.length<=64;omega) hv;unfold Ar.sv Sn.sv at*
 by_cases F:p.length=32
 ·have e:M8 p (dq 32 (aB 32 0))=0:=by unfold M8;rw[if_neg (by omega),if_neg (by omega),if_neg (by decide)]
  rw[e]at z
  by_cases y:(128:Int)<(v.length:Int)
  ·refine⟨4,ar0,sn0,fun h=>absurd h (by decide), ?_⟩
   unfold ar0 sn0;rw[ccT 183];simp only[go_sem,ci,cE,cJ,ul,bt,eU,aX,bK,aJ,aW,reduceCtorEq,reduceIte,g1,z,y]
  ·refine⟨0,⟨3,0,0,p,hsh 13 [D,v]⟩,⟨[],D,v⟩,fun _=>⟨rfl,F,jn _ _,rfl,I,rfl,by omega⟩, ?_⟩
   by_cases C:(0:Int)<(v.length:Int)
   ·rw[ccT 183]
    simp only[go_sem,ci,cE,cJ,fK,fM,fL,bt,eU,aX,bK,aJ,aW,reduceCtorEq,reduceIte,g1,z,g3,g4,y,C]
   ·rw[ccT 183]
    simp only[go_sem,ci,cE,cJ,fK,fM,fL,bt,eU,aX,bK,aJ,aW,reduceCtorEq,reduceIte,g1,z,g3,g4,y,C]
 ·have e:∃c,M8 p (dq 32 (aB 32 0))=c/\c≠0:=by
   unfold M8
   by_cases h0:p.length=0
   ·exact⟨20,by rw[if_pos h0],by decide⟩
   ·exact⟨1,by rw[if_neg h0,if_pos F],by decide⟩
  obtain⟨c,e,H⟩:=e;rw[e]at z;refine⟨c,ar0,sn0,fun h=>absurd h H, ?_⟩;unfold ar0 sn0;rw[ccT 183];simp only[go_sem,ci,cE,cJ,bt,eU,aX,bK,aJ,aW,reduceCtorEq,reduceIte,g1,z,H]
theorem YQ(e:Ev)(a:Int):∃c,(c=0->rl e/\1<=a/\a<=3)/\call T 262 [.agg e.sv,iV a] [] 0=okV (iV c):=by
 obtain⟨b,F,g⟩:=xhN e a;unfold Ev.sv at*
 by_cases h0:a<1
 ·refine⟨1,(by intro h;cases h), ?_⟩
  rw[ccT 262];simp only[go_sem,simprocAttr,h0]
 by_cases h1:(3:Int)<a
 ·refine⟨1,(by intro h;cases h), ?_⟩
  rw[ccT 262];simp only[go_sem,simprocAttr,h0,h1]
 by_cases h2:e.reg<0
 ·refine⟨1,(by intro h;cases h), ?_⟩
  rw[ccT 262];simp only[go_sem,simprocAttr,h0,h1,h2]
 by_cases h3:(11:Int)<e.reg
 ·refine⟨1,(by intro h;cases h), ?_⟩
  rw[ccT 262];simp only[go_sem,simprocAttr,h0,h1,h2,h3]
 by_cases h4:e.kind<1
 ·refine⟨1,(by intro h;cases h), ?_⟩
  rw[ccT 262];simp only[go_sem,simprocAttr,h0,h1,h2,h3,h4]
 by_cases y:(5:Int)<e.kind
 ·refine⟨1,(by intro h;cases h), ?_⟩
  rw[ccT 262];simp only[go_sem,simprocAttr,h0,h1,h2,h3,h4,y]
 by_cases z:(64:Int)<(e.data.length:Int)
 ·refine⟨4,(by intro h;cases h), ?_⟩
  rw[ccT 262];simp only[go_sem,simprocAttr,h0,h1,h2,h3,h4,y,z]
 cases b with
 |true=>obtain⟨C,H,I⟩:=F rfl;refine⟨0,fun _=>⟨⟨by omega,by omega,by omega,by omega,by omega,C,H,I⟩,by omega,by omega⟩, ?_⟩;rw[ccT 262];simp only[go_sem,simprocAttr,h0,h1,h2,h3,h4,y,z,g]
 |false=>refine⟨27,(by intro h;cases h), ?_⟩;rw[ccT 262];simp only[go_sem,simprocAttr,h0,h1,h2,h3,h4,y,z,g]
theorem xeM(a s:Int):∃H,H.length<=11/\call T 261 [iV a,iV s] [] 0=okV (bN H):=by
 have g:=f74 ([83,87,76,49]++ [aO a]) 6 s (by decide) (by decide) (by simp);rw[show((6:Nat):Int)=6 from rfl]at g;have y:([83,87,76,49]++ [aO a]++be 6 (az.wrap s)).length=11:=by simp[be]
 simp only[aL,aA]at g y;generalize be 6 (az.wrap s)=B at*
 by_cases h0:a<1
 ·refine⟨[],by decide, ?_⟩
  rw[ccT 261];simp only[go_sem,simprocAttr,h0]
 by_cases h1:(3:Int)<a
 ·refine⟨[],by decide, ?_⟩
  rw[ccT 261];simp only[go_sem,simprocAttr,h0,h1]
 by_cases h2:s<0
 ·refine⟨[],by decide, ?_⟩
  rw[ccT 261];simp only[go_sem,simprocAttr,h0,h1,h2]
 by_cases h3:(1099511627776:Int)<s
 ·refine⟨[],by decide, ?_⟩
  rw[ccT 261];simp only[go_sem,simprocAttr,h0,h1,h2,h3]
 refine⟨_,Nat.le_of_eq y, ?_⟩;rw[ccT 261];simp only[go_sem,simprocAttr,h0,h1,h2,h3,g,aL,aA]
def Tt(e:Ev):t8:=if wrE e=true then fd (fd (fd [aO e.reg,aO e.kind] (e.dg.getD 0 [])) (e.dg.getD 1 [])) e.data else []
theorem DP{e:Ev}(h:wrE e=true):rl e:=by unfold wrE at h;rw[decide_eq_true_iff]at h;exact⟨h.1,h.2.1,h.2.2.1,h.2.2.2.1,h.2.2.2.2.1,h.2.2.2.2.2.1,h.2.2.2.2.2.2.1,h.2.2.2.2.2.2.2⟩
theorem L5(e:Ev):(Tt e).length<=140:=by
 unfold Tt;split
 ·rename_i h
  have y:=DP h;have h1:=y.g0;have h2:=y.g1;have h3:=y.d;have z:=fv [aO e.reg,aO e.kind] (e.dg.getD 0 []);have C:=fv (fd [aO e.reg,aO e.kind] (e.dg.getD 0 [])) (e.dg.getD 1 []);have F:=fv (fd (fd [aO e.reg,aO e.kind] (e.dg.getD 0 [])) (e.dg.getD 1 [])) e.data;simp only[ai,al]at z;omega
 ·decide
theorem xhX(e:Ev):call T 263 [.agg e.sv] [] 0=okV (bN (Tt e)):=by
 have g:=xeE e;unfold Tt;cases hw:wrE e with
 |false=>rw[hw]at g;unfold Ev.sv at*;rw[ccT 263];simp only[go_sem,simprocAttr,g]
 |true=>
  have y:=DP hw;have h1:=y.g0;have h2:=y.g1;have h3:=y.d;have H:=y.n;have hv:=ug e.dg;have g0:=kL e.dg 0;have g1:=kL e.dg 1;have c0:0<e.dg.length:=by omega
  have c1:1<e.dg.length:=by omega
  have d0:(0:Int)<(e.dg.length:Int):=by omega
  have d1:(1:Int)<(e.dg.length:Int):=by omega
  have z:=fv [aO e.reg,aO e.kind] (e.dg.getD 0 []);have F:=fv (fd [aO e.reg,aO e.kind] (e.dg.getD 0 [])) (e.dg.getD 1 []);simp only[ai,al]at z;have k1:=og [aO e.reg,aO e.kind] (e.dg.getD 0 []) (by simp);have k2:=og (fd [aO e.reg,aO e.kind] (e.dg.getD 0 [])) (e.dg.getD 1 []);have C:=og (fd (fd [aO e.reg,aO e.kind] (e.dg.getD 0 [])) (e.dg.getD 1 [])) e.data;rw[hw]at g;unfold Ev.sv at*;rw[ccT 263];simp only[go_sem,simprocAttr,g,hv,g0,g1,d0,d1,k1,k2,C]
theorem xaz(f s:Int)(l:List Ev)(H:t8):∀(n i:Nat),l.length-i=n->i<=l.length->l.length<=1000000->
 run T (.loop pe) ⟨[(1,.ptr 101 0),(4,bN H),(5,iV i)],[(101,.rc (bL f s l))],[]⟩=some (.x 0,⟨[(1,.ptr 101 0),(4,bN H)],[(101,.rc (bL f s l))],[]⟩)\/
 ∃c,run T (.loop pe) ⟨[(1,.ptr 101 0),(4,bN H),(5,iV i)],[(101,.rc (bL f s l))],[]⟩=some (.r,⟨[(2,.byt [] .clip),(3,iV c)],[(101,.rc (bL f s l))],[]⟩):=by
 intro n;induction n with
 |zero=>
  intro i h0 h1 F;have:i=l.length:=by omega
  subst this;have hv:=cW l;left;rw[ab];unfold bL;simp only[go_sem,simprocAttr,hv]
 |succ n K=>
  intro i h0 h1 F;have hi:i<l.length:=by omega
  have z:(i:Int)<(l.length:Int):=by omega
  have hv:=cW l;have I:=jg l i hi;have J:=bJ i;have C:=K (i+1) (by omega) (by omega) F;obtain⟨c,Q,g⟩:=YQ (l.getD i ev0) f;generalize l.getD i ev0=e at*;unfold Ev.sv at*;unfold bL at*
  by_cases y:c=0
  ·subst y
   rw[ab];simp only[go_sem,simprocAttr,hv,z,I,J,g];exact C
  ·right
   refine⟨c, ?_⟩;rw[ab];simp only[go_sem,simprocAttr,hv,z,I,g,y]
theorem xay(f s:Int)(l:List Ev):∀(n i:Nat)(H:t8)(tk:Tok)(tks:LAb),l.length-i=n->i<=l.length->l.length<=40->H.length+150*n<=100000->(tk= .no/\tks=[]\/tk= .id 53060/\tks=[53060])->∃R tk' y,R.length<=100000/\(tk'= .no/\y=[]\/tk'= .id 53060/\y=[53060])/\
 run T (.loop se) ⟨[(1,.ptr 101 0),(4,.byt H tk),(7,iV i)],[(101,.rc (bL f s l))],tks⟩=some (.x 2,⟨[(4,.byt R tk')],[(101,.rc (bL f s l))],y⟩):=by
 intro n;induction n with
 |zero=>
  intro i H tk tks h0 h1 I Z C;have:i=l.length:=by omega
  subst this;have hv:=cW l;refine⟨H,tk,tks,by omega,C, ?_⟩;rw[ab];unfold bL;rcases C with⟨rfl,rfl⟩|⟨rfl,rfl⟩<;>simp only[go_sem,simprocAttr,hv]
 |succ n ih=>
  intro i H tk tks h0 h1 I Z C;have hi:i<l.length:=by omega
  have z:(i:Int)<(l.length:Int):=by omega
  have hv:=cW l;have J:=jg l i hi;have Q:=bJ i;have g:=xhX (l.getD i ev0);have a1:=L5 (l.getD i ev0);generalize l.getD i ev0=e at*;generalize Tt e=X at*;have K:=og H X;have hb:=fv H X;obtain⟨R,tk',y,hR,F,g3⟩:=ih (i+1) (fd H X) (.id 53060) [53060] (by omega) (by omega) I (by omega) (.inr ⟨rfl,rfl⟩);refine⟨R,tk',y,hR,F, ?_⟩;unfold Ev.sv at*;unfold bL at*;rcases C with⟨rfl,rfl⟩|⟨rfl,rfl⟩
  ·rw[ab]
   simp only[go_sem,simprocAttr,hv,z,J,Q,g,K,g3]
  ·rw[ab]
   simp only[go_sem,simprocAttr,hv,z,J,Q,g,K,g3]
theorem f197(f s:Int)(l:List Ev)(C:l.length<=1000000:=by omega):∃R c,R.length<=8192/\call T 197 [.agg (bL f s l)] [] 0=okV (.tup [bN R,iV c]):=by
 obtain⟨H,F,g1⟩:=xeM f s;have y:=xaz f s l H l.length 0 rfl (aC _) C;have hv:=cW l;rw[ak]at y
 by_cases h0:(H.length:Int)=0
 ·refine⟨[],1,by decide, ?_⟩
  rw[ccT 197];unfold bL;simp only[go_sem,simprocAttr,g1,h0]
 rcases y with y|⟨c,y⟩
 ·by_cases h1:(40:Int)<(l.length:Int)
  ·refine⟨[],25,by decide, ?_⟩
   rw[ccT 197];unfold bL at*;simp only[go_sem,simprocAttr,g1,h0,y,hv,h1]
  ·obtain⟨R,tk,tks,I,z,g3⟩:=xay f s l l.length 0 H .no [] rfl (aC _) (by omega) (by omega) (.inl ⟨rfl,rfl⟩)
   rw[ak]at g3
   by_cases h2:(8192:Int)<(R.length:Int)
   ·refine⟨[],4,by decide, ?_⟩
    rw[ccT 197];unfold bL at*;rcases z with⟨rfl,rfl⟩|⟨rfl,rfl⟩<;>simp only[go_sem,simprocAttr,g1,h0,y,g3,hv,h1,h2]
   ·refine⟨R,0,by omega, ?_⟩
    rw[ccT 197];unfold bL at*;rcases z with⟨rfl,rfl⟩|⟨rfl,rfl⟩<;>simp only[go_sem,simprocAttr,g1,h0,y,g3,hv,h1,h2]
 ·refine⟨[],c,by decide, ?_⟩
  rw[ccT 197];unfold bL at*;simp only[go_sem,simprocAttr,g1,h0,y]
def ofI(x:Img)(a:Int):Ev:=⟨Uf x.role,1,Y9 (tc x) a,SH x.name x.ver⟩
theorem xic(x:Img)(a:Int)(H:ir a)(h:mu x=0)(h4:x.role≠4):call T 202 [.agg x.sv,iV a] [] 0=okV (.agg (ofI x a).sv):=by obtain⟨q1,q2,I,z,q5,Q⟩:=H3 h;obtain⟨y,C⟩:=zN h;have g0:=f166 x;have g1:=xeK x.role;have F:=f266 x a H y C;have g3:=f267 x.name x.ver y I z;rw[h]at g0;obtain⟨K,J,Z,p⟩:=x;simp only[Img.sv,Ev.sv,ofI]at*;rw[ccT 202];simp only[go_sem,simprocAttr,g0,h4,g1,F,g3]
def mkV(reg kind a:Int)(data:t8):Ev:=⟨reg,kind,if kind=5 then [[],[]]else [if sW a 0 then yh data else [],if sW a 1 then sha data else []],data⟩
theorem Y0(reg kind a:Int)(data:t8)(C:ir a)(F:data.length<=1000000:=by omega):call T 131 [iV reg,iV kind,iV a,bN data] [] 0=okV (.agg (mkV reg kind a data).sv):=by
 have g1:=UG a C;have y:=UF a C;have g3:=J9 data;have g4:=J8 data;have k1:ah.wrap 1=1:=rfl;have k2:ah.wrap 2=2:=rfl;rw[ccT 131];unfold mkV Ev.sv bls
 by_cases z:kind=5
 ·subst z
  cases q1:sW a 0<;>cases q2:sW a 1<;>rw[q1]at g1<;>rw[q2]at y<;>
  ·simp only[go_sem,simprocAttr,aB]
   iterate 3
    rw[ab];simp only[go_sem,simprocAttr,k1,k2,g1,y]
 ·cases q1:sW a 0<;>cases q2:sW a 1<;>rw[q1]at g1<;>rw[q2]at y<;>
  ·simp only[go_sem,simprocAttr,aB]
   iterate 3
    rw[ab];simp only[go_sem,simprocAttr,k1,k2,z,g1,y,g3,g4,iM]
theorem xaG(l:List Img)(h:dZ l)(f k:Bool)(i:Nat)(hi:i<l.length):∀(n j:Nat),i-j=n->j<=i->
 run T (.loop sk) ⟨[(0,.lst 4 (gK l) .no),(3,.bool f),(4,.bool k),(5,iV i),(7,iV j)],[],[]⟩=some (.x 2,⟨[(0,.lst 4 (gK l) .no),(3,.bool f),(4,.bool k),(5,iV i)],[],[]⟩):=by
 intro n;induction n with
 |zero=>
  intro j h0 h1;have:j=i:=by omega
  subst this;rw[ab];simp only[go_sem,simprocAttr]
 |succ n ih=>
  intro j h0 h1;have K:j<i:=by omega
  have z:j<l.length:=by omega
  have Z:=bJ j (by have:=h.n8;omega);have C:=ih (j+1) (by omega) (by omega);have hv:=gC l;have Q:=jt l i hi;have F:=jt l j z;have hd:=h.dup i hi j K;rw[ab];generalize l.getD i im0=x at*;generalize l.getD j im0=y at*;obtain⟨ro,na,ve,p⟩:=x;obtain⟨J,H,a1,p2⟩:=y;simp only[Img.sv]at*
  by_cases I:J=ro
  ·have hn:¬H=na:=hd I
   simp only[go_sem,simprocAttr,K,z,hi,Z,hv,Q,F,I,hn,C]
  ·simp only[go_sem,simprocAttr,K,z,hi,Z,hv,Q,F,I,C]
def uT(l:List Img)(r:Int)(i:Nat):Bool:=(l.take i).any fun x=>decide (x.role=r)
theorem wn(l:List Img)(r:Int)(i:Nat)(hi:i<l.length):uT l r (i+1)=(uT l r i||decide ((l.getD i im0).role=r)):=by unfold uT;rw[List.take_succ_eq_append_getElem hi,List.any_append,List.any_cons,List.any_nil,Bool.or_false,aa,ac hi];rfl
theorem Bi{l:List Img}{r:Int}(h:∃i,i<l.length/\(l.getD i im0).role=r):uT l r l.length=true:=by obtain⟨i,hi,y⟩:=h;unfold uT;rw[cG,List.any_eq_true];refine⟨l[i],aF _, ?_⟩;rw[aa,ac hi]at y;simpa using y
theorem xg2(l:List Img)(h:dZ l):∀(n i:Nat),l.length-i=n->i<=l.length->
 run T (.loop pq) ⟨[(0,.lst 4 (gK l) .no),(3,.bool (uT l 1 i)),(4,.bool (uT l 3 i)),(5,iV i)],[],[]⟩=some (.x 0,⟨[(3,.bool true),(4,.bool true)],[],[]⟩):=by
 intro n;induction n with
 |zero=>
  intro i h0 h1;have:i=l.length:=by omega
  subst this;have hv:=gC l;have a1:=Bi h.fw;have a2:=Bi h.kn;rw[ab];simp only[go_sem,simprocAttr,hv,a1,a2]
 |succ n ih=>
  intro i h0 h1;have hi:i<l.length:=by omega
  have e1:=bJ i (by have:=h.n8;omega);have z:=ih (i+1) (by omega) (by omega);have hv:=gC l;have hg:=jt l i hi;have a6:=h.ok i hi;obtain⟨b1,b2⟩:=zN a6;have g:=f166 (l.getD i im0);have F:=xaG l h (uT l 1 i) (uT l 3 i) i hi _ 0 rfl (by omega);simp only[ak]at F;rw[a6]at g;rw[wn l 1 i hi,wn l 3 i hi]at z;rw[ab]
  have key:∀H I:Bool,uT l 1 i=H->uT l 3 i=I->run T (.loop pq) ⟨[(0,.lst 4 (gK l) .no),(3,.bool H),(4,.bool I),(5,iV i)],[],[]⟩=some (.x 0,⟨[(3,.bool true),(4,.bool true)],[],[]⟩):=by
   intro H I a7 b3;rw[a7,b3]at z F;rw[ab]
   by_cases b0:i=0
   ·subst b0
    generalize l.getD 0 im0=x at*;obtain⟨ro,na,ve,p⟩:=x;simp only[Img.sv]at*;have K:(0:Int)<l.length:=by omega
    have c1:((0+1:Nat):Int)=1:=rfl;have kw:ah.wrap 1=1:=rfl;rw[c1]at z;simp only[ak]at F
    by_cases p1:ro=1
    ·subst p1
     cases H<;>cases I<;>simp only[qF,gz,decide_true,decide_false,ul,eq_self]at z<;>simp only[go_sem,simprocAttr,K,kw,hv,hg,g,F,z]
    ·by_cases p3:ro=3
     ·subst p3
      cases H<;>cases I<;>simp only[qF,gz,decide_true,decide_false,ul,eq_self]at z<;>simp only[go_sem,simprocAttr,K,kw,hv,hg,g,F,z]
     ·cases H<;>cases I<;>simp only[qF,gz,decide_false,p1,p3]at z<;>simp only[go_sem,simprocAttr,K,kw,hv,hg,g,F,p1,p3,z]
   ·have hp:0<i:=by omega
    have J:(0:Int)<(i:Nat):=by omega
    have es:ah.wrap ((i:Int)-1)=((i-1:Nat):Int):=by rw[w64 (by omega) (by have:=h.n8;omega)];omega
    have C:i-1<l.length:=by omega
    have Q:=jt l (i-1) C;have ho:=h.ord (i-1) (by omega);rw[show i-1+1=i from by omega]at ho;generalize l.getD i im0=x at*;generalize l.getD (i-1) im0=y at*;obtain⟨ro,na,ve,p⟩:=x;obtain⟨a8,b4,b5,p2⟩:=y;simp only[Img.sv]at*;have Z:¬ro<a8:=by omega
    by_cases p1:ro=1
    ·subst p1
     cases H<;>cases I<;>simp only[qF,gz,decide_true,decide_false,ul,eq_self]at z<;>simp only[go_sem,simprocAttr,hi,J,C,es,e1,hv,hg,Q,g,F,Z,z]
    ·by_cases p3:ro=3
     ·subst p3
      cases H<;>cases I<;>simp only[qF,gz,decide_true,decide_false,ul,eq_self]at z<;>simp only[go_sem,simprocAttr,hi,J,C,es,e1,hv,hg,Q,g,F,Z,z]
     ·cases H<;>cases I<;>simp only[qF,gz,decide_false,p1,p3]at z<;>simp only[go_sem,simprocAttr,hi,J,C,es,e1,hv,hg,Q,g,F,Z,p1,p3,z]
  have:=key _ _ rfl rfl;rw[ab]at this;exact this
theorem xe6(l:List Img)(h:dZ l):call T 154 [.lst 4 (gK l) .no] [] 0=okV (iV 0):=by
 have g:=xg2 l h _ 0 rfl (by omega);have y:uT l 1 0=false:=rfl;have z3:uT l 3 0=false:=rfl;rw[y,z3]at g;simp only[ak]at g;have hv:=gC l;have n1:=h.n1;have n8:=h.n8;have k1:¬(l.length:Int)=0:=by omega
 have k2:¬(8:Int)<l.length:=by omega
 rw[ccT 154];simp only[go_sem,simprocAttr,hv,k1,k2,g]
end Go.Proofs.YtmhhnklkcmpdkaaGreatDoor
