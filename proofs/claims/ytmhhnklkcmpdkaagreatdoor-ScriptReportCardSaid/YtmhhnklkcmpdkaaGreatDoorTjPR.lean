/- Contracts. No condition. -/
import Derived.Test.YtmhhnklkcmpdkaaGreatDoorThPR
open Int renaming natCast_zero -> ak
open Go.IntKind renaming i64 -> ah
open List renaming drop -> gT, getElem_mem -> aF, length_append -> af, length_cons -> ai, length_drop -> aQ, length_nil -> al, length_singleton -> aT, length_take -> aw, map_drop -> nz, map_nil -> aK, map_take -> gw, mem_append -> am, mem_of_mem_take -> cg, mem_singleton -> bC, nil_append -> aA, take -> dq, take_length -> cG, take_of_length_le -> bp
open Nat renaming le_refl -> aM, le_succ -> fO, zero_add -> de, zero_le -> aC
open Go.Op renaming bytesLess -> dw
set_option maxRecDepth 100000
set_option maxHeartbeats 16000000
set_option linter.unusedSimpArgs false
set_option linter.unusedVariables false
noncomputable section
namespace Go.Proofs.YtmhhnklkcmpdkaaGreatDoor
open Go.Sy

theorem xgG(t:Tr)(B:t8)(m:Mk)(K:t.au.length<=1000)(J:B.length<=100000000):∀(n i:Nat),i+n=t.au.length->
 run T (.loop uA) ⟨[(1,bN B),(3,.ptr 103 0),(5,.ptr 105 0),(7,iV i)],[(103,.rc t.sv),(105,.rc m.sv)],[]⟩=some (.r,⟨[(6,.bool true)],[(103,.rc t.sv),(105,.rc m.sv)],[]⟩)\/
 run T (.loop uA) ⟨[(1,bN B),(3,.ptr 103 0),(5,.ptr 105 0),(7,iV i)],[(103,.rc t.sv),(105,.rc m.sv)],[]⟩=some (.x 0,⟨[],[(103,.rc t.sv),(105,.rc m.sv)],[]⟩):=by
 intro n;induction n with
 |zero=>
  intro i h;have hi:i=t.au.length:=by omega
  have hv:=mC t.au;subst hi;right;rw[ab];simp only[Tr.sv,go_sem,simprocAttr,hv]
 |succ n I=>
  intro i h;have hi:i<t.au.length:=by omega
  have y:(i:Int)<(t.au.length:Int):=by omega
  have hv:=mC t.au;have F:=uh t.au i hi;have H:=bJ i;have z:=I (i+1) (by omega);obtain⟨L,V,C⟩:=xeG (t.au.getD i au0).key B m.sig J;generalize t.au.getD i au0=x at*;obtain⟨d,k⟩:=x;obtain⟨au,th⟩:=t;obtain⟨a,g⟩:=m;simp only[Tr.sv,Mk.sv,Au.sv]at*;rw[ab]
  by_cases h1:d=a
  ·cases V with
   |true=>exact .inl (by simp only[go_sem,simprocAttr,y,hv,F,h1,C])
   |false=>simp only[go_sem,simprocAttr,y,hv,F,h1,C,H];rw[h1]at*;exact z
  ·simp only[go_sem,simprocAttr,y,hv,F,h1,H]
   exact z
theorem f240(t:Tr)(B:t8)(m:Mk)(z:t.au.length<=1000)(y:B.length<=100000000):∃b,call T 240 [.agg t.sv,bN B,.agg m.sv] [] 0=okV (.bool b):=by
 have h:=xgG t B m z y t.au.length 0 (de _);rw[ak]at h;unfold Tr.sv Mk.sv at*;rw[ccT 240];rcases h with h|h
 ·exact⟨true,by simp only[go_sem,simprocAttr,h]⟩
 ·exact⟨false,by simp only[go_sem,simprocAttr,h]⟩
theorem xaC(O:List (Nat×aG))(Q H:aG)(hO:O=[(102,Q),(103,H)])(L:List Int)(x j:Int)(hn:L.length<=1000000):∀(m k:Nat),L.length-k=m->k<=L.length->
 ∃q,q<=L.length/\run T (.loop zy) ⟨[(2,.ptr 102 0),(3,.ptr 103 0),(5,.lst 1 (isv L) (.id 105)),(6,iV j),(7,iV x),(8,iV k)],O,[105]⟩=
  some (.x 2,⟨[(2,.ptr 102 0),(3,.ptr 103 0),(5,.lst 1 (isv L) (.id 105)),(6,iV j),(7,iV x),(8,iV (q:Nat))],O,[105]⟩):=by
 subst hO;intro m;have hv:=yF L;induction m with
 |zero=>
  intro k h0 h1;have I:k=L.length:=by omega
  subst I;refine⟨_,aM _, ?_⟩;rw[ab];simp only[go_sem,simprocAttr,hv]
 |succ m Z=>
  intro k h0 h1;have J:k<L.length:=by omega
  have y:(k:Int)<(L.length:Int):=by omega
  have C:=H1 L k J;have K:=bJ k;obtain⟨q,h2,z⟩:=Z (k+1) (by omega) (by omega)
  by_cases F:L.getD k 0<x
  ·exact⟨q,h2,by rw[ab];simp only[go_sem,simprocAttr,hv,y,C,F,K,z]⟩
  ·exact⟨k,by omega,by rw[ab];simp only[go_sem,simprocAttr,hv,y,C,F]⟩
theorem xgY(t:Tr)(B:t8)(ms:List Mk)(hn:t.au.length<=1000)(hB:B.length<=100000000)(hm:ms.length<=1000000):∀(n j:Nat)(L:List Int),ms.length-j=n->j<=ms.length->L.length<=j->
 ∃z:List Int,z.length<=ms.length/\run T (.loop sh) ⟨[(2,.ptr 102 0),(3,.ptr 103 0),(5,.lst 1 (isv L) (.id 105)),(6,iV j)],[(102,.rc t.sv),(103,.rc (eK B ms))],[105]⟩=
  some (.x 0,⟨[(5,.lst 1 (isv z) (.id 105))],[(102,.rc t.sv),(103,.rc (eK B ms))],[105]⟩):=by
 intro n;induction n with
 |zero=>
  intro j L h0 h1 h2;have hj:j=ms.length:=by omega
  have hv:=js ms;subst hj;refine⟨L,h2, ?_⟩;rw[ab];simp only[eK,go_sem,simprocAttr,hv]
 |succ n ih=>
  intro j L h0 h1 h2;have hj:j<ms.length:=by omega
  have C:(j:Int)<(ms.length:Int):=by omega
  have hv:=js ms;have Z:=Lz ms j hj;have e1:=bJ j;obtain⟨b,g⟩:=f240 t B (ms.getD j mk0) hn hB;generalize ms.getD j mk0=mk at*;obtain⟨a,s⟩:=mk;have y:=yF L;obtain⟨q,K,Q⟩:=xaC _ (.rc t.sv) (.rc (eK B ms)) rfl L a j (by omega) _ 0 rfl (aC _);rw[ak]at Q;have tf:dq L.length (isv L)=isv L:=by rw[<-y,cG]
  have vA:(dq q (isv L)).length=q:=by rw[aw,y];omega
  have vD:(gT q (isv L)).length=L.length-q:=by rw[aQ,y]
  have b1:q*8<=140737488355328:=by omega
  have b3:(q+1)*8<=140737488355328:=by omega
  have b2:(q+(1+(L.length-q)))*8<=140737488355328:=by omega
  have b4:(q+1+(L.length-q))*8<=140737488355328:=by omega
  have ei:(isv L).take q++([iV a]::(isv L).drop q)=isv (L.take q++a::L.drop q):=by simp[isv,gw,nz]
  have I:=ih (j+1) L (by omega) (by omega) (by omega);have H:=ih (j+1) (L.take q++a::L.drop q) (by omega) (by omega) (by rw[af,ai,aw,aQ];omega);unfold Tr.sv eK at*;simp only[Mk.sv]at*;cases b with
  |true=>
   by_cases hq:q<L.length
   ·have J:=H1 L q hq
    have F:(q:Int)<(L.length:Int):=by omega
    by_cases hd:L.getD q 0=a
    ·obtain⟨z,k1,k2⟩:=I
     refine⟨z,k1, ?_⟩;rw[ab];simp only[go_sem,simprocAttr,C,hv,Z,g,Q,y,F,J,hd,e1,k2]
    ·obtain⟨z,k1,k2⟩:=H
     refine⟨z,k1, ?_⟩;rw[ab];simp only[go_sem,simprocAttr,C,hv,Z,g,Q,y,F,K,J,hd,tf,vA,vD,b1,b3,b4,e1,ei,k2]
   ·have F:¬(q:Int)<(L.length:Int):=by omega
    obtain⟨z,k1,k2⟩:=H;refine⟨z,k1, ?_⟩;rw[ab];simp only[go_sem,simprocAttr,C,hv,Z,g,Q,y,F,K,tf,vA,vD,b1,b3,b4,e1,ei,k2]
  |false=>obtain⟨z,k1,k2⟩:=I;refine⟨z,k1, ?_⟩;rw[ab];simp only[go_sem,simprocAttr,C,hv,Z,g,e1,k2]
theorem xip(t:Tr)(B:t8)(ms:List Mk)(C:t.au.length<=1000)(z:B.length<=100000000)(y:ms.length<=1000000):∃L:List Int,L.length<=ms.length/\call T 175 [.agg t.sv,.agg (eK B ms)] [] 0=okV (.lst 1 (isv L) .no):=by obtain⟨L,k1,h⟩:=xgY t B ms C z y _ 0 [] rfl (aC _) (aM _);rw[show isv []=[]from rfl,ak]at h;refine⟨L,k1, ?_⟩;unfold Tr.sv eK at*;rw[ccT 175];simp only[go_sem,simprocAttr,h]
theorem Zr{t:Tr}(h:trE t=0):t.au.length<=4:=by
 unfold trE at h;split at h
 ·cases h
 ·omega
theorem xiK(t:Tr)(B:t8)(ms:List Mk)(K:B.length<=1000000)(J:ms.length<=1000000):∃c,call T 106 [.agg t.sv,.agg (eK B ms)] [] 0=okV (iV c):=by
 have g1:=xfi t;have y:=js ms;rw[ccT 106]
 by_cases z:trE t=0
 ·rw[z]at g1
  by_cases Q:4<ms.length
  ·have h4:(4:Int)<ms.length:=by omega
   unfold Tr.sv eK at*;exact⟨4,by simp only[go_sem,simprocAttr,g1,y,h4]⟩
  ·have h4:¬(4:Int)<ms.length:=by omega
   obtain⟨m,c,_,_,C⟩:=xfg B K;have g3:=xff B;obtain⟨L,_,g4⟩:=xip t B ms (by have:=Zr z;omega) (by omega) J;have I:=yF L;unfold Tr.sv eK Man.sv at*
   by_cases F:c=0<;>by_cases H:(L.length:Int)<t.thr<;>cases hw:Kk B<;>rw[hw]at g3<;>simp only[wdO,Wd.sv]at g3<;>
    first
    |(refine⟨44, ?_⟩;simp only[go_sem,simprocAttr,g1,y,h4,C,F,g3,g4,I,H];done)
    |(refine⟨0, ?_⟩;simp only[go_sem,simprocAttr,g1,y,h4,C,F,g3,g4,I,H];done)
    |(refine⟨30, ?_⟩;simp only[go_sem,simprocAttr,g1,y,h4,C,F,g3];done)
 ·unfold Tr.sv eK at*
  exact⟨trE t,by simp only[go_sem,simprocAttr,g1,z]⟩
theorem xaJ(ms:List Man)(rs:List (Int×Int))(O:List t8)(Q:Dgs O)(hn:O.length<=1000000)(i:Int)(D:t8)(hD:D.length<=32):∀(m k:Nat),O.length-k=m->k<=O.length->
 ∃q,q<=O.length/\run T (.loop zF) ⟨[(0,.lst 7 (fg ms) .no),(1,.lst 2 (rsv rs) .no),(5,.lst 1 (bys O) (.id 105)),(6,iV i),(7,bN D),(8,iV k)],[],[105]⟩=
  some (.x 2,⟨[(0,.lst 7 (fg ms) .no),(1,.lst 2 (rsv rs) .no),(5,.lst 1 (bys O) (.id 105)),(6,iV i),(7,bN D),(8,iV (q:Nat))],[],[105]⟩):=by
 intro m;have hv:=eD O;induction m with
 |zero=>
  intro k h0 h1;have I:k=O.length:=by omega
  subst I;refine⟨_,aM _, ?_⟩;rw[ab];simp only[go_sem,simprocAttr,hv]
 |succ m K=>
  intro k h0 h1;have C:k<O.length:=by omega
  have z:(k:Int)<(O.length:Int):=by omega
  have H:=jr O k C;have Z:(O.getD k []).length<=32:=by rw[db C];exact Q _ (aF C)
  have J:=bJ k;obtain⟨q,h2,F⟩:=K (k+1) (by omega) (by omega);generalize O.getD k []=X at*;have g:=f172 X D;generalize dw X D=y at*;cases y with
  |true=>exact⟨q,h2,by rw[ab];simp only[go_sem,simprocAttr,hv,z,H,g,J,F]⟩
  |false=>exact⟨k,by omega,by rw[ab];simp only[go_sem,simprocAttr,hv,z,H,g]⟩
theorem xg6(ms:List Man)(hm:ww ms)(rs:List (Int×Int))(hr:rs.length<=1000000):∀(n j:Nat)(O:List t8),rs.length-j=n->j<=rs.length->O.length<=j->Dgs O->
 ∃C:List t8,C.length<=rs.length/\Dgs C/\run T (.loop sw) ⟨[(0,.lst 7 (fg ms) .no),(1,.lst 2 (rsv rs) .no),(5,.lst 1 (bys O) (.id 105)),(6,iV j)],[],[105]⟩=
  some (.x 0,⟨[(5,.lst 1 (bys C) (.id 105))],[],[105]⟩):=by
 intro n;induction n with
 |zero=>
  intro j O h0 h1 h2 h3;have hj:j=rs.length:=by omega
  have hv:=rM rs;subst hj;refine⟨O,h2,h3, ?_⟩;rw[ab];simp only[go_sem,simprocAttr,hv]
 |succ n ih=>
  intro j O h0 h1 h2 h3;have hj:j<rs.length:=by omega
  have F:(j:Int)<(rs.length:Int):=by omega
  have hv:=rM rs;have hg:=Q0 rs j hj;have e1:=bJ j;have H:=fG ms;have a7:=hm.n;generalize rs.getD j (0,0)=p at*;obtain⟨p1,p2⟩:=p;simp only at hg;have K:=ih (j+1) O (by omega) (by omega) (by omega) h3
  by_cases q1:p1<0
  ·obtain⟨C,k1,k2,I⟩:=K
   exact⟨C,k1,k2,by rw[ab];simp only[go_sem,simprocAttr,hv,F,hg,q1,e1,I]⟩
  by_cases q2:(ms.length:Int)<=p1
  ·obtain⟨C,k1,k2,I⟩:=K
   exact⟨C,k1,k2,by rw[ab];simp only[go_sem,simprocAttr,hv,F,hg,q1,q2,H,e1,I]⟩
  obtain⟨i,rfl⟩:∃i:Nat,p1=i:=⟨p1.toNat,by omega⟩;have hi:i<ms.length:=by omega
  have Q:(i:Int)<(ms.length:Int):=by omega
  have Z:=kD ms i hi;obtain⟨D,hD,gd⟩:=f61 (ms.getD i mn0) (hm.m _ (cM ms mn0 i hi));generalize ms.getD i mn0=m at*;obtain⟨k,hk,gl⟩:=xaJ ms rs O h3 (by omega) j D hD _ 0 rfl (aC _);rw[ak]at gl;have z:=eD O;have tf:dq O.length (bys O)=bys O:=by rw[<-z,cG]
  have vA:(dq k (bys O)).length=k:=by rw[aw,z];omega
  have vD:(gT k (bys O)).length=O.length-k:=by rw[aQ,z]
  have b1:k*24<=140737488355328:=by omega
  have b3:(k+1)*24<=140737488355328:=by omega
  have b2:(k+(1+(O.length-k)))*24<=140737488355328:=by omega
  have b4:(k+1+(O.length-k))*24<=140737488355328:=by omega
  have ei:(bys O).take k++([bN D]::(bys O).drop k)=bys (O.take k++D::O.drop k):=by simp[bys,gw,nz]
  have a1:=ih (j+1) (O.take k++D::O.drop k) (by omega) (by omega) (by rw[lv];omega) (h3.ins hD k);unfold Man.sv at*
  by_cases hq:k<O.length
  ·have a6:=jr O k hq
   have J:(k:Int)<(O.length:Int):=by omega
   have hx:(O.getD k []).length<=32:=by rw[db hq];exact h3 _ (aF hq)
   generalize O.getD k []=X at*;have g:=f95 X D;generalize decide (X=D)=y at*;cases y with
   |true=>obtain⟨C,k1,k2,I⟩:=K;exact⟨C,k1,k2,by rw[ab];simp only[go_sem,simprocAttr,hv,F,hg,q1,q2,H,Q,Z,gd,gl,z,J,a6,g,e1,I]⟩
   |false=>obtain⟨C,k1,k2,I⟩:=a1;exact⟨C,k1,k2,by rw[ab];simp only[go_sem,simprocAttr,hv,F,hg,q1,q2,H,Q,Z,gd,gl,z,J,hk,a6,g,tf,vA,vD,b1,b3,b4,e1,ei,I]⟩
  ·have J:¬(k:Int)<(O.length:Int):=by omega
   obtain⟨C,k1,k2,I⟩:=a1;exact⟨C,k1,k2,by rw[ab];simp only[go_sem,simprocAttr,hv,F,hg,q1,q2,H,Q,Z,gd,gl,z,J,hk,tf,vA,vD,b1,b3,b4,e1,ei,I]⟩
theorem xiA(ms:List Man)(y:ww ms)(rs:List (Int×Int))(z:rs.length<=1000000):∃O:List t8,O.length<=rs.length/\Dgs O/\call T 124 [.lst 7 (fg ms) .no,.lst 2 (rsv rs) .no] [] 0=okV (.lst 1 (bys O) .no):=by obtain⟨O,k1,k2,h⟩:=xg6 ms y rs z _ 0 [] rfl (aC _) (aM _) (fun x C=>by cases C);rw[show bys []=[]from rfl,ak]at h;refine⟨O,k1,k2, ?_⟩;rw[ccT 124];simp only[go_sem,simprocAttr,h]
theorem xgN(ms:List Man)(J:ww ms):∀(n j:Nat)(O:List t8),ms.length-j=n->j<=ms.length->O.length<=j->Dgs O->
 ∃C:List t8,C.length<=ms.length/\Dgs C/\run T (.loop zr) ⟨[(0,.lst 7 (fg ms) .no),(3,.lst 1 (bys O) (.id 103)),(4,iV j)],[],[103]⟩=
  some (.x 0,⟨[(3,.lst 1 (bys C) (.id 103))],[],[103]⟩):=by
 intro n;have y:=fG ms;have Q:=J.n;induction n with
 |zero=>
  intro j O h0 h1 h2 h3;have hj:j=ms.length:=by omega
  subst hj;refine⟨O,h2,h3, ?_⟩;rw[ab];simp only[go_sem,simprocAttr,y]
 |succ n ih=>
  intro j O h0 h1 h2 h3;have hi:j<ms.length:=by omega
  have F:(j:Int)<(ms.length:Int):=by omega
  have e1:=bJ j;have I:=kD ms j hi;obtain⟨D,Z,gd⟩:=f61 (ms.getD j mn0) (J.m _ (cM ms mn0 j hi));generalize ms.getD j mn0=m at*;have H:=eD O;have K:(O.length+1)*24<=140737488355328:=by omega
  have ei:bys O++ [[bN D]]=bys (O++ [D]):=by simp[bys]
  obtain⟨C,k1,k2,k3⟩:=ih (j+1) (O++ [D]) (by omega) (by omega) (by rw[af,aT];omega) (by
   intro x z;rcases am.1 z with z|z
   ·exact h3 x z
   ·rw[bC.1 z];exact Z)
  unfold Man.sv at*;exact⟨C,k1,k2,by rw[ab];simp only[go_sem,simprocAttr,y,F,I,gd,H,K,ei,e1,k3]⟩
theorem xie(ms:List Man)(y:ww ms):∃O:List t8,O.length<=ms.length/\Dgs O/\call T 196 [.lst 7 (fg ms) .no] [] 0=okV (.lst 1 (bys O) .no):=by obtain⟨O,k1,k2,h⟩:=xgN ms y _ 0 [] rfl (aC _) (aM _) (fun x z=>by cases z);rw[show bys []=[]from rfl,ak]at h;refine⟨O,k1,k2, ?_⟩;rw[ccT 196];simp only[go_sem,simprocAttr,h]
theorem nxe(B:t8)(F:B.length<=1000)(n:Nat)(k:Int)(z:k=n)(y:0<n)(j:Nat):∃v C:Nat,v<n/\call T 15 [.ptr 0 0,iV k] [.rc [bN B,iV j]] 0=some ⟨iV v,[(0,.rc [bN B,iV C])],[]⟩:=
 ⟨_,_,dS B j n y,nxq B F n k z y j⟩
theorem l62(B:t8)(hB:B.length<=1000)(v:t8)(ve fl Z ti:Int)(es:List Ent):∀(n:Nat)(rs:List Rul)(j:Nat)(t:Tok)(tk:LAb),rs.length+n<=100->(∀x∈rs,x.text.length<=20)->tkQ 160 (rs=[]) t tk->
 ∃(z:List Rul)(J:Nat)(I:Tok)(tk':LAb),z.length<=100/\(∀x∈z,x.text.length<=20)/\tkQ 160 (z=[]) I tk'/\
  run T (.loop yW) ⟨[(0,.ptr 0 0),(4,.ptr 104 0),(6,.ptr 106 0),(7,iV n)],[(0,.rc [bN B,iV j]),(104,zR),(106,mR v ve fl Z ti es .no rs t)],tk⟩=
   some (.x 0,⟨[(4,.ptr 104 0),(6,.ptr 106 0)],[(0,.rc [bN B,iV J]),(104,zR),(106,mR v ve fl Z ti es .no z I)],tk'⟩):=by
 intro n;induction n with
 |zero=>intro rs j t tk h0 h1 h2;refine⟨rs,j,t,tk,by omega,h1,h2, ?_⟩;rw[ab];rcases h2 with⟨rfl,rfl,rfl⟩|⟨rfl,rfl⟩<;>simp only[zR,mR]<;>simp only[go_sem,simprocAttr]
 |succ n ih=>
  intro rs j t tk h0 h1 h2;obtain⟨r,j1,hr,g⟩:=xiw B hB j;obtain⟨r1,r2,K,Q⟩:=r;simp only at hr;have hv:=eV rs;have hs:=AE rs r1 r2 K Q;have b1:(rs.length+1)*40<=140737488355328:=by omega
  have hp:(0:Int)<((n+1:Nat):Int):=by omega
  have e1:ah.wrap (((n+1:Nat):Int)-1)=(n:Int):=by rw[w64];omega
  obtain⟨z,J,I,tk',k1,k2,k3,H⟩:=ih (rs++ [⟨r1,r2,K,Q⟩]) j1 (.id 160) [160] (by rw[af,aT];omega) (by
   intro y F;rcases am.1 F with F|F
   ·exact h1 y F
   ·rw[bC.1 F];exact hr) (.inr ⟨rfl,rfl⟩)
  refine⟨z,J,I,tk',k1,k2,k3, ?_⟩;simp only[zR,mR,bE,Rul.sv]at g H ⊢;rw[ab];rcases h2 with⟨rfl,rfl,rfl⟩|⟨rfl,rfl⟩
  ·have C:jS []=[]:=rfl
   simp only[C,aA]at hs H ⊢;rw[<-hs]at H;simp only[go_sem,simprocAttr,hp,e1,g,H]
  ·simp only[go_sem,simprocAttr,hp,e1,g,hv,b1,hs,H]
theorem Ku(v:Nat):(An v).length<=4:=by unfold An;split<;>decide
theorem f62(B:t8)(y:B.length<=1000)(j:Nat)(l:List Img)(hl:∀x∈l,mu x=0)(hn:l.length<=200)(hf:∃k,k<l.length/\(l.getD k im0).role=1):∃(m:Man)(j':Nat),gg m/\call T 62 [.ptr 0 0,.lst 4 (gK l) .no] [bE B j] 0=some ⟨.agg m.sv,[(0,bE B j')],[]⟩:=by
 obtain⟨v0,j1,h0,g0⟩:=nxe B y 4 4 rfl (by decide) j;obtain⟨z,j2,h1,g1⟩:=nxe B y 3 3 rfl (by decide) j1;obtain⟨es,he,I,gd⟩:=f44 l hl (by omega) hf (An z) v0;obtain⟨v2,j3,h2,g2⟩:=nxe B y 3 3 rfl (by decide) j2;have gv:=xix;have a8:=dU es;have e1:=bJ es.length;have e2:=bJ v0;obtain⟨v3,a1,h3,g3⟩:=nxe B y (es.length+1) _ rfl (by omega) j3;obtain⟨F,j4,H,K,hj⟩:∃F j4,F=(if v2=1 then es.take v3 else es)/\j4=(if v2=1 then a1 else j3)/\F.length<=es.length:=⟨_,_,rfl,rfl,by split<;>first|(rw[aw];omega)|omega⟩
 have b0:ot F:=by
  intro x C;rw[H]at C;split at C
  ·exact I x (cg C)
  ·exact I x C
 obtain⟨v4,j5,h4,g4⟩:=nxe B y (v0+1) _ rfl (by omega) j4;obtain⟨v5,j6,h5,g5⟩:=nxe B y 12 12 rfl (by decide) j5;obtain⟨v6,j7,h6,g6⟩:=nxe B y 30 30 rfl (by decide) j6;obtain⟨Q,j8,h7,g7⟩:=nxe B y 2 2 rfl (by decide) j7;obtain⟨v8,j9,h8,g8⟩:=nxe B y 4 4 rfl (by decide) j8;have e3:=bJ v5;have e4:ah.wrap (((v5+1:Nat):Int)+(v6:Int))=((v5+1+v6:Nat):Int):=by rw[w64];omega
 obtain⟨Z,J⟩:∃Z:Int,Z=(if Q=0 then 1099511627776 else((v5+1+v6:Nat):Int)):=⟨_,rfl⟩;obtain⟨rs,j',t,tk,k1,k2,k3,k4⟩:=l62 B y (An z) v0 v4 v5 Z F v8 [] j9 .clip [] (by simp;omega) (fun x C=>by cases C) (.inl ⟨rfl,rfl,rfl⟩);refine⟨⟨An z,v0,v4,v5,Z,F,rs⟩,j',⟨by have:=Ku z;show(An z).length<=_;omega,by show F.length<=_;omega,by show rs.length<=_;omega,b0,fun x C=>by have:=k2 x C;omega⟩, ?_⟩;have ht:(gV es).take v3=gV (es.take v3):=by simp[gV,gw]
 have a7:v3<=es.length:=by omega
 have a6:mT=1099511627776:=rfl;rw[a6]at gd;rw[ccT 62];have q2:((v2:Int)=1)=(v2=1):=by apply propext;omega
 have q7:((Q:Int)=0)=(Q=0):=by apply propext;omega
 simp only[zR,mR,bE,Man.sv,show jS []=[]from rfl]at k4 ⊢
 rcases (by omega:z=0\/z=1\/z=2)with rfl|rfl|rfl<;>simp only[cz0,cz1,cz2]at g1<;>
  by_cases c2:v2=1<;>simp only[c2,reduceIte]at H K<;>subst H K<;>by_cases c7:Q=0<;>simp only[c7,reduceIte]at J<;>subst J<;>rcases k3 with⟨rfl,rfl,rfl⟩|⟨rfl,rfl⟩<;>
  (try simp only[show jS []=[]from rfl]at k4 ⊢)<;>
  simp only[go_sem,simprocAttr,g0,gv,g1,gd,g2,q2,c2,a8,e1,g3,a7,ht,e2,g4,g5,g6,e3,e4,g7,q7,c7,g8,k4]
theorem xgC(e:Ev)(Q:Io e)(ms:List Man)(I:ww ms)(C:aG)(J:C= .rc [iV 0,iV 0]):∀(n i:Nat),ms.length-i=n->i<=ms.length->
 run T (.loop uy) ⟨[(1,.lst 7 (fg ms) .no),(2,.ptr 102 0),(4,.ptr 104 0),(6,iV i)],[(102,.rc e.sv),(104,C)],[]⟩=some (.x 0,⟨[(4,.ptr 104 0)],[(102,.rc e.sv),(104,C)],[]⟩)\/
 ∃p q:Int,run T (.loop uy) ⟨[(1,.lst 7 (fg ms) .no),(2,.ptr 102 0),(4,.ptr 104 0),(6,iV i)],[(102,.rc e.sv),(104,C)],[]⟩=some (.r,⟨[(4,.ptr 104 0),(5,.bool true)],[(102,.rc e.sv),(104,.rc [iV p,iV q])],[]⟩):=by
 subst J;intro n;induction n with
 |zero=>
  intro i hz h1;have hi:i=ms.length:=by omega
  have hv:=fG ms;subst hi;left;rw[ab];simp only[go_sem,simprocAttr,hv]
 |succ n Z=>
  intro i hz h1;have hi:i<ms.length:=by omega
  have y:(i:Int)<(ms.length:Int):=by omega
  have hn:=I.n;have K:=bJ i;have F:=Z (i+1) (by omega) (by omega);have hv:=fG ms;have H:=kD ms i hi;obtain⟨z,g⟩:=xhO (ms.getD i mn0) (I.m _ (cM ms mn0 i hi)) e Q;generalize ms.getD i mn0=m at*;obtain⟨mv,m1,m2,m3,m4,es,rs⟩:=m;obtain⟨g',k,ds,b⟩:=e;simp only[Man.sv,Ev.sv]at*;rw[ab]
  by_cases h:0<=z
  ·exact .inr ⟨i,z,by simp only[go_sem,simprocAttr,y,hv,H,g,h]⟩
  ·simp only[go_sem,simprocAttr,y,K,hv,H,g,h]
   exact F
theorem xhY(e:Ev)(y:Io e)(ms:List Man)(F:ww ms):∃(p q:Int)(b:Bool),call T 258 [.agg e.sv,.lst 7 (fg ms) .no] [] 0=okV (.tup [.agg [iV p,iV q],.bool b]):=by
 obtain⟨c,gc⟩:=xeF e y;have C:=xgC e y ms F _ rfl _ 0 rfl (aC _);have hv:=fG ms;rw[ccT 258];clear y;obtain⟨I,k,H,b⟩:=e;simp only[Ev.sv,ak]at*
 by_cases z:k=5
 ·subst z
  exact⟨-1, -1,true,by simp only[go_sem,simprocAttr]⟩
 by_cases h2:k=2
 ·subst h2
  cases c with
  |true=>exact⟨-1, -1,true,by simp only[go_sem,simprocAttr,gc]⟩
  |false=>
   rcases C with l|⟨p,q,l⟩
   ·exact⟨0,0,false,by simp only[go_sem,simprocAttr,gc,l]⟩
   ·exact⟨p,q,true,by simp only[go_sem,simprocAttr,gc,l]⟩
 ·rcases C with l|⟨p,q,l⟩
  ·exact⟨0,0,false,by simp only[go_sem,simprocAttr,z,h2,l]⟩
  ·exact⟨p,q,true,by simp only[go_sem,simprocAttr,z,h2,l]⟩
theorem xgQ(a z:Int)(C:List Ev)(he:UQ C)(ms:List Man)(hm:ww ms)(H ord:Int)(O:List (Nat×aG))(hO:O=[(102,.rc (bL a z C))]):∀(n i:Nat)(rs:List (Int×Int))(k:Bool),C.length-i=n->i<=C.length->rs.length<=i->
 (∃I k',I.length<=C.length/\run T (.loop pf) ⟨[(1,.lst 7 (fg ms) .no),(2,.ptr 102 0),(8,iV H),(9,iV ord),(10,.lst 2 (rsv rs) (.id 110)),(11,.bool k),(12,iV i)],O,[110]⟩=some (.x 0,⟨[(10,.lst 2 (rsv I) (.id 110)),(11,.bool k')],O,[110]⟩))\/
 ∃I i' c ob,I.length<=C.length/\run T (.loop pf) ⟨[(1,.lst 7 (fg ms) .no),(2,.ptr 102 0),(8,iV H),(9,iV ord),(10,.lst 2 (rsv rs) (.id 110)),(11,.bool k),(12,iV i)],O,[110]⟩=some (.r,⟨[(4,.lst 2 (rsv I) (.id 110)),(5,iV i'),(6,iV c)],ob,[110]⟩):=by
 subst hO;intro n;induction n with
 |zero=>
  intro i rs k h0 h1 h2;have hi:i=C.length:=by omega
  subst hi;have hv:=cW C;refine .inl ⟨rs,k,h2, ?_⟩;unfold bL;rw[ab];simp only[go_sem,simprocAttr,hv]
 |succ n ih=>
  intro i rs k h0 h1 h2;have hi:i<C.length:=by omega
  have F:(i:Int)<(C.length:Int):=by omega
  have hn:=he.n;have e1:=bJ i;obtain⟨ph,_,gp⟩:=xeN (C.getD i ev0);obtain⟨p,q,y,Z⟩:=xhY (C.getD i ev0) (he.e _ (cM C ev0 i hi)) ms hm;have Q:=jg C i hi;have hv:=cW C;have K:=rM rs;have b1:(rs.length+1)*16<=140737488355328:=by omega
  have hs:=K7 rs p q;have J:=fun k'=>ih (i+1) (rs++ [(p,q)]) k' (by omega) (by omega) (by rw[af,ai,al];omega)
  generalize C.getD i ev0=e at*;unfold bL at*;simp only[Ev.sv]at Q gp Z ⊢;rw[ab]
  by_cases o1:ord=0
  ·subst o1
   cases y with
   |false=>exact .inr ⟨rs,_,_,_,by omega,by simp only[go_sem,simprocAttr,F,Q,hv,Z];rfl⟩
   |true=>
    cases k with
    |true=>simp only[go_sem,simprocAttr,F,e1,Q,hv,Z,K,b1,hs];exact J _
    |false=>by_cases o3:ph=4<;>simp only[go_sem,simprocAttr,F,e1,Q,hv,o3,Z,gp,K,b1,hs]<;>exact J _
  ·by_cases o2:(i:Int)=H
   ·subst o2
    exact .inr ⟨rs,_,_,_,by omega,by simp only[go_sem,simprocAttr,F,hv,o1];rfl⟩
   ·cases y with
    |false=>exact .inr ⟨rs,_,_,_,by omega,by simp only[go_sem,simprocAttr,F,Q,hv,o1,o2,Z];rfl⟩
    |true=>
     cases k with
     |true=>simp only[go_sem,simprocAttr,F,e1,Q,hv,o1,o2,Z,K,b1,hs];exact J _
     |false=>by_cases o3:ph=4<;>simp only[go_sem,simprocAttr,F,e1,Q,hv,o1,o2,o3,Z,gp,K,b1,hs]<;>exact J _
theorem xig(a z:Int)(y:List Ev)(J:UQ y)(ms:List Man)(K:ww ms):∃rs n c,rs.length<=y.length/\call T 193 [.agg (bL a z y),.lst 7 (fg ms) .no] [] 0=okV (.tup [.lst 2 (rsv rs) .no,iV n,iV c]):=by
 obtain⟨Q,C,c,H⟩:=xhZ a z y J.n;have I:=xgQ a z y J ms K C c _ rfl _ 0 [] false rfl (aC _) (aC _);have hv:=cW y;rw[ak,show rsv []=[]from rfl]at I;unfold bL at*;rw[ccT 193];rcases I with⟨rs,k,h,l⟩|⟨rs,i,c',ob,h,l⟩
 ·have F:=rM rs
  cases k with
  |true=>exact⟨rs,rs.length,0,h,by simp only[go_sem,simprocAttr,H,l,F]⟩
  |false=>exact⟨rs,rs.length,40,h,by simp only[go_sem,simprocAttr,H,l,F]⟩
 ·exact⟨rs,i,c',h,by simp only[go_sem,simprocAttr,H,l]⟩
def ct0:Ct:=⟨[],0,[],[]⟩
theorem f45(t:Tr):∃au th e,call T 45 [.agg t.sv] [] 0=okV (.tup [.agg (Ct.sv ⟨au,th,[],[]⟩),iV e]):=by
 have g1:=xfi t;obtain⟨au,th⟩:=t;unfold Ct.sv fg jw;simp only[Tr.sv,aK]at*;rw[ccT 45]
 by_cases h:trE ⟨au,th⟩=0
 ·rw[h]at g1
  exact⟨au,th,0,by simp only[go_sem,simprocAttr,g1]⟩
 ·exact⟨[],0,trE ⟨au,th⟩,by simp only[go_sem,simprocAttr,g1,h,show nR []=[]from rfl]⟩
theorem U8(B:t8)(m:Nat)(s:Rs):(wR B m s).1.length<=m:=by
 unfold wR
 repeat' split
 all_goals first|(simp;done)|(rw[aw];omega)
theorem TH{B:t8}{w:Wd}(h:Kk B=some w):w.man.length<=32:=by
 unfold Kk at h;split at h
 ·cases h;exact U8 _ _ _
 ·cases h
structure UT(c c':Ct):Prop where
 bd:tE c'
 m:c'.ms.length<=c.ms.length+1
 w:c'.ws.length<=c.ws.length+1
theorem Hk(c:Ct):UT c ct0:=⟨⟨(fun x y=>by cases y),(fun x y=>by cases y),by decide,by decide⟩,aC _,aC _⟩
theorem f47(c:Ct)(C:tE c)(hn:c.ms.length<=900)(a6:c.ws.length<=900)(B:t8)(ms:List Mk)(hB:B.length<=1000000:=by omega)(hm:ms.length<=1000000:=by omega):
 ∃c' e,UT c c'/\call T 47 [.agg c.sv,.agg (eK B ms)] [] 0=okV (.tup [.agg c'.sv,iV e]):=by
 obtain⟨v,g1⟩:=xiK ⟨c.au,c.th⟩ B ms hB hm;obtain⟨m,d,y,z,Z⟩:=xfg B hB;have g3:=xff B;have H:=fG c.ms;have F:=kx c.ws;have z0:ct0.sv=[.lst 2 [] .no,iV 0,.lst 7 [] .no,.lst 2 [] .no]:=rfl;have Q:ah.wrap ((c.ms.length:Int)+(c.ws.length:Int))=(c.ms.length:Int)+(c.ws.length:Int):=w64
 by_cases hv:v=0
 ·subst hv
  by_cases hd:d=0
  ·subst hd
   obtain⟨K,b,hK,g4⟩:=xiJ c.ms m (fun x I=>(C.m x I).1) y
   by_cases q:16<=(c.ms.length:Int)+(c.ws.length:Int)
   ·cases b with
    |true=>refine⟨c,0,⟨C,fO _,fO _⟩, ?_⟩;clear y z C;unfold Man.sv Ct.sv eK Tr.sv at*;rw[ccT 47];simp only[go_sem,simprocAttr,g1,H,F,Q,q,Z,g4]
    |false=>refine⟨ct0,25,Hk c, ?_⟩;clear y z C;rw[z0];unfold Man.sv Ct.sv eK Tr.sv at*;rw[ccT 47];simp only[go_sem,simprocAttr,g1,H,F,Q,q,Z,g4]
   ·cases b with
    |true=>refine⟨c,0,⟨C,fO _,fO _⟩, ?_⟩;clear y z C;unfold Man.sv Ct.sv eK Tr.sv at*;rw[ccT 47];simp only[go_sem,simprocAttr,g1,H,F,Q,q,Z,g4]
    |false=>
     have r1:fg (c.ms.take K++m::c.ms.drop K)=fg (c.ms.take K)++ [m.sv]++fg (c.ms.drop K):=by simp[fg]
     have t1:=fG (c.ms.take K);have t2:=fG (c.ms.drop K);have t3:(c.ms.take K).length=K:=by rw[aw];omega
     have t4:(c.ms.drop K).length=c.ms.length-K:=aQ;have s1:K*96<=140737488355328:=by omega
     have s2:(K+1)*96<=140737488355328:=by omega
     have s3:(K+1+(c.ms.length-K))*96<=140737488355328:=by omega
     have t5:(fg c.ms).take K=fg (c.ms.take K):=by simp[fg,gw]
     have t6:(fg c.ms).drop K=fg (c.ms.drop K):=by simp[fg,nz]
     have t7:(fg c.ms).take c.ms.length=fg c.ms:=bp (by omega);refine⟨⟨c.au,c.th,c.ms.take K++m::c.ms.drop K,c.ws⟩,0,⟨⟨fun x I=> ?_,C.w,by show((_:List Man)++_).length<=_;rw[lv];omega,C.nw⟩,by show((_:List Man)++_).length<=_;rw[lv];exact aM _,fO _⟩, ?_⟩
     ·rcases pC I with rfl|I
      ·exact⟨y,z rfl⟩
      ·exact C.m x I
     clear y z C;unfold Ct.sv;simp only;rw[r1];unfold Man.sv Ct.sv eK Tr.sv at*;rw[ccT 47];simp only[go_sem,simprocAttr,g1,H,F,Q,q,Z,g4,hK,t5,t6,t1,t2,t3,t4,t7,s1,s2,s3]
  ·obtain⟨w,e',a1,J⟩:∃w e',w.man.length<=32/\call T 109 [bN B] [] 0=okV (.tup [.agg (Wd.sv w),iV e']):=by
    cases hw:Kk B with
    |some w=>rw[hw]at g3;exact⟨w,0,TH hw,g3⟩
    |none=>rw[hw]at g3;exact⟨wd0,30,by decide,g3⟩
   clear g3;obtain⟨K,b,hK,g4⟩:=xiH c.ws w a1 C.w
   by_cases q:16<=(c.ms.length:Int)+(c.ws.length:Int)
   ·cases b with
    |true=>refine⟨c,0,⟨C,fO _,fO _⟩, ?_⟩;clear y z C;unfold Man.sv Wd.sv Ct.sv eK Tr.sv at*;rw[ccT 47];simp only[go_sem,simprocAttr,g1,H,F,Q,q,Z,hd,J,g4]
    |false=>refine⟨ct0,25,Hk c, ?_⟩;clear y z C;rw[z0];unfold Man.sv Wd.sv Ct.sv eK Tr.sv at*;rw[ccT 47];simp only[go_sem,simprocAttr,g1,H,F,Q,q,Z,hd,J,g4]
   ·cases b with
    |true=>refine⟨c,0,⟨C,fO _,fO _⟩, ?_⟩;clear y z C;unfold Man.sv Wd.sv Ct.sv eK Tr.sv at*;rw[ccT 47];simp only[go_sem,simprocAttr,g1,H,F,Q,q,Z,hd,J,g4]
    |false=>
     have r1:jw (c.ws.take K++w::c.ws.drop K)=jw (c.ws.take K)++ [w.sv]++jw (c.ws.drop K):=by simp[jw]
     have t1:=kx (c.ws.take K);have t2:=kx (c.ws.drop K);have t3:(c.ws.take K).length=K:=by rw[aw];omega
     have t4:(c.ws.drop K).length=c.ws.length-K:=aQ;have s1:K*32<=140737488355328:=by omega
     have s2:(K+1)*32<=140737488355328:=by omega
     have s3:(K+1+(c.ws.length-K))*32<=140737488355328:=by omega
     have t5:(jw c.ws).take K=jw (c.ws.take K):=by simp[jw,gw]
     have t6:(jw c.ws).drop K=jw (c.ws.drop K):=by simp[jw,nz]
     have t7:(jw c.ws).take c.ws.length=jw c.ws:=bp (by omega);refine⟨⟨c.au,c.th,c.ms,c.ws.take K++w::c.ws.drop K⟩,0,⟨⟨C.m,fun x I=> ?_,C.nm,by show((_:List Wd)++_).length<=_;rw[lv];omega⟩,fO _,by show((_:List Wd)++_).length<=_;rw[lv];exact aM _⟩, ?_⟩
     ·rcases pC I with rfl|I
      ·exact a1
      ·exact C.w x I
     clear y z C;unfold Ct.sv;simp only;rw[r1];unfold Man.sv Wd.sv Ct.sv eK Tr.sv at*;rw[ccT 47];simp only[go_sem,simprocAttr,g1,H,F,Q,q,Z,hd,J,g4,hK,t5,t6,t1,t2,t3,t4,t7,s1,s2,s3]
 ·refine⟨ct0,v,Hk c, ?_⟩
  clear y z C;rw[z0];unfold Ct.sv eK Tr.sv at*;rw[ccT 47];simp only[go_sem,simprocAttr,g1,hv]
structure SvC(s:Sv)(c:Ct):Prop where
 a:s.A=nR c.au
 t:s.t=c.th
 m:s.M=fg c.ms
 w:s.W=jw c.ws
def swp(s:Sv)(y:List t8):Sv:= {s with l:=⟨s.l.ls.filter (nM s.k y),s.l.hs⟩}
theorem xfc(s:Sv)(c:Ct)(hs:SvC s c)(z:tE c)(H:okL s.l.ls):∃y,call T 125 [.agg s.sv] [] 0=okV (.agg (swp s y).sv):=by obtain⟨O,k1,k2,g1⟩:=xfd c z s.k;have Z:ww O:=⟨by have:=z.nm;omega,fun x J=>(z.m x (k2 x J)).1⟩;obtain⟨y,k3,Q,K⟩:=xie O Z;have g3:=f195 s.l s.k y H ⟨by have:=z.nm;omega,fun b I=>by have:=Q b I;omega⟩;rw[show y.map pJ=bys y from rfl]at g3;refine⟨y, ?_⟩;obtain⟨C,a2,a3,a4⟩:=hs;unfold swp;obtain⟨k,A,t,M,W,key,nx,O',l,E,S⟩:=s;simp only at C a2 a3 a4;subst C a2 a3 a4;generalize l.ls.filter (nM k y)=F at*;unfold Ct.sv at g1;simp only[Ls.sv,iB,iE]at g3;unfold Sv.sv;rw[ccT 125];simp only[go_sem,simprocAttr,g1,K,g3]
theorem f54(s:Sv)(c:Ct)(n:Int)(hs:SvC s c)(K:tE c)(H:okL s.l.ls)(h0:0<=s.k)(h1:s.k<=1000000):
 ∃y e,call T 54 [.agg s.sv,iV n] [] 0=okV (.tup [.agg y.sv,iV e])/\(y=s\/1<=n/\∃z,y=swp {s with k:=s.k+n} z):=by
 by_cases C:n<1
 ·refine⟨s,1, ?_,.inl rfl⟩
  unfold Sv.sv;rw[ccT 54];simp only[go_sem,simprocAttr,C]
 by_cases F:1048576<n
 ·refine⟨s,1, ?_,.inl rfl⟩
  unfold Sv.sv;rw[ccT 54];simp only[go_sem,simprocAttr,C,F]
 have I:ah.wrap (1099511627776-n)=1099511627776-n:=w64;have Q:ah.wrap (s.k+n)=s.k+n:=w64;have J:¬1099511627776-n<s.k:=by omega
 obtain⟨z,g⟩:=xfc {s with k:=s.k+n} c ⟨hs.a,hs.t,hs.m,hs.w⟩ K H;refine⟨_,0, ?_,.inr ⟨by omega,z,rfl⟩⟩;unfold Sv.sv at*;rw[ccT 54];simp only[go_sem,simprocAttr,C,F,J,I,Q,g]
theorem f55(s:Sv)(c:Ct)(B:t8)(ms:List Mk)(hs:SvC s c)(hc:tE c)(Q:okL s.l.ls)(Z:c.ms.length<=900)(H:c.ws.length<=900)(hB:B.length<=1000000)(hm:ms.length<=1000000):
 ∃C e,call T 55 [.agg s.sv,.agg (eK B ms)] [] 0=okV (.tup [.agg C.sv,iV e])/\(C=s\/∃y F,UT c y/\C=swp {s with A:=nR y.au,t:=y.th,M:=fg y.ms,W:=jw y.ws} F):=by
 obtain⟨y,e,z,g1⟩:=f47 c hc Z H B ms hB hm;obtain⟨J,a2,a3,a4⟩:=hs;obtain⟨k,A,t,M,W,key,nx,I,l,E,S⟩:=s;simp only at J a2 a3 a4;subst J a2 a3 a4
 by_cases K:e=0
 ·subst K
  obtain⟨F,g2⟩:=xfc ⟨k,nR y.au,y.th,fg y.ms,jw y.ws,key,nx,I,l,E,S⟩ y ⟨rfl,rfl,rfl,rfl⟩ z.bd Q;refine⟨_,0, ?_,.inr ⟨y,F,z,rfl⟩⟩;unfold Sv.sv Ct.sv eK at*;rw[ccT 55];simp only[go_sem,simprocAttr,g1,g2]
 ·refine⟨⟨k,nR c.au,c.th,fg c.ms,jw c.ws,key,nx,I,l,E,S⟩,e, ?_,.inl rfl⟩
  unfold Sv.sv Ct.sv eK at*;rw[ccT 55];simp only[go_sem,simprocAttr,g1,K]
end Go.Proofs.YtmhhnklkcmpdkaaGreatDoor
