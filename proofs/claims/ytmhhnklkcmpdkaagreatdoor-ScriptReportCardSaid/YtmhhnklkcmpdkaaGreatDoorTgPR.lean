/- Contracts. No condition. -/
import Derived.Test.YtmhhnklkcmpdkaaGreatDoorTfPR
open Int renaming natCast_zero -> ak, reduceAdd -> lm, reduceLE -> cE, reduceLT -> cJ, reduceToNat -> ci, toNat_natCast -> eS
open Go.IntKind renaming bits -> ll, i64 -> ah, signed -> iW, u64 -> az, wrap -> ou
open List renaming append_assoc -> aI, append_nil -> bO, cons_append -> aL, drop_eq_getElem_cons -> bD, drop_eq_nil_of_le -> ez, drop_length -> bx, drop_zero -> bw, flatMap_cons -> cA, flatMap_nil -> ji, flatten_cons -> ly, getD_eq_getElem?_getD -> aa, getElem?_eq_getElem -> ac, getElem_mem -> aF, length_append -> af, length_cons -> ai, length_drop -> aQ, length_map -> av, length_nil -> al, length_set -> bM, length_singleton -> aT, length_take -> aw, map_cons -> ax, map_nil -> aK, mem_append -> am, mem_cons -> aq, mem_cons_of_mem -> an, mem_cons_self -> aD, mem_singleton -> bC, nil_append -> aA, replicate -> aB, set_cons_succ -> bX, set_cons_zero -> bB, singleton_append -> CD, take -> dq, take_of_length_le -> bp, take_zero -> eJ
open Nat renaming le_refl -> aM, le_trans -> fi, reduceAdd -> bt, reduceBEq -> aW, reduceEqDiff -> aJ, reduceLT -> aX, reduceLeDiff -> bK, reduceMul -> eU, zero_le -> aC
open Go.Op renaming bytesLess -> dw
open UInt8 renaming ofInt -> aO
set_option maxRecDepth 100000
set_option maxHeartbeats 16000000
set_option linter.unusedSimpArgs false
set_option linter.unusedVariables false
noncomputable section
namespace Go.Proofs.YtmhhnklkcmpdkaaGreatDoor
open Go.Sy

def fW(x:Int×Int):SV:= .agg [iV x.1,iV x.2]
def lN(x:Int×Int):Prop:=0<=x.1/\x.1<=4095/\0<=x.2/\x.2<=4095
theorem YW(a:Int):∃x,lN x/\call T 190 [iV a] [] 0=okV (fW x):=by
 have z0:az.wrap 0=0:=by decide
 have z:az.wrap 1=1:=by decide
 have k1:ah.wrap 1=1:=by decide
 have k2:ah.wrap 2=2:=by decide
 have y:min 0 64=0:=by decide
 have m1:min 1 64=1:=by decide
 have C:aB 2 [iV 0]=[[iV 0],[iV 0]]:=rfl
 by_cases h0:cy .and .i64 (a.fdiv (2^0)) 1=1
 ·by_cases h1:cy .and .i64 (a.fdiv (2^1)) 1=1
  ·refine⟨(4095,4095),by unfold lN;decide, ?_⟩
   rw[ccT 190];simp only[go_sem,bt,aX,bK,aJ,reduceCtorEq,reduceIte];rw[ab];simp only[go_sem,ci,cE,cJ,lm,bt,aX,aJ,aW,reduceCtorEq,reduceIte,z0,k1,y,h0,C,bB,aL,aA,ai,al,ax,aK,eJ];rw[ab];simp only[go_sem,ci,cE,cJ,lm,bt,aX,aJ,aW,reduceCtorEq,reduceIte,z,k2,m1,h1,bB,bX,aL,aA,ai,al,ax,aK,eJ];rw[ab];simp only[go_sem,cJ,bt,eU,aX,aJ,aW,reduceCtorEq,reduceIte,ly,List.flatten_nil,aL,aA,ai,al,ax,aK,List.take_succ_cons,eJ];rfl
  ·refine⟨(4095,0),by unfold lN;decide, ?_⟩
   rw[ccT 190];simp only[go_sem,bt,aX,bK,aJ,reduceCtorEq,reduceIte];rw[ab];simp only[go_sem,ci,cE,cJ,lm,bt,aX,aJ,aW,reduceCtorEq,reduceIte,z0,k1,y,h0,C,bB,aL,aA,ai,al,ax,aK,eJ];rw[ab];simp only[go_sem,ci,cE,cJ,lm,bt,aX,aJ,aW,reduceCtorEq,reduceIte,z,k2,m1,h1,bB,bX,aL,aA,ai,al,ax,aK,eJ];rw[ab];simp only[go_sem,cJ,bt,eU,aX,aJ,aW,reduceCtorEq,reduceIte,ly,List.flatten_nil,aL,aA,ai,al,ax,aK,List.take_succ_cons,eJ];rfl
 ·by_cases h1:cy .and .i64 (a.fdiv (2^1)) 1=1
  ·refine⟨(0,4095),by unfold lN;decide, ?_⟩
   rw[ccT 190];simp only[go_sem,bt,aX,bK,aJ,reduceCtorEq,reduceIte];rw[ab];simp only[go_sem,ci,cE,cJ,lm,bt,aX,aJ,aW,reduceCtorEq,reduceIte,z0,k1,y,h0,C,bB,aL,aA,ai,al,ax,aK,eJ];rw[ab];simp only[go_sem,ci,cE,cJ,lm,bt,aX,aJ,aW,reduceCtorEq,reduceIte,z,k2,m1,h1,bB,bX,aL,aA,ai,al,ax,aK,eJ];rw[ab];simp only[go_sem,cJ,bt,eU,aX,aJ,aW,reduceCtorEq,reduceIte,ly,List.flatten_nil,aL,aA,ai,al,ax,aK,List.take_succ_cons,eJ];rfl
  ·refine⟨(0,0),by unfold lN;decide, ?_⟩
   rw[ccT 190];simp only[go_sem,bt,aX,bK,aJ,reduceCtorEq,reduceIte];rw[ab];simp only[go_sem,ci,cE,cJ,lm,bt,aX,aJ,aW,reduceCtorEq,reduceIte,z0,k1,y,h0,C,bB,aL,aA,ai,al,ax,aK,eJ];rw[ab];simp only[go_sem,ci,cE,cJ,lm,bt,aX,aJ,aW,reduceCtorEq,reduceIte,z,k2,m1,h1,bB,bX,aL,aA,ai,al,ax,aK,eJ];rw[ab];simp only[go_sem,cJ,bt,eU,aX,aJ,aW,reduceCtorEq,reduceIte,ly,List.flatten_nil,aL,aA,ai,al,ax,aK,List.take_succ_cons,eJ];rfl
theorem f337(x:Int×Int)(h:lN x):call T 337 [fW x] [] 0=okV (.bool true):=by
 obtain⟨a,b⟩:=x;obtain⟨h1,h2,h3,h4⟩:=h;simp only at h1 h2 h3 h4;have z:a<=65535:=by omega
 have y:b<=65535:=by omega
 rw[ccT 337];unfold fW;simp only[go_sem,simprocAttr,h1,h3,z,y]
def oR(x:Int×Int)(d:t8):LAa:=[iV 1,iV x.1,iV x.2,bN d,iV 0,iV 0,bN [],bN [],bN [],.lst 1 [] .no]
def sS(l:List t8):LAa:=[iV 8,iV 0,iV 0,bN [],iV 0,iV 0,bN [],bN [],bN [],.lst 1 (bys l) .no]
theorem xa1(x:Int×Int)(d:t8)(h:lN x):call T 325 [.agg (oR x d)] [] 0=okV (iV (if d.length=32 then 0 else 1)):=by
 have g:=f337 x h;unfold fW at g;rw[ccT 325];unfold oR
 by_cases z:d.length=32
 ·simp only[go_sem,simprocAttr,g,z]
 ·have y:¬(d.length:Int)=32:=by omega
  simp only[go_sem,simprocAttr,g,z,y]
theorem xhG(l:List t8)(K:l.length<=100):∃b,call T 339 [.lst 1 (bys l) .no] [] 0=okV (.bool b):=by
 have hv:=eD l
 have L:∀(n i:Nat),l.length-i=n->i<=l.length->run T (.loop uw) ⟨[(0,.lst 1 (bys l) .no),(3,iV i)],[],[]⟩=some (.x 0,⟨[],[],[]⟩)\/run T (.loop uw) ⟨[(0,.lst 1 (bys l) .no),(3,iV i)],[],[]⟩=some (.r,⟨[(2,.bool false)],[],[]⟩):=by
  intro n;induction n with
  |zero=>
   intro i h0 h1;have:i=l.length:=by omega
   subst this;left;rw[ab];simp only[go_sem,simprocAttr,hv]
  |succ n J=>
   intro i h0 h1;have hi:i<l.length:=by omega
   have y:(i:Int)<(l.length:Int):=by omega
   have H:=jr l i hi;have I:=bJ i;have F:=J (i+1) (by omega) (by omega);rw[ab]
   by_cases z:((l.getD i []).length:Int)=32
   ·simp only[go_sem,simprocAttr,hv,y,H,I,z]
    exact F
   ·right
    simp only[go_sem,simprocAttr,hv,y,H,z]
 have g:=L l.length 0 rfl (aC _);rw[ak]at g
 by_cases h2:(l.length:Int)<2
 ·refine⟨false, ?_⟩
  rw[ccT 339];simp only[go_sem,simprocAttr,hv,h2]
 ·by_cases C:(8:Int)<(l.length:Int)
  ·refine⟨false, ?_⟩
   rw[ccT 339];simp only[go_sem,simprocAttr,hv,h2,C]
  ·rcases g with g|g
   ·refine⟨true, ?_⟩
    rw[ccT 339];simp only[go_sem,simprocAttr,hv,h2,C,g]
   ·refine⟨false, ?_⟩
    rw[ccT 339];simp only[go_sem,simprocAttr,hv,h2,C,g]
theorem xa0(l:List t8)(y:l.length<=100:=by omega):∃c,call T 325 [.agg (sS l)] [] 0=okV (iV c):=by
 obtain⟨b,g⟩:=xhG l y;rw[ccT 325];unfold sS;cases b with
 |true=>exact⟨0,by simp only[go_sem,simprocAttr,g]⟩
 |false=>exact⟨1,by simp only[go_sem,simprocAttr,g]⟩
theorem UE(t:Int)(l:List t8)(F:l.length<=100)(z:∀x∈l,x.length<=10000000):call T 206 [iV t,.lst 1 (bys l) .no] [] 0=okV (bN (frL t l))/\(frL t l).length<=1+10000004*l.length:=by
 have C:∀l:List t8,(∀x∈l,x.length<=10000000)->(frF l).length<=10000004*l.length:=by
  intro l;induction l with
  |nil=>intro _;simp[frF]
  |cons a l I=>
   intro h;have h1:=h a aD;have h2:=I fun y H=>h y (an _ H)
   unfold frF at*;rw[cA,af,af,ai,qT,Nat.mul_succ];omega
 have h3:=C l z;exact⟨P1 t l F (fun i hi=>by rw[db hi];have:=z _ (aF hi);omega),by unfold frL;rw[ai];omega⟩
theorem xaZ(A:t8)(x:Int×Int)(d:t8)(K:A.length<=1000)(J:d.length<=1000):∃R,R.length<=100000000/\call T 326 [bN A,.agg (oR x d)] [] 0=okV (bN R):=by
 have g1:=f74 [] 2 x.1 (by decide) (by decide) (by decide);have z:=f74 ([]++be 2 (az.wrap x.1)) 2 x.2 (by decide) (by decide) (by simp[be]);have I:([]++be 2 (az.wrap x.1)++be 2 (az.wrap x.2)).length<=1000:=by simp[be]
 simp only[aA,show((2:Nat):Int)=2 from rfl]at g1 z I;generalize be 2 (az.wrap x.1)=F at*;generalize be 2 (az.wrap x.2)=H at*;obtain⟨g3,g4⟩:=UE 8 [[aO 1],A,F++H,d] (by simp) (by intro y C;simp at C;rcases C with rfl|rfl|rfl|rfl<;>first|(simp;done)|omega);simp only[bys,ax,aK]at g3;refine⟨frL 8 [[aO 1],A,F++H,d], ?_, ?_⟩
 ·simp at g4 ⊢;omega
 ·rw[ccT 326]
  unfold oR;simp only[go_sem,simprocAttr,g1,z,g3]
theorem xaY(A:t8)(l:List t8)(I:A.length<=1000)(H:l.length<=50)(C:∀x∈l,x.length<=1000):∃R,R.length<=1000000000/\call T 326 [bN A,.agg (sS l)] [] 0=okV (bN R):=by
 have hv:=eD l
 obtain⟨g3,g4⟩:=UE 8 ([aO 8]::l) (by rw[ai];omega) (by
  intro y z;rcases aq.1 z with rfl|z
  ·simp
  ·have:=C y z;omega)
 rw[show bys ([aO 8]::l)=[.byt [aO 8] .no]::bys l from rfl]at g3;have F:(1+l.length)*24<=140737488355328:=by omega
 refine⟨frL 8 ([aO 8]::l), ?_, ?_⟩
 ·rw[ai]at g4
  generalize (frL 8 ([aO 8]::l)).length=q at*;have:10000004*(l.length+1)<=10000004*51:=Nat.mul_le_mul_left _ (by omega);exact fi g4 (fi (Nat.add_le_add_left this 1) (by decide))
 ·rw[ccT 326]
  unfold sS;simp only[go_sem,simprocAttr,g3,hv,F]
theorem xa4(A:t8)(x:Int×Int)(d:t8)(h:lN x)(C:A.length<=1000)(y:d.length<=1000):∃R,R.length<=32/\call T 301 [bN A,.agg (oR x d)] [] 0=okV (bN R):=by
 have g1:=xa1 x d h;obtain⟨F,H,z⟩:=xaZ A x d C y;have g3:=yH F;unfold oR at*
 by_cases y:d.length=32
 ·rw[if_pos y]at g1
  refine⟨sha F,by rw[fC];decide, ?_⟩;rw[ccT 301];simp only[go_sem,simprocAttr,g1,z,g3]
 ·rw[if_neg y]at g1
  refine⟨[],by decide, ?_⟩;rw[ccT 301];simp only[go_sem,simprocAttr,g1]
theorem xa3(A:t8)(l:List t8)(I:A.length<=1000)(C:l.length<=50)(H:∀x∈l,x.length<=1000):∃R,R.length<=32/\call T 301 [bN A,.agg (sS l)] [] 0=okV (bN R):=by
 obtain⟨c,g1⟩:=xa0 l;obtain⟨F,J,z⟩:=xaY A l I C H;have g3:=yH F;unfold sS at*
 by_cases y:c=0
 ·subst y
  refine⟨sha F,by rw[fC];decide, ?_⟩;rw[ccT 301];simp only[go_sem,simprocAttr,g1,z,g3]
 ·refine⟨[],by decide, ?_⟩
  rw[ccT 301];simp only[go_sem,simprocAttr,g1,y]
theorem xeQ(P:LAa)(h:∃R,R.length<=32/\call T 301 [bN (aB 32 0),.agg P] [] 0=okV (bN R))(y:P.length=10)(H:dq 10 (List.map SV.data P)=P)(C:(SV.idsL P).isEmpty=true)(z:SV.bareL P=P):∃R,R.length<=32/\call T 250 [.lst 10 [P] .no] [] 0=okV (bN R):=by
 obtain⟨R,I,g1⟩:=h;have F:=xhS;have k1:ah.wrap 1=1:=rfl;by_cases h0:(R.length:Int)=0
 ·refine⟨[],by decide, ?_⟩
  rw[ccT 250];simp only[go_sem,aX,bK,aJ,aW,reduceCtorEq,reduceIte,F];rw[ab];simp only[go_sem,ci,cE,cJ,aX,aJ,aW,reduceCtorEq,reduceIte,g1,H,C,z,y,aM,ai,al,c1,h0]
 ·refine⟨R,I, ?_⟩
  rw[ccT 250];simp only[go_sem,aX,bK,aJ,aW,reduceCtorEq,reduceIte,F];rw[ab];simp only[go_sem,ci,cE,cJ,lm,aX,aJ,aW,reduceCtorEq,reduceIte,g1,H,C,z,y,aM,ai,al,c1,k1,h0];rw[ab];simp only[go_sem,cJ,aX,aJ,aW,reduceCtorEq,reduceIte,ai,al,c1]
theorem xa6(x:Int×Int)(d:t8)(h:lN x)(y:d.length<=1000:=by omega):∃R,R.length<=32/\call T 250 [.lst 10 [oR x d] .no] [] 0=okV (bN R):=
 xeQ _ (xa4 _ x d h (by simp) y) rfl rfl rfl rfl
theorem xa5(l:List t8)(z:l.length<=50)(y:∀x∈l,x.length<=1000):∃R,R.length<=32/\call T 250 [.lst 10 [sS l] .no] [] 0=okV (bN R):=
 xeQ _ (xa3 _ l (by simp) z y) rfl rfl rfl rfl
theorem f241(l:List t8)(z:1<=l.length)(C:l.length<=50)(y:∀x∈l,x.length<=1000):∃R,R.length<=1000/\call T 241 [.lst 1 (bys l) .no] [] 0=okV (bN R):=by
 have hv:=eD l
 by_cases h1:(l.length:Int)=1
 ·match l,z,h1,y with
  |[a],_,_,y=>refine⟨a,y a (by simp), ?_⟩;rw[ccT 241];simp only[go_sem,simprocAttr,bys,ax,aK,ai,al,show((1:Nat):Int)=1 from rfl]
 ·obtain⟨R,F,g⟩:=xa5 l C y
  refine⟨R,by omega, ?_⟩;unfold sS at g;rw[ccT 241];simp only[go_sem,simprocAttr,hv,h1,g]
theorem xhQ(B:t8)(hB:B.length<=1000000):∃e c,(c=0->rl e)/\call T 303 [bN B] [] 0=okV (.tup [.agg e.sv,iV c]):=by
 have g0:=UI B;have o0:jP B ⟨0,0⟩:=⟨aC _⟩;have g1:=qw B (by omega) 1 (by decide) (by decide) ⟨0,0⟩ o0;have o1:=jA (n:=1) o0;generalize uR B 1 ⟨0,0⟩=u1 at*;obtain⟨x1,s1⟩:=u1;have y:=qw B (by omega) 1 (by decide) (by decide) s1 o1;have o2:=jA (n:=1) o1;generalize uR B 1 s1=u2 at*;obtain⟨x2,s2⟩:=u2;have g3:=Ia B (by omega) 32 (by decide) s2 o2;have K:=tz (n:=32) o2;generalize bR B 32 s2=u3 at*;obtain⟨I,s3⟩:=u3;have g4:=Ia B (by omega) 32 (by decide) s3 K;have Z:=tz (n:=32) K;generalize bR B 32 s3=u4 at*;obtain⟨H,Q⟩:=u4;have z:=Ia B (by omega) 64 (by decide) Q Z;have o5:=tz (n:=64) Z;generalize bR B 64 Q=u5 at*;obtain⟨J,s5⟩:=u5;have C:=f165 B (by omega) s5 o5;generalize eR B s5=c at*;simp only at*;rw[show((1:Nat):Int)=1 from rfl]at g1 y;rw[show((32:Nat):Int)=32 from rfl]at g3 g4;rw[show((64:Nat):Int)=64 from rfl]at z;have F:=xeE ⟨x1,x2,[I,H],J⟩;generalize hw:wrE ⟨x1,x2,[I,H],J⟩=b at*;unfold Ev.sv bls at F;simp only[ax,aK]at F;simp only[rqO,ak]at g0 g1 y g3 g4 z C
 by_cases hc:c=0
 ·subst hc
  cases b with
  |true=>refine⟨⟨x1,x2,[I,H],J⟩,0,fun _=>DP hw, ?_⟩;unfold Ev.sv bls;rw[ccT 303];simp only[go_sem,simprocAttr,g0,g1,y,g3,g4,z,C,F,ax,aK]
  |false=>refine⟨ev0,30,(by intro h;cases h), ?_⟩;unfold Ev.sv bls ev0;rw[ccT 303];simp only[go_sem,simprocAttr,g0,g1,y,g3,g4,z,C,F,ax,aK]
 ·refine⟨ev0,30,(by intro h;cases h), ?_⟩
  unfold Ev.sv bls ev0;rw[ccT 303];simp only[go_sem,simprocAttr,g0,g1,y,g3,g4,z,C,ax,aK,hc]
theorem xh0(B:t8)(j:Nat)(f:Int)(hB:B.length<=8192)(hj:j<=B.length):∃(e:Ev)(Z:Nat)(c:Int),(c=0->rl e/\j<Z/\Z<=B.length)/\call T 254 [bN B,iV j,iV f] [] 0=okV (.tup [.agg e.sv,iV Z,iV c]):=by
 have w1:ah.wrap ((B.length:Int)-(j:Int))=(B.length:Int)-j:=w64
 by_cases h0:(B.length:Int)-(j:Int)<2
 ·refine⟨ev0,0,2,(by intro h;cases h), ?_⟩
  unfold Ev.sv bls ev0;rw[ccT 254];simp only[go_sem,simprocAttr,w1,h0,aK,ak]
 have i0:j<B.length:=by omega
 have K:j+1<B.length:=by omega
 have Q:ah.wrap ((j:Int)+1)=((j+1:Nat):Int):=by rw[w64];omega
 have hx:=(B.getD j 0).toNat_lt;have hy:=(B.getD (j+1) 0).toNat_lt;generalize H:B.getD j 0=X at*;generalize J:B.getD (j+1) 0=Y at*;have F:ah.wrap ((X.toNat:Int)*256)=(X.toNat:Int)*256:=w64;have y:ah.wrap ((X.toNat:Int)*256+(Y.toNat:Int))=((X.toNat*256+Y.toNat:Nat):Int):=by rw[w64];omega
 generalize hn:X.toNat*256+Y.toNat=n at*;have I:ah.wrap ((B.length:Int)-(j:Int)-2)=(B.length:Int)-j-2:=w64
 by_cases h1:(B.length:Int)-(j:Int)-2<(n:Int)
 ·refine⟨ev0,0,2,(by intro h;cases h), ?_⟩
  unfold Ev.sv bls ev0;rw[ccT 254];simp only[go_sem,simprocAttr,w1,h0,i0,K,Q,H,J,F,y,I,h1,aK,ak]
 have w6:ah.wrap ((j:Int)+2)=((j+2:Nat):Int):=by rw[w64];omega
 have w7:ah.wrap (((j+2:Nat):Int)+(n:Int))=((j+2+n:Nat):Int):=by rw[w64];omega
 have c1:j+2<=j+2+n:=by omega
 have c2:j+2+n<=B.length:=by omega
 have c3:((j+2:Nat):Int)<=((j+2+n:Nat):Int):=by omega
 have c4:((j+2+n:Nat):Int)<=(B.length:Int):=by omega
 obtain⟨e,c,hc,g⟩:=xhQ ((B.take (j+2+n)).drop (j+2)) (by rw[aQ,aw];omega);obtain⟨d,hd,g2⟩:=YQ e f;unfold Ev.sv at*
 by_cases z:c=0
 ·subst z
  by_cases C:d=0
  ·subst C
   refine⟨e,j+2+n,0,fun _=>⟨hc rfl,by omega,by omega⟩, ?_⟩;rw[ccT 254];simp only[go_sem,simprocAttr,w1,h0,i0,K,Q,H,J,F,y,I,h1,w6,w7,c3,c4,g,g2]
  ·refine⟨ev0,0,30,(by intro h;cases h), ?_⟩
   unfold ev0 bls;rw[ccT 254];simp only[go_sem,simprocAttr,w1,h0,i0,K,Q,H,J,F,y,I,h1,w6,w7,c3,c4,g,g2,aK,ak,C]
 ·refine⟨ev0,0,30,(by intro h;cases h), ?_⟩
  unfold ev0 bls;rw[ccT 254];simp only[go_sem,simprocAttr,w1,h0,i0,K,Q,H,J,F,y,I,h1,w6,w7,c3,c4,g,aK,ak,z]
theorem uc(l:List Ev)(e:Ev):fA (l++ [e])=fA l++ [e.sv]:=by simp[fA]
def BM(a:Int):Nat->Nat->List Ev
 |_,0=> []
 |i,n+1=>mkV i 2 a [0,0,0,0]::BM a (i+1) n
theorem oA(a:Int):∀n i,(BM a i n).length=n
 |0,_=>rfl
 |n+1,i=>by rw[BM,ai,oA a n]
theorem xaI(L:f9)(a role:Int)(I:ir a):∀(n i:Nat)(y:List Ev),8-i=n->i<=8->y.length<=100000+i->
 run T (.loop ss) ⟨[(0,.lst 4 L .no),(1,iV a),(5,.lst 4 (fA y) (.id 105)),(6,iV role),(7,iV i)],[],[105]⟩=
 some (.x 2,⟨[(0,.lst 4 L .no),(1,iV a),(5,.lst 4 (fA (y++BM a i n)) (.id 105)),(6,iV role)],[],[105]⟩):=by
 have g1:=xeV;intro n;induction n with
 |zero=>
  intro i y h0 h1 h2;have:i=8:=by omega
  subst this;rw[ab];simp only[go_sem,simprocAttr,BM,bO]
 |succ n H=>
  intro i y h0 h1 h2;have hi:(i:Int)<8:=by omega
  have F:=bJ i;have g:=Y0 i 2 a [0,0,0,0] I (by simp);have z:=H (i+1) (y++ [mkV i 2 a [0,0,0,0]]) (by omega) (by omega) (by rw[af,aT];omega);rw[uc,aI,CD]at z;have C:=cW y;have c1:(y.length+1)*64<=140737488355328:=by omega
  rw[ab,BM];simp only[Ev.sv]at g z;simp only[go_sem,simprocAttr,hi,F,g1,g,C,c1,z]
theorem Ed(B:Nat):∀(p:t8)(o:List t8)(l:t8)(y:List t8)(z:t8),o.length<=4->(∀x∈o,x.length<=B)->l.length+p.length<=B->lnF p o l=some (y,z)->y.length<=4/\∀x∈y,x.length<=B
 |[],o,l,y,z,h1,h2,_,h=>by cases h;exact⟨h1,h2⟩
 |c::r,o,l,y,z,h1,h2,h3,h=>by
  rw[ai]at h3;unfold lnF at h;split at h
  ·split at h
   ·cases h
   ·split at h
    ·cases h
    ·refine Ed B r _ _ y z (by rw[af,aT];omega) ?_ (by simp;omega) h
     intro x C;rcases am.1 C with C|C
     ·exact h2 x C
     ·rw[bC.1 C];omega
  ·split at h
   ·cases h
   ·split at h
    ·cases h
    ·exact Ed B r _ _ y z h1 h2 (by rw[af,aT];omega) h
theorem vK(p:t8):(ic p).length<=4/\∀x∈ic p,x.length<=p.length:=by
 unfold ic;split
 ·rename_i o l h
  have:=Ed p.length p [] [] o l (by simp) (by simp) (by simp) h;split
  ·exact⟨by simp,by simp⟩
  ·exact this
 ·exact⟨by simp,by simp⟩
theorem TO(l:List t8)(i:Nat)(h:i<l.length):(bls l).getD i []=[bN (l.getD i [])]:=by simp[bls,aa,h]
theorem xaH(L:f9)(a role:Int)(i:Int)(ls:List t8)(ha:ir a)(H:∀x∈ls,x.length<=1000000)(hn:ls.length<=4):∀(n k:Nat)(y:List Ev),ls.length-k=n->k<=ls.length->y.length<=100000+k->
 run T (.loop sr) ⟨[(0,.lst 4 L .no),(1,iV a),(5,.lst 4 (fA y) (.id 105)),(6,iV role),(8,iV i),(9,.lst 1 (bls ls) .no),(10,iV k)],[],[105]⟩=
 some (.x 6,⟨[(0,.lst 4 L .no),(1,iV a),(5,.lst 4 (fA (y++(ls.drop k).map (mkV 9 3 a))) (.id 105)),(6,iV role),(8,iV i)],[],[105]⟩):=by
 intro n;induction n with
 |zero=>
  intro k y h0 h1 h2;have:k=ls.length:=by omega
  subst this;have F:=tw ls;rw[ab,bx];simp only[go_sem,simprocAttr,F,bO]
 |succ n ih=>
  intro k y h0 h1 h2;have C:k<ls.length:=by omega
  have Z:=bJ k;have F:=tw ls;have K:=TO ls k C;have Q:ls.getD k []∈ls:=by rw[aa,ac C];exact aF _
  have g:=Y0 9 3 a (ls.getD k []) ha (H _ Q);have z:=ih (k+1) (y++ [mkV 9 3 a (ls.getD k [])]) (by omega) (by omega) (by rw[af,aT];omega);have I:ls.drop k=ls.getD k []::ls.drop (k+1):=qa ls k C;rw[uc,aI,CD]at z;rw[I,ax];have J:=cW y;have c1:(y.length+1)*64<=140737488355328:=by omega
  generalize ls.getD k []=d at*;rw[ab];simp only[Ev.sv]at g z;simp only[go_sem,simprocAttr,C,Z,F,K,g,J,c1,z]
def nO(a role:Int)(x:Img):List Ev:=if x.role=role then(if role=4 then(ic x.pay).map (mkV 9 3 a)else [ofI x a])else []
theorem A6(a role:Int)(x:Img):(nO a role x).length<=4:=by
 unfold nO;split
 ·split
  ·rw[av];exact(vK x.pay).1
  ·simp
 ·simp
theorem J0(l:List Img)(hc:dZ l)(a role:Int)(ha:ir a):∀(n i:Nat)(C:List Ev),l.length-i=n->i<=l.length->C.length<=10000+4*i->
 run T (.loop sn) ⟨[(0,.lst 4 (gK l) .no),(1,iV a),(5,.lst 4 (fA C) (.id 105)),(6,iV role),(8,iV i)],[],[105]⟩=
 some (.x 4,⟨[(0,.lst 4 (gK l) .no),(1,iV a),(5,.lst 4 (fA (C++(l.drop i).flatMap (nO a role))) (.id 105)),(6,iV role)],[],[105]⟩):=by
 intro n;induction n with
 |zero=>
  intro i C h0 h1 h2;have:i=l.length:=by omega
  subst this;have H:=gC l;rw[ab,bx];simp only[go_sem,simprocAttr,H,ji,bO]
 |succ n ih=>
  intro i C h0 h1 h2;have hi:i<l.length:=by omega
  have n8:=hc.n8;have Q:=bJ i;have H:=gC l;have K:=jt l i hi;have J:=hc.ok i hi;obtain⟨b1,b2⟩:=zN J;have a1:=A6 a role (l.getD i im0);have z:=ih (i+1) (C++nO a role (l.getD i im0)) (by omega) (by omega) (by rw[af];omega);have hd:l.drop i=l.getD i im0::l.drop (i+1):=by rw[bD hi,aa,ac hi];rfl
  rw[hd,cA];rw[aI]at z;generalize (l.drop (i+1)).flatMap (nO a role)=R at*;rw[ab];have g1:=xeU (l.getD i im0);have g2:=fun h4=>xic (l.getD i im0) a ha J h4
  obtain⟨k1,k2⟩:=vK (l.getD i im0).pay;generalize l.getD i im0=x at*;have g3:=xaH (gK l) a 4 i (ic x.pay) ha (fun y hy=>by have:=k2 y hy;omega) k1 _ 0 C rfl (by omega) (by omega);simp only[ak,bw]at g3;have hl:=cW C;have c1:(C.length+1)*64<=140737488355328:=by omega
  unfold nO at z ⊢
  by_cases F:x.role=role
  ·by_cases h4:role=4
   ·rw[if_pos F,if_pos h4]at z ⊢
    subst h4;obtain⟨Z,na,ve,p⟩:=x;simp only[Img.sv]at*;subst F;simp only[go_sem,simprocAttr,hi,Q,H,K,g1,g3,z]
   ·rw[if_pos F,if_neg h4]at z ⊢
    have I:=g2 (by rw[F];exact h4);obtain⟨Z,na,ve,p⟩:=x;simp only[Img.sv]at*;subst F;rw[<-aI,uc,aI]at z;simp only[Ev.sv]at I z;simp only[go_sem,simprocAttr,hi,Q,H,K,h4,I,hl,c1,z]
  ·rw[if_neg F]at z ⊢
   obtain⟨Z,na,ve,p⟩:=x;simp only[Img.sv,aA,bO]at*;simp only[go_sem,simprocAttr,hi,Q,H,K,F,z]
def evF(l:List Img)(a:Int):List Ev:=l.flatMap (nO a 1)++(l.flatMap (nO a 2)++(BM a 0 8++(l.flatMap (nO a 3)++l.flatMap (nO a 4))))
theorem ju(l:List Img)(a role:Int):(l.flatMap (nO a role)).length<=4*l.length:=by
 induction l with
 |nil=>simp
 |cons x r y=>rw[cA,af,ai];have:=A6 a role x;omega
theorem f129(l:List Img)(z:dZ l)(a:Int)(y:ir a):call T 129 [.lst 4 (gK l) .no,iV a] [] 0=okV (.lst 4 (fA (evF l a)) .no):=by
 have g:=xe6 l z;have n8:=z.n8;have b1:=ju l a 1;have b2:=ju l a 2;have b3:=ju l a 3;have b0:=oA a 8 0;have F:=J0 l z a 1 y _ 0 [] rfl (by omega) (by simp);have K:=J0 l z a 2 y _ 0 (l.flatMap (nO a 1)) rfl (by omega) (by omega);have H:=xaI (gK l) a 3 y _ 0 (l.flatMap (nO a 1)++l.flatMap (nO a 2)) rfl (by omega) (by rw[af];omega);have J:=J0 l z a 3 y _ 0 (l.flatMap (nO a 1)++l.flatMap (nO a 2)++BM a 0 8) rfl (by omega) (by rw[af,af];omega);have I:=J0 l z a 4 y _ 0 (l.flatMap (nO a 1)++l.flatMap (nO a 2)++BM a 0 8++l.flatMap (nO a 3)) rfl (by omega) (by rw[af,af,af];omega);simp only[ak,bw,aA,aI]at F K H J I;have C:fA []=[]:=rfl;rw[C]at F;have Q:¬a<1:=by rcases y with h|h|h<;>omega
 have a3:¬3<a:=by rcases y with h|h|h<;>omega
 have k2:ah.wrap 2=2:=rfl;have Z:ah.wrap 3=3:=rfl;have k4:ah.wrap 4=4:=rfl;have k5:ah.wrap 5=5:=rfl;rw[ccT 129];unfold evF;simp only[go_sem,simprocAttr,g,Q,a3];rw[ab];simp only[go_sem,simprocAttr,k2,F];rw[ab];simp only[go_sem,simprocAttr,Z,K];rw[ab];simp only[go_sem,simprocAttr,k4,H,J];rw[ab];simp only[go_sem,simprocAttr,k5,I];rw[ab];simp only[go_sem,simprocAttr]
theorem xgE(B:t8)(I:11<=B.length)(F:B.length<=8192)(o:aG):∀(n i:Nat)(x:Int),11-i=n->i<=11->∃y,run T (.loop zm) ⟨[(0,bN B),(2,.ptr 102 0),(4,iV x),(5,iV i)],[(102,o)],[]⟩=some (.x 0,⟨[(0,bN B),(2,.ptr 102 0),(4,iV y)],[(102,o)],[]⟩):=by
 intro n;induction n with
 |zero=>
  intro i x h0 h1;have:i=11:=by omega
  subst this;refine⟨x, ?_⟩;rw[ab];simp only[go_sem,simprocAttr,show((11:Nat):Int)=11 from rfl]
 |succ n H=>
  intro i x h0 h1;have hi:i<B.length:=by omega
  have z:(i:Int)<11:=by omega
  have C:=bJ i;obtain⟨y,g⟩:=H (i+1) (ah.wrap (ah.wrap (x*256)+((B.getD i 0).toNat:Int))) (by omega) (by omega);refine⟨y, ?_⟩;rw[ab];simp only[go_sem,simprocAttr,hi,z,C,g]
theorem xh1(B:t8)(C:B.length<=8192:=by omega):∃(f s:Int)(b:Bool),(b=true->11<=B.length)/\call T 253 [bN B] [] 0=okV (.tup [.agg [iV f,iV s,.lst 4 [] .clip],.bool b]):=by
 by_cases h0:(B.length:Int)<11
 ·refine⟨0,0,false,(by intro h;cases h), ?_⟩
  skip
  rw[ccT 253];simp only[go_sem,simprocAttr,h0,aK]
 ·obtain⟨y,g⟩:=xgE B (by omega) C (.rc [iV 0,iV 0,.lst 4 [] .clip]) 6 5 0 rfl (by decide)
  rw[show((5:Nat):Int)=5 from rfl]at g;have c0:(4:Nat)<B.length:=by omega
  have c1:(4:Int)<(B.length:Int):=by omega
  have c2:(11:Int)<=(B.length:Int):=by omega
  obtain⟨H,I,z⟩:=xeM ((B.getD 4 0).toNat:Int) y;have g3:=f95 (B.take 11) H (by rw[aw];omega);generalize F:decide (B.take 11=H)=d at*;cases d with
  |true=>
   refine⟨((B.getD 4 0).toNat:Int),y,true,fun _=>by omega, ?_⟩
   skip
   rw[ccT 253];simp only[go_sem,simprocAttr,h0,g,z,g3,c1,c2,aK]
  |false=>
   refine⟨0,0,false,(by intro h;cases h), ?_⟩
   skip
   rw[ccT 253];simp only[go_sem,simprocAttr,h0,g,z,g3,c1,c2,aK]
theorem Jw(l:List Ev)(e:Ev):fA l++ [[iV e.reg,iV e.kind,.lst 1 (bls e.dg) .no,bN e.data]]=fA (l++ [e]):=by simp[fA,Ev.sv]
def Bn:aG:= .rc [iV 0,iV 0,.lst 4 [] .clip]
theorem xgR(B:t8)(hB:B.length<=8192)(f s:Int):∀(n j:Nat)(l:List Ev)(tk:Tok)(tks:LAb),B.length-j=n->j<=B.length->l.length<=40->(∀e∈l,rl e)->(tk= .clip/\tks=[]\/tk= .id 148/\tks=[148])->
 (∃(Z:List Ev)(tk':Tok)(z:LAb),Z.length<=40/\(∀e∈Z,rl e)/\(tk'= .clip/\z=[]\/tk'= .id 148/\z=[148])/\
  run T (.loop pj) ⟨[(0,bN B),(2,.ptr 102 0),(4,.ptr 104 0),(6,iV j)],[(102,Bn),(104,.rc [iV f,iV s,.lst 4 (fA l) tk])],tks⟩=some (.x 0,⟨[(2,.ptr 102 0),(4,.ptr 104 0)],[(102,Bn),(104,.rc [iV f,iV s,.lst 4 (fA Z) tk'])],z⟩))\/
 ∃(c:Int)(os:List (Nat×aG))(z:LAb),run T (.loop pj) ⟨[(0,bN B),(2,.ptr 102 0),(4,.ptr 104 0),(6,iV j)],[(102,Bn),(104,.rc [iV f,iV s,.lst 4 (fA l) tk])],tks⟩=some (.r,⟨[(2,.ptr 102 0),(3,iV c)],(102,Bn)::os,z⟩):=by
 intro n;induction n using Nat.strongRecOn with
 |_ n ih=>
  intro j l tk tks h0 h1 hl he J;have hv:=cW l
  by_cases K:(j:Int)<(B.length:Int)
  ·by_cases C:(40:Int)<=(l.length:Int)
   ·right
    refine⟨25,[(104,.rc [iV f,iV s,.lst 4 (fA l) tk])],tks, ?_⟩;unfold Bn;rcases J with⟨rfl,rfl⟩|⟨rfl,rfl⟩<;> · rw[ab];simp only[go_sem,simprocAttr,K,hv,C]
   ·obtain⟨e,j',c,hc,g⟩:=xh0 B j f hB h1
    by_cases H:c=0
    ·subst H
     obtain⟨k1,k2,k3⟩:=hc rfl;have hs:=Jw l e;have F:(l.length+1)*64<=140737488355328:=by omega
     have Q:=ih (B.length-j') (by omega) j' (l++ [e]) (.id 148) [148] rfl k3 (by rw[af,ai,al];omega) (by
      intro y I;rcases am.1 I with I|I
      ·exact he y I
      ·rw[bC.1 I];exact k1) (.inr ⟨rfl,rfl⟩)
     unfold Ev.sv at g;unfold Bn at*;rcases J with⟨rfl,rfl⟩|⟨rfl,rfl⟩
     ·rw[ab]
      simp only[go_sem,simprocAttr,K,hv,C,g,hs,F];exact Q
     ·rw[ab]
      simp only[go_sem,simprocAttr,K,hv,C,g,hs,F];exact Q
    ·right
     unfold Ev.sv at g;refine⟨c,[(104,.rc [iV f,iV s,.lst 4 (fA l) tk]),(107,.rc e.sv)],tks, ?_⟩;unfold Bn Ev.sv;rcases J with⟨rfl,rfl⟩|⟨rfl,rfl⟩<;> · rw[ab];simp only[go_sem,simprocAttr,K,hv,C,g,H]
  ·left
   refine⟨l,tk,tks,hl,he,J, ?_⟩;unfold Bn;rcases J with⟨rfl,rfl⟩|⟨rfl,rfl⟩<;> · rw[ab];simp only[go_sem,simprocAttr,K]
theorem xih(B:t8)(H:B.length<=100000000:=by omega):∃(f s:Int)(l:List Ev)(c:Int),l.length<=40/\(∀e∈l,rl e)/\call T 191 [bN B] [] 0=okV (.tup [.agg (bL f s l),iV c]):=by
 by_cases h1:(8192:Int)<(B.length:Int)
 ·refine⟨0,0,[],4,by decide,(by intro e h;cases h), ?_⟩
  unfold bL fA;rw[ccT 191];simp only[go_sem,simprocAttr,h1,aK]
 obtain⟨f,s,b,C,g⟩:=xh1 B;cases b with
 |false=>refine⟨0,0,[],5,by decide,(by intro e h;cases h), ?_⟩;unfold bL fA;rw[ccT 191];simp only[go_sem,simprocAttr,h1,g,aK]
 |true=>
  have y:=C rfl;have L:=xgR B (by omega) f s (B.length-11) 11 [] .clip [] rfl y (by decide) (by intro e h;cases h) (.inl ⟨rfl,rfl⟩);rw[show((11:Nat):Int)=11 from rfl,show fA []=[]from rfl]at L;unfold Bn at L;rcases L with⟨F,tk,tks,h2,h3,z,L⟩|⟨c,os,tks,L⟩
  ·refine⟨f,s,F,0,h2,h3, ?_⟩
   unfold bL;rw[ccT 191];rcases z with⟨rfl,rfl⟩|⟨rfl,rfl⟩<;>simp only[go_sem,simprocAttr,h1,g,L]
  ·refine⟨0,0,[],c,by decide,(by intro e h;cases h), ?_⟩
   unfold bL fA;rw[ccT 191];simp only[go_sem,simprocAttr,h1,g,L,aK]
structure Op where
 n:Int
 m:Int
 u:Int
def Op.sv(o:Op):LAa:=[iV o.n,iV o.m,iV o.u]
def op0:Op:=⟨0,0,0⟩
def jm(l:List Op):f9:=l.map Op.sv
theorem mh(l:List Op):(jm l).length=l.length:=av ..
theorem Lq(l:List Op)(i:Nat)(h:i<l.length):(jm l).getD i []=(l.getD i op0).sv:=by simp[jm,aa,h]
theorem I1(l:List Op)(o:Op):jm l++ [o.sv]=jm (l++ [o]):=by simp[jm]
theorem sL(l:List Op)(o:Op):jm l++ [[iV o.n,iV o.m,iV o.u]]=jm (l++ [o]):=I1 l o
def ey(K:t8)(nx:Int)(l:List Op):LAa:=[bN K,iV nx,.lst 3 (jm l) .no]
theorem xiG(K:t8)(y:K.length=32):call T 113 [bN K] [] 0=okV (.tup [.agg (ey K 1 []),iV 0]):=by
 have h:(K.length:Int)=32:=by omega
 rw[ccT 113];unfold ey jm;simp only[go_sem,simprocAttr,h,aK]
theorem xeY(K:t8)(nx:Int)(l:List Op)(o:Op)(H:K.length=32):∃R,R.length=32/\call T 187 [.agg (ey K nx l),.agg o.sv] [] 0=okV (bN R):=by
 have g1:=f74 [] 8 o.n (by decide) (by decide) (by decide);have y:=f74 ([]++be 8 (az.wrap o.n)) 2 o.m (by decide) (by decide) (by simp[be]);have z:([]++be 8 (az.wrap o.n)++be 2 (az.wrap o.m)).length<=1000:=by simp[be]
 simp only[aA,show((2:Nat):Int)=2 from rfl,show((8:Nat):Int)=8 from rfl]at g1 y z;generalize be 8 (az.wrap o.n)=F at*;generalize be 2 (az.wrap o.m)=C at*;have g:=f244 K [99,104,97,108,108,101,110,103,101] (F++C) 32 (by decide) (by decide) (by omega) (by decide) z;rw[show((32:Nat):Int)=32 from rfl]at g;refine⟨_,kK K [99,104,97,108,108,101,110,103,101] (F++C) 32 (by decide), ?_⟩;unfold ey Op.sv;rw[ccT 187];simp only[go_sem,simprocAttr,g1,y,g]
theorem xeW(N X:t8)(s:Int)(J:N.length<=100000)(I:X.length<=100000:=by omega):∃R,R.length=32/\call T 200 [bN N,iV s,bN X] [] 0=okV (bN R):=by
 have g1:=f74 [] 2 s (by decide) (by decide) (by decide);have H:(be 2 (az.wrap s)).length<=100000:=by simp[be]
 simp only[aA,show((2:Nat):Int)=2 from rfl]at g1;generalize be 2 (az.wrap s)=F at*;have z:=P5 23 [N,F,X] (by simp) (by intro y C;simp at C;rcases C with rfl|rfl|rfl<;>omega);simp only[bys,ax,aK]at z;refine⟨hsh 23 [N,F,X],jn _ _, ?_⟩;rw[ccT 200];simp only[go_sem,simprocAttr,g1,z]
theorem xgU(K:t8)(nx:Int)(l:List Op)(m:Int)(hl:l.length<=1000)(z5:aG)(hz:z5= .rc [iV 0,iV 0,iV 0]):∀(n i:Nat)(y:List Op)(o:Op)(b:Bool),l.length-i=n->i<=l.length->y.length<=i->
 ∃(z:List Op)(H:Op)(F:Bool),z.length<=l.length/\run T (.loop sf) ⟨[(1,iV m),(2,.ptr 102 0),(5,.ptr 105 0),(7,.lst 3 (jm y) (.id 107)),(8,.ptr 108 0),(9,.bool b),(10,iV i)],[(102,.rc (ey K nx l)),(105,z5),(108,.rc o.sv)],[107]⟩=
  some (.x 0,⟨[(5,.ptr 105 0),(7,.lst 3 (jm z) (.id 107)),(8,.ptr 108 0),(9,.bool F)],[(102,.rc (ey K nx l)),(105,z5),(108,.rc H.sv)],[107]⟩):=by
 subst hz;intro n;induction n with
 |zero=>
  intro i y o b h0 h1 h2;have:i=l.length:=by omega
  subst this;have hv:=mh l;refine⟨y,o,b,h2, ?_⟩;rw[ab];unfold ey;simp only[go_sem,simprocAttr,hv]
 |succ n Z=>
  intro i y o b h0 h1 h2;have hi:i<l.length:=by omega
  have C:(i:Int)<(l.length:Int):=by omega
  have hv:=mh l;have J:=Lq l i hi;have Q:=bJ i;have ha:=mh y;generalize l.getD i op0=x at*
  by_cases I:x.m=m
  ·obtain⟨z,H,F,h3,g⟩:=Z (i+1) y x true (by omega) (by omega) (by omega)
   refine⟨z,H,F,h3, ?_⟩;unfold ey Op.sv at*;rw[ab];simp only[go_sem,simprocAttr,hv,C,J,Q,I];rw[I]at g;exact g
  ·obtain⟨z,H,F,h3,g⟩:=Z (i+1) (y++ [x]) o b (by omega) (by omega) (by rw[af,ai,al];omega)
   have hc:(y.length+1)*24<=140737488355328:=by omega
   refine⟨z,H,F,h3, ?_⟩;have hs:=sL y x;unfold ey at*;simp only[Op.sv]at*;rw[ab];simp only[go_sem,simprocAttr,hv,C,J,Q,I,ha,hc,hs,g]
theorem xeZ(K:t8)(nx:Int)(l:List Op)(m:Int)(y:l.length<=1000:=by omega):∃(r:List Op)(o:Op)(b:Bool),r.length<=l.length/\call T 186 [.agg (ey K nx l),iV m] [] 0=some ⟨.tup [.lst 3 (jm r) (.id 60),.agg o.sv,.bool b],[],[60]⟩:=by obtain⟨r,o,b,h,g⟩:=xgU K nx l m y _ rfl l.length 0 [] op0 false rfl (aC _) (aC _);rw[ak]at g;refine⟨r,o,b,h, ?_⟩;rw[show jm []=[]from rfl]at g;unfold ey at*;simp only[Op.sv,op0]at g ⊢;rw[ccT 186];simp only[go_sem,simprocAttr,g]
theorem xiF(K:t8)(nx:Int)(l:List Op)(m y:Int)(J:K.length=32)(Z:l.length<=900:=by omega):∃(H:t8)(z:Int)(F:List Op)(N:t8)(c:Int),(c=0->H=K/\F.length<=l.length+1)/\N.length<=32/\call T 118 [.agg (ey K nx l),iV m,iV y] [] 0=okV (.tup [.agg (ey H z F),bN N,iV c]):=by
 by_cases h0:m<1
 ·refine⟨[],0,[],[],49,(by intro h;cases h),by decide, ?_⟩
  unfold ey;rw[ccT 118];simp only[go_sem,simprocAttr,h0,jm,aK]
 by_cases h1:(4:Int)<m
 ·refine⟨[],0,[],[],49,(by intro h;cases h),by decide, ?_⟩
  unfold ey;rw[ccT 118];simp only[go_sem,simprocAttr,h0,h1,jm,aK]
 by_cases h2:y<0
 ·refine⟨[],0,[],[],1,(by intro h;cases h),by decide, ?_⟩
  unfold ey;rw[ccT 118];simp only[go_sem,simprocAttr,h0,h1,h2,jm,aK]
 by_cases h3:(1099511627776:Int)<y
 ·refine⟨[],0,[],[],1,(by intro h;cases h),by decide, ?_⟩
  unfold ey;rw[ccT 118];simp only[go_sem,simprocAttr,h0,h1,h2,h3,jm,aK]
 by_cases h4:(1099511627776:Int)<=nx
 ·refine⟨[],0,[],[],31,(by intro h;cases h),by decide, ?_⟩
  unfold ey;rw[ccT 118];simp only[go_sem,simprocAttr,h0,h1,h2,h3,h4,jm,aK]
 obtain⟨r,o,b,hr,g⟩:=xeZ K nx l m;have I:=mh r;have Q:(r.length+1)*24<=140737488355328:=by omega
 have hs:=sL r ⟨nx,m,ah.wrap (y+16)⟩;obtain⟨N,hN,C⟩:=xeY K (ah.wrap (nx+1)) (r++ [⟨nx,m,ah.wrap (y+16)⟩]) ⟨nx,m,ah.wrap (y+16)⟩ J;refine⟨K,ah.wrap (nx+1),r++ [⟨nx,m,ah.wrap (y+16)⟩],N,0,fun _=>⟨rfl,by rw[af,ai,al];omega⟩,by omega, ?_⟩;unfold ey at*;simp only[Op.sv]at g C hs;rw[ccT 118];simp only[go_sem,simprocAttr,h0,h1,h2,h3,h4,g,C,I,Q,hs]
theorem xiE(K:t8)(nx:Int)(l:List Op)(m:Int)(X:t8)(y:Int)(I:K.length=32)(Q:l.length<=900)(Z:X.length<=100000):∃(F:List Op)(c:Int),F.length<=l.length/\call T 119 [.agg (ey K nx l),iV m,bN X,iV y] [] 0=okV (.tup [.agg (ey K nx F),iV c]):=by
 by_cases h0:m<1
 ·refine⟨l,49,aM _, ?_⟩
  unfold ey;rw[ccT 119];simp only[go_sem,simprocAttr,h0]
 by_cases h1:(4:Int)<m
 ·refine⟨l,49,aM _, ?_⟩
  unfold ey;rw[ccT 119];simp only[go_sem,simprocAttr,h0,h1]
 obtain⟨r,o,b,C,g⟩:=xeZ K nx l m;obtain⟨N,hN,z⟩:=xeY K nx l o I;have g3:=f95 X N;have J:=mh r;unfold ey at*;simp only[Op.sv]at g z;cases b with
 |false=>refine⟨l,45,aM _, ?_⟩;rw[ccT 119];simp only[go_sem,simprocAttr,h0,h1,g]
 |true=>
  cases hd:decide (X=N)with
  |false=>rw[hd]at g3;refine⟨l,45,aM _, ?_⟩;rw[ccT 119];simp only[go_sem,simprocAttr,h0,h1,g,z,g3]
  |true=>
   rw[hd]at g3
   by_cases H:o.u<=y
   ·refine⟨r,15,C, ?_⟩
    rw[ccT 119];simp only[go_sem,simprocAttr,h0,h1,g,z,g3,H]
   ·refine⟨r,0,C, ?_⟩
    rw[ccT 119];simp only[go_sem,simprocAttr,h0,h1,g,z,g3,H]
theorem xaF(B:t8)(Q:B.length<=1000000000)(a n:Nat)(K:n<=8)(J:a+n<=B.length):∀(m i:Nat)(v:Int),n-i=m->i<=n->
 ∃F,run T (.loop pn) ⟨[(0,.ptr 0 0),(1,iV n),(5,.int .u64 v),(6,iV i)],[(0,rqO B ⟨a,0⟩)],[]⟩=
  some (.x 0,⟨[(0,.ptr 0 0),(1,iV n),(5,.int .u64 F)],[(0,rqO B ⟨a,0⟩)],[]⟩):=by
 intro m;induction m with
 |zero=>
  intro i v h0 h1;have:i=n:=by omega
  subst this;refine⟨v, ?_⟩;rw[ab];simp only[rqO,go_sem,simprocAttr]
 |succ m C=>
  intro i v h0 h1;have hi:i<n:=by omega
  have z:(i:Int)<(n:Int):=by omega
  have H:=bJ i;have I:ah.wrap ((a:Int)+(i:Int))=((a+i:Nat):Int):=by rw[w64];omega
  have y:a+i<B.length:=by omega
  rw[ab];simp only[rqO]at C ⊢;simp only[go_sem,simprocAttr,z,y,H,I];exact C (i+1) _ (by omega) (by omega)
theorem vn(B:t8)(F:B.length<=1000000000)(n:Nat)(h1:1<=n)(I:n<=8)(s:Rs)(hs:jP B s):∃(v:Int)(C:Rs),jP B C/\call T 162 [.ptr 0 0,iV n] [rqO B s] 0=some ⟨iV v,[(0,rqO B C)],[]⟩:=by
 have z:=hs.a;have g1:=MY B F s hs n;have n1:¬(n:Int)<1:=by omega
 have n8:¬(8:Int)<n:=by omega
 have H:ah.wrap ((s.a:Int)+(n:Int))=((s.a+n:Nat):Int):=by rw[w64];omega
 obtain⟨a,e⟩:=s;simp only at z g1 H
 by_cases h0:e=0
 ·subst h0
  rw[if_pos rfl]at g1
  by_cases h:a+n<=B.length
  ·rw[if_pos h]at g1
   obtain⟨v,y⟩:=xaF B F a n I h _ 0 0 rfl (aC _);rw[ak]at y
   by_cases m1:(9223372036854775808:Int)<=v
   ·refine⟨0,⟨a,4⟩,⟨z⟩, ?_⟩
    rw[ccT 162];simp only[rqO]at y g1 ⊢;simp only[go_sem,simprocAttr,n1,n8,g1,y,m1]
   ·refine⟨ah.wrap v,⟨a+n,0⟩,⟨h⟩, ?_⟩
    rw[ccT 162];simp only[rqO]at y g1 ⊢;simp only[go_sem,simprocAttr,n1,n8,g1,y,m1,H]
  ·rw[if_neg h]at g1
   refine⟨0,⟨a,2⟩,⟨z⟩, ?_⟩;rw[ccT 162];simp only[rqO]at g1 ⊢;simp only[go_sem,simprocAttr,n1,n8,g1]
 ·refine⟨0,⟨a,e⟩,⟨z⟩, ?_⟩
  rw[ccT 162];simp only[rqO];simp only[go_sem,simprocAttr,h0]
theorem UH(B:t8)(J:B.length<=1000000000)(n:Nat)(I:n<=1000000)(s:Rs)(hs:jP B s):∃(X:t8)(z:Rs),X.length<=n/\jP B z/\call T 176 [.ptr 0 0,iV n] [rqO B s] 0=some ⟨bN X,[(0,rqO B z)],[]⟩:=by
 have y:=hs.a;have g1:=MY B J s hs n I;have n1:¬(n:Int)<0:=by omega
 have F:ah.wrap ((s.a:Int)+(n:Int))=((s.a+n:Nat):Int):=by rw[w64];omega
 have C:ah.wrap (((s.a+n:Nat):Int)-(n:Int))=(s.a:Int):=by rw[w64];omega
 obtain⟨a,e⟩:=s;simp only at y g1 F C
 by_cases h0:e=0
 ·subst h0
  rw[if_pos rfl]at g1
  by_cases h:a+n<=B.length
  ·rw[if_pos h]at g1
   have c1:(a:Int)<=((a+n:Nat):Int):=by omega
   have c2:((a+n:Nat):Int)<=(B.length:Int):=by omega
   have c3:a<=a+n:=by omega
   have H:((B.take (a+n)).drop a).length<=n:=by rw[aQ,aw];omega
   have c4:((B.take (a+n)).drop a).length<=140737488355328:=by omega
   refine⟨(B.take (a+n)).drop a,⟨a+n,0⟩,H,⟨h⟩, ?_⟩;rw[ccT 176];simp only[rqO]at g1 ⊢;simp only[go_sem,simprocAttr,n1,g1,F,C,c1,c2,c4,aA]
  ·rw[if_neg h]at g1
   refine⟨[],⟨a,2⟩,aC _,⟨y⟩, ?_⟩;rw[ccT 176];simp only[rqO]at g1 ⊢;simp only[go_sem,simprocAttr,n1,g1]
 ·refine⟨[],⟨a,e⟩,aC _,⟨y⟩, ?_⟩
  rw[ccT 176];simp only[rqO];simp only[go_sem,simprocAttr,h0]
def ku(bs:List (List t8))(i:Nat):Bool:=decide (i<bs.length/\0<(bs.getD i []).length)
theorem YM(bs:List (List t8))(n:Int)(i:Nat):call T 306 [.agg (gG bs n),iV i] [] 0=okV (.bool (ku bs i)):=by
 have hv:=kM bs;rw[ccT 306];unfold gG ku
 by_cases hi:i<bs.length
 ·have y:(i:Int)<(bs.length:Int):=by omega
  have F:=mA bs i hi;have C:=eD (bs.getD i [])
  by_cases h0:0<(bs.getD i []).length
  ·have z:(0:Int)<((bs.getD i []).length:Int):=by omega
   simp only[go_sem,simprocAttr,hv,hi,y,F,C,h0,z,and_self,decide_true]
  ·have z:¬(0:Int)<((bs.getD i []).length:Int):=by omega
   simp only[go_sem,simprocAttr,hv,hi,y,F,C,h0,z,and_false,decide_false]
 ·have y:¬(i:Int)<(bs.length:Int):=by omega
  simp only[go_sem,simprocAttr,hv,hi,y,false_and,decide_false]
theorem xeC(n:Nat)(b:UInt8)(hn:n<=1000:=by omega):∃R,R.length=n/\call T 340 [iV n,.u8 b] [] 0=okV (bN R):=by
 have l:∀(k i:Nat)(y:t8),n-i=k->i<=n->y.length=n->∃R,R.length=n/\
  run T (.loop za) ⟨[(0,iV n),(1,.u8 b),(5,.psl 108 1 0 n (some n)),(6,iV i)],[(108,.bar y)],[]⟩=some (.x 0,⟨[(5,.psl 108 1 0 n (some n))],[(108,.bar R)],[]⟩):=by
  intro k;induction k with
  |zero=>
   intro i y h0 h1 h2;have:i=n:=by omega
   subst this;refine⟨y,h2, ?_⟩;rw[ab];simp only[go_sem,simprocAttr]
  |succ k Z=>
   intro i y h0 h1 h2;have hi:i<n:=by omega
   have F:i<y.length:=by omega
   have C:(i:Int)<(n:Int):=by omega
   have Q:=bJ i;obtain⟨R,H,z⟩:=Z (i+1) (y.set i b) (by omega) (by omega) (by rw[bM];exact h2);refine⟨R,H, ?_⟩;rw[ab];simp only[go_sem,simprocAttr,F,C,Q,z]
 obtain⟨R,H,z⟩:=l n 0 (aB n 0) rfl (aC _) (by simp);have K:(n:Int)<=140737488355328:=by omega
 have I:n<=R.length:=by omega
 have J:R.take n=R:=bp (by omega);rw[ak]at z;refine⟨R,H, ?_⟩;rw[ccT 340];simp only[go_sem,simprocAttr,K,z,I,J]
theorem xhK(b:Nat)(J:b<2)(j:Int):∃R,R.length<=32/\20<=R.length/\call T 327 [iV b,iV j] [] 0=okV (bN R):=by
 have g1:=UC b
 have h:∃n:Nat,(if(b:Int)=0 then(20:Int)else if(b:Int)=1 then 32 else 0)=n/\n<=32/\20<=n:=by
  rcases (by omega:b=0\/b=1)with rfl|rfl
  ·exact⟨20,rfl,by decide,by decide⟩
  ·exact⟨32,rfl,by decide,by decide⟩
 obtain⟨n,I,H,C⟩:=h;rw[I]at g1
 by_cases z:(12:Int)<=j
 ·obtain⟨R,F,y⟩:=xeC n 255
  refine⟨R,by omega,by omega, ?_⟩;rw[ccT 327];simp only[go_sem,simprocAttr,g1,y,z]
 ·obtain⟨R,F,y⟩:=xeC n 0
  refine⟨R,by omega,by omega, ?_⟩;rw[ccT 327];simp only[go_sem,simprocAttr,g1,y,z]
structure Ent where
 role:Int
 name:List UInt8
 ver:Int
 dig:List UInt8
def Ent.sv(x:Ent):LAa:=[iV x.role,.str x.name,iV x.ver,bN x.dig]
def lsF:t8->t8->Option Bool
 |a::x,b::y=>if a=b then lsF x y else some (decide (a<b))
 |_,_=>none
theorem AU:∀x y:t8,dw x y=match lsF x y with|some q=>q|none=>decide (x.length<y.length)
 |[],[]=>by simp[lsF,dw]
 |[],_::_=>by simp[lsF,dw]
 |_::_,[]=>by simp[lsF,dw]
 |a::x,b::y=>by
  unfold lsF dw
  by_cases h:a=b
  ·subst h
   rw[if_pos rfl,AU x y];have:¬a<a:=UInt8.lt_irrefl a;simp[this]
  ·rw[if_neg h]
   simp[h]
theorem xgZ(a b:t8)(J:a.length<=1000000000000):∀(n i:Nat),a.length-i=n->i<=a.length->i<=b.length->
 run T (.loop zA) ⟨[(0,bN a),(1,bN b),(5,iV i)],[],[]⟩=
 match lsF (a.drop i) (b.drop i)with
 |some q=>some (.r,⟨[(4,.bool q)],[],[]⟩)
 |none=>some (.x 0,⟨[(0,bN a),(1,bN b)],[],[]⟩):=by
 intro n;induction n with
 |zero=>
  intro i h0 h1 h2;have:i=a.length:=by omega
  subst this;have e:lsF [] (b.drop a.length)=none:=by unfold lsF;rfl
  rw[ab,bx,e];simp only[go_sem,simprocAttr]
 |succ n H=>
  intro i h0 h1 h2;have hi:i<a.length:=by omega
  have F:=bJ i;rw[ab,eg a i hi]
  by_cases y:i<b.length
  ·have C:=H (i+1) (by omega) (by omega) (by omega)
   rw[eg b i y];unfold lsF
   by_cases z:a.getD i 0=b.getD i 0
   ·rw[if_pos z]
    simp only[go_sem,simprocAttr,hi,y,F,z,C]
   ·rw[if_neg z]
    simp only[go_sem,simprocAttr,hi,y,z]
  ·have I:b.drop i=[]:=ez (by omega)
   have e:lsF (a.getD i 0::a.drop (i+1)) []=none:=by unfold lsF;rfl
   rw[I,e];simp only[go_sem,simprocAttr,hi,y]
theorem f172(a b:t8)(y:a.length<=1000000000000:=by omega):call T 172 [bN a,bN b] [] 0=okV (.bool (dw a b)):=by
 have h:=xgZ a b y _ 0 rfl (by omega) (by omega);simp only[ak,bw]at h;rw[ccT 172,AU];cases hq:lsF a b with
 |some q=>rw[hq]at h;simp only[go_sem,simprocAttr,h]
 |none=>rw[hq]at h;simp only[go_sem,simprocAttr,h]
def Nc(x y:Ent):Bool:=if x.role=y.role then(if x.name=y.name then(if x.ver=y.ver then dw x.dig y.dig else decide (x.ver<y.ver))else dw x.name y.name)else decide (x.role<y.role)
theorem Y3(x y:Ent)(z:x.dig.length<=1000000000000:=by omega):call T 103 [.agg x.sv,.agg y.sv] [] 0=okV (.bool (Nc x y)):=by
 have g:=f172 x.dig y.dig z;obtain⟨r,n,v,d⟩:=x;obtain⟨r2,n2,v2,d2⟩:=y;simp only[Ent.sv]at*;rw[ccT 103];unfold Nc
 by_cases h1:r=r2
 ·by_cases h2:n=n2
  ·by_cases h3:v=v2
   ·simp only[go_sem,simprocAttr,h1,h2,h3,g]
   ·simp only[go_sem,simprocAttr,h1,h2,h3]
  ·simp only[go_sem,simprocAttr,h1,h2]
 ·simp only[go_sem,simprocAttr,h1]
structure Qt where
 nm:List UInt8
 no:List UInt8
 c1:Int
 c2:Int
 c3:Int
 b:Bool
 i6:Int
 s0:Int
 s1:Int
 dg:List UInt8
def Qt.sv(q:Qt):LAa:=[bN q.nm,bN q.no,iV q.c1,iV q.c2,iV q.c3,.bool q.b,iV q.i6,iV q.s0,iV q.s1,bN q.dg]
def qt0:Qt:=⟨[],[],0,0,0,false,0,0,0,[]⟩
structure T0(q:Qt):Prop where
 nm:q.nm.length<=1000000
 no:q.no.length<=1000000
 dg:q.dg.length<=32
theorem jf:T0 qt0:=⟨by decide,by decide,by decide⟩
theorem UO(B:t8)(m:Nat)(s:Rs):(bR B m s).1.length<=B.length:=by
 unfold bR
 repeat' split
 all_goals first|(simp only[aw,aQ];omega)|simp
theorem xhR(B:t8)(hB:B.length<=1000000):∃(q:Qt)(c:Int),T0 q/\call T 302 [bN B] [] 0=okV (.tup [.agg q.sv,iV c]):=by
 have g0:=UI B;have o0:jP B ⟨0,0⟩:=⟨aC _⟩;obtain⟨M,s1,hM,o1,g1⟩:=UH B (by omega) 4 (by decide) ⟨0,0⟩ o0;have I:=Ia B (by omega) 32 (by decide) s1 o1;have o2:=tz (n:=32) o1;have l2:=UO B 32 s1;generalize bR B 32 s1=u2 at*;obtain⟨x2,s2⟩:=u2;have g3:=Ia B (by omega) 128 (by decide) s2 o2;have o3:=tz (n:=128) o2;have l3:=UO B 128 s2;generalize bR B 128 s2=u3 at*;obtain⟨x3,s3⟩:=u3;obtain⟨v4,s4,o4,g4⟩:=vn B (by omega) 8 (by decide) (by decide) s3 o3;obtain⟨v5,s5,o5,Q⟩:=vn B (by omega) 8 (by decide) (by decide) s4 o4;obtain⟨v6,s6,o6,C⟩:=vn B (by omega) 8 (by decide) (by decide) s5 o5;obtain⟨v7,s7,o7,J⟩:=vn B (by omega) 1 (by decide) (by decide) s6 o6;obtain⟨v8,s8,o8,K⟩:=vn B (by omega) 8 (by decide) (by decide) s7 o7;obtain⟨v9,s9,o9,F⟩:=vn B (by omega) 2 (by decide) (by decide) s8 o8;obtain⟨va,sa,oa,z⟩:=vn B (by omega) 2 (by decide) (by decide) s9 o9;obtain⟨D,sb,hD,ob,H⟩:=UH B (by omega) 32 (by decide) sa oa;have gc:=f165 B (by omega) sb ob;generalize eR B sb=c at*;have gm:=xeL;have y:=f95 M [83,87,81,49];simp only[rqO,ak,show((4:Nat):Int)=4 from rfl,show((32:Nat):Int)=32 from rfl,show((128:Nat):Int)=128 from rfl,show((8:Nat):Int)=8 from rfl,show((1:Nat):Int)=1 from rfl,show((2:Nat):Int)=2 from rfl]at g0 g1 I g3 g4 Q C J K F z H gc;simp only at l2 l3;obtain⟨a1,e1⟩:=s1;simp only at*
 by_cases h1:e1=0
 ·subst h1
  cases hy:decide (M=[83,87,81,49])with
  |false=>rw[hy]at y;refine⟨qt0,5,jf, ?_⟩;unfold Qt.sv qt0;rw[ccT 302];simp only[go_sem,simprocAttr,g0,g1,gm,y]
  |true=>
   rw[hy]at y
   by_cases hc:c=0
   ·subst hc
    by_cases Z:(x2.length:Int)=32
    ·by_cases h7:(1:Int)<v7
     ·refine⟨qt0,1,jf, ?_⟩
      unfold Qt.sv qt0;rw[ccT 302];simp only[go_sem,simprocAttr,g0,g1,I,g3,g4,Q,C,J,K,F,z,H,gc,gm,y,Z,h7]
     ·refine⟨⟨x2,x3,v4,v5,v6,decide (v7=1),v8,v9,va,D⟩,0,⟨by show x2.length<=_;omega,by show x3.length<=_;omega,hD⟩, ?_⟩
      unfold Qt.sv;rw[ccT 302];simp only[go_sem,simprocAttr,g0,g1,I,g3,g4,Q,C,J,K,F,z,H,gc,gm,y,Z,h7]
    ·refine⟨qt0,1,jf, ?_⟩
     unfold Qt.sv qt0;rw[ccT 302];simp only[go_sem,simprocAttr,g0,g1,I,g3,g4,Q,C,J,K,F,z,H,gc,gm,y,Z]
   ·refine⟨qt0,c,jf, ?_⟩
    unfold Qt.sv qt0;rw[ccT 302];simp only[go_sem,simprocAttr,g0,g1,I,g3,g4,Q,C,J,K,F,z,H,gc,gm,y,hc]
 ·refine⟨qt0,e1,jf, ?_⟩
  unfold Qt.sv qt0;rw[ccT 302];simp only[go_sem,simprocAttr,g0,g1,h1]
theorem JF(L:List t8)(s:t8):bys L++ [[bN s]]=bys (L++ [s]):=by simp[bys]
theorem xas(a:Int)(b:Nat)(hb:b<2)(H:cy .and .i64 (a.fdiv (2^min b 64)) 1=1)(z o:aG)(tks:LAb)(hz:z= .rc [.lst 1 [] .clip,iV 0])(J:(tks=[105]/\o= .rc [.lst 1 [] .clip,iV 0])\/(tks=[105,138]/\∃K,o= .rc [.lst 1 [[.lst 1 (bys K) .no]] (.id 138),iV 0])):∀(n j:Nat)(L:List t8),16-j=n->j<=16->L.length=j->(∀x∈L,x.length<=32)->
 ∃F,F.length=16/\(∀x∈F,x.length<=32)/\run T (.loop oZ) ⟨[(0,iV a),(2,.ptr 102 0),(3,.ptr 103 0),(4,iV b),(5,.lst 1 (bys L) (.id 105)),(6,iV j)],[(102,z),(103,o)],tks⟩=
  some (.x 2,⟨[(0,iV a),(2,.ptr 102 0),(3,.ptr 103 0),(4,iV b),(5,.lst 1 (bys F) (.id 105))],[(102,z),(103,o)],tks⟩):=by
 subst hz;have Q:az.wrap (b:Int)=(b:Int):=by rw[ou];simp[iW,ll];omega
 have I:(0:Int)<=(b:Int):=by omega
 intro n;induction n with
 |zero=>
  intro j L h0 h1 h2 h3;have:j=16:=by omega
  subst this;refine⟨L,h2,h3, ?_⟩;rw[ab];rcases J with⟨rfl,rfl⟩|⟨rfl,K,rfl⟩<;>simp only[go_sem,simprocAttr,show((16:Nat):Int)=16 from rfl]
 |succ n ih=>
  intro j L h0 h1 h2 h3;have hj:(j:Int)<16:=by omega
  have e1:=bJ j;have Z:=eD L;obtain⟨R,hR,a1,g⟩:=xhK b hb j;have hs:=JF L R;have hc:(L.length+1)*24<=140737488355328:=by omega
  obtain⟨F,k1,k2,g2⟩:=ih (j+1) (L++ [R]) (by omega) (by omega) (by rw[af,ai,al];omega) (by
   intro y C;rcases am.1 C with C|C
   ·exact h3 y C
   ·rw[bC.1 C];exact hR)
  refine⟨F,k1,k2, ?_⟩;rw[ab];rcases J with⟨rfl,rfl⟩|⟨rfl,K,rfl⟩<;>simp only[go_sem,simprocAttr,hj,e1,Z,H,Q,I,eS,g,hs,hc,g2]
theorem Ur(a:Int)(b:Nat)(Z:b<2)(z o:aG)(tks:LAb)(J:z= .rc [.lst 1 [] .clip,iV 0])(I:(tks=[105]/\o= .rc [.lst 1 [] .clip,iV 0])\/(tks=[105,138]/\∃K,o= .rc [.lst 1 [[.lst 1 (bys K) .no]] (.id 138),iV 0])):
 ∃C,(C.length=0\/C.length=16)/\(∀x∈C,x.length<=32)/\run T (.loop oZ) ⟨[(0,iV a),(2,.ptr 102 0),(3,.ptr 103 0),(4,iV b),(5,.lst 1 [] (.id 105)),(6,iV 0)],[(102,z),(103,o)],tks⟩=
  some (.x 2,⟨[(0,iV a),(2,.ptr 102 0),(3,.ptr 103 0),(4,iV b),(5,.lst 1 (bys C) (.id 105))],[(102,z),(103,o)],tks⟩):=by
 by_cases y:cy .and .i64 (a.fdiv (2^min b 64)) 1=1
 ·obtain⟨C,h1,h2,g⟩:=xas a b Z y z o tks J I 16 0 [] rfl (by decide) rfl (by intro x H;cases H)
  rw[ak,show bys []=[]from rfl]at g;exact⟨C,.inr h1,h2,g⟩
 ·have Q:az.wrap (b:Int)=(b:Int):=by rw[ou];simp[iW,ll];omega
  have F:(0:Int)<=(b:Int):=by omega
  subst J;refine⟨[],.inl rfl,(by intro x H;cases H), ?_⟩;rw[ab];rcases I with⟨rfl,rfl⟩|⟨rfl,K,rfl⟩<;>simp only[go_sem,simprocAttr,y,Q,F,eS,bys,aK]
theorem xhP(a:Int):∃bs n,rm bs/\call T 304 [iV a] [] 0=okV (.agg (gG bs n)):=by
 by_cases h3:cy .and .i64 a 3=0
 ·refine⟨[],0,⟨by decide,(by intro L y;cases y)⟩, ?_⟩
  rw[ccT 304];unfold gG qB;simp only[go_sem,simprocAttr,h3,aK]
 obtain⟨z,F,a2,g0⟩:=Ur a 0 (by decide) (.rc [.lst 1 [] .clip,iV 0]) (.rc [.lst 1 [] .clip,iV 0]) [105] rfl (.inl ⟨rfl,rfl⟩);obtain⟨H,C,I,g1⟩:=Ur a 1 (by decide) (.rc [.lst 1 [] .clip,iV 0]) (.rc [.lst 1 [[.lst 1 (bys z) .no]] (.id 138),iV 0]) [105,138] rfl (.inr ⟨rfl,_,rfl⟩);simp only[ak,show((1:Nat):Int)=1 from rfl]at g0 g1;have k1:ah.wrap 1=1:=rfl;have k2:ah.wrap 2=2:=rfl;refine⟨[z,H],0,⟨by simp, ?_⟩, ?_⟩
 ·intro L y
  simp at y;rcases y with rfl|rfl
  ·exact⟨F,a2⟩
  ·exact⟨C,I⟩
 rw[ccT 304];unfold gG qB;simp only[go_sem,simprocAttr,h3,ax,aK];rw[ab];simp only[go_sem,simprocAttr,g0,k1];rw[ab];simp only[go_sem,simprocAttr,g1,k2];rw[ab];simp only[go_sem,simprocAttr]
theorem xg9(s:Sv)(m:Int)(K:s.E.length<=1000):∀(n i:Nat),s.E.length-i=n->i<=s.E.length->
 run T (.loop uF) ⟨[(1,iV m),(2,.ptr 102 0),(4,.ptr 104 0),(6,iV i)],[(102,.rc s.sv),(104,.rc [iV 0,iV 0,.lst 5 [] .clip,.byt [] .clip,.byt [] .clip,.byt [] .clip,iV 0,iV 0,iV 0,.byt [] .clip,.byt [] .clip])],[]⟩=
  some (.x 0,⟨[(4,.ptr 104 0)],[(102,.rc s.sv),(104,.rc [iV 0,iV 0,.lst 5 [] .clip,.byt [] .clip,.byt [] .clip,.byt [] .clip,iV 0,iV 0,iV 0,.byt [] .clip,.byt [] .clip])],[]⟩)\/
 ∃e∈s.E,e.m=m/\run T (.loop uF) ⟨[(1,iV m),(2,.ptr 102 0),(4,.ptr 104 0),(6,iV i)],[(102,.rc s.sv),(104,.rc [iV 0,iV 0,.lst 5 [] .clip,.byt [] .clip,.byt [] .clip,.byt [] .clip,iV 0,iV 0,iV 0,.byt [] .clip,.byt [] .clip])],[]⟩=
  some (.r,⟨[(4,.ptr 104 0),(5,.bool true)],[(102,.rc s.sv),(104,.rc e.sv)],[]⟩):=by
 intro n;induction n with
 |zero=>
  intro i h0 h1;have:i=s.E.length:=by omega
  subst this;have hv:=fY s.E;left;rw[ab];unfold Sv.sv;simp only[go_sem,simprocAttr,hv]
 |succ n J=>
  intro i h0 h1;have hi:i<s.E.length:=by omega
  have y:(i:Int)<(s.E.length:Int):=by omega
  have hv:=fY s.E;have F:=mM s.E i hi;have H:s.E.getD i lT∈s.E:=by rw[db hi];exact aF hi
  have I:=bJ i;have C:=J (i+1) (by omega) (by omega);generalize s.E.getD i lT=e at*
  by_cases z:e.m=m
  ·right
   refine⟨e,H,z, ?_⟩;unfold Sv.sv En.sv at*;rw[ab];simp only[go_sem,simprocAttr,hv,y,F,z]
  ·unfold Sv.sv En.sv at*
   rw[ab];simp only[go_sem,simprocAttr,hv,y,F,I,z];exact C
theorem UK(s:Sv)(m:Int)(y:s.E.length<=1000:=by omega):∃(e:En)(b:Bool),(b=true->e∈s.E/\e.m=m)/\call T 114 [.agg s.sv,iV m] [] 0=okV (.tup [.agg e.sv,.bool b]):=by
 rcases xg9 s m y s.E.length 0 rfl (aC _)with g|⟨e,he,hm,g⟩
 ·rw[ak]at g
  refine⟨lT,false,(by intro h;cases h), ?_⟩;unfold Sv.sv at*;unfold En.sv lT;rw[ccT 114];simp only[go_sem,simprocAttr,g]
 ·rw[ak]at g
  refine⟨e,true,fun _=>⟨he,hm⟩, ?_⟩;unfold Sv.sv En.sv at*;rw[ccT 114];simp only[go_sem,simprocAttr,g]
structure Rul where
 kind:Int
 text:List UInt8
 lo:Int
 hi:Int
def Rul.sv(r:Rul):LAa:=[iV r.kind,.str r.text,iV r.lo,iV r.hi]
structure Man where
 vendor:List UInt8
 ver:Int
 flr:Int
 frm:Int
 til:Int
 ents:List Ent
 ruls:List Rul
def gV(l:List Ent):f9:=l.map Ent.sv
def jS(l:List Rul):f9:=l.map Rul.sv
def Man.sv(m:Man):LAa:=[.str m.vendor,iV m.ver,iV m.flr,iV m.frm,iV m.til,.lst 4 (gV m.ents) .no,.lst 4 (jS m.ruls) .no]
def en0:Ent:=⟨0,[],0,[]⟩
def rl0:Rul:=⟨0,[],0,0⟩
theorem dU(l:List Ent):(gV l).length=l.length:=av ..
theorem eV(l:List Rul):(jS l).length=l.length:=av ..
theorem iH(l:List Ent)(i:Nat)(h:i<l.length):(gV l).getD i []=(l.getD i en0).sv:=by simp[gV,aa,h]
theorem mb(l:List Rul)(i:Nat)(h:i<l.length):(jS l).getD i []=(l.getD i rl0).sv:=by simp[jS,aa,h]
structure gg(m:Man):Prop where
 v:m.vendor.length<=1000000
 en:m.ents.length<=1000000
 rn:m.ruls.length<=1000000
 e:∀x∈m.ents,x.name.length<=1000000/\x.dig.length<=1000000
 r:∀x∈m.ruls,x.text.length<=1000000
theorem cM{α:Type}(l:List α)(d:α)(i:Nat)(h:i<l.length):l.getD i d∈l:=by rw[aa,ac h];exact aF _
def uM(l:List Ent)(i:Nat):Int:=
 if(l.getD i en0).role<1 then 1 else if 3<(l.getD i en0).role then 1 else if(l.getD i en0).ver<0 then 1 else if 1000000<(l.getD i en0).ver then 1
 else if((l.getD i en0).dig.length:Int)=32 then(if Pr.nameB (l.getD i en0).name=true then(if i=0 then 0 else if Nc (l.getD (i-1) en0) (l.getD i en0)=true then 0 else 41)else 43)else 1
def lK(l:List Ent):Nat->Nat->Int
 |0,_=>0
 |n+1,i=>if uM l i=0 then lK l n (i+1)else uM l i
def QZ(r:Rul):Int:=chk r.kind r.text r.lo r.hi
def oD:List Rul->Int
 |[]=>0
 |r::t=>if QZ r=0 then oD t else QZ r
def pD(m:Man):Int:=
 if Pr.nameB m.vendor=true then
  (if m.flr<0 then 1 else if m.ver<m.flr then 1 else if 1000000<m.ver then 1 else if m.frm<0 then 1 else if m.til<=m.frm then 1 else if 1099511627776<m.til then 1
  else if(16:Int)<m.ents.length then 4 else if(8:Int)<m.ruls.length then 4 else if lK m.ents m.ents.length 0=0 then oD m.ruls else lK m.ents m.ents.length 0)
 else 43
def qar(u:t8):Ar:=⟨2,7,1,[],u⟩
theorem xa8(u:t8):call T 243 [.agg (qar u).sv] [] 0=okV (iV (if u.length=17 then 0 else 1)):=by
 have g:=YR 2;have k1:cy .and .i64 7 4=4:=by decide
 have k2:cy .and .i64 7 1=1:=by decide
 rw[if_pos rfl]at g;rw[ccT 243];unfold qar Ar.sv
 by_cases h2:u.length=17
 ·simp only[go_sem,simprocAttr,g,h2,k1,k2,show((17:Nat):Int)=17 from rfl]
 ·have y:¬(u.length:Int)=17:=by omega
  simp only[go_sem,simprocAttr,g,h2,y,k1,k2]
theorem xh2(u B S:t8)(J:u.length<=1000)(I:B.length<=1000000):∃(q:Qt)(i c:Int),T0 q/\call T 252 [.agg (qar u).sv,bN B,bN S] [] 0=okV (.tup [.agg q.sv,iV i,iV c]):=by
 have g1:=xa8 u;obtain⟨i,b,y⟩:=xeG u B S;obtain⟨q,c,C,g3⟩:=xhR B I;have g4:=YV (qar u) (by simp[qar]) (by show u.length<=_;omega);have z:=f95 q.nm (lJ 6 (tn (qar u))) (by have:=C.nm;omega);have k1:cy .and .i64 7 4=4:=by decide
 generalize lJ 6 (tn (qar u))=H at*;unfold qar Ar.sv at*
 by_cases h1:u.length=17
 ·rw[if_pos h1]at g1
  cases b with
  |false=>refine⟨qt0,0,17,jf, ?_⟩;unfold Qt.sv qt0;rw[ccT 252];simp only[go_sem,simprocAttr,g1,y,k1]
  |true=>
   by_cases F:c=0
   ·subst F
    cases hd:decide (q.nm=H)with
    |true=>rw[hd]at z;refine⟨q,i,0,C, ?_⟩;unfold Qt.sv at*;rw[ccT 252];simp only[go_sem,simprocAttr,g1,y,g3,g4,z,k1]
    |false=>rw[hd]at z;refine⟨qt0,0,16,jf, ?_⟩;unfold Qt.sv qt0 at*;rw[ccT 252];simp only[go_sem,simprocAttr,g1,y,g3,g4,z,k1]
   ·refine⟨qt0,0,c,jf, ?_⟩
    unfold Qt.sv qt0 at*;rw[ccT 252];simp only[go_sem,simprocAttr,g1,y,g3,k1,F]
 ·rw[if_neg h1]at g1
  refine⟨qt0,0,1,jf, ?_⟩;unfold Qt.sv qt0;rw[ccT 252];simp only[go_sem,simprocAttr,g1]
theorem xid(q:Qt)(h1:q.nm.length<=1000)(h2:q.no.length<=1000)(h3:q.dg.length<=32):∃R,R.length<=10000/\call T 198 [.agg q.sv] [] 0=okV (bN R):=by
 have g0:=xeL;have g1:=og [83,87,81,49] q.nm (by simp);have b1:=fv [83,87,81,49] q.nm;generalize fd [83,87,81,49] q.nm=X1 at*;simp only[ai,al]at b1;have g2:=og X1 q.no;have b2:=fv X1 q.no;generalize fd X1 q.no=I at*;have g3:=f74 I 8 q.c1 (by decide) (by decide);have b3:(I++be 8 (az.wrap q.c1)).length=I.length+8:=by simp[be]
 generalize I++be 8 (az.wrap q.c1)=F at*;have g4:=f74 F 8 q.c2 (by decide) (by decide);have b4:(F++be 8 (az.wrap q.c2)).length=F.length+8:=by simp[be]
 generalize F++be 8 (az.wrap q.c2)=H at*;have g5:=f74 H 8 q.c3 (by decide) (by decide);have b5:(H++be 8 (az.wrap q.c3)).length=H.length+8:=by simp[be]
 generalize H++be 8 (az.wrap q.c3)=y at*;have C:=fun c=>f74 (y++ [c]) 8 q.i6 (by decide) (by decide) (by rw[af,ai,al];omega)
 have b6:∀c,((y++ [c])++be 8 (az.wrap q.i6)).length=y.length+9:=by intro c;simp[be]
 have cc:y.length+1<=140737488355328:=by omega
 have J:=fun c=>f74 ((y++ [c])++be 8 (az.wrap q.i6)) 2 q.s0 (by decide) (by decide) (by rw[b6];omega)
 have b7:∀c,(((y++ [c])++be 8 (az.wrap q.i6))++be 2 (az.wrap q.s0)).length=y.length+11:=by intro c;simp[be]
 have K:=fun c=>f74 (((y++ [c])++be 8 (az.wrap q.i6))++be 2 (az.wrap q.s0)) 2 q.s1 (by decide) (by decide) (by rw[b7];omega)
 have z:∀c,((((y++ [c])++be 8 (az.wrap q.i6))++be 2 (az.wrap q.s0))++be 2 (az.wrap q.s1)).length=y.length+13:=by intro c;simp[be]
 simp only[show((2:Nat):Int)=2 from rfl,show((8:Nat):Int)=8 from rfl]at g3 g4 g5 C J K;generalize be 8 (az.wrap q.i6)=Y6 at*;generalize be 2 (az.wrap q.s0)=Y7 at*;generalize be 2 (az.wrap q.s1)=Z at*;have c9:∀c,((((y++ [c])++Y6)++Y7)++Z).length+q.dg.length<=140737488355328:=by intro c;rw[z];omega
 simp only[aI,aL,aA]at C J K c9;unfold Qt.sv;cases hb:q.b with
 |true=>refine⟨((((y++ [aO 1])++Y6)++Y7)++Z)++q.dg,by rw[af,z];omega, ?_⟩;rw[ccT 198];simp only[go_sem,simprocAttr,g0,g1,g2,g3,g4,g5,C,J,K,cc];rw[if_pos (by have Q:=z (aO 1);simp only[af,ai,al]at Q ⊢;omega)];simp only[go_sem,simprocAttr]
 |false=>refine⟨((((y++ [aO 0])++Y6)++Y7)++Z)++q.dg,by rw[af,z];omega, ?_⟩;rw[ccT 198];simp only[go_sem,simprocAttr,g0,g1,g2,g3,g4,g5,C,J,K,cc];rw[if_pos (by have Q:=z (aO 0);simp only[af,ai,al]at Q ⊢;omega)];simp only[go_sem,simprocAttr]
theorem Us(bs:List (List t8))(m x0 x1 v:Int)(i:Nat)(hi:i<2)(hv:(if i=0 then x0 else x1)=v)(hb:rm bs)(hr:v=0\/(i<bs.length/\(bs.getD i []).length=16))(N:Nat)(hN:N<=100000):∀(n j:Nat)(C:t8),16-j=n->j<=16->C.length<=N+32*j->
 ∃z,z.length<=N+32*16/\run T (.loop rW) ⟨[(2,.ptr 102 0),(3,.ptr 103 0),(7,.byt C (.id 107)),(8,iV i),(9,iV j)],[(102,.rc (gG bs m)),(103,.rc [iV x0,iV x1])],[107]⟩=
  some (.x 4,⟨[(2,.ptr 102 0),(3,.ptr 103 0),(7,.byt z (.id 107)),(8,iV i)],[(102,.rc (gG bs m)),(103,.rc [iV x0,iV x1])],[107]⟩):=by
 intro n;induction n with
 |zero=>
  intro j C h0 h1 h2;have:j=16:=by omega
  subst this;refine⟨C,h2, ?_⟩;rw[ab];unfold gG;simp only[go_sem,simprocAttr,show((16:Nat):Int)=16 from rfl]
 |succ n ih=>
  intro j C h0 h1 h2;have hj:(j:Int)<16:=by omega
  have Z:az.wrap (j:Int)=(j:Int):=by rw[ou];simp[iW,ll];omega
  have F:(0:Int)<=(j:Int):=by omega
  have e1:=bJ j;have J:=kM bs;have a6:(i:Int)<2:=by omega
  by_cases y:cy .and .i64 (v.fdiv (2^min j 64)) 1=1
  ·have hz:¬v=0:=by
    intro hv0;rw[hv0,Int.zero_fdiv]at y;exact absurd y (by decide)
   have H:=hr.resolve_left hz;have hg:=mA bs i H.1;have hL:=(hb.2 (bs.getD i []) (by rw[db H.1];exact aF _)).2;have hl:=eD (bs.getD i []);have I:j<(bs.getD i []).length:=by omega
   have K:=jr (bs.getD i []) j I;have hx:((bs.getD i []).getD j []).length<=32:=by rw[db I];exact hL _ (aF I)
   have a7:i<bs.length:=H.1;have a1:(i:Int)<(bs.length:Int):=by omega
   have Q:(j:Int)<((bs.getD i []).length:Int):=by omega
   generalize bs.getD i []=L at*;generalize hX:L.getD j []=X at*;have hc:C.length+X.length<=140737488355328:=by omega
   obtain⟨z,k1,g⟩:=ih (j+1) (C++X) (by omega) (by omega) (by rw[af];omega);refine⟨z,k1, ?_⟩;unfold gG at*;rw[ab];rcases (by omega:i=0\/i=1)with rfl|rfl
   ·rw[if_pos rfl]at hv
    subst hv;have q0:(0:Int)<(bs.length:Int):=by omega
    simp only[ak]at g;simp only[go_sem,simprocAttr,hj,Z,F,e1,y,J,hg,hl,K,q0,Q,hc,eS,ak,g]
   ·rw[if_neg (by decide)]at hv
    subst hv;have q0:(1:Int)<(bs.length:Int):=by omega
    simp only[show((1:Nat):Int)=1 from rfl]at g;simp only[go_sem,simprocAttr,hj,Z,F,e1,y,J,hg,hl,K,q0,Q,hc,eS,show((1:Nat):Int)=1 from rfl,g]
  ·obtain⟨z,k1,g⟩:=ih (j+1) C (by omega) (by omega) (by omega)
   refine⟨z,k1, ?_⟩;unfold gG at*;rw[ab];rcases (by omega:i=0\/i=1)with rfl|rfl
   ·rw[if_pos rfl]at hv
    subst hv;simp only[ak]at g;simp only[go_sem,simprocAttr,hj,Z,F,e1,y,eS,ak,g]
   ·rw[if_neg (by decide)]at hv
    subst hv;simp only[show((1:Nat):Int)=1 from rfl]at g;simp only[go_sem,simprocAttr,hj,Z,F,e1,y,eS,show((1:Nat):Int)=1 from rfl,g]
theorem xeO(bs:List (List t8))(m:Int)(x:Int×Int)(hb:rm bs)(hx:lN x):∃(D:t8)(c:Int),D.length<=32/\call T 256 [.agg (gG bs m),fW x] [] 0=okV (.tup [bN D,iV c]):=by
 obtain⟨C,x1⟩:=x;obtain⟨h1,h2,h3,h4⟩:=hx;simp only at h1 h2 h3 h4;have n1:¬C<0:=by omega
 have n2:¬(65535:Int)<C:=by omega
 have n3:¬x1<0:=by omega
 have n4:¬(65535:Int)<x1:=by omega
 have k1:ah.wrap 1=1:=rfl;have k2:ah.wrap 2=2:=rfl;have a0:=YM bs m 0;have Q:=YM bs m 1
 have K:∀i,ku bs i=true->i<bs.length/\(bs.getD i []).length=16:=by intro i h;unfold ku at h;rw[decide_eq_true_iff]at h;have:=(hb.2 (bs.getD i []) (by rw[db h.1];exact aF _)).1;exact⟨h.1,by omega⟩
 have g1:=f74 [] 2 C (by decide) (by decide) (by decide);have g2:=f74 ([]++be 2 (az.wrap C)) 2 x1 (by decide) (by decide) (by simp[be]);have l2:([]++be 2 (az.wrap C)++be 2 (az.wrap x1)).length<=1000:=by simp[be]
 simp only[aA,show((2:Nat):Int)=2 from rfl]at g1 g2 l2;generalize be 2 (az.wrap C)=B1 at*;generalize be 2 (az.wrap x1)=B2 at*;simp only[ak,show((1:Nat):Int)=1 from rfl]at a0 Q;unfold fW
 by_cases z0:C≠0/\ku bs 0=false
 ·refine⟨[],27,by decide, ?_⟩
  obtain⟨z,hA⟩:=z0;rw[hA]at a0;unfold gG at*;rw[ccT 256];simp only[go_sem,simprocAttr];rw[ab];simp only[go_sem,simprocAttr,n1,n2,k1];rw[ab];simp only[go_sem,simprocAttr,n3,n4,k2];rw[ab];simp only[go_sem,simprocAttr];rw[ab];simp only[go_sem,simprocAttr,z,a0]
 ·have r0:C=0\/(0<bs.length/\(bs.getD 0 []).length=16):=by
   by_cases F:C=0
   ·exact .inl F
   ·exact .inr (K 0 (by cases h:ku bs 0 with|true=>rfl|false=>exact absurd ⟨F,h⟩ z0))
  obtain⟨A0,a7,Z⟩:=Us bs m C x1 C 0 (by decide) (if_pos rfl) hb r0 0 (by decide) 16 0 [] rfl (by decide) (by decide);simp only[ak]at Z
  by_cases z1:x1≠0/\ku bs 1=false
  ·refine⟨[],27,by decide, ?_⟩
   obtain⟨z,hA⟩:=z1;rw[hA]at Q;unfold gG at*
   have H:C≠0->ku bs 0=true:=by
    intro h;cases h2:ku bs 0 with
    |true=>rfl
    |false=>exact absurd ⟨h,h2⟩ z0
   by_cases F:C=0
   ·subst F
    rw[ccT 256];simp only[go_sem,simprocAttr];rw[ab];simp only[go_sem,simprocAttr,n1,n2,k1];rw[ab];simp only[go_sem,simprocAttr,n3,n4,k2];rw[ab];simp only[go_sem,simprocAttr];rw[ab];simp only[go_sem,simprocAttr,Z,k1];rw[ab];simp only[go_sem,simprocAttr,z,Q]
   ·rw[H F]at a0
    rw[ccT 256];simp only[go_sem,simprocAttr];rw[ab];simp only[go_sem,simprocAttr,n1,n2,k1];rw[ab];simp only[go_sem,simprocAttr,n3,n4,k2];rw[ab];simp only[go_sem,simprocAttr];rw[ab];simp only[go_sem,simprocAttr,F,a0,Z,k1];rw[ab];simp only[go_sem,simprocAttr,z,Q]
  ·have r1:x1=0\/(1<bs.length/\(bs.getD 1 []).length=16):=by
    by_cases F:x1=0
    ·exact .inl F
    ·exact .inr (K 1 (by cases h:ku bs 1 with|true=>rfl|false=>exact absurd ⟨F,h⟩ z1))
   obtain⟨A1,a6,q1⟩:=Us bs m C x1 x1 1 (by decide) (if_neg (by decide)) hb r1 1000 (by decide) 16 0 A0 rfl (by decide) (by omega);simp only[ak,show((1:Nat):Int)=1 from rfl]at q1;have g3:=P5 5 [B1++B2,A1] (by simp) (by intro y I;simp at I;rcases I with rfl|rfl<;>omega);simp only[bys,ax,aK]at g3;refine⟨hsh 5 [B1++B2,A1],0,Nat.le_of_eq (jn _ _), ?_⟩;unfold gG at*
   have H:C≠0->ku bs 0=true:=by
    intro h;cases h2:ku bs 0 with
    |true=>rfl
    |false=>exact absurd ⟨h,h2⟩ z0
   have J:x1≠0->ku bs 1=true:=by
    intro h;cases h2:ku bs 1 with
    |true=>rfl
    |false=>exact absurd ⟨h,h2⟩ z1
   by_cases F:C=0
   ·by_cases I:x1=0
    ·subst F
     subst I;rw[ccT 256];simp only[go_sem,simprocAttr];rw[ab];simp only[go_sem,simprocAttr,n1,n2,k1];rw[ab];simp only[go_sem,simprocAttr,n3,n4,k2];rw[ab];simp only[go_sem,simprocAttr];rw[ab];simp only[go_sem,simprocAttr,Z,k1];rw[ab];simp only[go_sem,simprocAttr,q1,k2];rw[ab];simp only[go_sem,simprocAttr,g1,g2,g3]
    ·subst F
     rw[J I]at Q;rw[ccT 256];simp only[go_sem,simprocAttr];rw[ab];simp only[go_sem,simprocAttr,n1,n2,k1];rw[ab];simp only[go_sem,simprocAttr,n3,n4,k2];rw[ab];simp only[go_sem,simprocAttr];rw[ab];simp only[go_sem,simprocAttr,Z,k1];rw[ab];simp only[go_sem,simprocAttr,I,Q,q1,k2];rw[ab];simp only[go_sem,simprocAttr,g1,g2,g3]
   ·rw[H F]at a0
    by_cases I:x1=0
    ·subst I
     rw[ccT 256];simp only[go_sem,simprocAttr];rw[ab];simp only[go_sem,simprocAttr,n1,n2,k1];rw[ab];simp only[go_sem,simprocAttr,n3,n4,k2];rw[ab];simp only[go_sem,simprocAttr];rw[ab];simp only[go_sem,simprocAttr,F,a0,Z,k1];rw[ab];simp only[go_sem,simprocAttr,q1,k2];rw[ab];simp only[go_sem,simprocAttr,g1,g2,g3]
    ·rw[J I]at Q
     rw[ccT 256];simp only[go_sem,simprocAttr];rw[ab];simp only[go_sem,simprocAttr,n1,n2,k1];rw[ab];simp only[go_sem,simprocAttr,n3,n4,k2];rw[ab];simp only[go_sem,simprocAttr];rw[ab];simp only[go_sem,simprocAttr,F,a0,Z,k1];rw[ab];simp only[go_sem,simprocAttr,I,Q,q1,k2];rw[ab];simp only[go_sem,simprocAttr,g1,g2,g3]
theorem f56(s:Sv)(m:Int)(z:s.l.hs.length<=1000000):call T 56 [.agg s.sv,iV m] [] 0=okV (.tup [.agg (if(kT s.l m).2=0 then {s with l:=(kT s.l m).1}else s).sv,iV (kT s.l m).2]):=by
 have g:=xiz s.l m;unfold MZ Ls.sv iB iE at g;generalize kT s.l m=r at*;obtain⟨C,c⟩:=r
 by_cases y:c=0
 ·subst y
  rw[if_pos rfl];unfold Sv.sv;rw[ccT 56];simp only[go_sem,simprocAttr,g]
 ·rw[if_neg y]
  unfold Sv.sv;rw[ccT 56];simp only[go_sem,simprocAttr,g,y]
def Hx(m:Man)(i:Nat):CSt:=⟨[(1,.ptr 101 0),(3,iV i)],[(101,.rc m.sv)],[]⟩
theorem s54(m:Man)(hm:gg m)(i:Nat)(hi:i<m.ents.length:=by omega):
 (uM m.ents i=0->run T (.loop jU) (Hx m i)=run T (.loop jU) (Hx m (i+1)))/\
 (uM m.ents i≠0->∃ob,run T (.loop jU) (Hx m i)=some (.r,⟨[(2,iV (uM m.ents i))],ob,[]⟩)):=by
 have e1:=bJ i (by have:=hm.en;omega);have hv:=dU m.ents;have H:=iH m.ents i hi;have b1:=hm.e _ (cM m.ents en0 i hi);have F:i-1<m.ents.length:=by omega
 have b2:=hm.e _ (cM m.ents en0 (i-1) F);have g1:=YX (m.ents.getD i en0).name;have Z:=Y3 (m.ents.getD (i-1) en0) (m.ents.getD i en0);have es:0<i->ah.wrap ((i:Int)-1)=((i-1:Nat):Int):=fun h=>by rw[w64 (by omega) (by have:=hm.en;omega)];omega
 have J:=iH m.ents (i-1) F;unfold uM;obtain⟨mv,m1,I,m3,m4,z,rs⟩:=m;simp only[Hx,Man.sv]at*;generalize z.getD i en0=x at*;generalize z.getD (i-1) en0=y at*;obtain⟨r,n,v,d⟩:=x;obtain⟨r2,n2,v2,d2⟩:=y;simp only[Ent.sv]at*
 by_cases C:r<1
 ·refine⟨fun h=>by simp[C]at h,fun _=>⟨[(101,.rc [.str mv,iV m1,iV I,iV m3,iV m4,.lst 4 (gV z) .no,.lst 4 (jS rs) .no]),(104,.rc [iV r,.str n,iV v,bN d])], ?_⟩⟩
  rw[ab];simp only[go_sem,simprocAttr,hi,hv,H,C]
 by_cases a2:3<r
 ·refine⟨fun h=>by simp[C,a2]at h,fun _=>⟨[(101,.rc [.str mv,iV m1,iV I,iV m3,iV m4,.lst 4 (gV z) .no,.lst 4 (jS rs) .no]),(104,.rc [iV r,.str n,iV v,bN d])], ?_⟩⟩
  rw[ab];simp only[go_sem,simprocAttr,hi,hv,H,C,a2]
 by_cases a3:v<0
 ·refine⟨fun h=>by simp[C,a2,a3]at h,fun _=>⟨[(101,.rc [.str mv,iV m1,iV I,iV m3,iV m4,.lst 4 (gV z) .no,.lst 4 (jS rs) .no]),(104,.rc [iV r,.str n,iV v,bN d])], ?_⟩⟩
  rw[ab];simp only[go_sem,simprocAttr,hi,hv,H,C,a2,a3]
 by_cases a4:1000000<v
 ·refine⟨fun h=>by simp[C,a2,a3,a4]at h,fun _=>⟨[(101,.rc [.str mv,iV m1,iV I,iV m3,iV m4,.lst 4 (gV z) .no,.lst 4 (jS rs) .no]),(104,.rc [iV r,.str n,iV v,bN d])], ?_⟩⟩
  rw[ab];simp only[go_sem,simprocAttr,hi,hv,H,C,a2,a3,a4]
 by_cases a5:(d.length:Int)=32
 ·cases a6:Pr.nameB n with
  |false=>rw[a6]at g1;refine⟨fun h=>by simp[C,a2,a3,a4,a5]at h,fun _=>⟨[(101,.rc [.str mv,iV m1,iV I,iV m3,iV m4,.lst 4 (gV z) .no,.lst 4 (jS rs) .no]),(104,.rc [iV r,.str n,iV v,bN d])], ?_⟩⟩;rw[ab];simp only[go_sem,simprocAttr,hi,hv,H,C,a2,a3,a4,a5,g1]
  |true=>
   rw[a6]at g1
   by_cases Q:i=0
   ·subst Q
    have hp:(0:Int)<z.length:=by omega
    have kw:ah.wrap 1=1:=rfl;refine⟨fun _=> ?_,fun h=>by simp[C,a2,a3,a4,a5]at h⟩;rw[ab];simp only[go_sem,simprocAttr,hp,kw,hv,H,C,a2,a3,a4,a5,g1]
   ·have hp:(0:Int)<(i:Nat):=by omega
    have b0:0<i:=by omega
    have K:=es b0;cases a8:Nc ⟨r2,n2,v2,d2⟩ ⟨r,n,v,d⟩with
    |true=>rw[a8]at Z;refine⟨fun _=> ?_,fun h=>by simp[C,a2,a3,a4,a5,Q]at h⟩;rw[ab];simp only[go_sem,simprocAttr,hi,hp,F,K,J,e1,hv,H,C,a2,a3,a4,a5,g1,Z]
    |false=>rw[a8]at Z;refine⟨fun h=>by simp[C,a2,a3,a4,a5,Q]at h,fun _=>⟨[(101,.rc [.str mv,iV m1,iV I,iV m3,iV m4,.lst 4 (gV z) .no,.lst 4 (jS rs) .no]),(104,.rc [iV r,.str n,iV v,bN d])], ?_⟩⟩;rw[ab];simp only[go_sem,simprocAttr,hi,hp,F,K,J,hv,H,C,a2,a3,a4,a5,g1,Z,Q]
 ·refine⟨fun h=>by simp[C,a2,a3,a4,a5]at h,fun _=>⟨[(101,.rc [.str mv,iV m1,iV I,iV m3,iV m4,.lst 4 (gV z) .no,.lst 4 (jS rs) .no]),(104,.rc [iV r,.str n,iV v,bN d])], ?_⟩⟩
  rw[ab];simp only[go_sem,simprocAttr,hi,hv,H,C,a2,a3,a4,a5]
theorem xha(m:Man)(C:gg m):∀(n i:Nat),m.ents.length-i=n->i<=m.ents.length->
 (lK m.ents n i=0->run T (.loop jU) (Hx m i)=some (.x 0,⟨[(1,.ptr 101 0)],[(101,.rc m.sv)],[]⟩))/\
 (lK m.ents n i≠0->∃ob,run T (.loop jU) (Hx m i)=some (.r,⟨[(2,iV (lK m.ents n i))],ob,[]⟩)):=by
 intro n;induction n with
 |zero=>
  intro i h0 h1;have:i=m.ents.length:=by omega
  subst this;refine⟨fun _=> ?_,fun h=>absurd rfl h⟩;rw[ab];have hv:=dU m.ents;obtain⟨mv,m1,I,m3,m4,y,rs⟩:=m;simp only[Hx,Man.sv]at*;simp only[go_sem,simprocAttr,hv]
 |succ n H=>
  intro i h0 h1;obtain⟨s1,s2⟩:=s54 m C i;obtain⟨z,i2⟩:=H (i+1) (by omega) (by omega);unfold lK
  by_cases h:uM m.ents i=0
  ·rw[if_pos h,s1 h];exact⟨z,i2⟩
  ·rw[if_neg h];exact⟨fun F=>absurd F h,s2⟩
theorem xaK(m:Man)(Q:gg m)(ob:List (Nat×aG))(F:ob=[(101,.rc m.sv)]):∀(n i:Nat),m.ruls.length-i=n->i<=m.ruls.length->
 (oD (m.ruls.drop i)=0->run T (.loop pu) ⟨[(1,.ptr 101 0),(5,iV i)],ob,[]⟩=some (.x 2,⟨[],ob,[]⟩))/\
 (oD (m.ruls.drop i)≠0->∃y,run T (.loop pu) ⟨[(1,.ptr 101 0),(5,iV i)],ob,[]⟩=some (.r,⟨[(2,iV (oD (m.ruls.drop i)))],y,[]⟩)):=by
 intro n;induction n with
 |zero=>
  intro i h0 h1;have:i=m.ruls.length:=by omega
  subst this;rw[bx];refine⟨fun _=> ?_,fun h=>absurd rfl h⟩;have hv:=eV m.ruls;obtain⟨mv,m1,K,m3,m4,z,rs⟩:=m;subst F;simp only[Man.sv]at*;rw[ab];simp only[go_sem,simprocAttr,hv]
 |succ n ih=>
  intro i h0 h1;have hi:i<m.ruls.length:=by omega
  obtain⟨i1,i2⟩:=ih (i+1) (by omega) (by omega);have Z:=bJ i (by have:=Q.rn;omega);have hv:=eV m.ruls;have H:=mb m.ruls i hi;have hd:m.ruls.drop i=m.ruls.getD i rl0::m.ruls.drop (i+1):=by rw[bD hi,aa,ac hi];rfl
  have hb:=Q.r _ (cM m.ruls rl0 i hi);rw[hd];unfold oD;generalize m.ruls.drop (i+1)=R at*;generalize m.ruls.getD i rl0=x at*;obtain⟨mv,m1,K,m3,m4,z,rs⟩:=m;obtain⟨k,t,lo,C⟩:=x;simp only[Man.sv,Rul.sv]at*;subst F;have g:=xe2 k t lo C
  by_cases h:QZ ⟨k,t,lo,C⟩=0
  ·rw[if_pos h]
   unfold QZ at h;simp only at h;rw[h]at g;refine⟨fun h2=> ?_,fun h2=> ?_⟩
   ·have J:=i1 h2
    rw[ab];simp only[go_sem,simprocAttr,hi,Z,hv,H,g,J]
   ·obtain⟨y,I⟩:=i2 h2
    refine⟨y, ?_⟩;rw[ab];simp only[go_sem,simprocAttr,hi,Z,hv,H,g,I]
  ·rw[if_neg h]
   unfold QZ at h ⊢;simp only at h ⊢;refine⟨fun h2=>absurd h2 h,fun h2=>⟨[(101,.rc [.str mv,iV m1,iV K,iV m3,iV m4,.lst 4 (gV z) .no,.lst 4 (jS rs) .no])], ?_⟩⟩;rw[ab];simp only[go_sem,simprocAttr,hi,hv,H,g,h]
theorem Y2(m:Man)(Z:gg m):call T 111 [.agg m.sv] [] 0=okV (iV (pD m)):=by
 have g1:=YX m.vendor (by have:=Z.v;omega);obtain⟨l1,l2⟩:=xha m Z _ 0 rfl (by omega);obtain⟨r1,r2⟩:=xaK m Z _ rfl _ 0 rfl (by omega);have hv:=dU m.ents;have J:=eV m.ruls;obtain⟨mv,m1,m2,m3,m4,z,rs⟩:=m;simp only[Hx,Man.sv,ak,bw,Nat.sub_zero]at*;rw[ccT 111];unfold pD;simp only;cases a0:Pr.nameB mv with
 |false=>rw[a0]at g1;simp only[go_sem,simprocAttr,g1]
 |true=>
  rw[a0]at g1
  by_cases y:m2<0
  ·simp only[go_sem,simprocAttr,g1,y]
  by_cases a2:m1<m2
  ·simp only[go_sem,simprocAttr,g1,y,a2]
  by_cases a3:1000000<m1
  ·simp only[go_sem,simprocAttr,g1,y,a2,a3]
  by_cases a4:m3<0
  ·simp only[go_sem,simprocAttr,g1,y,a2,a3,a4]
  by_cases a5:m4<=m3
  ·simp only[go_sem,simprocAttr,g1,y,a2,a3,a4,a5]
  by_cases C:1099511627776<m4
  ·simp only[go_sem,simprocAttr,g1,y,a2,a3,a4,a5,C]
  by_cases F:(16:Int)<z.length
  ·simp only[go_sem,simprocAttr,g1,y,a2,a3,a4,a5,C,F,hv]
  by_cases I:(8:Int)<rs.length
  ·simp only[go_sem,simprocAttr,g1,y,a2,a3,a4,a5,C,F,I,hv,J]
  by_cases a9:lK z z.length 0=0
  ·have H:=l1 a9
   by_cases K:oD rs=0
   ·have b2:=r1 K
    simp only[go_sem,simprocAttr,g1,y,a2,a3,a4,a5,C,F,I,hv,J,H,a9,b2,K]
   ·obtain⟨ob,Q⟩:=r2 K
    simp only[go_sem,simprocAttr,g1,y,a2,a3,a4,a5,C,F,I,hv,J,H,a9,Q]
  ·obtain⟨ob,b1⟩:=l2 a9
   simp only[go_sem,simprocAttr,g1,y,a2,a3,a4,a5,C,F,I,hv,J,b1,a9]
end Go.Proofs.YtmhhnklkcmpdkaaGreatDoor
