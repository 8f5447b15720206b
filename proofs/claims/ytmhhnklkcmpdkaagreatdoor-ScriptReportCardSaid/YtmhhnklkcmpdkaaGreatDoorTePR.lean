/- Contracts. No condition. -/
import Derived.Test.YtmhhnklkcmpdkaaGreatDoorTcPR
open Bool renaming false_eq_true -> aP
open Int renaming natCast_zero -> ak, tmod_eq_emod_of_nonneg -> fN
open Go.IntKind renaming i64 -> ah
open List renaming Pairwise -> gx, all_eq_true -> aZ, append_assoc -> aI, append_nil -> bO, cons_append -> aL, drop -> gT, drop_eq_getElem_cons -> bD, drop_eq_nil_of_le -> ez, drop_length -> bx, drop_zero -> bw, filter_cons -> fb, filter_eq_self -> gF, find?_cons -> Bl, flatMap_cons -> cA, flatMap_nil -> ji, getD_cons_succ -> cZ, getD_eq_getElem?_getD -> aa, getElem?_eq_getElem -> ac, getElem?_eq_none -> fI, getElem?_map -> aR, getElem?_range -> cN, getElem_mem -> aF, length_append -> af, length_cons -> ai, length_drop -> aQ, length_map -> av, length_nil -> al, length_range -> uj, length_take -> aw, map_append -> b9, map_cons -> ax, map_drop -> nz, map_nil -> aK, map_take -> gw, mem_append -> am, mem_cons -> aq, mem_cons_of_mem -> an, mem_cons_self -> aD, mem_filter -> dY, mem_map -> aS, mem_map_of_mem -> co, mem_of_mem_drop -> ny, mem_of_mem_take -> cg, mem_range -> gO, nil_append -> aA, pairwise_append -> iQ, pairwise_cons -> bY, range -> bQ, take -> dq, take_length -> cG, take_of_length_le -> bp
open Nat renaming le_trans -> fi, reduceAdd -> bt, zero_add -> de, zero_le -> aC
open Option renaming getD_some -> bn
set_option maxRecDepth 100000
set_option maxHeartbeats 16000000
set_option linter.unusedSimpArgs false
set_option linter.unusedVariables false
noncomputable section
namespace Go.Proofs.YtmhhnklkcmpdkaaGreatDoor
open Go.Sy

def MZ(l:Ls)(e:Int):SV:= .tup [l.sv,iV e]
def kT(l:Ls)(m:Int):Ls×Int:=
 if m<1\/4<m then(⟨[],[]⟩,49)else if(l.hs.map bS.m).contains m=false then(⟨[],[]⟩,40)else(⟨l.ls,l.hs.filter fun x=>decide (x.m≠m)⟩,0)
theorem xg5(L:List bj)(l:List bS)(m:Int)(K:l.length<=1000000000):∀(n i:Nat)(y:List bS),l.length-i=n->i<=l.length->y.length<=i->
 run T (.loop su) ⟨[(1,iV m),(2,.ptr 102 0),(4,.ptr 104 0),(6,.lst 3 (y.map bS.sv) (.id 106)),(7,iV i)],[(102,.rc [.lst 3 (L.map bj.sv) .no,.lst 3 (l.map bS.sv) .no]),(104,.rc [.lst 3 [] .clip,.lst 3 [] .clip])],[106]⟩=
  some (.x 0,⟨[(2,.ptr 102 0),(4,.ptr 104 0),(6,.lst 3 ((y++(l.drop i).filter fun x=>decide (x.m≠m)).map bS.sv) (.id 106))],[(102,.rc [.lst 3 (L.map bj.sv) .no,.lst 3 (l.map bS.sv) .no]),(104,.rc [.lst 3 [] .clip,.lst 3 [] .clip])],[106]⟩):=by
 intro n;induction n with
 |zero=>
  intro i y h0 h1 H;have hi:i=l.length:=by omega
  subst hi;rw[ab];simp only[go_sem,simprocAttr,bx,List.filter_nil]
 |succ n z=>
  intro i y h0 h1 H;have hi:i<l.length:=by omega
  rw[ab,ii l i hi];have J:=eG bS.sv l i hi;have F:=bJ i;have I:(y.length+1)*24<=140737488355328:=by omega
  simp only[go_sem,simprocAttr,hi,J,bS.sv,F,I,fb]
  by_cases C:(l.getD i default).m=m
  ·have h:=z (i+1) y (by omega) (by omega) (by omega)
   simp only[b9]at h;simp only[C,go_sem,simprocAttr,h,ne_eq]
  ·have h:=z (i+1) (y++ [l.getD i default]) (by omega) (by omega) (by simp;omega)
   simp only[b9,ax,aK,bS.sv,aI,aL,aA]at h;simp only[C,go_sem,simprocAttr,h,ne_eq,ax,bS.sv]
theorem xiz(l:Ls)(m:Int)(y:l.hs.length<=1000000000:=by omega):call T 126 [l.sv,iV m] [] 0=okV (MZ (kT l m).1 (kT l m).2):=by
 have h:=f69 l m y;rw[ccT 126];simp only[Ls.sv,iB,iE]at h;simp only[Ls.sv,iB,iE,MZ]
 by_cases h1:m<1\/4<m
 ·simp only[go_sem,simprocAttr,kT,h1]
 ·cases hc:(l.hs.map bS.m).contains m with
  |false=>simp only[hc]at h;simp only[go_sem,simprocAttr,h,kT,h1,hc]
  |true=>simp only[hc]at h;have h2:=xg5 l.ls l.hs m y _ 0 [] rfl (by omega) (by simp);simp only[ak,bw,aK,aA]at h2;simp only[go_sem,simprocAttr,h,kT,h1,hc,h2]
def ki(l:Ls)(m r s:Int):Ls:=
 if m<1\/4<m\/(l.hs.map bS.m).contains m=true then l else⟨l.ls.filter fun x=>decide (x.m≠m),l.hs.take (lb (l.hs.map bS.m) m)++⟨m,r,s⟩::l.hs.drop (lb (l.hs.map bS.m) m)⟩
theorem Uo(ms:List Int)(m:Int):lb ms m<=ms.length:=by unfold lb;exact(List.takeWhile_sublist _).length_le
theorem Xx(ms:List Int)(m:Int){i:Nat}(h:i<lb ms m):ms.getD i 0<m:=by
 unfold lb at h;induction ms generalizing i with
 |nil=>simp at h
 |cons r ms y=>
  rw[List.takeWhile_cons]at h;split at h
  ·rename_i z
   cases i with
   |zero=>simpa using z
   |succ i=>rw[cZ];exact y (by simpa using h)
  ·simp at h
theorem xao(ms:List Int)(m:Int)(h:lb ms m<ms.length):¬ms.getD (lb ms m) 0<m:=by
 unfold lb at h ⊢;induction ms with
 |nil=>simp at h
 |cons r ms z=>
  rw[List.takeWhile_cons]at h ⊢;split
  ·rename_i y
   rw[if_pos y]at h;rw[ai,cZ];exact z (by simpa using h)
  ·rename_i y
   simpa using y
theorem xg7(L:List bj)(l:List bS)(m r s:Int)(K:l.length<=1000000000):∀(n i:Nat),lb (l.map bS.m) m-i=n->i<=lb (l.map bS.m) m->
 run T (.loop zG) ⟨[(1,iV m),(2,iV r),(3,iV s),(4,.ptr 104 0),(8,.ptr 108 0),(9,iV i)],[(104,.rc [.lst 3 (L.map bj.sv) .no,.lst 3 (l.map bS.sv) .no]),(108,.rc [.lst 3 [] .clip,.lst 3 [] .clip])],[]⟩=
  some (.x 0,⟨[(1,iV m),(2,iV r),(3,iV s),(4,.ptr 104 0),(8,.ptr 108 0),(9,iV (lb (l.map bS.m) m))],[(104,.rc [.lst 3 (L.map bj.sv) .no,.lst 3 (l.map bS.sv) .no]),(108,.rc [.lst 3 [] .clip,.lst 3 [] .clip])],[]⟩):=by
 intro n;have H:=Uo (l.map bS.m) m;rw[av]at H;induction n with
 |zero=>
  intro i h0 h1;have hi:i=lb (l.map bS.m) m:=by omega
  rw[ab]
  by_cases y:i<l.length
  ·have z:=xao (l.map bS.m) m (by rw[av];omega)
   rw[<-hi,lw l y]at z;have F:=eG bS.sv l i y;rw[<-hi];simp only[go_sem,simprocAttr,y,F,bS.sv,z]
  ·rw[<-hi]
   simp only[go_sem,simprocAttr,y]
 |succ n J=>
  intro i h0 h1;have hi:i<lb (l.map bS.m) m:=by omega
  have y:i<l.length:=by omega
  have C:=Xx (l.map bS.m) m hi;rw[lw l y]at C;have F:=eG bS.sv l i y;have I:=bJ i;rw[ab];simp only[go_sem,simprocAttr,y,F,bS.sv,C,I,J (i+1) (by omega) (by omega)]
theorem xiC(l:Ls)(m r s:Int)(F:l.hs.length<=1000000000)(C:l.ls.length<=1000000000):call T 122 [l.sv,iV m,iV r,iV s] [] 0=okV (ki l m r s).sv:=by
 have h:=f69 l m F;rw[ccT 122];simp only[Ls.sv,iB,iE]at h;simp only[Ls.sv,iB,iE]
 by_cases h1:m<1\/4<m
 ·have h2:ki l m r s=l:=by unfold ki;rw[if_pos];omega
  rw[h2];simp only[go_sem,simprocAttr,h1]
 ·cases hc:(l.hs.map bS.m).contains m with
  |true=>
   have h2:ki l m r s=l:=by unfold ki;rw[if_pos (.inr (.inr hc))]
   rw[h2];simp only[hc]at h;simp only[go_sem,simprocAttr,h,h1]
  |false=>
   have h2:ki l m r s=⟨l.ls.filter fun x=>decide (x.m≠m),l.hs.take (lb (l.hs.map bS.m) m)++⟨m,r,s⟩::l.hs.drop (lb (l.hs.map bS.m) m)⟩:=by unfold ki;rw[if_neg];intro y;rcases y with y|y|y;exact h1 (.inl y);exact h1 (.inr y);rw[hc]at y;exact Bool.noConfusion y
   rw[h2];simp only[hc]at h;have h3:=xg7 l.ls l.hs m r s F _ 0 rfl (by omega);simp only[ak]at h3;have z:=Uo (l.hs.map bS.m) m;rw[av]at z;have h4:=xif l.ls m C
   have H:(dq (lb (l.hs.map bS.m) m) (l.hs.map bS.sv)).length*24<=140737488355328:=by simp only[aw,av];omega
   have I:((dq (lb (l.hs.map bS.m) m) (l.hs.map bS.sv)).length+1)*24<=140737488355328:=by simp only[aw,av];omega
   have J:((dq (lb (l.hs.map bS.m) m) (l.hs.map bS.sv)).length+1+(gT (lb (l.hs.map bS.m) m) (l.hs.map bS.sv)).length)*24<=140737488355328:=by simp only[aw,aQ,av];omega
   have K:dq l.hs.length (l.hs.map bS.sv)=l.hs.map bS.sv:=bp (by simp);simp only[go_sem,simprocAttr,h,h1,h3,z,h4,H,I,J,K,gw,nz,bS.sv]
def gt(l:List bj)(x:bj)(j:Int):List bj:=if j=x.m then [x]else(dv l j).toList
theorem Uc(L:List bj)(H:List bS)(m y:Int)(g:List t8)(Q:L.length<=1000000000)(hn:0<=y/\y<=1099511627776)(i:Nat)(hi:i<=4)(z:List bj)(Z:z.length<=10:=by omega):
 run T (.loop mY) ⟨[(1,iV m),(2,iV y),(3,gZ g),(4,.ptr 104 0),(8,.ptr 108 0),(10,.lst 3 (z.map bj.sv) (.id 110)),(11,iV i)],[(104,.rc [.lst 3 (L.map bj.sv) .no,.lst 3 (H.map bS.sv) .no]),(108,.rc [.lst 3 [] .clip,.lst 3 [] .clip])],[110]⟩=
 run T (.loop mY) ⟨[(1,iV m),(2,iV y),(3,gZ g),(4,.ptr 104 0),(8,.ptr 108 0),(10,.lst 3 ((z++gt L ⟨m,y+64,g⟩ i).map bj.sv) (.id 110)),(11,iV (i+1:Nat))],[(104,.rc [.lst 3 (L.map bj.sv) .no,.lst 3 (H.map bS.sv) .no]),(108,.rc [.lst 3 [] .clip,.lst 3 [] .clip])],[110]⟩:=by
 have F:(i:Int)<=4:=by omega
 have I:=bJ i;have J:(z.length+1)*40<=140737488355328:=by omega
 have K:ah.wrap (y+64)=y+64:=w64;have h:=f67 ⟨L,H⟩ i Q;simp only[Ls.sv,iB,iE,bj.sv,gZ]at h;rw[ab]
 by_cases C:(i:Int)=m
 ·simp only[go_sem,simprocAttr,gZ,C,gt,J,K,bj.sv]
  rw[<-C];simp only[go_sem,simprocAttr,F,I]
 ·cases hf:dv L i with
  |none=>simp only[hf,go_sem,simprocAttr]at h;simp only[go_sem,simprocAttr,gZ,F,C,gt,I,h,hf]
  |some x=>simp only[hf,go_sem,simprocAttr]at h;simp only[go_sem,simprocAttr,gZ,F,C,gt,I,J,h,hf,bj.sv]
def ft(l:Ls)(m y:Int)(g:List t8):Ls×Int:=
 if m<1\/4<m then(⟨[],[]⟩,49)else if y<0\/1099511627776<y then(⟨[],[]⟩,1)else if(l.hs.map bS.m).contains m=true then(⟨[],[]⟩,48)
 else(⟨gt l.ls ⟨m,y+64,g⟩ 1++gt l.ls ⟨m,y+64,g⟩ 2++gt l.ls ⟨m,y+64,g⟩ 3++gt l.ls ⟨m,y+64,g⟩ 4,l.hs⟩,0)
theorem pV(l:List bj)(x:bj)(j:Int):(gt l x j).length<=1:=by
 unfold gt;split
 ·simp
 ·cases dv l j<;>simp
theorem xiB(l:Ls)(m y:Int)(g:List t8)(z:l.ls.length<=1000000000)(F:l.hs.length<=1000000000):call T 123 [l.sv,iV m,iV y,gZ g] [] 0=okV (MZ (ft l m y g).1 (ft l m y g).2):=by
 have h:=f69 l m F;rw[ccT 123];simp only[Ls.sv,iB,iE]at h;simp only[Ls.sv,iB,iE,MZ]
 by_cases h1:m<1\/4<m
 ·simp only[go_sem,simprocAttr,ft,h1,gZ]
 ·by_cases h2:y<0\/1099511627776<y
  ·simp only[go_sem,simprocAttr,ft,h1,h2,gZ]
  ·cases hc:(l.hs.map bS.m).contains m with
   |true=>simp only[hc]at h;simp only[go_sem,simprocAttr,h,ft,h1,h2,hc,gZ]
   |false=>
    simp only[hc]at h;have Q:=pV l.ls ⟨m,y+64,g⟩ 1;have a2:=pV l.ls ⟨m,y+64,g⟩ 2;have a3:=pV l.ls ⟨m,y+64,g⟩ 3;have C:0<=y/\y<=1099511627776:=by omega
    have s1:=Uc l.ls l.hs m y g z C 1 (by omega) [] (by simp);have s2:=Uc l.ls l.hs m y g z C 2 (by omega) (gt l.ls ⟨m,y+64,g⟩ 1);have K:=Uc l.ls l.hs m y g z C 3 (by omega) (gt l.ls ⟨m,y+64,g⟩ 1++gt l.ls ⟨m,y+64,g⟩ 2) (by rw[af];omega);have J:=Uc l.ls l.hs m y g z C 4 (by omega) (gt l.ls ⟨m,y+64,g⟩ 1++gt l.ls ⟨m,y+64,g⟩ 2++gt l.ls ⟨m,y+64,g⟩ 3) (by simp only[af];omega);have s:=s1.trans (s2.trans (K.trans J));generalize I:gt l.ls ⟨m,y+64,g⟩ 1++gt l.ls ⟨m,y+64,g⟩ 2++gt l.ls ⟨m,y+64,g⟩ 3++gt l.ls ⟨m,y+64,g⟩ 4=A;simp only[c1,c4,c5,bt,I,aK,gZ]at s
    have H:run T (.loop mY) ⟨[(1,iV m),(2,iV y),(3,gZ g),(4,.ptr 104 0),(8,.ptr 108 0),(10,.lst 3 (A.map bj.sv) (.id 110)),(11,iV 5)],[(104,.rc [.lst 3 (l.ls.map bj.sv) .no,.lst 3 (l.hs.map bS.sv) .no]),(108,.rc [.lst 3 [] .clip,.lst 3 [] .clip])],[110]⟩=
     some (.x 0,⟨[(4,.ptr 104 0),(8,.ptr 108 0),(10,.lst 3 (A.map bj.sv) (.id 110))],[(104,.rc [.lst 3 (l.ls.map bj.sv) .no,.lst 3 (l.hs.map bS.sv) .no]),(108,.rc [.lst 3 [] .clip,.lst 3 [] .clip])],[110]⟩):=by
     rw[ab];simp only[go_sem,simprocAttr,gZ]
    simp only[gZ]at H;rw[H]at s;simp only[go_sem,simprocAttr,h,ft,h1,h2,hc,gZ,s,<-I]
theorem YO(h i:Nat)(a b:t8)(C:a.length<=1000000)(z:b.length<=1000000):call T 292 [iV h,iV i,bN a,bN b] [] 0=okV (bN (yE h i a b)):=by have g:=xfB 3 [ub h,ub i] a b (by simp);have y:=jn 3 [[ub h,ub i],a,b];unfold ub at g y;rw[ccT 292];simp only[go_sem,simprocAttr,g,y,c32,yE,h16,ub]
theorem Mx{α:Type}(f:α->Int)(m:Int):∀l:List α,dh (l.map f)->∃A B,l=A++B/\A.length=lb (l.map f) m/\(∀a∈A,f a<m)/\(∀b∈B,m<=f b)
 |[],_=>⟨[],[],rfl,rfl,by simp,by simp⟩
 |x::r,h=>by
  simp only[ax,dh,bY]at h
  by_cases z:f x<m
  ·obtain⟨A,B,h1,h2,h3,h4⟩:=Mx f m r h.2
   refine⟨x::A,B,by rw[h1];rfl, ?_, ?_,h4⟩
   ·simp only[ai,h2,ax,lb,List.takeWhile_cons,decide_eq_true z,if_true]
   ·intro a C
    rcases aq.1 C with rfl|C
    ·exact z
    ·exact h3 a C
  ·refine⟨[],x::r,rfl, ?_,by simp, ?_⟩
   ·simp[lb,z]
   ·intro b y
    rcases aq.1 y with rfl|y
    ·omega
    ·have:=h.1 (f b) (co y)
     omega
theorem Vq{α:Type}[Inhabited α](f:α->Int)(m:Int)(l:List α)(h:dh (l.map f)):∃A B,A.length=lb (l.map f) m/\(∀a∈A,f a<m)/\(∀b∈B,m<f b)/\
 ((has (l.map f) m=true/\∃y,f y=m/\l=A++y::B)\/(has (l.map f) m=false/\l=A++B)):=by
 obtain⟨A,B,h1,h2,h3,h4⟩:=Mx f m l h;cases B with
 |nil=>refine⟨A,[],h2,h3,by simp,.inr ⟨?_,h1⟩⟩;unfold has;rw[<-h2,decide_eq_false_iff_not];intro z;rw[h1]at z;simp at z
 |cons y B=>
  have J:=h4 y (by simp)
  have hs:dh ((y::B).map f):=by have:(A++y::B).map f=A.map f++(y::B).map f:=b9;rw[h1,this]at h;exact(iQ.1 h).2.1
  simp only[ax,dh,bY]at hs
  have I:(l.map f).getD (lb (l.map f) m) 0=f y:=by rw[<-h2,h1];simp
  have F:lb (l.map f) m<(l.map f).length:=by rw[<-h2,h1];simp
  by_cases H:f y=m
  ·refine⟨A,B,h2,h3, ?_,.inl ⟨?_,y,H,h1⟩⟩
   ·intro b C
    have:=hs.1 (f b) (co C);omega
   ·unfold has
    rw[decide_eq_true_eq];exact⟨F,by rw[I,H]⟩
  ·refine⟨A,y::B,h2,h3, ?_,.inr ⟨?_,h1⟩⟩
   ·intro b C
    rcases aq.1 C with rfl|C
    ·omega
    ·have:=hs.1 (f b) (co C)
     omega
   ·unfold has
    rw[decide_eq_false_iff_not];intro z;rw[I]at z;exact H z.2
structure At{α:Type}(f:α->Int)(m:Int)(l A B:List α):Prop where
 len:A.length=lb (l.map f) m
 lo:∀a∈A,f a<m
 hi:∀b∈B,m<f b
theorem At.filter{α:Type}{f:α->Int}{m:Int}{l A B:List α}(h:At f m l A B):(A++B).filter (fun x=>decide (f x≠m))=A++B:=by
 rw[gF];intro a y;rw[decide_eq_true_eq];rcases am.1 y with h1|h1
 ·have:=h.lo a h1;omega
 ·have:=h.hi a h1;omega
theorem At.filter'{α:Type}{f:α->Int}{m:Int}{l A B:List α}{y:α}(h:At f m l A B)(z:f y=m):(A++y::B).filter (fun x=>decide (f x≠m))=A++B:=by have:=h.filter;rw[List.filter_append]at this ⊢;rw[fb,if_neg (by simp[z])];exact this
theorem sI{α:Type}[Inhabited α](f:α->Int)(m:Int)(l:List α)(h:dh (l.map f)):∃A B,At f m l A B/\l.filter (fun x=>decide (f x≠m))=A++B/\l.take (lb (l.map f) m)=A/\
 ((has (l.map f) m=true/\(l.map f).contains m=true/\∃y,f y=m/\l=A++y::B)\/(has (l.map f) m=false/\(l.map f).contains m=false/\l=A++B)):=by
 obtain⟨A,B,h1,h2,h3,h4⟩:=Vq f m l h;have H:At f m l A B:=⟨h1,h2,h3⟩;refine⟨A,B,H, ?_, ?_, ?_⟩
 ·rcases h4 with⟨_,y,z,rfl⟩|⟨_,rfl⟩
  ·exact H.filter' z
  ·exact H.filter
 ·rw[<-h1]
  rcases h4 with⟨_,y,z,rfl⟩|⟨_,rfl⟩<;>simp
 ·rcases h4 with⟨F,y,z,C⟩|⟨F,C⟩
  ·refine .inl ⟨F, ?_,y,z,C⟩
   rw[List.contains_iff_mem,C,<-z];simp
  ·refine .inr ⟨F, ?_,C⟩
   rw[Bool.eq_false_iff,Ne,List.contains_iff_mem,C];intro J;obtain⟨a,K,I⟩:=aS.1 J;rcases am.1 K with h|h
   ·have:=h2 a h;omega
   ·have:=h3 a h;omega
theorem nZ(ms:List Int)(m:Int)(h:dh ms):has ms m=ms.contains m:=by obtain⟨A,B,_,_,_,h1⟩:=sI (id:Int->Int) m ms (by rw[List.map_id];exact h);rw[List.map_id]at h1;rcases h1 with⟨h1,h2,_⟩|⟨h1,h2,_⟩<;>rw[h1,h2]
structure WF(l:Ls):Prop where
 s1:dh (l.ls.map bj.m)
 s2:dh (l.hs.map bS.m)
 r1:∀x∈l.ls,1<=x.m/\x.m<=4
 r2:∀x∈l.hs,1<=x.m/\x.m<=4
 g:∀x∈l.ls,okG x.g
theorem nE{α:Type}(f:α->Int)(b:Int):∀(l:List α)(a:Int),dh (l.map f)->(∀x∈l,a<=f x/\f x<=b)->a<=b+1->(l.length:Int)<=b+1-a
 |[],a,_,_,h=>by simp;omega
 |x::r,a,h,h1,h2=>by
  simp only[ax,dh,bY]at h;have C:=h1 x (by simp)
  have:=nE f b r (f x+1) h.2 (fun y z=>by have h3:=h.1 (f y) (co z);have h4:=h1 y (an _ z);omega) (by omega)
  simp only[ai];omega
theorem WF.len{l:Ls}(h:WF l):l.ls.length<=4:=by have:=nE bj.m 4 l.ls 1 h.s1 h.r1 (by omega);omega
theorem WF.len2{l:Ls}(h:WF l):l.hs.length<=4:=by have:=nE bS.m 4 l.hs 1 h.s2 h.r2 (by omega);omega
theorem WF.ok{l:Ls}(h:WF l):okL l.ls:=⟨by have:=h.len;omega,h.g⟩
theorem WF.nil:WF ⟨[],[]⟩:=⟨gx.nil,gx.nil,by simp,by simp,by simp⟩
def ME{α:Type}(f:α->Int)(l:List α)(x:α):List α:=if has (l.map f) (f x)=true then l.set (lb (l.map f) (f x)) x else l.take (lb (l.map f) (f x))++ [x]++l.drop (lb (l.map f) (f x))
def Hh(l:Ls)(m y:Int)(g:List t8):Ls×Int:=
 if ¬(1<=m/\m<=4)then(⟨[],[]⟩,49)else if y<0\/1099511627776<y then(⟨[],[]⟩,1)else if has (l.hs.map bS.m) m=true then(⟨[],[]⟩,48)
 else(⟨ME bj.m l.ls ⟨m,y+64,g⟩,l.hs⟩,0)
theorem nD{α:Type}{f:α->Int}{m:Int}{l A B:List α}(h:At f m l A B)(H:l.filter (fun x=>decide (f x≠m))=A++B)(hs:dh (l.map f)){x:α}(Q:f x=m):dh ((A++x::B).map f):=by
 have h1:dh ((A++B).map f):=by rw[<-H];exact gx.sublist (List.filter_sublist.map f) hs
 rw[dh,b9,iQ]at h1 ⊢;obtain⟨h2,h3,h4⟩:=h1;refine⟨h2, ?_, ?_⟩
 ·rw[ax,bY]
  refine⟨fun b F=> ?_,h3⟩;obtain⟨y,C,rfl⟩:=aS.1 F;have:=h.hi y C;omega
 ·intro a I b F
  obtain⟨z,K,rfl⟩:=aS.1 I;have J:=h.lo z K;obtain⟨y,C,rfl⟩:=aS.1 F;rcases aq.1 C with rfl|C
  ·omega
  ·have:=h.hi y C;omega
theorem HG{α:Type}[Inhabited α]{f:α->Int}{l A B:List α}{x:α}(h:At f (f x) l A B)(z:l.take (lb (l.map f) (f x))=A)
 (C:(has (l.map f) (f x)=true/\(l.map f).contains (f x)=true/\∃y,f y=f x/\l=A++y::B)\/(has (l.map f) (f x)=false/\(l.map f).contains (f x)=false/\l=A++B)):ME f l x=A++x::B:=by
 unfold ME;rcases C with⟨h1,_,y,F,h2⟩|⟨h1,_,h2⟩
 ·rw[if_pos h1,<-h.len,h2,List.set_append]
  simp
 ·rw[if_neg (by rw[h1];simp),z,<-h.len]
  have:l.drop A.length=B:=by rw[h2];simp
  rw[this];simp
theorem A5{α:Type}{p:α->Bool}{A B:List α}{y:α}(h:p y=false):(A++y::B).find? p=(A++B).find? p:=by simp[List.find?_append,h]
theorem zU(a:Int):∀L:List bj,dh (L.map bj.m)->(∀x∈L,a<=x.m)->∃R,L=(dv L a).toList++R/\dh (R.map bj.m)/\(∀x∈R,a+1<=x.m)/\(∀j,a<j->dv L j=dv R j)/\∀x∈R,x∈L
 |[],_,_=>⟨[],rfl,gx.nil,by simp,fun _ _=>rfl,by simp⟩
 |x::r,h,h1=>by
  simp only[ax,dh,bY]at h;have H:=h1 x (by simp)
  by_cases C:x.m=a
  ·refine⟨r, ?_,h.2, ?_, ?_,fun y z=>an _ z⟩
   ·simp[dv,C]
   ·intro y z
    have:=h.1 _ (co z);omega
   ·intro j F
    have:¬x.m=j:=by omega
    simp[dv,this]
  ·refine⟨x::r, ?_, ?_, ?_,fun _ _=>rfl,fun y z=>z⟩
   ·have:dv (x::r) a=none:=by
     unfold dv;rw[List.find?_eq_none];intro y z;rcases aq.1 z with rfl|z
     ·simpa using C
     ·have:=h.1 _ (co z)
      simp;omega
    rw[this];rfl
   ·simp only[ax,dh,bY];exact h
   ·intro y z
    rcases aq.1 z with rfl|z
    ·omega
    ·have:=h.1 _ (co z);omega
theorem xbq(L:List bj)(h:dh (L.map bj.m))(h1:∀x∈L,1<=x.m/\x.m<=4):(dv L 1).toList++(dv L 2).toList++(dv L 3).toList++(dv L 4).toList=L:=by
 obtain⟨K1,a1,a2,a3,a4,a5⟩:=zU 1 L h (fun x z=>(h1 x z).1);obtain⟨Z,H,K,Q,y,I⟩:=zU 2 K1 a2 a3;obtain⟨K3,c1,c2,c3,c4,c5⟩:=zU 3 Z K Q;obtain⟨C,d1,d2,F,d4,J⟩:=zU 4 K3 c2 c3
 have hR:C=[]:=by
  cases C with
  |nil=>rfl
  |cons x r=>have z:=F x (by simp);have:=(h1 x (a5 x (I x (c5 x (J x (by simp)))))).2;omega
 rw[a4 2 (by omega),a4 3 (by omega),a4 4 (by omega),y 3 (by omega),y 4 (by omega),c4 4 (by omega)];rw[hR,bO]at d1;rw[aI,aI,<-d1,<-c1,<-H,<-a1]
theorem SO{l A B:List bj}{x:bj}(h:At bj.m x.m l A B) 
 (F:(∃y:bj,y.m=x.m/\l=A++y::B)\/l=A++B) (j:Int):gt l x j=(dv (A++x::B) j).toList:=by
 unfold gt
 by_cases z:j=x.m
 ·rw[if_pos z]
  have h1:A.find? (fun y=>decide (y.m=j))=none:=by rw[List.find?_eq_none];intro y C;have:=h.lo y C;simp;omega
  have h2:decide (x.m=j)=true:=by simp[z]
  simp only[dv,List.find?_append,h1,Bl,h2,Option.none_or,Option.toList_some]
 ·rw[if_neg z]
  have h2:decide (x.m=j)=false:=by simp;omega
  unfold dv;rw[A5 (p:=fun y:bj=>decide (y.m=j)) h2];rcases F with⟨y,C,rfl⟩|rfl
  ·have h3:decide (y.m=j)=false:=by simp;omega
   rw[A5 (p:=fun y:bj=>decide (y.m=j)) h3]
  ·rfl
theorem LR(l:Ls)(C:WF l)(m z:Int)(g:List t8):Hh l m z g=ft l m z g:=by
 unfold Hh ft
 by_cases c1:1<=m/\m<=4
 ·have n1:¬(m<1\/4<m):=by omega
  rw[if_neg (fun h=>h c1),if_neg n1]
  by_cases c2:z<0\/1099511627776<z
  ·rw[if_pos c2,if_pos c2]
  ·rw[if_neg c2,if_neg c2,nZ _ _ C.s2]
   by_cases c3:(l.hs.map bS.m).contains m=true
   ·rw[if_pos c3,if_pos c3]
   ·rw[if_neg c3,if_neg c3]
    obtain⟨A,B,h1,h2,h3,h4⟩:=sI bj.m m l.ls C.s1;have K:=nD h1 h2 C.s1 (x:=⟨m,z+64,g⟩) rfl
    have I:∀x∈A++(⟨m,z+64,g⟩:bj)::B,1<=x.m/\x.m<=4:=by
     intro x H;rcases am.1 H with h|h
     ·have:x∈l.ls.filter fun x=>decide (x.m≠m):=by rw[h2];exact List.mem_append_left _ h
      exact C.r1 x ((dY.1 this).1)
     ·rcases aq.1 h with rfl|h
      ·exact c1
      ·have:x∈l.ls.filter fun x=>decide (x.m≠m):=by rw[h2];exact List.mem_append_right _ h
       exact C.r1 x ((dY.1 this).1)
    have J:=HG (x:=(⟨m,z+64,g⟩:bj)) h1 h3 h4
    have F:(∃y:bj,y.m=m/\l.ls=A++y::B)\/l.ls=A++B:=by
     rcases h4 with⟨_,_,h⟩|⟨_,_,h⟩
     ·exact .inl h
     ·exact .inr h
    have hi:=SO (x:=(⟨m,z+64,g⟩:bj)) h1 F;rw[J,hi,hi,hi,hi,xbq _ K I]
 ·have n1:m<1\/4<m:=by omega
  rw[if_pos c1,if_pos n1]
theorem LQ(l:Ls)(z:WF l)(m y:Int)(g:List t8)(I:okG g)(h0:(ft l m y g).2=0):WF (ft l m y g).1:=by
 rw[<-LR l z]at h0 ⊢;unfold Hh at h0 ⊢
 by_cases c1:1<=m/\m<=4
 ·rw[if_neg (fun h=>h c1)]at h0 ⊢
  by_cases c2:y<0\/1099511627776<y
  ·rw[if_pos c2]at h0;cases h0
  ·rw[if_neg c2]at h0 ⊢
   by_cases c3:has (l.hs.map bS.m) m=true
   ·rw[if_pos c3]at h0;cases h0
   ·rw[if_neg c3]
    obtain⟨A,B,h1,h2,h3,h4⟩:=sI bj.m m l.ls z.s1;have J:=nD h1 h2 z.s1 (x:=⟨m,y+64,g⟩) rfl;have F:=HG (x:=(⟨m,y+64,g⟩:bj)) h1 h3 h4
    have H:∀x∈A++(⟨m,y+64,g⟩:bj)::B,x∈l.ls\/x=⟨m,y+64,g⟩:=by
     intro x C;rcases am.1 C with h|h
     ·have:x∈l.ls.filter fun x=>decide (x.m≠m):=by rw[h2];exact List.mem_append_left _ h
      exact .inl ((dY.1 this).1)
     ·rcases aq.1 h with rfl|h
      ·exact .inr rfl
      ·have:x∈l.ls.filter fun x=>decide (x.m≠m):=by rw[h2];exact List.mem_append_right _ h
       exact .inl ((dY.1 this).1)
    refine⟨?_,z.s2, ?_,z.r2, ?_⟩
    ·show dh ((ME bj.m l.ls _).map bj.m);rw[F];exact J
    ·show ∀x∈ME bj.m l.ls _,_
     rw[F];intro x C;rcases H x C with h|rfl
     ·exact z.r1 x h
     ·exact c1
    ·show ∀x∈ME bj.m l.ls _,_
     rw[F];intro x C;rcases H x C with h|rfl
     ·exact z.g x h
     ·exact I
 ·rw[if_pos c1]at h0;cases h0
theorem S3(l:Ls)(y:WF l)(m r s:Int):WF (ki l m r s):=by
 unfold ki;split
 ·exact y
 ·rename_i h
  have c1:1<=m/\m<=4:=by omega
  obtain⟨A,B,h1,h2,h3,h4⟩:=sI bS.m m l.hs y.s2;have c3:¬(l.hs.map bS.m).contains m=true:=fun C=>h (.inr (.inr C))
  have I:=nD h1 h2 y.s2 (x:=⟨m,r,s⟩) rfl
  have F:l.hs=A++B:=by
   rcases h4 with⟨_,h,_⟩|⟨_,_,h⟩
   ·exact absurd h c3
   ·exact h
  have H:l.hs.drop (lb (l.hs.map bS.m) m)=B:=by rw[<-h1.len,F];simp
  refine⟨gx.sublist (List.filter_sublist.map _) y.s1, ?_,fun x z=>y.r1 x ((dY.1 z).1), ?_,fun x z=>y.g x ((dY.1 z).1)⟩
  ·show dh ((l.hs.take (lb (l.hs.map bS.m) m)++_::l.hs.drop (lb (l.hs.map bS.m) m)).map bS.m)
   rw[h3,H];exact I
  ·show ∀x∈l.hs.take (lb (l.hs.map bS.m) m)++(⟨m,r,s⟩:bS)::l.hs.drop (lb (l.hs.map bS.m) m),_
   intro x z;rcases am.1 z with h|h
   ·exact y.r2 x (cg h)
   ·rcases aq.1 h with rfl|h
    ·exact c1
    ·exact y.r2 x (ny h)
theorem VD(l:Ls)(y:WF l)(m:Int)(h0:(kT l m).2=0):WF (kT l m).1:=by
 unfold kT at h0 ⊢;split
 ·rename_i h;rw[if_pos h]at h0;cases h0
 ·rename_i h;rw[if_neg h]at h0
  split
  ·rename_i h1;rw[if_pos h1]at h0;cases h0
  ·exact⟨y.s1,gx.sublist (List.filter_sublist.map _) y.s2,y.r1,fun x z=>y.r2 x ((dY.1 z).1),y.g⟩
theorem Ju(l:Ls)(y:WF l)(p:bj->Bool):WF ⟨l.ls.filter p,l.hs⟩:=
 ⟨gx.sublist (List.filter_sublist.map _) y.s1,y.s2,fun x z=>y.r1 x ((dY.1 z).1),y.r2,fun x z=>y.g x ((dY.1 z).1)⟩
theorem Hn(l:List bj)(h:dh (l.map bj.m))(m C:Int):uU l m C=Kn l m C:=by
 obtain⟨A,B,h1,h2,h3,h4⟩:=sI bj.m m l h;unfold uU Kn
 have J:A.find? (fun x=>decide (x.m=m))=none:=by rw[List.find?_eq_none];intro y z;have:=h1.lo y z;simp;omega
 rcases h4 with⟨I,_,y,z,F⟩|⟨I,_,F⟩
 ·have H:dv l m=some y:=by
   unfold dv;rw[F,List.find?_append,J,Bl,decide_eq_true z];rfl
  have K:l.getD (lb (l.map bj.m) m) default=y:=by rw[<-h1.len,F];simp
  rw[I,H,K];rfl
 ·have Q:B.find? (fun x=>decide (x.m=m))=none:=by
   rw[List.find?_eq_none];intro y z;have:=h1.hi y z;simp;omega
  have H:dv l m=none:=by unfold dv;rw[F,List.find?_append,J,Q];rfl
  rw[I,H];rfl
theorem Jj(l:Ls)(z:WF l)(m y:Int)(g:List t8)(C:okG g):WF (ft l m y g).1:=by
 by_cases h:(ft l m y g).2=0
 ·exact LQ l z m y g C h
 ·unfold ft at h ⊢
  split
  ·exact WF.nil
  ·split
   ·exact WF.nil
   ·split
    ·exact WF.nil
    ·rename_i h1 h2 h3
     rw[if_neg h1,if_neg h2,if_neg h3]at h;exact absurd rfl h
theorem Q5(l:Ls)(y:WF l)(m:Int):WF (kT l m).1:=by
 by_cases h:(kT l m).2=0
 ·exact VD l y m h
 ·unfold kT at h ⊢
  split
  ·exact WF.nil
  ·split
   ·exact WF.nil
   ·rename_i h1 h2
    rw[if_neg h1,if_neg h2]at h;exact absurd rfl h
theorem xgw(M:t8)(hM:M.length=16):∀(n i:Nat)(y:LAb)(s:Nat),16-i=n->i<=16->y.length=2*i->s<=30*i->
 run T (.loop zh) ⟨[(3,bN M),(4,.lst 1 (dgs y) (.id 104)),(5,iV s),(6,iV i)],[],[104]⟩=
 some (.x 0,⟨[(4,.lst 1 (dgs (y++dg (M.drop i))) (.id 104)),(5,iV (smF s (M.drop i)))],[],[104]⟩):=by
 intro n;induction n with
 |zero=>
  intro i y s h0 h1 ha hs;have hi:i=16:=by omega
  subst hi;have Q:M.drop 16=[]:=ez (by omega);rw[Q,ab];simp only[c16,go_sem,simprocAttr,dg,smF,ji,bO,List.foldl_nil]
 |succ n ih=>
  intro i y s h0 h1 ha hs;have hi:i<16:=by omega
  have I:(i:Int)<16:=by omega
  have e1:=bJ i;have hh:=XB (M.getD i 0);have hl:=Xt (M.getD i 0);have F:=ih (i+1) (y++ [hi4 (M.getD i 0),lo4 (M.getD i 0)]) (s+((15-hi4 (M.getD i 0))+(15-lo4 (M.getD i 0)))) (by omega) (by omega) (by simp;omega) (by omega);have a1:=XC (M.getD i 0);have a2:=Xu (M.getD i 0);have H:=TE M i;have J:=KH s M i;generalize hc:M.getD i 0=z at*;have C:=tt y;have w1:ah.wrap (30-((hi4 z:Nat):Int))=((30-hi4 z:Nat):Int):=by rw[w64];omega
  have w2:ah.wrap (((30-hi4 z:Nat):Int)-((lo4 z:Nat):Int))=(((15-hi4 z)+(15-lo4 z):Nat):Int):=by rw[w64];omega
  have Z:ah.wrap ((s:Int)+(((15-hi4 z)+(15-lo4 z):Nat):Int))=((s+((15-hi4 z)+(15-lo4 z)):Nat):Int):=by rw[w64];omega
  have c1:(y.length+2)*8<=140737488355328:=by omega
  have K:y++dg (M.drop i)=y++ [hi4 z,lo4 z]++dg (M.drop (i+1)):=by rw[H,aI];rfl
  rw[K,J];simp only[dgs,b9,ax,aK,aI,aL,aA]at F C ⊢;rw[ab];simp only[go_sem,simprocAttr,I,hM,hc,e1,a1,a2,w1,w2,Z,c1,C,F]
theorem xeJ(y:t8)(hm:y.length<=100000000):call T 273 [bN y] [] 0=okV (.lst 1 (dgs (uO y)) .no):=by
 have g1:=YZ 4 y;rw[<-S2]at g1;have C:=gk 4 [y];have Z:=jn 4 [y];have H:((32:Nat):Int)=32:=rfl;have J:=xgw (h16 4 [y]) C 16 0 [] 0 rfl (by omega) rfl (by omega);have hs:=T7 (h16 4 [y]) 0;have es:smF 0 (h16 4 [y])=sm (h16 4 [y]):=rfl;rw[C]at hs;change sm (h16 4 [y])<=0+30*16 at hs;have z:=M5 (h16 4 [y]);rw[C]at z;have Q:=tt (dg (h16 4 [y]));unfold uO;have K:dgs []=[]:=rfl;simp only[ak,bw,aA,es,TD,K]at J ⊢;have hu:(hsh 4 [y]).take 16=h16 4 [y]:=rfl;generalize a1:sm (h16 4 [y])=q at*;generalize dg (h16 4 [y])=ds at*
 have q1:ah.wrap ((q:Int).tdiv 256)=((q/256:Nat):Int):=by rw[Int.tdiv_eq_ediv_of_nonneg (by omega),w64];omega
 have q2:ah.wrap ((q:Int).tdiv 16)=((q/16:Nat):Int):=by rw[Int.tdiv_eq_ediv_of_nonneg (by omega),w64];omega
 have I:((q/16:Nat):Int).tmod 16=((q/16 % 16:Nat):Int):=by rw[fN (by omega)];omega
 have F:(q:Int).tmod 16=((q % 16:Nat):Int):=by rw[fN (by omega)];omega
 have c3:(2*16+3)*8<=140737488355328:=by decide
 have a6:((16:Nat):Int)=16:=rfl;rw[ccT 273];simp only[go_sem,simprocAttr,g1,Z,H,hu,J];simp only[go_sem,simprocAttr,q1,q2,I,F,z,c3,dgs,ax,aK]
 trace_state
theorem xgH(C:t8)(z:Nat)(hs:C.length<=64)(F:Nat->t8)(hF:∀c,c<35->F c=rf z c 0 15 (rh C z c)):∀(n c:Nat)(H:t8),35-c=n->c<=35->H.length=16*c->
 run T (.loop uB) ⟨[(0,bN C),(1,iV z),(5,.byt H (.id 105)),(6,iV c)],[],[105]⟩=
 some (.x 0,⟨[(1,iV z),(5,.byt (H++Cu c F) (.id 105))],[],[105]⟩):=by
 intro n;induction n with
 |zero=>
  intro c H h0 h1 ha;have hi:c=35:=by omega
  subst hi;rw[Bh,ab];simp only[c35,go_sem,simprocAttr,bO]
 |succ n ih=>
  intro c H h0 h1 ha;have Q:c<35:=by omega
  have K:(c:Int)<35:=by omega
  have e1:=bJ c;have I:=ky z c 15 0 (rh C z c) (kz C z c);have gs:=xeI C z c hs;have g1:=YP z c 0 15 15 (rh C z c) rfl (by omega) (by rw[kz];decide);rw[<-hF c Q]at I g1;rw[c0,c15]at g1;have J:=ih (c+1) (H++F c) (by omega) (by omega) (by rw[af,I];omega);rw[wh c Q];rw[aI]at J;generalize Z:F c=y at*;have c1:H.length+y.length<=140737488355328:=by omega
  rw[ab];simp only[go_sem,simprocAttr,K,e1,gs,g1,c1,J]
theorem xho(z X Y:t8)(y:Nat)(F:y<=255)(C:run T (.loop uB) ⟨[(0,bN z),(1,iV y),(5,.byt [] (.id 105)),(6,iV 0)],[],[105]⟩=some (.x 0,⟨[(1,iV y),(5,.byt X (.id 105))],[],[105]⟩))
 (g4:call T 293 [iV y,bN X] [] 0=okV (bN Y)):call T 239 [bN z,iV y] [] 0=okV (bN Y):=by
 have h1:¬(y:Int)<0:=by omega
 have h2:¬(255:Int)<y:=by omega
 rw[ccT 239];simp only[go_sem,simprocAttr,h1,h2,C,g4]
theorem xhm(z:t8)(y:Nat)(hs:z.length<=64)(J:y<=255)(F:Nat->t8)(I:∀c,c<35->F c=rf y c 0 15 (rh z y c)):call T 239 [bN z,iV y] [] 0=okV (bN (Ke y (cat 35 F))):=by have H:=xgH z y hs F I 35 0 [] rfl (by omega) rfl;have C:=yK F 35 (fun c C=>by rw[I c C];exact ky _ _ _ _ _ (kz _ _ _));rw[wg]at H;exact xho z (cat 35 F) _ y J H (xeH y (cat 35 F) (by rw[C];decide))
theorem YS(z:t8)(y:Nat)(hs:z.length<=64)(C:y<=255:=by omega):call T 239 [bN z,iV y] [] 0=okV (bN (pubL z y)):=
 xhm z y hs C (fun c=>rf y c 0 15 (rh z y c)) (fun c _=>rfl)
theorem xgJ(C:t8)(z:Nat)(D:LAb)(hs:C.length<=64)(hD:D.length=35)(hd:∀c,c<35->D.getD c 0<=15)(F:Nat->t8)(hF:∀c,c<35->F c=rf z c 0 (D.getD c 0) (rh C z c)):∀(n c:Nat)(H:t8),35-c=n->c<=35->H.length=16*c->
 run T (.loop uC) ⟨[(0,bN C),(1,iV z),(7,.lst 1 (dgs D) .no),(8,.byt H (.id 108)),(9,iV c)],[],[108]⟩=
 some (.x 0,⟨[(8,.byt (H++Cu c F) (.id 108))],[],[108]⟩):=by
 intro n;induction n with
 |zero=>
  intro c H h0 h1 ha;have hi:c=35:=by omega
  subst hi;rw[Bh,ab];simp only[c35,go_sem,simprocAttr,bO]
 |succ n ih=>
  intro c H h0 h1 ha;have hc:c<35:=by omega
  have K:(c:Int)<35:=by omega
  have e1:=bJ c;have Z:=tt D;have Q:=Ie D c;have I:=ky z c (D.getD c 0) 0 (rh C z c) (kz C z c);have gs:=xeI C z c hs;have g1:=YP z c 0 (D.getD c 0) (D.getD c 0) (rh C z c) (de _) (hd c hc) (by rw[kz];decide);rw[<-hF c hc]at I g1;rw[c0]at g1;have J:=ih (c+1) (H++F c) (by omega) (by omega) (by rw[af,I];omega);rw[wh c hc];rw[aI]at J;generalize a1:F c=y at*;have c1:H.length+y.length<=140737488355328:=by omega
  rw[ab];simp only[go_sem,simprocAttr,K,Z,hD,Q,e1,gs,g1,c1,J]
theorem h91(z C X:t8)(D:LAb)(y:Nat)(I:y<=255)(F:call T 273 [bN C] [] 0=okV (.lst 1 (dgs D) .no))(H:run T (.loop uC) ⟨[(0,bN z),(1,iV y),(7,.lst 1 (dgs D) .no),(8,.byt [] (.id 108)),(9,iV 0)],[],[108]⟩=some (.x 0,⟨[(8,.byt X (.id 108))],[],[108]⟩)):
 call T 211 [bN z,iV y,bN C] [] 0=okV (bN X):=by
 have h1:¬(y:Int)<0:=by omega
 have h2:¬(255:Int)<y:=by omega
 rw[ccT 211];simp only[go_sem,simprocAttr,h1,h2,H,F]
theorem k91(C:t8)(y:Nat)(z:t8)(hs:C.length<=64)(J:y<=255)(I:z.length<=100000000)(F:Nat->t8)(K:∀c,c<35->F c=rf y c 0 ((uO z).getD c 0) (rh C y c)):
 call T 211 [bN C,iV y,bN z] [] 0=okV (bN (cat 35 F)):=by
 have H:=xgJ C y (uO z) hs (ud z) (Bc z) F K 35 0 [] rfl (by omega) rfl;rw[wg]at H;exact h91 C z (cat 35 F) (uO z) y J (xeJ z I) H
theorem YU(z:t8)(y:Nat)(C:t8)(hs:z.length<=64)(H:y<=255)(F:C.length<=100000000):call T 211 [bN z,iV y,bN C] [] 0=okV (bN (BL z y C)):=
 k91 z y C hs H F (fun c=>rf y c 0 ((uO C).getD c 0) (rh z y c)) (fun c _=>rfl)
theorem db{α:Type}{l:List α}{d:α}{i:Nat}(h:i<l.length):l.getD i d=l[i]:=by rw[aa,ac h];rfl
theorem tq{α:Type}{l:List α}(d:α){i:Nat}(h:i<l.length):l.drop i=l.getD i d::l.drop (i+1):=by rw[bD h,db h]
theorem pH(n:Nat)(h:n<=1099511627776:=by omega):(dec n).length<=13:=ue 12 n (Nat.lt_of_le_of_lt h (by decide))
theorem YY:∀n:Nat,n<=1099511627776->call T 137 [iV n] [] 0=some ⟨.byt (dec n) (.id 60),[],[60]⟩:=by
 intro n;induction n using Nat.strongRecOn with
 |_ n C=>
  intro Q
  by_cases h:n<10
  ·have y:(n:Int)<10:=by omega
   have e:ah.wrap (48+(n:Int))=((48+n:Nat):Int):=by rw[w64];omega
   rw[oq h,ccT 137];simp only[go_sem,simprocAttr,y,e];rfl
  ·have y:¬(n:Int)<10:=by omega
   have z:Int.tdiv (n:Int) 10=((n/10:Nat):Int):=by rw[Int.tdiv_eq_ediv_of_nonneg (by omega)];omega
   have F:Int.tmod (n:Int) 10=((n % 10:Nat):Int):=by rw[fN (by omega)];omega
   have g:=C (n/10) (by omega) (by omega);have e:ah.wrap (48+((n % 10:Nat):Int))=((48+n % 10:Nat):Int):=by rw[w64];omega
   have I:ah.wrap ((n/10:Nat):Int)=((n/10:Nat):Int):=by rw[w64]
   have J:ah.wrap ((n % 10:Nat):Int)=((n % 10:Nat):Int):=by rw[w64]
   have K:=pH (n/10);have H:(dec (n/10)).length+1<=140737488355328:=by omega
   rw[uP h,ccT 137];simp only[go_sem,simprocAttr,y,z,F,g,e,I,H];rfl
def nmV(n:Int):t8:=dec n.toNat
theorem f66(n:Int)(h1:0<=n:=by omega)(h2:n<=1099511627776:=by omega):call T 66 [iV n] [] 0=okV (.str (nmV n)):=by have g:=YY n.toNat (by omega);rw[show((n.toNat:Nat):Int)=n from by omega]at g;rw[ccT 66];unfold nmV;simp only[go_sem,simprocAttr,g]
structure En where
 m:Int
 a:Int
 q:List (List SV)
 p1:List UInt8
 p2:List UInt8
 p3:List UInt8
 k:Int
 at':Int
 h:Int
 po:List UInt8
 un:List UInt8
def En.sv(e:En):LAa:=[iV e.m,iV e.a,.lst 5 e.q .no,bN e.p1,bN e.p2,bN e.p3,iV e.k,iV e.at',iV e.h,bN e.po,bN e.un]
def lT:En:=⟨0,0,[],[],[],[],0,0,0,[],[]⟩
def lc(l:List En):f9:=l.map En.sv
theorem fY(l:List En):(lc l).length=l.length:=av ..
theorem mM(l:List En)(i:Nat)(h:i<l.length):(lc l).getD i []=(l.getD i lT).sv:=by simp[lc,aa,h]
structure Sv where
 k:Int
 A:List (List SV)
 t:Int
 M:List (List SV)
 W:List (List SV)
 key:List UInt8
 nx:Int
 O:List (List SV)
 l:Ls
 E:List En
 S:List (List SV)
def Sv.sv(s:Sv):LAa:=[iV s.k,.lst 2 s.A .no,iV s.t,.lst 7 s.M .no,.lst 2 s.W .no,bN s.key,iV s.nx,.lst 3 s.O .no,.lst 3 (s.l.ls.map bj.sv) .no,.lst 3 (s.l.hs.map bS.sv) .no,.lst 11 (lc s.E) .no,.lst 4 s.S .no]
theorem f26(s:Sv)(m:Int)(y:WF s.l):call T 26 [.agg s.sv,iV m] [] 0=okV (.bool (uU s.l.ls m s.k)):=by have g:=f70 s.l m s.k y.s1 (by have:=y.len;omega);simp only[Ls.sv,iB,iE]at g;rw[ccT 26];simp only[Sv.sv,go_sem,simprocAttr,g]
theorem f68(s:Sv)(m:Int)(y:WF s.l):call T 68 [.agg s.sv,iV m] [] 0=okV (.bool (uU s.l.ls m s.k)):=by have g:=f138 s.l m s.k (by have:=y.len;omega);rw[<-Hn s.l.ls y.s1]at g;simp only[Ls.sv,iB,iE]at g;rw[ccT 68];simp only[Sv.sv,go_sem,simprocAttr,g]
def kj(l:List bS)(m:Int):Option bS:=l.find? fun x=>decide (x.m=m)
def stV(s:Sv)(m:Int):t8:=
 if uU s.l.ls m s.k=true then [97,100,109,105,116,116,101,100,32]++nmV ((dv s.l.ls m).getD default).u
 else match kj s.l.hs m with
  |some x=> [104,101,108,100,32]++nmV x.r
  |none=> [111,117,116]
structure Sm(s:Sv):Prop where
 wf:WF s.l
 k0:0<=s.k
 k1:s.k<=1000
 u:∀x∈s.l.ls,0<=x.u/\x.u<=2000
 r:∀x∈s.l.hs,0<=x.r/\x.r<=1000
theorem Sv.pur(s:Sv)(a b:Nat):SV.purgeL a b s.sv=s.sv:=by simp only[Sv.sv,go_sem,simprocAttr]
theorem iG{α:Type}{p:α->Bool}:∀{l:List α}{x:α},l.find? p=some x->x∈l/\p x=true
 |a::l,x,h=>by
  rw[Bl]at h;cases hp:p a with
  |true=>rw[hp]at h;cases h;exact⟨aD,hp⟩
  |false=>rw[hp]at h;have:=iG h;exact⟨an _ this.1,this.2⟩
theorem vY{α:Type}(p:α->Bool)(d:α){l:List α}{i:Nat}(hi:i<l.length):(l.drop i).find? p=if p (l.getD i d)=true then some (l.getD i d)else(l.drop (i+1)).find? p:=by rw[tq d hi,Bl];cases p (l.getD i d)<;>rfl
theorem xgi(s:Sv)(hs:Sm s)(m:Int):∀(n i:Nat),s.l.ls.length-i=n->i<=s.l.ls.length->
 run T (.loop JR) ⟨[(1,iV m),(2,.ptr 102 0),(14,.lst 3 (s.l.ls.map bj.sv) .no),(15,iV s.l.ls.length),(16,iV i)],[(102,.rc s.sv)],[]⟩=
  match (s.l.ls.drop i).find? fun x=>decide (x.m=m)with
  |some x=>some (.r,⟨[(4,.str ([97,100,109,105,116,116,101,100,32]++nmV x.u))],[(102,.rc s.sv),(106,.rc x.sv)],[]⟩)
  |none=>some (.x 0,⟨[(1,iV m),(2,.ptr 102 0)],[(102,.rc s.sv)],[]⟩):=by
 have H:=hs.wf.len;intro n;induction n with
 |zero=>
  intro i h0 h1;have:i=s.l.ls.length:=by omega
  subst this;rw[ab,bx];simp only[List.find?_nil];simp only[go_sem,simprocAttr]
 |succ n J=>
  intro i h0 h1;have hi:i<s.l.ls.length:=by omega
  have y:(i:Int)<(s.l.ls.length:Int):=by omega
  have I:=bJ i;have C:=J (i+1) (by omega) (by omega);have F:=eG bj.sv s.l.ls i hi;have z:s.l.ls.getD i default∈s.l.ls:=by rw[db hi];exact aF hi
  obtain⟨K,u1⟩:=hs.u _ z;rw[ab,vY _ default hi];generalize s.l.ls.getD i default=x at*;have g:=f64 x.u K;have Q:(dec x.u.toNat).length<=13:=pH _;obtain⟨a,b,c⟩:=x;simp only[bj.sv,gZ]at*
  by_cases h:a=m
  ·rw[if_pos (by simpa using h)]
   simp only[nmV];generalize dec b.toNat=D at*;have Z:([97,100,109,105,116,116,101,100,32]:t8).length+D.length<=9223372036854775807:=by simp only[ai,al];omega
   simp only[go_sem,simprocAttr,y,F,h,g,Sv.pur]
   repeat (rw[kJ];rotate_left;(first|omega|simp only[af,ai,al];omega);simp only[go_sem,simprocAttr])
  ·rw[if_neg (by simpa using h),<-C]
   simp only[go_sem,simprocAttr,y,F,h,I,Sv.pur]
theorem xgh(s:Sv)(hs:Sm s)(m:Int):∀(n i:Nat),s.l.hs.length-i=n->i<=s.l.hs.length->
 run T (.loop yV) ⟨[(1,iV m),(31,.lst 3 (s.l.hs.map bS.sv) .no),(32,iV s.l.hs.length),(33,iV i)],[(102,.rc s.sv)],[]⟩=
  match (s.l.hs.drop i).find? fun x=>decide (x.m=m)with
  |some x=>some (.r,⟨[(4,.str ([104,101,108,100,32]++nmV x.r))],[(102,.rc s.sv),(108,.rc x.sv)],[]⟩)
  |none=>some (.x 2,⟨[],[(102,.rc s.sv)],[]⟩):=by
 have H:=hs.wf.len2;intro n;induction n with
 |zero=>
  intro i h0 h1;have:i=s.l.hs.length:=by omega
  subst this;rw[ab,bx];simp only[List.find?_nil];simp only[go_sem,simprocAttr]
 |succ n J=>
  intro i h0 h1;have hi:i<s.l.hs.length:=by omega
  have y:(i:Int)<(s.l.hs.length:Int):=by omega
  have I:=bJ i;have C:=J (i+1) (by omega) (by omega);have F:=eG bS.sv s.l.hs i hi;have z:s.l.hs.getD i default∈s.l.hs:=by rw[db hi];exact aF hi
  obtain⟨K,u1⟩:=hs.r _ z;rw[ab,vY _ default hi];generalize s.l.hs.getD i default=x at*;have g:=f64 x.r K;have Q:(dec x.r.toNat).length<=13:=pH _;obtain⟨a,b,c⟩:=x;simp only[bS.sv]at*
  by_cases h:a=m
  ·rw[if_pos (by simpa using h)]
   simp only[nmV];generalize dec b.toNat=D at*;have Z:([104,101,108,100,32]:t8).length+D.length<=9223372036854775807:=by simp only[ai,al];omega
   simp only[go_sem,simprocAttr,y,F,h,g,Sv.pur]
   repeat (rw[kJ];rotate_left;(first|omega|simp only[af,ai,al];omega);simp only[go_sem,simprocAttr])
  ·rw[if_neg (by simpa using h),<-C]
   simp only[go_sem,simprocAttr,y,F,h,I,Sv.pur]
theorem f65(s:Sv)(hs:Sm s)(m:Int):call T 65 [.agg s.sv,iV m] [] 0=okV (.str (stV s m)):=by
 have g:=f26 s m hs.wf;have F:=xgi s hs m _ 0 rfl (aC _);have y:=xgh s hs m _ 0 rfl (aC _);rw[bw,ak]at F y;have H:(s.l.ls.map bj.sv).length=s.l.ls.length:=av ..;have z:(s.l.hs.map bS.sv).length=s.l.hs.length:=av ..;rw[ccT 65];unfold stV;cases h:uU s.l.ls m s.k with
 |true=>
  have C:=Hn s.l.ls hs.wf.s1 m s.k;rw[h]at C g;unfold Kn at C;rw[if_pos rfl];cases hf:dv s.l.ls m with
  |none=>rw[hf]at C;simp at C
  |some x=>rw[show(s.l.ls.find? fun x=>decide (x.m=m))=some x from hf]at F;simp only[bn];clear y C;simp only[Sv.sv,bj.sv,gZ]at*;simp only[go_sem,simprocAttr,g,F,H]
 |false=>
  rw[h]at g;rw[if_neg (by simp)];clear F;cases hf:kj s.l.hs m with
  |none=>rw[show(s.l.hs.find? fun x=>decide (x.m=m))=none from hf]at y;simp only[Sv.sv]at*;simp only[go_sem,simprocAttr,g,y,z]
  |some x=>rw[show(s.l.hs.find? fun x=>decide (x.m=m))=some x from hf]at y;simp only at y ⊢;simp only[Sv.sv,bS.sv]at*;simp only[go_sem,simprocAttr,g,y,z]
def mcR(x:Int×Bool):LAa:=[iV x.1,.lst 1 [] .no,iV 0,iV 0,iV 0,.bool false,.lst 1 [] .no,.lst 1 [] .no,bN [],iV 0,iV 0,iV 0,iV 0,.bool false,.lst 1 [] .no,iV 0,iV 0,.lst 8 [] .no,iV 0,iV 0,iV 0,iV 0,iV 0,iV 0,.lst 2 [] .no,.bool false,.bool false,.lst 1 [] .no,iV 0,iV 0,.bool false,iV 0,.lst 8 [] .no,.lst 9 [] .no,.lst 1 [] .no,.lst 1 [] .no,.bool false,iV 0,.bool x.2,.lst 8 [] .no]
def Kg(l:List (Int×Bool)):f9:=l.map mcR
theorem oK(l:List (Int×Bool)):(Kg l).length=l.length:=av ..
theorem AR(l:List (Int×Bool))(i:Nat)(h:i<l.length):(Kg l).getD i []=mcR (l.getD i (0,false)):=by simp[Kg,aa,h]
def ks(s:Sv)(h:List (Int×Bool)):LAa:=[iV s.k,.lst 2 s.A .no,iV s.t,.lst 7 s.M .no,.lst 2 s.W .no,bN s.key,iV s.nx,.lst 3 s.O .no,.lst 3 (s.l.ls.map bj.sv) .no,.lst 3 (s.l.hs.map bS.sv) .no,.lst 11 (lc s.E) .no,.lst 4 s.S .no,.lst 40 (Kg h) .no,.lst 9 [] .no]
def iO(s:Sv)(m:Int):t8:=[109,97,99,104,105,110,101,32]++(nmV m++(32::(stV s m++ [10])))
def iP(x:Int×Bool):t8:=[104,111,115,116,32]++(nmV x.1++(if x.2=true then [32,117,112,10]else [32,100,111,119,110,10]))
theorem fu{n:Int}(h:n<=1099511627776):(nmV n).length<=13:=pH _
theorem yf{s:Sv}(hs:Sm s)(m:Int):(stV s m).length<=30:=by
 unfold stV;split
 ·cases h:dv s.l.ls m with
  |none=>have:=fu (n:=0) (by decide);simp only[Option.getD_none,af,ai,al];exact fi (Nat.add_le_add_left this _) (by decide)
  |some x=>have:=fu (n:=x.u) (by have:=hs.u x (iG h).1;omega);simp only[bn,af,ai,al];omega
 ·cases h:kj s.l.hs m with
  |none=>decide
  |some x=>have:=fu (n:=x.r) (by have:=hs.r x (iG h).1;omega);simp only[af,ai,al];omega
def H6(m:Int):List bS->t8
 |[]=> []
 |x::r=>(if x.m=m then [32,104,101,108,100,32]++nmV x.r else [])++H6 m r
theorem vP(m:Int):∀l:List bS,(∀x∈l,x.m≠m)->H6 m l=[]
 |[],_=>rfl
 |x::r,h=>by rw[H6,if_neg (h x aD),vP m r fun y z=>h y (an _ z)];rfl
theorem vQ(m:Int):∀l:List bS,dh (l.map bS.m)->H6 m l=(match kj l m with
 |some x=> [32,104,101,108,100,32]++nmV x.r
 |none=> [])
 |[],_=>rfl
 |x::r,h=>by
  simp only[dh,ax,bY]at h;unfold kj;rw[H6,Bl]
  by_cases z:x.m=m
  ·rw[if_pos z,vP m r (fun y C=>by have:=h.1 y.m (co C);omega),decide_eq_true z];simp
  ·rw[if_neg z,aA,decide_eq_false z,vQ m r h.2];rfl
theorem xgB(s:Sv)(hs:Sm s)(h:List (Int×Bool))(m i:Int)(L:LAa):∀(n k:Nat)(y:t8),s.l.hs.length-k=n->k<=s.l.hs.length->y.length+30*n<=100000->
 run T (.loop zl) ⟨[(1,.ptr 101 0),(3,.str y),(4,iV i),(5,iV m),(8,iV k)],[(101,.rc (ks s h)),(106,.rc L)],[]⟩=
  some (.x 3,⟨[(1,.ptr 101 0),(3,.str (y++H6 m (s.l.hs.drop k))),(4,iV i)],[(101,.rc (ks s h)),(106,.rc L)],[]⟩):=by
 have J:=hs.wf.len2;intro n;induction n with
 |zero=>
  intro k y h0 h1 h2;have:k=s.l.hs.length:=by omega
  subst this;rw[ab,bx,H6,bO];unfold ks;simp only[go_sem,simprocAttr,av]
 |succ n Q=>
  intro k y h0 h1 h2;have hi:k<s.l.hs.length:=by omega
  have z:(k:Int)<(s.l.hs.length:Int):=by omega
  have I:=bJ k;have F:=fun a K=>Q (k+1) a (by omega) (by omega) K
  have H:=eG bS.sv s.l.hs k hi;have C:s.l.hs.getD k default∈s.l.hs:=by rw[db hi];exact aF hi
  obtain⟨Z,u1⟩:=hs.r _ C;rw[ab,tq default hi,H6];generalize s.l.hs.getD k default=x at*;have g:=f66 x.r Z;have hd:=fu (n:=x.r) (by omega);obtain⟨a,b,c⟩:=x;simp only[bS.sv]at*
  by_cases e:a=m
  ·rw[if_pos e,<-aI,<-F _ (by simp only[af,ai,al];omega)]
   generalize nmV b=D at*;unfold ks;simp only[go_sem,simprocAttr,z,H,e,g]
   repeat (rw[kJ];rotate_left;(first|omega|simp only[af,ai,al];omega);simp only[go_sem,simprocAttr,I])
  ·rw[if_neg e,aA,<-F _ (by omega)]
   unfold ks;simp only[go_sem,simprocAttr,z,H,e,I]
theorem JD(l:List bS)(m:Int):(l.map bS.m).contains m=(kj l m).isSome:=by
 induction l with
 |nil=>rfl
 |cons x r y=>
  unfold kj at*;rw[ax,List.contains_cons,Bl,y]
  by_cases h:x.m=m
  ·rw[decide_eq_true h,h];simp
  ·rw[decide_eq_false h]
   have:¬m=x.m:=fun e=>h e.symm
   simp[this]
theorem xgA(s:Sv)(hs:Sm s)(h:List (Int×Bool))(hE:s.E.length<=10)(hm:∀e∈s.E,1<=e.m/\e.m<=4):∀(n i:Nat)(F:t8),s.E.length-i=n->i<=s.E.length->F.length+200*n<=10000->
 run T (.loop zk) ⟨[(1,.ptr 101 0),(3,.str F),(4,iV i)],[(101,.rc (ks s h))],[]⟩=
  some (.x 0,⟨[(1,.ptr 101 0),(3,.str (F++(s.E.drop i).flatMap fun e=>iO s e.m))],[(101,.rc (ks s h))],[]⟩):=by
 have b1:=hs.wf.len;have a8:=hs.wf.len2;intro n;induction n with
 |zero=>
  intro i F h0 h1 h2;have:i=s.E.length:=by omega
  subst this;have hv:=fY s.E;rw[ab,bx];unfold ks;simp only[go_sem,simprocAttr,hv,ji]
 |succ n ih=>
  intro i F h0 h1 h2;have hi:i<s.E.length:=by omega
  have K:(i:Int)<(s.E.length:Int):=by omega
  have e1:=bJ i;have a6:=fun a ha=>ih (i+1) a (by omega) (by omega) ha
  have hv:=fY s.E;have hg:=mM s.E i hi;have a1:s.E.getD i lT∈s.E:=by rw[db hi];exact aF hi
  obtain⟨m0,m1⟩:=hm _ a1;rw[ab,tq lT hi,cA];generalize s.E.getD i lT=x at*;obtain⟨m,a,q,p1,p2,p3,k,b0,hh,po,un⟩:=x;simp only at m0 m1;have Z:=f66 m;have hd:=fu (n:=m) (by omega);have J:=f67 s.l m;have I:=f68 s m hs.wf;have C:=f69 s.l m;have H:=yf hs m;have Q:(iO s m).length<=60:=by simp only[iO,af,ai,al];omega
  rw[<-aI,<-a6 _ (by rw[af];show F.length+(iO s m).length+200*n<=_;omega)];have hj:=xgB s hs h m i ((dv s.l.ls m).getD default).sv _ 0 (F++([109,97,99,104,105,110,101,32]++nmV m)) rfl (aC _) (by simp only[af,ai,al];omega);rw[bw,ak,vQ m _ hs.wf.s2]at hj;rw[JD]at C;simp only[iO];cases hA:uU s.l.ls m s.k with
  |true=>
   rw[hA]at I;have hr:=Hn s.l.ls hs.wf.s1 m s.k;rw[hA]at hr;unfold Kn at hr;have hS:stV s m=[97,100,109,105,116,116,101,100,32]++nmV ((dv s.l.ls m).getD default).u:=by unfold stV;rw[if_pos hA]
   rw[hS]at H ⊢;cases hf:dv s.l.ls m with
   |none=>rw[hf]at hr;simp at hr
   |some y=>
    rw[hf]at J H;have gy:=f66 y.u (hs.u y (iG hf).1).1 (by have:=(hs.u y (iG hf).1).2;omega);have a7:=fu (n:=y.u) (by have:=(hs.u y (iG hf).1).2;omega);simp only[bn,Option.isSome_some]at*;clear hj C hr H Q;obtain⟨y1,y2,y3⟩:=y;simp only at gy a7;generalize nmV m=D at*;generalize nmV y2=D2 at*;unfold ks;simp only[Sv.sv,En.sv,Ls.sv,iB,iE,bj.sv,gZ]at*;simp only[go_sem,simprocAttr,K,hv,hg,Z]
    repeat (rw[kJ];rotate_left;(first|omega|simp only[af,ai,al];omega);simp only[go_sem,simprocAttr,J,I,gy,e1])
  |false=>
   rw[hA]at I;cases hf:kj s.l.hs m with
   |none=>
    have hS:stV s m=[111,117,116]:=by unfold stV;rw[if_neg (by rw[hA];simp),hf]
    rw[hS]at H ⊢;rw[hf]at C;simp only[Option.isSome_none]at C;clear hj H Q;generalize (dv s.l.ls m).isSome=z at*;generalize (dv s.l.ls m).getD default=y at*;obtain⟨y1,y2,y3⟩:=y;generalize nmV m=D at*;unfold ks;simp only[Sv.sv,En.sv,Ls.sv,iB,iE,bj.sv,gZ]at*;simp only[go_sem,simprocAttr,K,hv,hg,Z]
    repeat (rw[kJ];rotate_left;(first|omega|simp only[af,ai,al];omega);simp only[go_sem,simprocAttr,J,I,C,e1])
   |some u=>
    have hS:stV s m=[104,101,108,100,32]++nmV u.r:=by unfold stV;rw[if_neg (by rw[hA];simp),hf]
    rw[hS]at H ⊢;rw[hf]at C hj;simp only[Option.isSome_some]at C;simp only at hj;clear Q;have b2:=fu (n:=u.r) (by have:=(hs.r u (iG hf).1).2;omega);generalize (dv s.l.ls m).isSome=z at*;generalize (dv s.l.ls m).getD default=y at*;obtain⟨y1,y2,y3⟩:=y;generalize nmV m=D at*;generalize nmV u.r=D2 at*;unfold ks at*;simp only[Sv.sv,En.sv,Ls.sv,iB,iE,bj.sv,gZ,aI,aL,aA]at*;simp only[go_sem,simprocAttr,K,hv,hg,Z]
    repeat (rw[kJ];rotate_left;(first|omega|simp only[af,ai,al];omega);simp only[go_sem,simprocAttr,J,I,C,e1,hj])
theorem xgz(s:Sv)(h:List (Int×Bool))(Z:∀e∈h,1<=e.1/\e.1<=4)(hh:h.length<=10):∀(n i:Nat)(y:t8),h.length-i=n->i<=h.length->y.length+100*n<=20000->
 run T (.loop zj) ⟨[(1,.ptr 101 0),(3,.str y),(9,iV i)],[(101,.rc (ks s h))],[]⟩=
  some (.x 5,⟨[(3,.str (y++(h.drop i).flatMap iP))],[(101,.rc (ks s h))],[]⟩):=by
 intro n;induction n with
 |zero=>
  intro i y h0 h1 h2;have:i=h.length:=by omega
  subst this;have hv:=oK h;rw[ab,bx];unfold ks;simp only[go_sem,simprocAttr,hv,ji]
 |succ n ih=>
  intro i y h0 h1 h2;have hi:i<h.length:=by omega
  have z:(i:Int)<(h.length:Int):=by omega
  have J:=bJ i;have I:=fun a ha=>ih (i+1) a (by omega) (by omega) ha
  have hv:=oK h;have H:=AR h i hi;have C:h.getD i (0,false)∈h:=by rw[db hi];exact aF hi
  obtain⟨K,m1⟩:=Z _ C;rw[ab,tq (0,false) hi,cA];generalize h.getD i (0,false)=x at*;obtain⟨m,u⟩:=x;simp only at K m1;have F:=f66 m;have hd:=fu (n:=m) (by omega);have Q:(iP (m,u)).length<=40:=by unfold iP;cases u<;>simp only[af,ai,al,if_true,aP,if_false]<;>omega
  rw[<-aI,<-I _ (by rw[af];omega)];unfold iP;clear Q;simp only at*;generalize nmV m=D at*;unfold ks mcR at*;cases u with
  |true=>
   simp only[go_sem,simprocAttr,z,hv,H,F]
   repeat (rw[kJ];rotate_left;(first|omega|simp only[af,ai,al];omega);simp only[go_sem,simprocAttr,z,hv,H,J])
  |false=>
   simp only[go_sem,simprocAttr,z,hv,H,F]
   repeat (rw[kJ];rotate_left;(first|omega|simp only[af,ai,al];omega);simp only[go_sem,simprocAttr,z,hv,H,J])
def nT(s:Sv)(h:List (Int×Bool)):t8:=[99,108,111,99,107,32]++(nmV s.k++(10::((s.E.flatMap fun e=>iO s e.m)++h.flatMap iP)))
theorem oO{α:Type}(f:α->t8)(b:Nat):∀l:List α,(∀x∈l,(f x).length<=b)->(l.flatMap f).length<=b*l.length
 |[],_=>by simp
 |x::r,h=>by
  have h1:=h x aD;have h2:=oO f b r fun y z=>h y (an _ z)
  rw[cA,af,ai,Nat.mul_succ];omega
theorem mq{s:Sv}(hs:Sm s){m:Int}(h:m<=4):(iO s m).length<=60:=by have:=fu (n:=m) (by omega);have:=yf hs m;simp only[iO,af,ai,al];omega
theorem f25(s:Sv)(hs:Sm s)(h:List (Int×Bool))(C:s.E.length<=10)(z:∀e∈s.E,1<=e.m/\e.m<=4)(F:h.length<=10)(hi:∀e∈h,1<=e.1/\e.1<=4):call T 25 [.agg (ks s h)] [] 0=okV (.str (nT s h)):=by
 have y:=f66 s.k hs.k0 (by have:=hs.k1;omega);have I:=fu (n:=s.k) (by have:=hs.k1;omega);have J:=oO (fun e:En=>iO s e.m) 60 s.E (fun x H=>mq hs (z x H).2);have a:=xgA s hs h C z _ 0 ([99,108,111,99,107,32]++nmV s.k++ [10]) rfl (aC _) (by simp only[af,ai,al];omega);rw[bw,ak]at a;have b:=xgz s h hi F _ 0 ([99,108,111,99,107,32]++nmV s.k++ [10]++(s.E.flatMap fun e=>iO s e.m)) rfl (aC _) (by simp only[af,ai,al];omega);rw[bw,ak]at b;unfold nT;generalize (s.E.flatMap fun e=>iO s e.m)=X at*;generalize h.flatMap iP=Y at*;generalize nmV s.k=D at*;rw[ccT 25];unfold ks at*;simp only[aI,aL,aA]at a b;simp only[go_sem,simprocAttr,y]
 repeat (rw[kJ];rotate_left;(first|omega|simp only[af,ai,al];omega);simp only[go_sem,simprocAttr,a,b])
section
section
open Go.RowKit Go.ChangeShapes Go.WideShapes
variable {x : Sit} {w w' : World}
def xel:SV->Bool
 | .int .. =>true
 | .bool _=>true
 | .lst .. =>true
 | .byt .. =>true
 |_=>false
theorem Z2{G:GM}{s:SV}{v:Value}(h:bU G s v)(hs:xel s=true):v.oneCell'=true:=by
 cases h<;>first|rfl|cases hs
theorem xbx{s:Sv}{v:Nat->Value}(h:∀j,j<12->bU x.G (s.sv.getD j .undef) (v j))(m:Int):cB x [.agg s.sv,.int .i64 m] [.agg #[v 0,v 1,v 2,v 3,v 4,v 5,v 6,v 7,v 8,v 9,v 10,v 11],.int .i64 m]:=by
 refine⟨rfl,fun i hi=> ?_⟩
 match i,hi with
 |0,_=>
  refine .agg s.sv [v 0,v 1,v 2,v 3,v 4,v 5,v 6,v 7,v 8,v 9,v 10,v 11] rfl fun j y=> ?_
  match j,y with
  |0,_=>exact .dat _ _ (h 0 (by decide)) trivial
  |1,_=>exact .dat _ _ (h 1 (by decide)) trivial
  |2,_=>exact .dat _ _ (h 2 (by decide)) trivial
  |3,_=>exact .dat _ _ (h 3 (by decide)) trivial
  |4,_=>exact .dat _ _ (h 4 (by decide)) trivial
  |5,_=>exact .dat _ _ (h 5 (by decide)) trivial
  |6,_=>exact .dat _ _ (h 6 (by decide)) trivial
  |7,_=>exact .dat _ _ (h 7 (by decide)) trivial
  |8,_=>exact .dat _ _ (h 8 (by decide)) trivial
  |9,_=>exact .dat _ _ (h 9 (by decide)) trivial
  |10,_=>exact .dat _ _ (h 10 (by decide)) trivial
  |11,_=>exact .dat _ _ (h 11 (by decide)) trivial
 |1,_=>exact .dat _ _ (.int _ _) trivial
theorem xeu{n:Int}:cB x [.int .i64 n] [.int .i64 n]:=⟨rfl,fun i hi=>by match i,hi with|0,_=>exact .dat _ _ (.int _ _) trivial⟩
theorem vW{α:Type}(f:α->t8)(d:α)(l:List α)(i:Nat)(h:i<l.length):(l.take (i+1)).flatMap f=(l.take i).flatMap f++f (l.getD i d):=by rw[List.take_add_one,ac h,List.flatMap_append,db h];simp
def clF(s:Sv)(i:Nat):t8:=([99,108,111,99,107,32]++(nmV s.k++ [10]))++(s.E.take i).flatMap fun e:En=>iO s e.m
def clG(s:Sv)(h:List (Int×Bool))(i:Nat):t8:=clF s s.E.length++(h.take i).flatMap iP
theorem Vr(s:Sv)(hs:Sm s)(h:List (Int×Bool))(hE:s.E.length<=10)(e3:0<s.E.length)(hm:∀e∈s.E,1<=e.m/\e.m<=4)(hh:h.length<=10)(e5:0<h.length)(hi:∀e∈h,1<=e.1/\e.1<=4):gu Tryz.prog 24 [.agg (ks s h)] [] 0 (· =⟨.str (nT s h),[],[]⟩):=by
 refine hU (by kernel_rfl) fun x w vs hr z hL=> ?_
 obtain⟨u,rfl,h1⟩:=Pr.repL1 hr;obtain⟨us,rfl,hl,H⟩:=h1.agg_inv
 match us,hl,H with
 |[q0,q1,q2,q3,q4,q5,q6,q7,q8,q9,q10,q11,q12,q13],_,H=>
  have d0:bU x.G (.int .i64 s.k) q0:=(H 0 (show 0<14 by decide)).data rfl;have d1:bU x.G (.lst 2 s.A .no) q1:=(H 1 (show 1<14 by decide)).data rfl;have d2:bU x.G (.int .i64 s.t) q2:=(H 2 (show 2<14 by decide)).data rfl;have d3:bU x.G (.lst 7 s.M .no) q3:=(H 3 (show 3<14 by decide)).data rfl;have d4:bU x.G (.lst 2 s.W .no) q4:=(H 4 (show 4<14 by decide)).data rfl;have d5:bU x.G (bN s.key) q5:=(H 5 (show 5<14 by decide)).data rfl;have d6:bU x.G (.int .i64 s.nx) q6:=(H 6 (show 6<14 by decide)).data rfl;have d7:bU x.G (.lst 3 s.O .no) q7:=(H 7 (show 7<14 by decide)).data rfl;have d8:bU x.G (.lst 3 (s.l.ls.map bj.sv) .no) q8:=(H 8 (show 8<14 by decide)).data rfl;have d9:bU x.G (.lst 3 (s.l.hs.map bS.sv) .no) q9:=(H 9 (show 9<14 by decide)).data rfl;have Q:bU x.G (.lst 11 (lc s.E) .no) q10:=(H 10 (show 10<14 by decide)).data rfl;have a6:bU x.G (.lst 4 s.S .no) q11:=(H 11 (show 11<14 by decide)).data rfl;have b7:bU x.G (.lst 40 (Kg h) .no) q12:=(H 12 (show 12<14 by decide)).data rfl;have e0:bU x.G (.lst 9 [] .no) q13:=(H 13 (show 13<14 by decide)).data rfl;rcases Pr.lst_inv Q with he|⟨be,oe,ce,ve,rfl,hce,hge,hde⟩
  ·have:(lc s.E).length=0:=by rw[he];rfl
   rw[fY]at this;omega
  rcases Pr.lst_inv b7 with he|⟨bh,oh,ch,vh,rfl,b6,hgh,hdh⟩
  ·have:(Kg h).length=0:=by rw[he];rfl
   rw[oK]at this;omega
  obtain rfl:=sU d0;obtain rfl:=sU d2;obtain rfl:=sU d6;obtain⟨a1,l1,c1,rfl⟩:∃a l c,q1= .slice a l c:=⟨_,_,_,fj d1⟩;obtain⟨a3,l3,c3,rfl⟩:∃a l c,q3= .slice a l c:=⟨_,_,_,fj d3⟩;obtain⟨a4,l4,c4,rfl⟩:∃a l c,q4= .slice a l c:=⟨_,_,_,fj d4⟩;obtain⟨a5,l5,c5,rfl⟩:∃a l c,q5= .slice a l c:=⟨_,_,_,gN d5⟩;obtain⟨a7,l7,c7,rfl⟩:∃a l c,q7= .slice a l c:=⟨_,_,_,fj d7⟩;obtain⟨a8,l8,c8,rfl⟩:∃a l c,q8= .slice a l c:=⟨_,_,_,fj d8⟩;obtain⟨a9,l9,c9,rfl⟩:∃a l c,q9= .slice a l c:=⟨_,_,_,fj d9⟩;obtain⟨b1,m1,g1,rfl⟩:∃a l c,q11= .slice a l c:=⟨_,_,_,fj a6⟩;obtain⟨b3,m3,g3,rfl⟩:∃a l c,q13= .slice a l c:=⟨_,_,_,fj e0⟩;rw[fY]at hge hde Q ⊢;rw[oK]at hgh hdh b7 ⊢;have e7:be<w.heap.size:=cx (z _ _ _ (hge 0 0 e3 (by decide)));have e4:bh<w.heap.size:=cx (z _ _ _ (hgh 0 0 e5 (by decide)))
  have K:∀i j,i<s.E.length->j<11->bU x.G ((s.E.getD i lT).sv.getD j .undef) (ve i j):=fun i j hi I=>by have:=hde i j hi I;rwa[mM s.E i hi]at this
  have hH:∀i j,i<h.length->j<40->bU x.G ((mcR (h.getD i (0,false))).getD j .undef) (vh i j):=fun i j hi I=>by have:=hdh i j hi I;rwa[AR h i hi]at this
  have F:∀i j,i<s.E.length->j<11->w.cell? ⟨be,oe+i*11+j,none⟩=some (ve i j):=fun i j hi I=>z _ _ _ (hge i j hi I)
  have b6:∀i j,i<h.length->j<40->w.cell? ⟨bh,oh+i*40+j,none⟩=some (vh i j):=fun i j hi I=>z _ _ _ (hgh i j hi I)
  have e2:=fu (n:=s.k) (by have:=hs.k1;omega)
  have b0:∀i,i<s.E.length->1<=(s.E.getD i lT).m/\(s.E.getD i lT).m<=4:=fun i hi=>by rw[db hi];exact hm _ (aF hi)
  have b5:∀i,i<h.length->1<=(h.getD i (0,false)).1/\(h.getD i (0,false)).1<=4:=fun i Z=>by rw[db Z];exact hi _ (aF Z)
  have b2:∀i,(clF s i).length<=620:=fun i=>by
   have h1:=oO (fun e:En=>iO s e.m) 60 (s.E.take i) (fun y hy=>mq hs (hm y (cg hy)).2);have h2:(s.E.take i).length<=10:=by rw[aw];omega
   simp only[clF,af,ai,al];omega
  have hw:=Pr.w24g w s.k s.t s.nx a1 a3 a4 a5 a7 a8 a9 b1 b3 l1 l3 l4 l5 l7 l8 l9 m1 m3 c1 c3 c4 c5 c7 c8 c9 g1 g3 be oe s.E.length ce bh oh h.length ch
   (fun i=>(s.E.getD i lT).m) (fun i=>(s.E.getD i lT).a) (fun i=>slA (ve i 2)) (fun i=>slA (ve i 3)) (fun i=>slA (ve i 4)) (fun i=>slA (ve i 5)) (fun i=>slN (ve i 2)) (fun i=>slN (ve i 3)) (fun i=>slN (ve i 4)) (fun i=>slN (ve i 5)) (fun i=>slC (ve i 2)) (fun i=>slC (ve i 3)) (fun i=>slC (ve i 4)) (fun i=>slC (ve i 5))
   (fun i=>(s.E.getD i lT).k) (fun i=>(s.E.getD i lT).at') (fun i=>(s.E.getD i lT).h) (fun i=>slA (ve i 9)) (fun i=>slA (ve i 10)) (fun i=>slN (ve i 9)) (fun i=>slN (ve i 10)) (fun i=>slC (ve i 9)) (fun i=>slC (ve i 10))
   e7 hE (fun i hi=>by have:=F i 0 hi (by decide);rwa[sU (K i 0 hi (by decide))]at this) (fun i hi=>by have:=F i 1 hi (by decide);rwa[sU (K i 1 hi (by decide))]at this)
   (fun i hi=>by have:=F i 2 hi (by decide);rwa[fj (K i 2 hi (by decide))]at this) (fun i hi=>by have:=F i 3 hi (by decide);rwa[gN (K i 3 hi (by decide))]at this)
   (fun i hi=>by have:=F i 4 hi (by decide);rwa[gN (K i 4 hi (by decide))]at this) (fun i hi=>by have:=F i 5 hi (by decide);rwa[gN (K i 5 hi (by decide))]at this)
   (fun i hi=>by have:=F i 6 hi (by decide);rwa[sU (K i 6 hi (by decide))]at this) (fun i hi=>by have:=F i 7 hi (by decide);rwa[sU (K i 7 hi (by decide))]at this) (fun i hi=>by have:=F i 8 hi (by decide);rwa[sU (K i 8 hi (by decide))]at this)
   (fun i hi=>by have:=F i 9 hi (by decide);rwa[gN (K i 9 hi (by decide))]at this) (fun i hi=>by have:=F i 10 hi (by decide);rwa[gN (K i 10 hi (by decide))]at this)
   e4 hh (fun i=>(bQ 40).map (vh i)) (fun i=>(h.getD i (0,false)).1) (fun i=>(h.getD i (0,false)).2)
   (fun i hi q v hq=>by
    rw[aR]at hq
    by_cases b4:q<40
    ·rw[cN b4]at hq
     cases hq;exact b6 i q hi b4
    ·rw[fI (by rw[uj];omega)]at hq;cases hq)
   (fun i hi=>by simp)
   (fun i hi=>by rw[Array.all_eq_true'];intro v hv;simp only[List.mem_toArray,aS,gO]at hv;obtain⟨j,I,rfl⟩:=hv;refine Z2 (hH i j hi I) ?_;have ha:(mcR (h.getD i (0,false))).all xel=true:=rfl;rw[aZ]at ha;have b8:j<(mcR (h.getD i (0,false))).length:=I;rw[db b8];exact ha _ (aF b8))
   (fun i hi=>by rw[aR];exact congrArg some (sU (hH i 0 hi (by decide)))) (fun i hi=>by rw[aR];exact congrArg some (xbr (hH i 38 hi (by decide))))
   nmV (fun i=>stV s (s.E.getD i lT).m) (clF s) (clG s h)
   (by simp[clF]) (fun i hi=>by unfold clF;rw[vW _ lT s.E i hi,<-aI];rfl) (fun i _=>fi (b2 i) (by decide))
   (by simp[clG]) (fun i hi=>by
    unfold clG;rw[vW _ (0,false) h i hi,<-aI]
    congr 1
    unfold iP;cases (h.getD i (0,false)).2<;>rfl)
   (fun i _=>by
    have h1:=b2 s.E.length
    have h3:=oO iP 30 (h.take i) (fun y hy=>by have h4:=fu (n:=y.1) (by have:=(hi y (cg hy)).2;omega);unfold iP;cases y.2<;>simp<;>omega)
    have h2:(h.take i).length<=10:=by rw[aw];omega
    unfold clG;rw[af];omega)
   ⟨e2,fun i hi=>⟨fu (by have:=(b0 i hi).2;omega),yf hs _⟩⟩ (fun i hi=>fu (by have:=(b5 i hi).2;omega))
   (fun n wr hn C=>by
    have e6:0<=n/\n<=1000:=by
     rcases hn with rfl|⟨i,hi,rfl⟩|⟨i,hi,rfl⟩
     ·exact⟨hs.k0,hs.k1⟩
     ·have:=b0 i hi;omega
     ·have:=b5 i hi;omega
    refine(jv jF (f64 n e6.1) (xeu (x:=rJ wr)) (iC (mU z C) hL)).mono ?_;rintro e w' ⟨v,x',rfl,hr,J⟩;rw[hr.str_inv];exact⟨rfl,J⟩)
   (fun i wr hi C=>by
    have e1:=xbx (x:=rJ wr) (s:=s) (v:=fun j=> [.int .i64 s.k,.slice a1 l1 c1,.int .i64 s.t,.slice a3 l3 c3,.slice a4 l4 c4,.slice a5 l5 c5,.int .i64 s.nx,.slice a7 l7 c7,.slice a8 l8 c8,.slice a9 l9 c9,.slice (some ⟨be,oe,none⟩) s.E.length ce,.slice b1 m1 g1].getD j (.bool false)) (fun j I=>by
     match j,I with
     |0,_=>exact d0.mono (mU z C)
     |1,_=>exact d1.mono (mU z C)
     |2,_=>exact d2.mono (mU z C)
     |3,_=>exact d3.mono (mU z C)
     |4,_=>exact d4.mono (mU z C)
     |5,_=>exact d5.mono (mU z C)
     |6,_=>exact d6.mono (mU z C)
     |7,_=>exact d7.mono (mU z C)
     |8,_=>exact d8.mono (mU z C)
     |9,_=>exact d9.mono (mU z C)
     |10,_=>exact Q.mono (mU z C)
     |11,_=>exact a6.mono (mU z C)) (s.E.getD i lT).m
    refine(jv jF (f65 s hs (s.E.getD i lT).m) e1 (iC (mU z C) hL)).mono ?_;rintro e w' ⟨v,x',rfl,hr,J⟩;rw[hr.str_inv];exact⟨rfl,J⟩)
  refine hw.mono ?_;rintro e w' ⟨rfl,J⟩;refine⟨_,rfl, ?_,J⟩
  have he:nT s h=clG s h h.length:=by unfold clG clF nT;rw[cG,cG];simp
  rw[<-he];exact .dat _ _ (.str _) trivial
end
def Kb(s:Sv)(h:List (Int×Bool)):Prop:=Sm s/\s.E.length<=10/\0<s.E.length/\(∀e∈s.E,1<=e.m/\e.m<=4)/\h.length<=10/\0<h.length/\∀e∈h,1<=e.1/\e.1<=4
open Classical in
def p24(y:LAa)(os:List aG)(k:Nat):Option eI:=if(∃s h,Kb s h/\y=[.agg (ks s h)])/\os=[]/\k=0 then call T 25 y os k else none
theorem WZ{s:Sv}{h:List (Int×Bool)}(y:Kb s h):p24 [.agg (ks s h)] [] 0=some ⟨.str (nT s h),[],[]⟩:=by unfold p24;rw[if_pos ⟨⟨s,h,y,rfl⟩,rfl,rfl⟩];exact f25 s y.1 h y.2.1 y.2.2.2.1 y.2.2.2.2.1 y.2.2.2.2.2.2
theorem WY:∀C os k q,p24 C os k=some q->gu Tryz.prog 24 C os k (· =q):=by
 intro C os k q z;unfold p24 at z;split at z
 ·rename_i F
  obtain⟨⟨s,h,y,rfl⟩,rfl,rfl⟩:=F;rw[f25 s y.1 h y.2.1 y.2.2.2.1 y.2.2.2.2.1 y.2.2.2.2.2.2]at z;cases z;exact Vr s y.1 h y.2.1 y.2.2.1 y.2.2.2.1 y.2.2.2.2.1 y.2.2.2.2.2.1 y.2.2.2.2.2.2
 ·cases z
end
section
section
open Go.RowKit Go.ChangeShapes Go.WideShapes
variable {x : Sit} {w w' : World}
theorem xej{a b c d:Int}{v:Nat->Value}(h:∀j,j<7->bU x.G (([.int .i64 a,.int .i64 b,.int .i64 c,.int .i64 d,bN [],.lst 2 [] .no,.lst 4 [] .no]:LAa).getD j .undef) (v j)):
 cB x [.agg [.int .i64 a,.int .i64 b,.int .i64 c,.int .i64 d,bN [],.lst 2 [] .no,.lst 4 [] .no]] [.agg #[v 0,v 1,v 2,v 3,v 4,v 5,v 6]]:=by
 refine⟨rfl,fun i hi=> ?_⟩
 match i,hi with
 |0,_=>
  refine .agg _ [v 0,v 1,v 2,v 3,v 4,v 5,v 6] rfl fun j y=> ?_
  match j,y with
  |0,_=>exact .dat _ _ (h 0 (by decide)) trivial
  |1,_=>exact .dat _ _ (h 1 (by decide)) trivial
  |2,_=>exact .dat _ _ (h 2 (by decide)) trivial
  |3,_=>exact .dat _ _ (h 3 (by decide)) trivial
  |4,_=>exact .dat _ _ (h 4 (by decide)) trivial
  |5,_=>exact .dat _ _ (h 5 (by decide)) trivial
  |6,_=>exact .dat _ _ (h 6 (by decide)) trivial
def xs2:f9:=[xA,xB]
def xi0(i:Nat)(j:Nat):Int:=match (xs2.getD i []).getD j .undef with
 | .int _ n=>n
 |_=>0
def xL(i:Nat):t8:=if i=0 then tA else tB
def xF(i:Nat):t8:=if i=0 then []else if i=1 then tA++ [10]else txA
theorem QA:gu Tryz.prog 10 [.lst 7 [xA,xB] .no] [] 0 (· =⟨.str txA,[],[]⟩):=by
 refine hU (by kernel_rfl) fun x w vs J z hL=> ?_
 obtain⟨u,rfl,h1⟩:=Pr.repL1 J;rcases Pr.lst_inv (h1.data rfl)with he|⟨b,off,cap,val,rfl,hcap,Q,F⟩
 ·cases he
 have Q:∀i j,i<2->j<7->x.G b (off+i*7+j)=some (val i j):=Q;have F:∀i j,i<2->j<7->bU x.G ((xs2.getD i []).getD j .undef) (val i j):=F;have hb:0<2->b<w.heap.size:=fun h=>cx (z _ _ _ (Q 0 0 h (by decide)))
 have two:∀i,i<2->i=0\/i=1:=fun i hi=>by omega
 have Z:∀i,i<2->val i 0= .int .i64 (xi0 i 0):=fun i hi=>by rcases two i hi with rfl|rfl<;>exact sU (F _ 0 hi (by decide))
 have e1:∀i,i<2->val i 1= .int .i64 (xi0 i 1):=fun i hi=>by rcases two i hi with rfl|rfl<;>exact sU (F _ 1 hi (by decide))
 have e2:∀i,i<2->val i 2= .int .i64 (xi0 i 2):=fun i hi=>by rcases two i hi with rfl|rfl<;>exact sU (F _ 2 hi (by decide))
 have e3:∀i,i<2->val i 3= .int .i64 (xi0 i 3):=fun i hi=>by rcases two i hi with rfl|rfl<;>exact sU (F _ 3 hi (by decide))
 have e4:∀i,i<2->val i 4= .slice (slA (val i 4)) (slN (val i 4)) (slC (val i 4)):=fun i hi=>by rcases two i hi with rfl|rfl<;>exact gN (F _ 4 hi (by decide))
 have e5:∀i,i<2->val i 5= .slice (slA (val i 5)) (slN (val i 5)) (slC (val i 5)):=fun i hi=>by rcases two i hi with rfl|rfl<;>exact fj (F _ 5 hi (by decide))
 have e6:∀i,i<2->val i 6= .slice (slA (val i 6)) (slN (val i 6)) (slC (val i 6)):=fun i hi=>by rcases two i hi with rfl|rfl<;>exact fj (F _ 6 hi (by decide))
 have y:∀i j,i<2->j<7->w.cell? ⟨b,off+i*7+j,none⟩=some (val i j):=fun i j hi K=>z _ _ _ (Q i j hi K)
 have I:∀i wr,i<2->Below w.heap.size w wr->cB (rJ wr) [.agg (xs2.getD i [])] [.agg #[.int .i64 (xi0 i 0),.int .i64 (xi0 i 1),.int .i64 (xi0 i 2),.int .i64 (xi0 i 3),.slice (slA (val i 4)) (slN (val i 4)) (slC (val i 4)),.slice (slA (val i 5)) (slN (val i 5)) (slC (val i 5)),.slice (slA (val i 6)) (slN (val i 6)) (slC (val i 6))]]:=fun i wr hi C=>by
  rcases two i hi with rfl|rfl
  ·have:=xej (x:=rJ wr) (a:=2) (b:=1) (c:=3) (d:=0) (v:=val 0) fun j K=>(F 0 j hi K).mono (mU z C)
   rw[Z 0 hi,e1 0 hi,e2 0 hi,e3 0 hi,e4 0 hi,e5 0 hi,e6 0 hi]at this;exact this
  ·have:=xej (x:=rJ wr) (a:=7) (b:=0) (c:=5) (d:=0) (v:=val 1) fun j K=>(F 1 j hi K).mono (mU z C)
   rw[Z 1 hi,e1 1 hi,e2 1 hi,e3 1 hi,e4 1 hi,e5 1 hi,e6 1 hi]at this;exact this
 have hw:=Pr.w10 w 2 b off cap (fun i=>xi0 i 0) (fun i=>xi0 i 1) (fun i=>xi0 i 2) (fun i=>xi0 i 3)
  (fun i=>slA (val i 4)) (fun i=>slA (val i 5)) (fun i=>slA (val i 6)) (fun i=>slN (val i 4)) (fun i=>slN (val i 5)) (fun i=>slN (val i 6)) (fun i=>slC (val i 4)) (fun i=>slC (val i 5)) (fun i=>slC (val i 6))
  (fun _=>true) xL xF txA
  hb (fun i hi=>by have:=y i 0 hi (by decide);rwa[Z i hi]at this) (fun i hi=>by have:=y i 1 hi (by decide);rwa[e1 i hi]at this)
  (fun i hi=>by have:=y i 2 hi (by decide);rwa[e2 i hi]at this) (fun i hi=>by have:=y i 3 hi (by decide);rwa[e3 i hi]at this)
  (fun i hi=>by have:=y i 4 hi (by decide);rwa[e4 i hi]at this) (fun i hi=>by have:=y i 5 hi (by decide);rwa[e5 i hi]at this) (fun i hi=>by have:=y i 6 hi (by decide);rwa[e6 i hi]at this)
  (by decide) rfl (fun i hi=>by rcases two i hi with rfl|rfl<;>rfl) (fun _=>rfl) (fun i hi h=>by cases h)
  (fun i hi _=>by rcases two i hi with rfl|rfl<;>decide)
  (fun i hi _=>by
   have:i=0\/i=1\/i=2:=by omega
   rcases this with rfl|rfl|rfl<;>decide)
  (fun i wr hi C=>by
   have a6:call T 33 [.agg (xs2.getD i [])] [] 0=some ⟨.bool true,[],[]⟩:=by
    rcases two i hi with rfl|rfl
    ·exact xeB
    ·exact xeA
   refine(jv jF a6 (I i wr hi C) (iC (mU z C) hL)).mono ?_;rintro e w' ⟨v,x',rfl,J,H⟩;rw[J.bool_inv];exact⟨rfl,H⟩)
  (fun i wr hi a7 C=>by
   have a1:call T 35 [.agg (xs2.getD i [])] [] 0=some ⟨.str (xL i),[],[]⟩:=by
    rcases two i hi with rfl|rfl
    ·exact xez
    ·exact xey
   refine(jv jF a1 (I i wr hi C) (iC (mU z C) hL)).mono ?_;rintro e w' ⟨v,x',rfl,J,H⟩;rw[J.str_inv];exact⟨rfl,H⟩)
 refine hw.mono ?_;rintro e w' ⟨rfl,H⟩;exact⟨_,rfl,.dat _ _ (.str _) trivial,H⟩
def Tb:LAa:=[.int .i64 0,.lst 2 [] .no,.int .i64 0,.lst 7 [] .no,.lst 2 [] .no,bN [],.int .i64 0,.lst 3 [] .no,.lst 3 [] .no,.lst 3 [] .no,.lst 11 [] .no,.lst 4 [] .no,.lst 40 [] .no,.lst 9 [] .no]
def Q4:t8:=[99,108,111,99,107,32,48,10]
theorem AT{sz:Nat}{v:Value}(h:Rep x (.lst sz [] .no) v):∃A c,v= .slice A 0 c:=by
 cases h.data rfl with
 |lstN=>exact⟨none,0,rfl⟩
 |lstE _ _ a=>exact⟨some a,0,rfl⟩
 |lst _ _ _ b off cap n val y F z C h2=>subst y;exact⟨_,_,rfl⟩
theorem xiS{v:Value}(h:Rep x (bN []) v):∃A c,v= .slice A 0 c:=by
 cases h.data rfl with
 |bytN=>exact⟨none,0,rfl⟩
 |bytE _ a=>exact⟨some a,0,rfl⟩
 |byt _ _ b off cap n y z h2=>subst y;exact⟨_,_,rfl⟩
theorem Qy:gu Tryz.prog 24 [.agg Tb] [] 0 (· =⟨.str Q4,[],[]⟩):=by
 refine hU (by kernel_rfl) fun x w vs hr y hL=> ?_
 obtain⟨u,rfl,h1⟩:=Pr.repL1 hr;obtain⟨us,rfl,hl,h⟩:=h1.agg_inv
 match us,hl,h with
 |[q0,q1,q2,q3,q4,q5,q6,q7,q8,q9,q10,q11,q12,q13],_,h=>have r0:Rep x (.int .i64 0) q0:=h 0 (by decide);obtain⟨a1,c1,rfl⟩:=AT (show Rep x (.lst 2 [] .no) q1 from h 1 (by decide));have r2:Rep x (.int .i64 0) q2:=h 2 (by decide);obtain⟨a3,c3,rfl⟩:=AT (show Rep x (.lst 7 [] .no) q3 from h 3 (by decide));obtain⟨a4,c4,rfl⟩:=AT (show Rep x (.lst 2 [] .no) q4 from h 4 (by decide));obtain⟨a5,c5,rfl⟩:=xiS (show Rep x (bN []) q5 from h 5 (by decide));have K:Rep x (.int .i64 0) q6:=h 6 (by decide);obtain⟨H,Z,rfl⟩:=AT (show Rep x (.lst 3 [] .no) q7 from h 7 (by decide));obtain⟨z,c8,rfl⟩:=AT (show Rep x (.lst 3 [] .no) q8 from h 8 (by decide));obtain⟨a9,c9,rfl⟩:=AT (show Rep x (.lst 3 [] .no) q9 from h 9 (by decide));obtain⟨Q,d0,rfl⟩:=AT (show Rep x (.lst 11 [] .no) q10 from h 10 (by decide));obtain⟨F,d1,rfl⟩:=AT (show Rep x (.lst 4 [] .no) q11 from h 11 (by decide));obtain⟨b2,d2,rfl⟩:=AT (show Rep x (.lst 40 [] .no) q12 from h 12 (by decide));obtain⟨J,C,rfl⟩:=AT (show Rep x (.lst 9 [] .no) q13 from h 13 (by decide));rw[r0.int_inv,r2.int_inv,K.int_inv];refine(Pr.w24 w 0 0 a1 a3 a4 a5 H z a9 Q F b2 J c1 c3 c4 c5 Z c8 c9 d0 d1 d2 C).mono ?_;rintro e w' ⟨rfl,I⟩;exact⟨_,rfl,.dat _ _ (.str Q4) trivial,I⟩
end
end
end Go.Proofs.YtmhhnklkcmpdkaaGreatDoor
