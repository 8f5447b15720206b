/- What the functions come to. No condition. -/
import Derived.Test.YtdafipacemgcoaaGreatDoorTc
set_option maxRecDepth 100000
set_option linter.unusedSimpArgs false
set_option linter.unusedVariables false
namespace Go.Proofs.YtdafipacemgcoaaGreatDoor
open Go.Sy
open UInt8 renaming reduceLT → Q0, reduceLE → Q1
open Int renaming reduceToNat → Q2, reduceLE → Q3, reduceLT → Q4, reduceEq → Q5, reduceNe → Q6, reduceNeg → Q7, reduceAdd → Q8, reduceSub → Q9, reduceMul → Qa
open Nat renaming reducePow → Qb, reduceDiv → Qc, reduceMod → Qd, reduceAdd → Qe, reduceSub → Qf, reduceMul → Qg, reduceLT → Qh, reduceLeDiff → Qi, reduceEqDiff → Qj, reduceBEq → Qk
theorem getD_memI (l:List Img) (i:Nat) (h:i<l.length):l.getD i im0∈l:=by rw [List.getD_eq_getElem?_getD,List.getElem?_eq_getElem h];exact List.getElem_mem _
theorem snoc_lt {α:Type} (l:List α) (x d:α) (i:Nat) (h:i<l.length):(l++ [x]).getD i d=l.getD i d:=by rw [List.getD_eq_getElem?_getD,List.getD_eq_getElem?_getD,List.getElem?_append_left h]
theorem snoc_eq {α:Type} (l:List α) (x d:α):(l++ [x]).getD l.length d=x:=by rw [List.getD_eq_getElem?_getD,List.getElem?_append_right (Nat.le_refl _),Nat.sub_self];rfl
structure ChP (l:List Img) (role:Int):Prop where
 ok:∀i,i<l.length→imgE (l.getD i im0)=0
 le:∀i,i<l.length→(l.getD i im0).role≤role
 ord:∀i,i+1<l.length→(l.getD i im0).role≤(l.getD (i+1) im0).role
 dup:∀i,i<l.length→∀k,k<i→(l.getD k im0).role=(l.getD i im0).role→(l.getD k im0).name≠(l.getD i im0).name
def agn (x:Img) (l:List Img):Bool:=l.any fun y=>decide (y.role=x.role)&&decide (y.name=x.name)
theorem ChP.snoc {l:List Img} {role:Int} (h:ChP l role) {x:Img} (hx:imgE x=0) (hr:x.role=role) (ha:agn x l=false):ChP (l++ [x]) role:=by
 have hlen:(l++ [x]).length=l.length+1:=by simp
 refine⟨fun i hi=> ?_,fun i hi=> ?_,fun i hi=> ?_,fun i hi k hk=> ?_⟩
 ·rcases Nat.lt_or_ge i l.length with h1|h1
  ·rw [snoc_lt l x im0 i h1];exact h.ok i h1
  ·rw [show i=l.length from by omega,snoc_eq];exact hx
 ·rcases Nat.lt_or_ge i l.length with h1|h1
  ·rw [snoc_lt l x im0 i h1];exact h.le i h1
  ·rw [show i=l.length from by omega,snoc_eq,hr];exact Int.le_refl _
 ·rw [snoc_lt l x im0 i (by omega)]
  rcases Nat.lt_or_ge (i+1) l.length with h1|h1
  ·rw [snoc_lt l x im0 (i+1) h1];exact h.ord i h1
  ·rw [show i+1=l.length from by omega,snoc_eq,hr];exact h.le i (by omega)
 ·rcases Nat.lt_or_ge i l.length with h1|h1
  ·rw [snoc_lt l x im0 i h1,snoc_lt l x im0 k (by omega)];exact h.dup i h1 k hk
  ·rw [show i=l.length from by omega]at hk ⊢
   rw [snoc_eq,snoc_lt l x im0 k hk];intro q1 q2;unfold agn at ha;rw [List.any_eq_false]at ha;have:=ha (l.getD k im0) (getD_memI l k hk);rw [decide_eq_true q1,decide_eq_true q2]at this;exact this rfl
theorem l24a (B:List UInt8) (j:Nat) (l:List Img) (x:Img) (role n:Int) (hl:l.length≤100):∀(k i:Nat) (ag:Bool),l.length-i=k→i≤l.length→
 run T (.loop r24_15) ⟨[(3,.ptr 12100 0),(4,.lst 4 (imsv l) (.id 104)),(5,.int .i64 role),(6,.int .i64 n),(7,.ptr 107 0),(8,.bool ag),(9,.int .i64 i)],[(107,.rc x.sv),(12100,codesO B j)],[104]⟩=
 some (.x 4,⟨[(3,.ptr 12100 0),(4,.lst 4 (imsv l) (.id 104)),(5,.int .i64 role),(6,.int .i64 n),(7,.ptr 107 0),(8,.bool (ag||agn x (l.drop i)))],[(107,.rc x.sv),(12100,codesO B j)],[104]⟩):=by
 intro k;induction k with
 |zero=>
  intro i ag h0 h1;have:i=l.length:=by omega
  subst this;have hv:=imsv_len l;obtain⟨a,b,c,d⟩:=x;simp only [codesO,Img.sv]at*;rw [run_loop,List.drop_length];simp only [go_sem,Qh,Qj,Qk,reduceIte,hv,agn,List.any_nil,Bool.or_false]
 | succ k ih=>
  intro i ag h0 h1;have hi:i<l.length:=by omega
  have e1:=wsucc i (by omega);have ih':=ih (i+1) (ag||(decide ((l.getD i im0).role=x.role)&&decide ((l.getD i im0).name=x.name))) (by omega) (by omega);have hv:=imsv_len l;have hg:=imsv_get l i hi;have hd:l.drop i=l.getD i im0::l.drop (i+1):=by rw [List.drop_eq_getElem_cons hi,List.getD_eq_getElem?_getD,List.getElem?_eq_getElem hi];rfl
  have ha:agn x (l.drop i)=((decide ((l.getD i im0).role=x.role)&&decide ((l.getD i im0).name=x.name))||agn x (l.drop (i+1))):=by rw [hd];rfl
  rw [ha,←Bool.or_assoc];rw [run_loop];generalize agn x (l.drop (i+1))=R at*;generalize l.getD i im0=y at*;obtain⟨a,b,c,d⟩:=x;obtain⟨a2,b2,c2,d2⟩:=y;simp only [codesO,Img.sv]at*;cases ag with
  |true=>simp only [Bool.true_or]at ih' ⊢;simp only [go_sem,Qb,Qc,Qd,Qh,Qj,Qk,reduceIte,hi,e1,hv,ih']
  | false=>
   by_cases p1:a2=a
   ·by_cases p2:b2=b
    ·rw [decide_eq_true p1,decide_eq_true p2]at ih' ⊢
     simp only [Bool.and_self,Bool.false_or,Bool.true_or]at ih' ⊢;simp only [go_sem,Qb,Qc,Qd,Qe,Qh,Qi,Qj,Qk,reduceIte,hi,e1,hv,hg,p1,p2,ih']
    ·rw [decide_eq_true p1,decide_eq_false p2]at ih' ⊢
     simp only [Bool.and_false,Bool.false_or]at ih' ⊢;simp only [go_sem,Qb,Qc,Qd,Qe,Qh,Qi,Qj,Qk,reduceIte,hi,e1,hv,hg,p1,p2,ih']
   ·rw [decide_eq_false p1]at ih' ⊢
    simp only [Bool.false_and,Bool.false_or]at ih' ⊢;simp only [go_sem,Qb,Qc,Qd,Qe,Qh,Qi,Qj,Qk,reduceIte,hi,e1,hv,hg,p1,ih']
theorem imsv_snoc (l:List Img) (x:Img):imsv l++ [x.sv]=imsv (l++ [x]):=by rw [imsv,imsv,List.map_append];rfl
theorem agn_true {x:Img} {l:List Img} (h:agn x l=true):∃i,i<l.length∧(l.getD i im0).role=x.role:=by unfold agn at h;rw [List.any_eq_true]at h;obtain⟨y,hy,h⟩:=h;obtain⟨i,hi,rfl⟩:=List.getElem_of_mem hy;refine⟨i,hi, ?_⟩;rw [Bool.and_eq_true]at h;rw [List.getD_eq_getElem?_getD,List.getElem?_eq_getElem hi];exact of_decide_eq_true h.1
theorem l24b (B:List UInt8) (hB:B.length≤1000) (role:Int) (r1:1≤role) (r4:role≤4):∀(n:Nat) (l:List Img) (j:Nat),l.length+n≤8→ChP l role→
 ∃r j',ChP (l++r) role∧r.length≤n∧(1≤n→∃i,i<(l++r).length∧((l++r).getD i im0).role=role)∧
 run T (.loop r24_19) ⟨[(3,.ptr 12100 0),(4,.lst 4 (imsv l) (.id 104)),(5,.int .i64 role),(6,.int .i64 (n:Int))],[(12100,codesO B j)],[104]⟩=
  some (.x 2,⟨[(3,.ptr 12100 0),(4,.lst 4 (imsv (l++r)) (.id 104)),(5,.int .i64 role)],[(12100,codesO B j')],[104]⟩):=by
 intro n;induction n with
 |zero=>intro l j hl hc;refine⟨[],j,by rw [List.append_nil];exact hc,Nat.zero_le _,fun h=>absurd h (by omega), ?_⟩;rw [List.append_nil,run_loop];simp only [codesO];simp only [go_sem,Q4,Qh,Qj,Qk,reduceIte]
 | succ n ih=>
  intro l j hl hc;obtain⟨x,j1,hx,hr,g⟩:=f65 B j hB role r1 r4;have ga:=l24a B j1 l x role ((n+1:Nat):Int) (by omega) l.length 0 false (by omega) (Nat.zero_le _);have hp:(0:Int)<((n+1:Nat):Int):=by omega
  have e1:IntKind.i64.wrap (((n+1:Nat):Int)-1)=(n:Int):=by rw [w64 (by omega) (by omega)];omega
  have hv:=imsv_len l;have hs:=imsv_snoc l x;have c1:(l.length+1)*56≤140737488355328:=by omega
  rw [List.drop_zero,Bool.false_or,show((0:Nat):Int)=0 from rfl]at ga;cases ha:agn x l with
  | true=>
   rw [ha]at ga;obtain⟨r,j',q1,q2,q3,q4⟩:=ih l j1 (by omega) hc;refine⟨r,j',q1,by omega,fun _=> ?_, ?_⟩
   ·obtain⟨i,hi,e⟩:=agn_true ha
    refine⟨i,by rw [List.length_append];omega, ?_⟩;rw [List.getD_eq_getElem?_getD,List.getElem?_append_left hi,←List.getD_eq_getElem?_getD,e,hr]
   ·rw [run_loop]
    obtain⟨a,b,c,d⟩:=x;simp only [codesO,Img.sv]at g ga q4 hs ⊢;simp only [go_sem,Qe,Qg,Qh,Qi,Qj,Qk,reduceIte,hp,g,S_65,e1,ga,q4]
  | false=>
   rw [ha]at ga;obtain⟨r,j',q1,q2,q3,q4⟩:=ih (l++ [x]) j1 (by rw [List.length_append,List.length_singleton];omega) (hc.snoc hx hr ha);rw [List.append_assoc]at q1 q3 q4;refine⟨[x]++r,j',q1,by rw [List.length_append,List.length_singleton];omega,fun _=> ?_, ?_⟩
   ·refine⟨l.length,by rw [List.length_append,List.length_append,List.length_singleton];omega, ?_⟩
    rw [List.getD_eq_getElem?_getD,List.getElem?_append_right (Nat.le_refl _),Nat.sub_self];exact hr
   ·rw [run_loop]
    obtain⟨a,b,c,d⟩:=x;rw [←List.append_assoc,←imsv_snoc]at*;simp only [codesO,Img.sv]at g ga q4 ⊢;simp only [go_sem,Qe,Qg,Qh,Qi,Qj,Qk,reduceIte,hp,g,S_65,e1,ga,hv,c1,q4]
theorem chp_ex {l r:List Img} {c:Int} (h:∃i,i<l.length∧(l.getD i im0).role=c):∃i,i<(l++r).length∧((l++r).getD i im0).role=c:=by obtain⟨i,hi,e⟩:=h;refine⟨i,by rw [List.length_append];omega, ?_⟩;rw [List.getD_eq_getElem?_getD,List.getElem?_append_left hi,←List.getD_eq_getElem?_getD,e]
theorem l24c (B:List UInt8) (hB:B.length≤1000) (role:Int) (r1:1≤role) (r4:role≤4) (l:List Img) (j:Nat) (hl:l.length+2≤8) (hc:ChP l role):
 ∃r j',ChP (l++r) role∧r.length≤2∧(role=1∨role=3→∃i,i<(l++r).length∧((l++r).getD i im0).role=role)∧
 run T (.loop r24_21) ⟨[(3,.ptr 12100 0),(4,.lst 4 (imsv l) (.id 104)),(5,.int .i64 role)],[(12100,codesO B j)],[104]⟩=
 run T (.loop r24_21) ⟨[(3,.ptr 12100 0),(4,.lst 4 (imsv (l++r)) (.id 104)),(5,.int .i64 (role+1))],[(12100,codesO B j')],[104]⟩:=by
 have g1:=f37 B j 3 (by omega) (by omega);have g2:=f37 B (nextA B j) 2 (by omega) (by omega);have v1:=nextV_lt B j 3 (by omega);have v2:=nextV_lt B (nextA B j) 2 (by omega);have c2:((2:Nat):Int)=2:=rfl;rw [cz3]at g1;rw [c2]at g2;have e:IntKind.i64.wrap (1+((nextV B (nextA B j) 2:Nat):Int))=((1+nextV B (nextA B j) 2:Nat):Int):=by rw [w64 (by omega) (by omega)];omega
 have hr:role=1∨role=2∨role=3∨role=4:=by omega
 rcases hr with rfl|rfl|rfl|rfl
 ·obtain⟨r,j',q1,q2,q3,q4⟩:=l24b B hB 1 (by decide) (by decide) (1+nextV B (nextA B j) 2) l (nextA B (nextA B j)) (by omega) hc
  refine⟨r,j',q1,by omega,fun _=>q3 (by omega), ?_⟩;rw [run_loop];simp only [codesO]at g1 g2 q4 ⊢;simp only [go_sem,Q3,Q5,Q8,Qe,Qg,Qh,Qi,Qj,Qk,reduceIte,g1,g2,S_37,e,q4];rfl
 ·obtain⟨r,j',q1,q2,q3,q4⟩:=l24b B hB 2 (by decide) (by decide) (nextV B j 3) l (nextA B j) (by omega) hc
  refine⟨r,j',q1,by omega,fun h=>absurd h (by decide), ?_⟩;rw [run_loop];simp only [codesO]at g1 g2 q4 ⊢;simp only [go_sem,Q3,Q5,Q8,Qe,Qg,Qh,Qi,Qj,Qk,reduceIte,g1,S_37,q4];rfl
 ·obtain⟨r,j',q1,q2,q3,q4⟩:=l24b B hB 3 (by decide) (by decide) (1+nextV B (nextA B j) 2) l (nextA B (nextA B j)) (by omega) hc
  refine⟨r,j',q1,by omega,fun _=>q3 (by omega), ?_⟩;rw [run_loop];simp only [codesO]at g1 g2 q4 ⊢;simp only [go_sem,Q3,Q5,Q8,Qe,Qg,Qh,Qi,Qj,Qk,reduceIte,g1,g2,S_37,e,q4];rfl
 ·obtain⟨r,j',q1,q2,q3,q4⟩:=l24b B hB 4 (by decide) (by decide) (nextV B j 3) l (nextA B j) (by omega) hc
  refine⟨r,j',q1,by omega,fun h=>absurd h (by decide), ?_⟩;rw [run_loop];simp only [codesO]at g1 g2 q4 ⊢;simp only [go_sem,Q3,Q5,Q8,Qe,Qg,Qh,Qi,Qj,Qk,reduceIte,g1,S_37,q4];rfl
theorem chp_up {l:List Img} {a b:Int} (h:ChP l a) (hab:a≤b):ChP l b:=⟨h.ok,fun i hi=>Int.le_trans (h.le i hi) hab,h.ord,h.dup⟩
theorem f24 (codes:List UInt8):∃l,ChainOK l∧call T 24 [.byt codes .no] [] 0=some ⟨.lst 4 (imsv l) .no,[],[]⟩:=by
 have hB:(codes.take 200).length≤1000:=by rw [List.length_take];omega
 have g:=f35 codes 200;have c200:((200:Nat):Int)=200:=rfl;rw [c200]at g;generalize codes.take 200=B at*;have h0:ChP [] 1:=⟨fun i hi=>absurd hi (by simp),fun i hi=>absurd hi (by simp),fun i hi=>absurd hi (by simp),fun i hi=>absurd hi (by simp)⟩;obtain⟨a1,j1,p1,n1,w1,t1⟩:=l24c B hB 1 (by decide) (by decide) [] 0 (by decide) h0;rw [List.nil_append]at p1 w1 t1;obtain⟨a2,j2,p2,n2,w2,t2⟩:=l24c B hB 2 (by decide) (by decide) a1 j1 (by omega) (chp_up p1 (by decide));obtain⟨a3,j3,p3,n3,w3,t3⟩:=l24c B hB 3 (by decide) (by decide) (a1++a2) j2 (by rw [List.length_append];omega) (chp_up p2 (by decide));obtain⟨a4,j4,p4,n4,w4,t4⟩:=l24c B hB 4 (by decide) (by decide) (a1++a2++a3) j3 (by simp only [List.length_append];omega) (chp_up p3 (by decide));refine⟨a1++a2++a3++a4,⟨?_, ?_,p4.ok,p4.ord,p4.dup,chp_ex (chp_ex (chp_ex (w1 (Or.inl rfl)))),chp_ex (w3 (Or.inr rfl))⟩, ?_⟩
 ·obtain⟨i,hi,_⟩:=w1 (Or.inl rfl)
  simp only [List.length_append];omega
 ·simp only [List.length_append];omega
 ·rw [call_code T_24]
  rw [show(1:Int)+1=2 from rfl]at t1;rw [show(2:Int)+1=3 from rfl]at t2;rw [show(3:Int)+1=4 from rfl]at t3;rw [show(4:Int)+1=5 from rfl]at t4
  have t5:run T (.loop r24_21) ⟨[(3,.ptr 12100 0),(4,.lst 4 (imsv (a1++a2++a3++a4)) (.id 104)),(5,.int .i64 5)],[(12100,codesO B j4)],[104]⟩=some (.x 0,⟨[(4,.lst 4 (imsv (a1++a2++a3++a4)) (.id 104))],[(12100,codesO B j4)],[104]⟩):=by rw [run_loop];simp only [codesO,go_sem,Q3,Qh,Qj,Qk,reduceIte]
  rw [t5]at t4;rw [t4]at t3;rw [t3]at t2;rw [t2]at t1;have e0:imsv []=[]:=rfl;rw [e0]at t1;have c0:((0:Nat):Int)=0:=rfl;simp only [codesO,c0,List.append_assoc]at g t1;simp only [go_sem,Qe,Qg,Qh,Qi,Qj,Qk,reduceCtorEq,reduceIte,g,S_35,t1,List.append_assoc]
theorem evsv_app (l:List Ev) (e:Ev):evsv (l++ [e])=evsv l++ [e.sv]:=by simp [evsv]
def sepF (a:Int):Nat→Nat→List Ev
 |_,0=> []
 |i,n+1=>mkV i 2 a [0,0,0,0]::sepF a (i+1) n
theorem sepF_len (a:Int):∀n i,(sepF a i n).length=n
 |0,_=>rfl
 |n+1,i=>by rw [sepF,List.length_cons,sepF_len a n]
theorem l31a (L:List (List SV)) (a role:Int) (ha:actv a):∀(n i:Nat) (acc:List Ev),8-i=n→i≤8→acc.length≤100000+i→
 run T (.loop r31_11) ⟨[(0,.lst 4 L .no),(1,.int .i64 a),(5,.lst 4 (evsv acc) (.id 105)),(6,.int .i64 role),(7,.int .i64 i)],[],[105]⟩=
 some (.x 2,⟨[(0,.lst 4 L .no),(1,.int .i64 a),(5,.lst 4 (evsv (acc++sepF a i n)) (.id 105)),(6,.int .i64 role)],[],[105]⟩):=by
 have g1:=f77;intro n;induction n with
 |zero=>
  intro i acc h0 h1 h2;have:i=8:=by omega
  subst this;rw [run_loop];simp only [go_sem,Q4,Qh,Qj,Qk,reduceCtorEq,reduceIte,sepF,List.append_nil]
 |succ n ih=>
  intro i acc h0 h1 h2;have hi:(i:Int)<8:=by omega
  have e1:=wsucc i (by omega);have g:=f76 i 2 a [0,0,0,0] ha (by simp);have ih':=ih (i+1) (acc++ [mkV i 2 a [0,0,0,0]]) (by omega) (by omega) (by rw [List.length_append,List.length_singleton];omega);rw [evsv_app,List.append_assoc,List.singleton_append]at ih';have hl:=evsv_len acc;have c1:(acc.length+1)*64≤140737488355328:=by omega
  rw [run_loop,sepF];simp only [Ev.sv]at g ih';simp only [go_sem,Qe,Qh,Qi,Qj,Qk,reduceCtorEq,reduceIte,hi,e1,g1,S_77,g,S_76,hl,c1,ih']
theorem lnF_bd (B:Nat):∀(p:List UInt8) (o:List (List UInt8)) (l:List UInt8) (o':List (List UInt8)) (l':List UInt8),o.length≤4→(∀x∈o,x.length≤B)→l.length+p.length≤B→lnF p o l=some (o',l')→o'.length≤4∧∀x∈o',x.length≤B
 |[],o,l,o',l',h1,h2,_,h=>by cases h;exact⟨h1,h2⟩
 | c ::r,o,l,o',l',h1,h2,h3,h=>by
  rw [List.length_cons]at h3;unfold lnF at h;split at h
  ·split at h
   ·cases h
   ·split at h
    ·cases h
    ·refine lnF_bd B r _ _ o' l' (by rw [List.length_append,List.length_singleton];omega) ?_ (by simp;omega) h
     intro x hx;rcases List.mem_append.1 hx with hx|hx
     ·exact h2 x hx
     ·rw [List.mem_singleton.1 hx];omega
  ·split at h
   ·cases h
   ·split at h
    ·cases h
    ·exact lnF_bd B r _ _ o' l' h1 h2 (by rw [List.length_append,List.length_singleton];omega) h
theorem linesV_bd (p:List UInt8):(linesV p).length≤4∧∀x∈linesV p,x.length≤p.length:=by
 unfold linesV;split
 ·rename_i o l h
  have:=lnF_bd p.length p [] [] o l (by simp) (by simp) (by simp) h;split
  ·exact⟨by simp,by simp⟩
  ·exact this
 ·exact⟨by simp,by simp⟩
theorem bls_get (l:List (List UInt8)) (i:Nat) (h:i<l.length):(bls l).getD i []=[.byt (l.getD i []) .no]:=by simp [bls,List.getD_eq_getElem?_getD,h]
theorem l31b (L:List (List SV)) (a role:Int) (i:Int) (ls:List (List UInt8)) (ha:actv a) (hls:∀x∈ls,x.length≤1000000) (hn:ls.length≤4):∀(n k:Nat) (acc:List Ev),ls.length-k=n→k≤ls.length→acc.length≤100000+k→
 run T (.loop r31_22) ⟨[(0,.lst 4 L .no),(1,.int .i64 a),(5,.lst 4 (evsv acc) (.id 105)),(6,.int .i64 role),(8,.int .i64 i),(9,.lst 1 (bls ls) .no),(10,.int .i64 k)],[],[105]⟩=
 some (.x 6,⟨[(0,.lst 4 L .no),(1,.int .i64 a),(5,.lst 4 (evsv (acc++(ls.drop k).map (mkV 9 3 a))) (.id 105)),(6,.int .i64 role),(8,.int .i64 i)],[],[105]⟩):=by
 intro n;induction n with
 |zero=>
  intro k acc h0 h1 h2;have:k=ls.length:=by omega
  subst this;have hb:=bls_len ls;rw [run_loop,List.drop_length];simp only [go_sem,Qh,Qj,Qk,reduceCtorEq,reduceIte,hb,List.append_nil]
 |succ n ih=>
  intro k acc h0 h1 h2;have hk:k<ls.length:=by omega
  have e1:=wsucc k (by omega);have hb:=bls_len ls;have hg:=bls_get ls k hk;have hm:ls.getD k []∈ls:=by rw [List.getD_eq_getElem?_getD,List.getElem?_eq_getElem hk];exact List.getElem_mem _
  have g:=f76 9 3 a (ls.getD k []) ha (hls _ hm);have ih':=ih (k+1) (acc++ [mkV 9 3 a (ls.getD k [])]) (by omega) (by omega) (by rw [List.length_append,List.length_singleton];omega);have hd:ls.drop k=ls.getD k []::ls.drop (k+1):=drop_cons ls k hk;rw [evsv_app,List.append_assoc,List.singleton_append]at ih';rw [hd,List.map_cons];have hl:=evsv_len acc;have c1:(acc.length+1)*64≤140737488355328:=by omega
  generalize ls.getD k []=d at*;rw [run_loop];simp only [Ev.sv]at g ih';simp only [go_sem,Qe,Qh,Qi,Qj,Qk,reduceCtorEq,reduceIte,hk,e1,hb,hg,g,S_76,hl,c1,ih']
def evIm (a role:Int) (x:Img):List Ev:=if x.role=role then(if role=4 then(linesV x.pay).map (mkV 9 3 a)else [ofI x a])else []
theorem evIm_len (a role:Int) (x:Img):(evIm a role x).length≤4:=by
 unfold evIm;split
 ·split
  ·rw [List.length_map];exact(linesV_bd x.pay).1
  ·simp
 ·simp
theorem l31c (l:List Img) (hc:ChainOK l) (a role:Int) (ha:actv a):∀(n i:Nat) (acc:List Ev),l.length-i=n→i≤l.length→acc.length≤10000+4*i→
 run T (.loop r31_24) ⟨[(0,.lst 4 (imsv l) .no),(1,.int .i64 a),(5,.lst 4 (evsv acc) (.id 105)),(6,.int .i64 role),(8,.int .i64 i)],[],[105]⟩=
 some (.x 4,⟨[(0,.lst 4 (imsv l) .no),(1,.int .i64 a),(5,.lst 4 (evsv (acc++(l.drop i).flatMap (evIm a role))) (.id 105)),(6,.int .i64 role)],[],[105]⟩):=by
 intro n;induction n with
 |zero=>
  intro i acc h0 h1 h2;have:i=l.length:=by omega
  subst this;have hb:=imsv_len l;rw [run_loop,List.drop_length];simp only [go_sem,Qh,Qj,Qk,reduceCtorEq,reduceIte,hb,List.flatMap_nil,List.append_nil]
 | succ n ih=>
  intro i acc h0 h1 h2;have hi:i<l.length:=by omega
  have n8:=hc.n8;have e1:=wsucc i (by omega);have hb:=imsv_len l;have hg:=imsv_get l i hi;have hok:=hc.ok i hi;obtain⟨b1,b2⟩:=img_bd hok;have hlen:=evIm_len a role (l.getD i im0);have ih':=ih (i+1) (acc++evIm a role (l.getD i im0)) (by omega) (by omega) (by rw [List.length_append];omega);have hd:l.drop i=l.getD i im0::l.drop (i+1):=by rw [List.drop_eq_getElem_cons hi,List.getD_eq_getElem?_getD,List.getElem?_eq_getElem hi];rfl
  rw [hd,List.flatMap_cons];rw [List.append_assoc]at ih';generalize (l.drop (i+1)).flatMap (evIm a role)=R at*;rw [run_loop];have g1:=f79 (l.getD i im0) (by omega);have g2:=fun h4=>f78 (l.getD i im0) a ha hok h4
  obtain⟨k1,k2⟩:=linesV_bd (l.getD i im0).pay;generalize l.getD i im0=x at*;have g3:=l31b (imsv l) a 4 i (linesV x.pay) ha (fun y hy=>by have:=k2 y hy;omega) k1 _ 0 acc rfl (by omega) (by omega);simp only [Int.natCast_zero,List.drop_zero]at g3;have hl:=evsv_len acc;have c1:(acc.length+1)*64≤140737488355328:=by omega
  unfold evIm at ih' ⊢
  by_cases hr:x.role=role
  ·by_cases h4:role=4
   ·rw [if_pos hr,if_pos h4]at ih' ⊢
    subst h4;obtain⟨ro,na,ve,p⟩:=x;simp only [Img.sv]at*;subst hr;simp only [go_sem,Qe,Qh,Qi,Qj,Qk,reduceCtorEq,reduceIte,hi,e1,hb,hg,g1,S_79,g3,ih']
   ·rw [if_pos hr,if_neg h4]at ih' ⊢
    have g2':=g2 (by rw [hr];exact h4);obtain⟨ro,na,ve,p⟩:=x;simp only [Img.sv]at*;subst hr;rw [←List.append_assoc,evsv_app,List.append_assoc]at ih';simp only [Ev.sv]at g2' ih';simp only [go_sem,Qe,Qh,Qi,Qj,Qk,reduceCtorEq,reduceIte,hi,e1,hb,hg,h4,g2',S_78,hl,c1,ih']
  ·rw [if_neg hr]at ih' ⊢
   obtain⟨ro,na,ve,p⟩:=x;simp only [Img.sv,List.nil_append,List.append_nil]at*;simp only [go_sem,Qe,Qh,Qi,Qj,Qk,reduceCtorEq,reduceIte,hi,e1,hb,hg,hr,ih']
def evF (l:List Img) (a:Int):List Ev:=l.flatMap (evIm a 1)++(l.flatMap (evIm a 2)++(sepF a 0 8++(l.flatMap (evIm a 3)++l.flatMap (evIm a 4))))
theorem flat_len (l:List Img) (a role:Int):(l.flatMap (evIm a role)).length≤4*l.length:=by
 induction l with
 |nil=>simp
 |cons x r ih=>rw [List.flatMap_cons,List.length_append,List.length_cons];have:=evIm_len a role x;omega
set_option maxHeartbeats 4000000 in
theorem f31 (l:List Img) (hc:ChainOK l) (a:Int) (ha:actv a):call T 31 [.lst 4 (imsv l) .no,.int .i64 a] [] 0=some ⟨.lst 4 (evsv (evF l a)) .no,[],[]⟩:=by
 have g:=f75 l hc;have n8:=hc.n8;have b1:=flat_len l a 1;have b2:=flat_len l a 2;have b3:=flat_len l a 3;have b0:=sepF_len a 8 0;have q1:=l31c l hc a 1 ha _ 0 [] rfl (by omega) (by simp);have q2:=l31c l hc a 2 ha _ 0 (l.flatMap (evIm a 1)) rfl (by omega) (by omega);have q0:=l31a (imsv l) a 3 ha _ 0 (l.flatMap (evIm a 1)++l.flatMap (evIm a 2)) rfl (by omega) (by rw [List.length_append];omega);have q3:=l31c l hc a 3 ha _ 0 (l.flatMap (evIm a 1)++l.flatMap (evIm a 2)++sepF a 0 8) rfl (by omega) (by rw [List.length_append,List.length_append];omega);have q4:=l31c l hc a 4 ha _ 0 (l.flatMap (evIm a 1)++l.flatMap (evIm a 2)++sepF a 0 8++l.flatMap (evIm a 3)) rfl (by omega) (by rw [List.length_append,List.length_append,List.length_append];omega);simp only [Int.natCast_zero,List.drop_zero,List.nil_append,List.append_assoc]at q1 q2 q0 q3 q4;have hev:evsv []=[]:=rfl;rw [hev]at q1;have a1:¬a<1:=by rcases ha with h|h|h<;>omega
 have a3:¬3<a:=by rcases ha with h|h|h<;>omega
 have k2:IntKind.i64.wrap 2=2:=rfl;have k3:IntKind.i64.wrap 3=3:=rfl;have k4:IntKind.i64.wrap 4=4:=rfl;have k5:IntKind.i64.wrap 5=5:=rfl;rw [call_code T_31];unfold evF;simp only [go_sem,Qe,Qh,Qi,Qj,Qk,reduceCtorEq,reduceIte,g,S_75,a1,a3];rw [run_loop];simp only [go_sem,Q3,Q5,Q8,Qe,Qh,Qj,Qk,reduceCtorEq,reduceIte,k2,q1];rw [run_loop];simp only [go_sem,Q3,Q5,Q8,Qe,Qh,Qj,Qk,reduceCtorEq,reduceIte,k3,q2];rw [run_loop];simp only [go_sem,Q3,Q8,Qe,Qf,Qh,Qj,Qk,reduceCtorEq,reduceIte,k4,q0,q3];rw [run_loop];simp only [go_sem,Q3,Q5,Q8,Qe,Qh,Qj,Qk,reduceCtorEq,reduceIte,k5,q4];rw [run_loop];simp only [go_sem,Q3,Qh,Qj,Qk,reduceCtorEq,reduceIte]
def idxF {α:Type} (p:α→Bool):List α→Nat→Int
 |[],_=> -1
 |x::r,i=>if p x=true then(i:Int)else idxF p r (i+1)
def itE (e:Ev) (x:Ent):Bool:=decide (e.reg=regR x.role)&&(decide (e.dg.getD 1 []=x.dig)&&decide (e.data=labV x.name x.ver))
def okEnt (x:Ent):Prop:=0≤x.ver∧x.ver≤1000000∧x.name.length≤1000000
theorem entE_ok {l:List Ent} {i:Nat} (h:entE l i=0):1≤(l.getD i en0).role∧(l.getD i en0).role≤3∧0≤(l.getD i en0).ver∧(l.getD i en0).ver≤1000000∧(l.getD i en0).dig.length=32∧Pr.nameB (l.getD i en0).name=true:=by
 unfold entE at h;generalize l.getD i en0=x at*
 repeat' split at h
 all_goals first|omega|skip
 all_goals (refine⟨by omega,by omega,by omega,by omega,by omega,by assumption⟩)
theorem entsE_ok (l:List Ent):∀(n i:Nat),entsE l n i=0→∀k,i≤k→k<i+n→entE l k=0
 |0,i,_,k,h1,h2=>by omega
 | n+1,i,h,k,h1,h2=>by
  unfold entsE at h
  by_cases h0:entE l i=0
  ·rw [if_pos h0]at h
   rcases Nat.lt_or_ge i k with h3|h3
   ·exact entsE_ok l n (i+1) h k (by omega) (by omega)
   ·have:k=i:=by omega
    rw [this];exact h0
  ·rw [if_neg h0]at h;exact absurd h h0
theorem manE_ok {m:Man} (h:manE m=0):entsE m.ents m.ents.length 0=0∧rulsE m.ruls=0∧m.ents.length≤16∧m.ruls.length≤8∧Pr.nameB m.vendor=true∧0≤m.flr∧m.flr≤m.ver∧m.ver≤1000000∧0≤m.frm∧m.frm<m.til∧m.til≤1099511627776:=by
 unfold manE at h
 by_cases h0:Pr.nameB m.vendor=true
 ·rw [if_pos h0]at h
  repeat' split at h
  all_goals first|(exfalso;omega)|skip
  refine⟨by assumption,h,by omega,by omega,h0,by omega,by omega,by omega,by omega,by omega,by omega⟩
 ·rw [if_neg h0]at h;omega
theorem man_ent {m:Man} (h:manE m=0):∀x∈m.ents,1≤x.role∧x.role≤3∧okEnt x∧x.dig.length=32∧Pr.nameB x.name=true:=by
 intro x hx;obtain⟨i,hi,rfl⟩:=List.getElem_of_mem hx;have h1:=entE_ok (entsE_ok m.ents _ 0 (manE_ok h).1 i (Nat.zero_le _) (by omega));have e:m.ents.getD i en0=m.ents[i]:=by rw [List.getD_eq_getElem?_getD,List.getElem?_eq_getElem hi];rfl
 rw [e]at h1;obtain⟨a,b,c,d,f,g⟩:=h1;have:=nameB_len g;exact⟨a,b,⟨c,d,by omega⟩,f,g⟩
set_option maxHeartbeats 4000000 in
theorem f46 (e:Ev) (x:Ent) (hd:e.dg.length=2) (hx:okEnt x):call T 46 [.agg x.sv,.ptr 0 0] [.rc e.sv] 0=some ⟨.bool (itE e x),[(0,.rc e.sv)],[]⟩:=by
 obtain⟨h0,h1,h2⟩:=hx;have g1:=f47 x.role;have g2:=f48 (e.dg.getD 1 []) x.dig;obtain⟨v,hv⟩:=Int.eq_ofNat_of_zero_le h0;have g3:=f49 v (by omega);have hl:=dec_lenk 6 v (by omega);obtain⟨g,k,ds,b⟩:=e;obtain⟨ro,na,ve,di⟩:=x;simp only at hd hv h2 g1 g2;subst hv;rw [two ds [] hd]at*;generalize ds.getD 0 []=d0 at*;generalize ds.getD 1 []=d1 at*;have hbl:bls [d0,d1]=[[.byt d0 .no],[.byt d1 .no]]:=rfl;simp only [List.getD_cons_zero,List.getD_cons_succ]at g2;rw [call_code T_46];unfold itE Ev.sv Ent.sv labV;have c1:na.length+1≤9223372036854775807:=by omega
 have c2:na.length+1+(dec v).length≤9223372036854775807:=by omega
 simp only [hbl,List.getD_cons_zero,List.getD_cons_succ,Int.toNat_natCast]
 by_cases a1:g=regR ro
 ·by_cases a2:d1=di
  ·rw [decide_eq_true a2]at g2
   simp only [go_sem,Q2,Q3,Q4,Qb,Qc,Qd,Qe,Qh,Qi,Qj,Qk,reduceCtorEq,reduceIte,g1,S_47,a1,g2,S_48,g3,S_49,c1,c2,decide_eq_true a2]
  ·rw [decide_eq_false a2]at g2
   simp only [go_sem,Q2,Q3,Q4,Qb,Qc,Qd,Qe,Qh,Qi,Qj,Qk,reduceCtorEq,reduceIte,g1,S_47,a1,g2,S_48,decide_eq_false a2]
 ·simp only [go_sem,Qb,Qc,Qd,Qe,Qh,Qi,Qj,Qk,reduceCtorEq,reduceIte,g1,S_47,a1]
theorem l45 (e:Ev) (es:List Ent) (hd:e.dg.length=2) (hx:∀x∈es,okEnt x) (hn:es.length≤1000000):∀(n i:Nat),es.length-i=n→i≤es.length→
 run T (.loop r45_7) ⟨[(0,.lst 4 (ensv es) .no),(1,.fn 46 [] [.ptr 0 0]),(7,.int .i64 es.length),(8,.int .i64 i)],[(0,.rc e.sv)],[]⟩=
 if idxF (itE e) (es.drop i) i= -1 then some (.x 0,⟨[],[(0,.rc e.sv)],[]⟩)else some (.r,⟨[(4,.int .i64 (idxF (itE e) (es.drop i) i))],[(0,.rc e.sv)],[]⟩):=by
 intro n;induction n with
 |zero=>
  intro i h0 h1;have:i=es.length:=by omega
  subst this;rw [run_loop,List.drop_length];simp only [go_sem,Q7,Qh,Qj,Qk,reduceCtorEq,reduceIte,idxF]
 | succ n ih=>
  intro i h0 h1;have hi:i<es.length:=by omega
  have e1:=wsucc i (by omega);have ih':=ih (i+1) (by omega) (by omega);have hv:=ensv_len es;have hg:=ensv_get es i hi;have g:=f46 e (es.getD i en0) hd (hx _ (getD_mem' es en0 i hi));have hdr:es.drop i=es.getD i en0::es.drop (i+1):=by rw [List.drop_eq_getElem_cons hi,List.getD_eq_getElem?_getD,List.getElem?_eq_getElem hi];rfl
  rw [hdr];generalize es.drop (i+1)=R at*;generalize es.getD i en0=x at*;obtain⟨ro,na,ve,di⟩:=x;simp only [Ev.sv,Ent.sv]at*;rw [run_loop];unfold idxF;cases hb:itE e ⟨ro,na,ve,di⟩with
  |true=>
   rw [hb]at g;have hne:¬(i:Int)= -1:=by omega
   simp only [go_sem,Q7,Qe,Qg,Qh,Qi,Qj,Qk,reduceCtorEq,reduceIte,hi,hv,hg,g,S_46,hne]
  |false=>rw [hb]at g;simp only [go_sem,Q7,Qe,Qg,Qh,Qi,Qj,Qk,reduceCtorEq,reduceIte,hi,e1,hv,hg,g,S_46,ih']
theorem f45 (e:Ev) (es:List Ent) (hd:e.dg.length=2) (hx:∀x∈es,okEnt x) (hn:es.length≤1000000):
 call T 45 [.lst 4 (ensv es) .no,.fn 46 [] [.ptr 0 0]] [.rc e.sv] 0=some ⟨.int .i64 (idxF (itE e) es 0),[(0,.rc e.sv)],[]⟩:=by
 have h:=l45 e es hd hx hn _ 0 rfl (by omega);simp only [Int.natCast_zero,List.drop_zero]at h;have hv:=ensv_len es;rw [call_code T_45];unfold Ev.sv at h ⊢
 by_cases hq:idxF (itE e) es 0= -1
 ·rw [if_pos hq]at h
  simp only [go_sem,Q7,Qe,Qh,Qi,Qj,Qk,reduceCtorEq,reduceIte,hv,h,hq]
 ·rw [if_neg hq]at h
  simp only [go_sem,Q7,Qe,Qh,Qi,Qj,Qk,reduceCtorEq,reduceIte,hv,h]
def alR (b:List UInt8) (r:Rul):Bool:=alw r.kind r.text r.lo r.hi b
theorem f52 (e:Ev) (r:Rul) (ht:r.text.length≤1000000) (hb:e.data.length≤1000000):call T 52 [.agg r.sv,.ptr 0 0] [.rc e.sv] 0=some ⟨.bool (alR e.data r),[(0,.rc e.sv)],[]⟩:=by have g:=f53 r.kind r.text r.lo r.hi e.data (by omega) (by omega);obtain⟨g',k,ds,b⟩:=e;obtain⟨q,t,lo,hi⟩:=r;rw [call_code T_52];unfold alR Ev.sv Rul.sv;simp only [go_sem,Qe,Qh,Qi,Qj,Qk,reduceCtorEq,reduceIte,g,S_53]
theorem l51 (e:Ev) (rs:List Rul) (hb:e.data.length≤1000000) (hx:∀x∈rs,x.text.length≤1000000) (hn:rs.length≤1000000):∀(n i:Nat),rs.length-i=n→i≤rs.length→
 run T (.loop r51_7) ⟨[(0,.lst 4 (rlsv rs) .no),(1,.fn 52 [] [.ptr 0 0]),(7,.int .i64 rs.length),(8,.int .i64 i)],[(0,.rc e.sv)],[]⟩=
 if idxF (alR e.data) (rs.drop i) i= -1 then some (.x 0,⟨[],[(0,.rc e.sv)],[]⟩)else some (.r,⟨[(4,.int .i64 (idxF (alR e.data) (rs.drop i) i))],[(0,.rc e.sv)],[]⟩):=by
 intro n;induction n with
 |zero=>
  intro i h0 h1;have:i=rs.length:=by omega
  subst this;rw [run_loop,List.drop_length];simp only [go_sem,Q7,Qh,Qj,Qk,reduceCtorEq,reduceIte,idxF]
 | succ n ih=>
  intro i h0 h1;have hi:i<rs.length:=by omega
  have e1:=wsucc i (by omega);have ih':=ih (i+1) (by omega) (by omega);have hv:=rlsv_len rs;have hg:=rlsv_get rs i hi;have g:=f52 e (rs.getD i rl0) (hx _ (getD_mem' rs rl0 i hi)) hb;have hdr:rs.drop i=rs.getD i rl0::rs.drop (i+1):=by rw [List.drop_eq_getElem_cons hi,List.getD_eq_getElem?_getD,List.getElem?_eq_getElem hi];rfl
  rw [hdr];generalize rs.drop (i+1)=R at*;generalize rs.getD i rl0=x at*;obtain⟨q,t,lo,hi'⟩:=x;simp only [Ev.sv,Rul.sv]at*;rw [run_loop];unfold idxF;cases hb:alR e.data ⟨q,t,lo,hi'⟩with
  |true=>
   rw [hb]at g;have hne:¬(i:Int)= -1:=by omega
   simp only [go_sem,Q7,Qe,Qg,Qh,Qi,Qj,Qk,reduceCtorEq,reduceIte,hi,hv,hg,g,S_52,hne]
  |false=>rw [hb]at g;simp only [go_sem,Q7,Qe,Qg,Qh,Qi,Qj,Qk,reduceCtorEq,reduceIte,hi,e1,hv,hg,g,S_52,ih']
theorem f51 (e:Ev) (rs:List Rul) (hb:e.data.length≤1000000) (hx:∀x∈rs,x.text.length≤1000000) (hn:rs.length≤1000000):
 call T 51 [.lst 4 (rlsv rs) .no,.fn 52 [] [.ptr 0 0]] [.rc e.sv] 0=some ⟨.int .i64 (idxF (alR e.data) rs 0),[(0,.rc e.sv)],[]⟩:=by
 have h:=l51 e rs hb hx hn _ 0 rfl (by omega);simp only [Int.natCast_zero,List.drop_zero]at h;have hv:=rlsv_len rs;rw [call_code T_51];unfold Ev.sv at h ⊢
 by_cases hq:idxF (alR e.data) rs 0= -1
 ·rw [if_pos hq]at h
  simp only [go_sem,Q7,Qe,Qh,Qi,Qj,Qk,reduceCtorEq,reduceIte,hv,h,hq]
 ·rw [if_neg hq]at h
  simp only [go_sem,Q7,Qe,Qh,Qi,Qj,Qk,reduceCtorEq,reduceIte,hv,h]
theorem idxF_ge {α:Type} (p:α→Bool):∀(l:List α) (i:Nat),idxF p l i= -1∨((i:Int)≤idxF p l i∧idxF p l i<i+l.length)
 |[],_=> .inl rfl
 | x::r,i=>by
  unfold idxF
  by_cases h:p x=true
  ·rw [if_pos h,List.length_cons];right;omega
  ·rw [if_neg h,List.length_cons]
   rcases idxF_ge p r (i+1)with h|h
   ·exact .inl h
   ·right;omega
structure EvBd (e:Ev):Prop where
 d2:e.dg.length=2
 b:e.data.length≤1000000
 d0:(e.dg.getD 0 []).length≤1000000
 d1:(e.dg.getD 1 []).length≤1000000
def itemV (m:Man) (e:Ev):Int:=
 if manE m=0 then
  (if e.kind=1 then idxF (itE e) m.ents 0
  else if e.kind=3 then(if e.reg=9 then(if conV e=true then(if 0≤idxF (alR e.data) m.ruls 0 then(m.ents.length:Int)+idxF (alR e.data) m.ruls 0 else-1)else-1)else-1)
  else-1)
 else-1
set_option maxHeartbeats 4000000 in
theorem f15 (m:Man) (hm:ManBd m) (e:Ev) (he:EvBd e):call T 15 [.agg m.sv,.agg e.sv] [] 0=some ⟨.int .i64 (itemV m e),[],[]⟩:=by
 have g1:=f44 m hm;have g3:=f47 4;have k9:regR 4=9:=rfl;have g4:=f50 e he.d2 he.b;have g5:=f51 e m.ruls he.b hm.r hm.rn;have hr:=idxF_ge (alR e.data) m.ruls 0;have hv:=ensv_len m.ents;have hen:=hm.en;have hrn:=hm.rn;rw [k9]at g3;have g2:manE m=0→call T 45 [.lst 4 (ensv m.ents) .no,.fn 46 [] [.ptr 0 0]] [.rc e.sv] 0=some ⟨.int .i64 (idxF (itE e) m.ents 0),[(0,.rc e.sv)],[]⟩:=fun h=>f45 e m.ents he.d2 (fun x hx=>(man_ent h x hx).2.2.1) hm.en
 clear hm he;obtain⟨mv,m1,m2,m3,m4,es,rs⟩:=m;obtain⟨g',k,ds,b⟩:=e;rw [call_code T_15];unfold itemV;simp only [Man.sv,Ev.sv]at*
 by_cases h0:manE ⟨mv,m1,m2,m3,m4,es,rs⟩=0
 ·have g2':=g2 h0
  rw [h0]at g1
  by_cases h1:k=1
  ·subst h1
   simp only [go_sem,Q5,Q7,Qe,Qg,Qh,Qi,Qj,Qk,reduceCtorEq,reduceIte,g1,S_44,h0,g2',S_45]
  ·by_cases h3:k=3
   ·subst h3
    by_cases h9:g'=9
    ·subst h9
     cases hc:conV ⟨9,3,ds,b⟩with
     |false=>rw [hc]at g4;simp only [go_sem,Q5,Q7,Qb,Qc,Qd,Qe,Qg,Qh,Qi,Qj,Qk,reduceCtorEq,reduceIte,g1,S_44,h0,g3,S_47,g4,S_50]
     | true=>
      rw [hc]at g4;generalize idxF (alR b) rs 0=z at*
      by_cases hz:0≤z
      ·have ew:IntKind.i64.wrap ((es.length:Int)+z)=(es.length:Int)+z:=w64 (by omega) (by omega)
       simp only [go_sem,Q5,Q7,Qb,Qc,Qd,Qe,Qg,Qh,Qi,Qj,Qk,reduceCtorEq,reduceIte,g1,S_44,h0,g3,S_47,g4,S_50,g5,S_51,hz,hv,ew]
      ·simp only [go_sem,Q5,Q7,Qb,Qc,Qd,Qe,Qg,Qh,Qi,Qj,Qk,reduceCtorEq,reduceIte,g1,S_44,h0,g3,S_47,g4,S_50,g5,S_51,hz]
    ·simp only [go_sem,Q5,Q7,Qb,Qc,Qd,Qe,Qg,Qh,Qi,Qj,Qk,reduceCtorEq,reduceIte,g1,S_44,h0,g3,S_47,h9]
   ·simp only [go_sem,Q7,Qe,Qg,Qh,Qi,Qj,Qk,reduceCtorEq,reduceIte,g1,S_44,h0,h1,h3]
 ·simp only [go_sem,Q7,Qe,Qh,Qi,Qj,Qk,reduceCtorEq,reduceIte,g1,S_44,h0]


def mn0:Man:=⟨[],0,0,0,0,[],[]⟩
def mnsv (l:List Man):List (List SV):=l.map Man.sv
theorem mnsv_len (l:List Man):(mnsv l).length=l.length:=List.length_map ..
theorem mnsv_get (l:List Man) (i:Nat) (h:i<l.length):(mnsv l).getD i []=(l.getD i mn0).sv:=by simp [mnsv,List.getD_eq_getElem?_getD,h]
structure MsBd (ms:List Man):Prop where
 n:ms.length≤1000000
 m:∀m∈ms,ManBd m
def frM (e:Ev):List Man→Nat→Option (Int×Int)
 |[],_=>none
 |m::r,i=>if 0≤itemV m e then some ((i:Int),itemV m e)else frM e r (i+1)
def reaV (ms:List Man) (e:Ev):Option (Int×Int):=if e.kind=5 then some (-1, -1)else if e.kind=2 then(if conV e=true then some (-1, -1)else frM e ms 0)else frM e ms 0
theorem drop_getD {α:Type} (l:List α) (d:α) (i:Nat) (h:i<l.length):l.drop i=l.getD i d::l.drop (i+1):=by rw [List.drop_eq_getElem_cons h,List.getD_eq_getElem?_getD,List.getElem?_eq_getElem h];rfl
set_option maxHeartbeats 4000000 in
theorem l40 (e:Ev) (he:EvBd e) (ms:List Man) (hm:MsBd ms):∀(n i:Nat),ms.length-i=n→i≤ms.length→
 (frM e (ms.drop i) i=none→run T (.loop r40_10) ⟨[(2,.ptr 102 0),(4,.ptr 104 0),(22,.lst 7 (mnsv ms) .no),(23,.int .i64 ms.length),(24,.int .i64 i)],[(102,.rc e.sv),(104,.rc [.int .i64 0,.int .i64 0])],[]⟩=
  some (.x 0,⟨[(4,.ptr 104 0)],[(102,.rc e.sv),(104,.rc [.int .i64 0,.int .i64 0])],[]⟩))∧
 (∀p,frM e (ms.drop i) i=some p→∃o,run T (.loop r40_10) ⟨[(2,.ptr 102 0),(4,.ptr 104 0),(22,.lst 7 (mnsv ms) .no),(23,.int .i64 ms.length),(24,.int .i64 i)],[(102,.rc e.sv),(104,.rc [.int .i64 0,.int .i64 0])],[]⟩=
  some (.r,⟨[(4,.ptr 104 0),(5,.bool true)],[(102,.rc e.sv),(104,.rc [.int .i64 p.1,.int .i64 p.2]),(107,o)],[]⟩)):=by
 intro n;induction n with
 |zero=>
  intro i hz h1;have hi:i=ms.length:=by omega
  have hv:=mnsv_len ms;subst hi;rw [List.drop_length];refine⟨fun _=> ?_,fun p h=>(by cases h)⟩;rw [run_loop];simp only [go_sem,Qh,Qj,Qk,reduceIte]
 | succ n ih=>
  intro i hz h1;have hi:i<ms.length:=by omega
  have hn:=hm.n;have e1:=wsucc i (by omega);obtain⟨i1,i2⟩:=ih (i+1) (by omega) (by omega);have hv:=mnsv_len ms;have hg:=mnsv_get ms i hi;have g:=f15 (ms.getD i mn0) (hm.m _ (getD_mem' ms mn0 i hi)) e he;rw [drop_getD ms mn0 i hi];generalize ms.drop (i+1)=R at*;generalize ms.getD i mn0=m at*;obtain⟨mv,m1,m2,m3,m4,es,rs⟩:=m;unfold frM;generalize itemV ⟨mv,m1,m2,m3,m4,es,rs⟩ e=z at*;obtain⟨g',k,ds,b⟩:=e;simp only [Man.sv,Ev.sv]at*
  by_cases h:0≤z
  ·rw [if_pos h]
   refine⟨fun h'=>(by cases h'),fun p hp=> ?_⟩;cases hp;refine⟨.rc [.str mv,.int .i64 m1,.int .i64 m2,.int .i64 m3,.int .i64 m4,.lst 4 (ensv es) .no,.lst 4 (rlsv rs) .no], ?_⟩;rw [run_loop];simp only [go_sem,Qe,Qh,Qi,Qj,Qk,reduceIte,hi,hv,hg,g,S_15,h]
  ·rw [if_neg h]
   refine⟨fun h'=> ?_,fun p hp=> ?_⟩
   ·have i1':=i1 h'
    rw [run_loop];simp only [go_sem,Qe,Qh,Qi,Qj,Qk,reduceIte,hi,e1,hv,hg,g,S_15,h,i1']
   ·obtain⟨o,i2'⟩:=i2 p hp
    refine⟨o, ?_⟩;rw [run_loop];simp only [go_sem,Qe,Qh,Qi,Qj,Qk,reduceIte,hi,e1,hv,hg,g,S_15,h,i2']
def reaS:Option (Int×Int)→SV
 |some p=> .tup [.agg [.int .i64 p.1,.int .i64 p.2],.bool true]
 |none=> .tup [.agg [.int .i64 0,.int .i64 0],.bool false]
set_option maxHeartbeats 4000000 in
theorem f40 (e:Ev) (he:EvBd e) (ms:List Man) (hm:MsBd ms):call T 40 [.agg e.sv,.lst 7 (mnsv ms) .no] [] 0=some ⟨reaS (reaV ms e),[],[]⟩:=by
 have gc:=f50 e he.d2 he.b;obtain⟨l1,l2⟩:=l40 e he ms hm _ 0 rfl (by omega);have hv:=mnsv_len ms;rw [call_code T_40];clear he;unfold reaV;obtain⟨g',k,ds,b⟩:=e;simp only [Ev.sv,Int.natCast_zero,List.drop_zero]at*
 by_cases h5:k=5
 ·subst h5
  simp only [go_sem,Q5,Q7,Qe,Qh,Qi,Qj,Qk,reduceCtorEq,reduceIte,reaS]
 by_cases h2:k=2
 ·subst h2
  cases hc:conV ⟨g',2,ds,b⟩with
  |true=>rw [hc]at gc;simp only [go_sem,Q5,Q7,Qe,Qh,Qi,Qj,Qk,reduceCtorEq,reduceIte,reaS,gc,S_50]
  | false=>
   rw [hc]at gc;cases hf:frM ⟨g',2,ds,b⟩ ms 0 with
   |none=>have l1':=l1 hf;simp only [go_sem,Q5,Q7,Qe,Qh,Qi,Qj,Qk,reduceCtorEq,reduceIte,reaS,gc,S_50,hv,l1']
   |some p=>obtain⟨o,l2'⟩:=l2 p hf;simp only [go_sem,Q5,Q7,Qe,Qh,Qi,Qj,Qk,reduceCtorEq,reduceIte,reaS,gc,S_50,hv,l2']
 ·cases hf:frM ⟨g',k,ds,b⟩ ms 0 with
  |none=>have l1':=l1 hf;simp only [go_sem,Q7,Qe,Qh,Qi,Qj,Qk,reduceCtorEq,reduceIte,reaS,h5,h2,hv,l1']
  |some p=>obtain⟨o,l2'⟩:=l2 p hf;simp only [go_sem,Q7,Qe,Qh,Qi,Qj,Qk,reduceCtorEq,reduceIte,reaS,h5,h2,hv,l2']
def rsv (l:List (Int×Int)):List (List SV):=l.map fun p=> [.int .i64 p.1,.int .i64 p.2]
theorem rsv_len (l:List (Int×Int)):(rsv l).length=l.length:=List.length_map ..
theorem rsv_get (l:List (Int×Int)) (i:Nat) (h:i<l.length):(rsv l).getD i []=[.int .i64 (l.getD i (0,0)).1,.int .i64 (l.getD i (0,0)).2]:=by simp [rsv,List.getD_eq_getElem?_getD,h]
theorem rsv_snoc (l:List (Int×Int)) (p:Int×Int):rsv l++ [[.int .i64 p.1,.int .i64 p.2]]=rsv (l++ [p]):=by rw [rsv,rsv,List.map_append];rfl
structure ExR where
 w:Wk
 at':Nat
 rs:List (Int×Int)
 err:Int
def exW (ms:List Man):List Ev→Wk→Nat→List (Int×Int)→ExR
 |[],w,i,rs=>⟨w,i,rs,0⟩
 |e::r,w,i,rs=>if okW w e=true then(match reaV ms e with|some p=>exW ms r (stW w e) (i+1) (rs++ [p])|none=>⟨w,i,rs,47⟩)else⟨w,i,rs,41⟩
structure EvsBd (evs:List Ev):Prop where
 n:evs.length≤1000000
 e:∀e∈evs,EvBd e
theorem EvsBd.get {evs:List Ev} (h:EvsBd evs) {i:Nat} (hi:i<evs.length):EvBd (evs.getD i ev0):=h.e _ (getD_mem' evs ev0 i hi)
def st12 (a z:Int) (evs:List Ev) (ms:List Man) (w:Wk) (i:Nat) (rs:List (Int×Int)):CSt:=
 ⟨[(1,.lst 7 (mnsv ms) .no),(2,.ptr 102 0),(4,.lst 2 (rsv rs) (.id 104)),(7,.ptr 107 0),(13,.lst 4 (evsv evs) .no),(14,.int .i64 evs.length),(15,.int .i64 i)],[(102,.rc [.int .i64 a,.int .i64 z,.lst 4 (evsv evs) .no]),(107,.rc w.sv)],[104]⟩
set_option maxHeartbeats 8000000 in
theorem l12 (a z:Int) (evs:List Ev) (he:EvsBd evs) (ms:List Man) (hm:MsBd ms):∀(n i:Nat) (w:Wk) (rs:List (Int×Int)),evs.length-i=n→i≤evs.length→rs.length=i→
 ((exW ms (evs.drop i) w i rs).err=0→run T (.loop r12_12) (st12 a z evs ms w i rs)=
   some (.x 0,⟨[(2,.ptr 102 0),(4,.lst 2 (rsv (exW ms (evs.drop i) w i rs).rs) (.id 104)),(7,.ptr 107 0)],[(102,.rc [.int .i64 a,.int .i64 z,.lst 4 (evsv evs) .no]),(107,.rc (exW ms (evs.drop i) w i rs).w.sv)],[104]⟩))∧
 ((exW ms (evs.drop i) w i rs).err≠0→∃ob,run T (.loop r12_12) (st12 a z evs ms w i rs)=
   some (.r,⟨[(4,.lst 2 (rsv (exW ms (evs.drop i) w i rs).rs) (.id 104)),(5,.int .i64 (exW ms (evs.drop i) w i rs).at'),(6,.int .i64 (exW ms (evs.drop i) w i rs).err)],ob,[104]⟩)):=by
 intro n;induction n with
 |zero=>
  intro i w rs h0 h1 h2;have hi:i=evs.length:=by omega
  subst hi;have hv:=evsv_len evs;rw [List.drop_length];refine⟨fun _=> ?_,fun h=>absurd rfl h⟩;unfold st12;rw [run_loop];simp only [go_sem,Qh,Qj,Qk,reduceIte,exW]
 | succ n ih=>
  intro i w rs h0 h1 h2;have hi:i<evs.length:=by omega
  have hn:=he.n;have e1:=wsucc i (by omega);have g:=f39 w (evs.getD i ev0);have gr:=f40 (evs.getD i ev0) (he.get hi) ms hm;have hg:=evsv_get0 evs i hi;have hv:=evsv_len evs;have hrl:=rsv_len rs;have b1:(rs.length+1)*16≤140737488355328:=by omega
  rw [evs_drop evs i hi];generalize evs.getD i ev0=e at*;unfold exW;cases ho:okW w e with
  |false=>rw [if_neg (by simp)];rw [ho,stW_no ho]at g;refine⟨fun h=>by simp at h,fun _=>⟨[(102,.rc [.int .i64 a,.int .i64 z,.lst 4 (evsv evs) .no]),(107,.rc w.sv),(109,.rc e.sv)], ?_⟩⟩;unfold st12;simp only [Ev.sv,Wk.sv]at hg g ⊢;rw [run_loop];simp only [go_sem,Qe,Qg,Qh,Qi,Qj,Qk,reduceIte,hi,hg,hv,S_39,g]
  | true=>
   rw [if_pos rfl];rw [ho]at g;cases hr:reaV ms e with
   |none=>rw [hr]at gr;refine⟨fun h=>by simp at h,fun _=>⟨[(102,.rc [.int .i64 a,.int .i64 z,.lst 4 (evsv evs) .no]),(107,.rc (stW w e).sv),(109,.rc e.sv),(110,.rc [.int .i64 0,.int .i64 0])], ?_⟩⟩;unfold st12;simp only [Ev.sv,Wk.sv,reaS]at hg g gr ⊢;rw [run_loop];simp only [go_sem,Qe,Qg,Qh,Qi,Qj,Qk,reduceIte,hi,hg,hv,S_39,g,gr,S_40]
   | some p=>
    rw [hr]at gr;obtain⟨i1,i2⟩:=ih (i+1) (stW w e) (rs++ [p]) (by omega) (by omega) (by rw [List.length_append,h2];rfl);unfold st12 at i1 i2;rw [←rsv_snoc rs p]at i1 i2;refine⟨fun h=> ?_,fun h=> ?_⟩
    ·have i1':=i1 h
     unfold st12;simp only [Ev.sv,Wk.sv,reaS]at hg g gr i1' ⊢;rw [run_loop];simp only [go_sem,Qe,Qg,Qh,Qi,Qj,Qk,reduceIte,hi,e1,hg,hv,S_39,g,gr,S_40,hrl,b1,i1']
    ·obtain⟨ob,i2'⟩:=i2 h
     refine⟨ob, ?_⟩;unfold st12;simp only [Ev.sv,Wk.sv,reaS]at hg g gr i2' ⊢;rw [run_loop];simp only [go_sem,Qe,Qg,Qh,Qi,Qj,Qk,reduceIte,hi,e1,hg,hv,S_39,g,gr,S_40,hrl,b1,i2']
theorem exW_at (ms:List Man):∀(l:List Ev) (w:Wk) (i:Nat) (rs:List (Int×Int)),(exW ms l w i rs).err=0→(exW ms l w i rs).at'=i+l.length
 |[],w,i,rs,_=>rfl
 | e::r,w,i,rs,h=>by
  unfold exW at h ⊢
  by_cases ho:okW w e=true
  ·rw [if_pos ho]at h ⊢
   cases hr:reaV ms e with
   |none=>rw [hr]at h;simp at h
   |some p=>rw [hr]at h;simp only at h ⊢;rw [exW_at ms r _ _ _ h,List.length_cons];omega
  ·rw [if_neg ho]at h;simp at h
def exV (evs:List Ev) (ms:List Man):ExR:=exW ms evs w0 0 []
def exE (evs:List Ev) (ms:List Man):Int:=if(exV evs ms).err=0 then(if(exV evs ms).w.s4=true then 0 else 40)else(exV evs ms).err
def exS (evs:List Ev) (ms:List Man):SV:= .tup [.lst 2 (rsv (exV evs ms).rs) .no,.int .i64 (exV evs ms).at',.int .i64 (exE evs ms)]
set_option maxHeartbeats 4000000 in
theorem f12 (a z:Int) (evs:List Ev) (he:EvsBd evs) (ms:List Man) (hm:MsBd ms):call T 12 [.agg [.int .i64 a,.int .i64 z,.lst 4 (evsv evs) .no],.lst 7 (mnsv ms) .no] [] 0=some ⟨exS evs ms,[],[]⟩:=by
 obtain⟨l1,l2⟩:=l12 a z evs he ms hm _ 0 w0 [] rfl (by omega) rfl;have hat:=exW_at ms evs w0 0 [];have hv:=evsv_len evs;unfold exS exE exV;have hnil:rsv []=[]:=rfl;simp only [List.drop_zero,Int.natCast_zero,st12,w0_sv,hnil]at l1 l2;rw [call_code T_12];generalize exW ms evs w0 0 []=X at*
 by_cases h:X.err=0
 ·have l1':=l1 h
  have ha:=hat h;rw [Nat.zero_add]at ha;rw [if_pos h,ha];simp only [Wk.sv]at l1';cases h4:X.w.s4 with
  |true=>rw [h4]at l1';simp only [go_sem,Q2,Q3,Q4,Qb,Qc,Qd,Qe,Qg,Qh,Qi,Qj,Qk,reduceCtorEq,reduceIte,hv,l1']
  |false=>rw [h4]at l1';simp only [go_sem,Q2,Q3,Q4,Qb,Qc,Qd,Qe,Qg,Qh,Qi,Qj,Qk,reduceCtorEq,reduceIte,hv,l1']
 ·obtain⟨ob,l2'⟩:=l2 h
  rw [if_neg h];simp only [go_sem,Qe,Qh,Qi,Qj,Qk,reduceCtorEq,reduceIte,hv,l2']
def ckO (ms:List Man) (e:Ev) (p:Int×Int):Bool:=
 if e.kind=5 then(decide (p.1= -1)&&decide (p.2= -1))else if e.kind=2 then(decide (p.1= -1)&&decide (p.2= -1))
 else if p.1<0 then false else if(ms.length:Int)≤p.1 then false else if p.2<0 then false else decide (itemV (ms.getD p.1.toNat mn0) e=p.2)
def ckL (ms:List Man):List Ev→List (Int×Int)→Bool
 |e::r,p::q=>if ckO ms e p=true then ckL ms r q else false
 |_,_=>true
def ckV (evs:List Ev) (ms:List Man) (rs:List (Int×Int)):Bool:=if exE evs ms=0 then(if(rs.length:Int)=evs.length then ckL ms evs rs else false)else false
set_option maxHeartbeats 8000000 in
theorem s16 (a z:Int) (evs:List Ev) (he:EvsBd evs) (ms:List Man) (hm:MsBd ms) (rs:List (Int×Int)) (hl:rs.length=evs.length) (i:Nat) (hi:i<evs.length):
 (ckO ms (evs.getD i ev0) (rs.getD i (0,0))=true→run T (.loop r16_14) ⟨[(1,.lst 7 (mnsv ms) .no),(2,.lst 2 (rsv rs) .no),(31,.lst 4 (evsv evs) .no),(32,.int .i64 evs.length),(33,.int .i64 i)],[(103,.rc [.int .i64 a,.int .i64 z,.lst 4 (evsv evs) .no])],[]⟩=
  run T (.loop r16_14) ⟨[(1,.lst 7 (mnsv ms) .no),(2,.lst 2 (rsv rs) .no),(31,.lst 4 (evsv evs) .no),(32,.int .i64 evs.length),(33,.int .i64 ((i+1:Nat):Int))],[(103,.rc [.int .i64 a,.int .i64 z,.lst 4 (evsv evs) .no])],[]⟩)∧
 (ckO ms (evs.getD i ev0) (rs.getD i (0,0))=false→∃ob,run T (.loop r16_14) ⟨[(1,.lst 7 (mnsv ms) .no),(2,.lst 2 (rsv rs) .no),(31,.lst 4 (evsv evs) .no),(32,.int .i64 evs.length),(33,.int .i64 i)],[(103,.rc [.int .i64 a,.int .i64 z,.lst 4 (evsv evs) .no])],[]⟩=
  some (.r,⟨[(6,.bool false)],ob,[]⟩)):=by
 have hn:=he.n;have e1:=wsucc i (by omega);have hg:=evsv_get0 evs i hi;have hv:=evsv_len evs;have hir:i<rs.length:=by omega
 have hgr:=rsv_get rs i hir;have hvr:=rsv_len rs;have hvm:=mnsv_len ms;have he':=he.get hi;unfold ckO;generalize evs.getD i ev0=e at*;generalize rs.getD i (0,0)=p at*;have hit:∀k:Nat,k<ms.length→call T 15 [.agg (ms.getD k mn0).sv,.agg e.sv] [] 0=some ⟨.int .i64 (itemV (ms.getD k mn0) e),[],[]⟩:=fun k hk=>f15 _ (hm.m _ (getD_mem' ms mn0 k hk)) e he'
 have hgm:∀k:Nat,k<ms.length→(mnsv ms).getD k []=(ms.getD k mn0).sv:=fun k hk=>mnsv_get ms k hk
 clear he he' hm;obtain⟨p1,p2⟩:=p;obtain⟨g',k,ds,b⟩:=e;simp only [Ev.sv]at*
 by_cases h5:k=5
 ·subst h5
  by_cases q1:p1= -1
  ·subst q1
   by_cases q2:p2= -1
   ·subst q2
    refine⟨fun _=> ?_,fun h=>by simp at h⟩;rw [run_loop];simp only [go_sem,Q5,Q7,Qe,Qh,Qi,Qj,Qk,reduceIte,hi,e1,hg,hv,hir,hgr,hvr]
   ·refine⟨fun h=>by simp [q2]at h,fun _=>⟨[(103,.rc [.int .i64 a,.int .i64 z,.lst 4 (evsv evs) .no]),(111,.rc [.int .i64 g',.int .i64 5,.lst 1 (bls ds) .no,.byt b .no]),(112,.rc [.int .i64 (-1),.int .i64 p2])], ?_⟩⟩
    rw [run_loop];simp only [go_sem,Q5,Q7,Qe,Qh,Qi,Qj,Qk,reduceIte,hi,hg,hv,hir,hgr,hvr,q2]
  ·refine⟨fun h=>by simp [q1]at h,fun _=>⟨[(103,.rc [.int .i64 a,.int .i64 z,.lst 4 (evsv evs) .no]),(111,.rc [.int .i64 g',.int .i64 5,.lst 1 (bls ds) .no,.byt b .no]),(112,.rc [.int .i64 p1,.int .i64 p2])], ?_⟩⟩
   rw [run_loop];simp only [go_sem,Q5,Q7,Qe,Qh,Qi,Qj,Qk,reduceIte,hi,hg,hv,hir,hgr,hvr,q1]
 by_cases h2:k=2
 ·subst h2
  by_cases q1:p1= -1
  ·subst q1
   by_cases q2:p2= -1
   ·subst q2
    refine⟨fun _=> ?_,fun h=>by simp at h⟩;rw [run_loop];simp only [go_sem,Q5,Q7,Qe,Qh,Qi,Qj,Qk,reduceIte,hi,e1,hg,hv,hir,hgr,hvr]
   ·refine⟨fun h=>by simp [q2]at h,fun _=>⟨[(103,.rc [.int .i64 a,.int .i64 z,.lst 4 (evsv evs) .no]),(111,.rc [.int .i64 g',.int .i64 2,.lst 1 (bls ds) .no,.byt b .no]),(112,.rc [.int .i64 (-1),.int .i64 p2])], ?_⟩⟩
    rw [run_loop];simp only [go_sem,Q5,Q7,Qe,Qh,Qi,Qj,Qk,reduceIte,hi,hg,hv,hir,hgr,hvr,q2]
  ·refine⟨fun h=>by simp [q1]at h,fun _=>⟨[(103,.rc [.int .i64 a,.int .i64 z,.lst 4 (evsv evs) .no]),(111,.rc [.int .i64 g',.int .i64 2,.lst 1 (bls ds) .no,.byt b .no]),(112,.rc [.int .i64 p1,.int .i64 p2])], ?_⟩⟩
   rw [run_loop];simp only [go_sem,Q5,Q7,Qe,Qh,Qi,Qj,Qk,reduceIte,hi,hg,hv,hir,hgr,hvr,q1]
 rw [if_neg h5,if_neg h2]
 by_cases a1:p1<0
 ·refine⟨fun h=>by simp [a1]at h,fun _=>⟨[(103,.rc [.int .i64 a,.int .i64 z,.lst 4 (evsv evs) .no]),(111,.rc [.int .i64 g',.int .i64 k,.lst 1 (bls ds) .no,.byt b .no]),(112,.rc [.int .i64 p1,.int .i64 p2])], ?_⟩⟩
  rw [run_loop];simp only [go_sem,Q7,Qb,Qc,Qd,Qe,Qh,Qi,Qj,Qk,reduceCtorEq,reduceIte,hi,hg,hv,hir,hgr,hvr,h5,h2,a1]
 by_cases a2:(ms.length:Int)≤p1
 ·refine⟨fun h=>by simp [a1,a2]at h,fun _=>⟨[(103,.rc [.int .i64 a,.int .i64 z,.lst 4 (evsv evs) .no]),(111,.rc [.int .i64 g',.int .i64 k,.lst 1 (bls ds) .no,.byt b .no]),(112,.rc [.int .i64 p1,.int .i64 p2])], ?_⟩⟩
  rw [run_loop];simp only [go_sem,Q7,Qb,Qc,Qd,Qe,Qh,Qi,Qj,Qk,reduceCtorEq,reduceIte,hi,hg,hv,hir,hgr,hvr,h5,h2,a1,a2,hvm]
 by_cases a3:p2<0
 ·refine⟨fun h=>by simp [a1,a2,a3]at h,fun _=>⟨[(103,.rc [.int .i64 a,.int .i64 z,.lst 4 (evsv evs) .no]),(111,.rc [.int .i64 g',.int .i64 k,.lst 1 (bls ds) .no,.byt b .no]),(112,.rc [.int .i64 p1,.int .i64 p2])], ?_⟩⟩
  rw [run_loop];simp only [go_sem,Q7,Qb,Qc,Qd,Qe,Qh,Qi,Qj,Qk,reduceCtorEq,reduceIte,hi,hg,hv,hir,hgr,hvr,h5,h2,a1,a2,a3,hvm]
 rw [if_neg a1,if_neg a2,if_neg a3];obtain⟨q,rfl⟩:=Int.eq_ofNat_of_zero_le (by omega:0≤p1);rw [Int.toNat_natCast];have hq:q<ms.length:=by omega
 have hit':=hit q hq;have hgm':=hgm q hq;have a1':¬(q:Int)<0:=a1;have hqi:(q:Int)<(ms.length:Int):=by omega
 have hq0:(0:Int)≤(q:Int):=by omega
 generalize ms.getD q mn0=m at*;obtain⟨mv,m1,m2,m3,m4,es,rl⟩:=m;simp only [Man.sv]at hit' hgm';generalize itemV ⟨mv,m1,m2,m3,m4,es,rl⟩ ⟨g',k,ds,b⟩=zz at*
 by_cases a4:zz=p2
 ·subst a4
  refine⟨fun _=> ?_,fun h=>by simp at h⟩;rw [run_loop];simp only [go_sem,Q7,Qb,Qc,Qd,Qe,Qh,Qi,Qj,Qk,reduceCtorEq,reduceIte,hi,e1,hg,hv,hir,hgr,hvr,h5,h2,a1,a2,a3,hvm,hit',S_15,hgm',hqi,hq0]
 ·refine⟨fun h=>by simp [a4]at h,fun _=>⟨[(103,.rc [.int .i64 a,.int .i64 z,.lst 4 (evsv evs) .no]),(111,.rc [.int .i64 g',.int .i64 k,.lst 1 (bls ds) .no,.byt b .no]),(112,.rc [.int .i64 q,.int .i64 p2])], ?_⟩⟩
  rw [run_loop];simp only [go_sem,Q7,Qb,Qc,Qd,Qe,Qh,Qi,Qj,Qk,reduceCtorEq,reduceIte,hi,hg,hv,hir,hgr,hvr,h5,h2,a1,a2,a3,hvm,hit',S_15,hgm',hqi,hq0,a4]
theorem l16 (a z:Int) (evs:List Ev) (he:EvsBd evs) (ms:List Man) (hm:MsBd ms) (rs:List (Int×Int)) (hl:rs.length=evs.length):∀(n i:Nat),evs.length-i=n→i≤evs.length→
 (ckL ms (evs.drop i) (rs.drop i)=true→run T (.loop r16_14) ⟨[(1,.lst 7 (mnsv ms) .no),(2,.lst 2 (rsv rs) .no),(31,.lst 4 (evsv evs) .no),(32,.int .i64 evs.length),(33,.int .i64 i)],[(103,.rc [.int .i64 a,.int .i64 z,.lst 4 (evsv evs) .no])],[]⟩=some (.x 0,⟨[],[(103,.rc [.int .i64 a,.int .i64 z,.lst 4 (evsv evs) .no])],[]⟩))∧
 (ckL ms (evs.drop i) (rs.drop i)=false→∃ob,run T (.loop r16_14) ⟨[(1,.lst 7 (mnsv ms) .no),(2,.lst 2 (rsv rs) .no),(31,.lst 4 (evsv evs) .no),(32,.int .i64 evs.length),(33,.int .i64 i)],[(103,.rc [.int .i64 a,.int .i64 z,.lst 4 (evsv evs) .no])],[]⟩=
  some (.r,⟨[(6,.bool false)],ob,[]⟩)):=by
 intro n;induction n with
 |zero=>
  intro i h0 h1;have hi:i=evs.length:=by omega
  subst hi;rw [List.drop_length];refine⟨fun _=> ?_,fun h=>by simp [ckL]at h⟩;rw [run_loop];simp only [go_sem,Q7,Qh,Qj,Qk,reduceIte]
 | succ n ih=>
  intro i h0 h1;have hi:i<evs.length:=by omega
  obtain⟨s1,s2⟩:=s16 a z evs he ms hm rs hl i hi;obtain⟨i1,i2⟩:=ih (i+1) (by omega) (by omega);rw [evs_drop evs i hi,drop_getD rs (0,0) i (by omega)];unfold ckL;cases h:ckO ms (evs.getD i ev0) (rs.getD i (0,0))with
  |true=>rw [if_pos rfl,s1 h];exact⟨i1,i2⟩
  |false=>rw [if_neg (by simp)];exact⟨fun h=>by simp at h,fun _=>s2 h⟩
set_option maxHeartbeats 4000000 in
theorem f16 (a z:Int) (evs:List Ev) (he:EvsBd evs) (ms:List Man) (hm:MsBd ms) (rs:List (Int×Int)):
 call T 16 [.agg [.int .i64 a,.int .i64 z,.lst 4 (evsv evs) .no],.lst 7 (mnsv ms) .no,.lst 2 (rsv rs) .no] [] 0=some ⟨.bool (ckV evs ms rs),[],[]⟩:=by
 have g:=f12 a z evs he ms hm;have hv:=evsv_len evs;have hvr:=rsv_len rs;have lk:=l16 a z evs he ms hm rs;rw [call_code T_16];unfold ckV;unfold exS at g
 by_cases h0:exE evs ms=0
 ·rw [h0]at g
  by_cases hl:rs.length=evs.length
  ·have hl':(rs.length:Int)=(evs.length:Int):=by omega
   obtain⟨k1,k2⟩:=lk hl _ 0 rfl (by omega);simp only [Int.natCast_zero,List.drop_zero]at k1 k2;cases hk:ckL ms evs rs with
   |true=>have k1':=k1 hk;simp only [go_sem,Qe,Qh,Qi,Qj,Qk,reduceCtorEq,reduceIte,g,S_12,h0,hv,hvr,hl,k1']
   |false=>obtain⟨ob,k2'⟩:=k2 hk;simp only [go_sem,Qe,Qh,Qi,Qj,Qk,reduceCtorEq,reduceIte,g,S_12,h0,hv,hvr,hl,k2']
  ·have hl':¬(rs.length:Int)=(evs.length:Int):=by omega
   simp only [go_sem,Qe,Qh,Qi,Qj,Qk,reduceCtorEq,reduceIte,g,S_12,h0,hv,hvr,hl']
 ·simp only [go_sem,Qe,Qh,Qi,Qj,Qk,reduceCtorEq,reduceIte,g,S_12,h0]
def bu (k:Nat) (v:Int):List UInt8:=be k (IntKind.u64.wrap v)
def hdM (m:Man):List UInt8:=blob ([]++bu 1 21) m.vendor++bu 4 m.ver++bu 4 m.flr++bu 6 m.frm++bu 6 m.til++bu 1 (m.ents.length:Int)
theorem bu_len (k:Nat) (v:Int):(bu k v).length=k:=be_len ..
theorem f117' (B:List UInt8) (k:Nat) (v:Int) (h1:1≤k) (h8:k≤8) (hB:B.length≤10000000000000):
 call T 117 [.byt B .no,.int .i64 k,.int .i64 v] [] 0=some ⟨.byt (B++bu k v) (.id 60),[],[60]⟩:=f117 B k v h1 h8 hB
def eAcc (B:List UInt8) (x:Ent):List UInt8:=blob (B++bu 1 x.role) x.name++bu 4 x.ver++x.dig
def rAcc (B:List UInt8) (r:Rul):List UInt8:=blob (B++bu 1 r.kind) r.text++bu 4 r.lo++bu 4 r.hi
theorem eAcc_len (B:List UInt8) (x:Ent) (hn:x.name.length≤1000000) (hd:x.dig.length≤1000000):(eAcc B x).length≤B.length+2000007:=by unfold eAcc;rw [List.length_append,List.length_append,blob_len,List.length_append,bu_len,bu_len];omega
theorem rAcc_len (B:List UInt8) (x:Rul) (hn:x.text.length≤1000000):(rAcc B x).length≤B.length+2000007:=by unfold rAcc;rw [List.length_append,List.length_append,blob_len,List.length_append,bu_len,bu_len,bu_len];omega
def tkA:Bool→List Nat
 |false=> [103,12060,17060,21060,24060,28060,31060]
 |true=> [103,12060,17060,21060,24060,28060,31060,51060]
set_option maxHeartbeats 4000000 in
theorem s101a (m:Man) (hm:ManBd m) (b:Bool) (i:Nat) (hi:i<m.ents.length) (B:List UInt8) (hB:B.length≤1000000000):
 run T (.loop r101_14) ⟨[(1,.ptr 101 0),(3,.byt B (.id 103)),(37,.lst 4 (ensv m.ents) .no),(38,.int .i64 m.ents.length),(39,.int .i64 i)],[(101,.rc m.sv)],tkA b⟩=
 run T (.loop r101_14) ⟨[(1,.ptr 101 0),(3,.byt (eAcc B (m.ents.getD i en0)) (.id 103)),(37,.lst 4 (ensv m.ents) .no),(38,.int .i64 m.ents.length),(39,.int .i64 ((i+1:Nat):Int))],[(101,.rc m.sv)],tkA true⟩:=by
 have k1:((1:Nat):Int)=1:=rfl;have k4:((4:Nat):Int)=4:=rfl;have hen:=hm.en;have e1:=wsucc i (by omega);have hg:=ensv_get m.ents i hi;have hel:=ensv_len m.ents;obtain⟨hxn,hxd⟩:=hm.e _ (getD_mem' m.ents en0 i hi);clear hm;generalize m.ents.getD i en0=x at*;unfold eAcc;have u1:=f117' B 1 x.role (by omega) (by omega) (by omega);rw [k1]at u1;have n1:(B++bu 1 x.role).length≤1000000001:=by rw [List.length_append,bu_len];omega
 generalize B++bu 1 x.role=B1 at*;have u2:=f118 B1 x.name (by omega) (by omega);have n2:(blob B1 x.name).length≤1010000000:=by rw [blob_len];omega
 generalize blob B1 x.name=B2 at*;have u3:=f117' B2 4 x.ver (by omega) (by omega) (by omega);rw [k4]at u3;have n3:(B2++bu 4 x.ver).length≤1010000004:=by rw [List.length_append,bu_len];omega
 generalize B2++bu 4 x.ver=B3 at*;have n4:B3.length+x.dig.length≤140737488355328:=by omega
 obtain⟨mv,m1,m2,m3,m4,es,rs⟩:=m;obtain⟨x1,x2,x3,x4⟩:=x;simp only [Man.sv,Ent.sv]at*;cases b with
 |false=>rw [run_loop];simp only [tkA];simp only [go_sem,Qb,Qc,Qd,Qe,Qg,Qh,Qi,Qj,Qk,reduceCtorEq,reduceIte,hi,e1,hg,hel,u1,u2,u3,n4,S_117,S_118]
 |true=>rw [run_loop];simp only [tkA];simp only [go_sem,Qb,Qc,Qd,Qe,Qg,Qh,Qi,Qj,Qk,reduceCtorEq,reduceIte,hi,e1,hg,hel,u1,u2,u3,n4,S_117,S_118]
theorem l101a (m:Man) (hm:ManBd m) (h16:m.ents.length≤16):∀(n i:Nat) (b:Bool) (B:List UInt8),m.ents.length-i=n→i≤m.ents.length→B.length≤20000000+i*2000007→
 ∃b',run T (.loop r101_14) ⟨[(1,.ptr 101 0),(3,.byt B (.id 103)),(37,.lst 4 (ensv m.ents) .no),(38,.int .i64 m.ents.length),(39,.int .i64 i)],[(101,.rc m.sv)],tkA b⟩=
 some (.x 0,⟨[(1,.ptr 101 0),(3,.byt ((m.ents.drop i).foldl eAcc B) (.id 103))],[(101,.rc m.sv)],tkA b'⟩):=by
 intro n;induction n with
 |zero=>
  intro i b B h0 h1 h2;have:i=m.ents.length:=by omega
  subst this;refine⟨b, ?_⟩;rw [List.drop_length,List.foldl_nil,run_loop];cases b with
  |false=>simp only [tkA];simp only [go_sem,Qh,Qj,Qk,reduceIte]
  |true=>simp only [tkA];simp only [go_sem,Qh,Qj,Qk,reduceIte]
 |succ n ih=>
  intro i b B h0 h1 h2;have hi:i<m.ents.length:=by omega
  have hdr:m.ents.drop i=m.ents.getD i en0::m.ents.drop (i+1):=by rw [List.drop_eq_getElem_cons hi,List.getD_eq_getElem?_getD,List.getElem?_eq_getElem hi];rfl
  obtain⟨hxn,hxd⟩:=hm.e _ (getD_mem' m.ents en0 i hi);have hl:=eAcc_len B (m.ents.getD i en0) hxn hxd;rw [s101a m hm b i hi B (by omega),hdr,List.foldl_cons];exact ih (i+1) true _ (by omega) (by omega) (by omega)
def tkB:Bool→List Nat
 |false=> [103,12060,17060,21060,24060,28060,31060,64060]
 |true=> [103,12060,17060,21060,24060,28060,31060,51060,64060]
def tkC:Bool→List Nat
 |false=> [103,12060,17060,21060,24060,28060,31060,64060,79060,86060]
 |true=> [103,12060,17060,21060,24060,28060,31060,51060,64060,79060,86060]
set_option maxHeartbeats 4000000 in
theorem s101b (m:Man) (b:Bool) (t:Nat) (tk:List Nat) (ht:(t=64060∧tk=tkB b)∨(t=86060∧tk=tkC b)) (rs:List Rul) (hx:∀x∈rs,x.text.length≤1000000) (hn:rs.length≤1000000) (i:Nat) (hi:i<rs.length) (B:List UInt8) (hB:B.length≤1000000000):
 run T (.loop r101_22) ⟨[(3,.byt B (.id t)),(65,.lst 4 (rlsv rs) .no),(66,.int .i64 rs.length),(67,.int .i64 i)],[(101,.rc m.sv)],tk⟩=
 run T (.loop r101_22) ⟨[(3,.byt (rAcc B (rs.getD i rl0)) (.id 86060)),(65,.lst 4 (rlsv rs) .no),(66,.int .i64 rs.length),(67,.int .i64 ((i+1:Nat):Int))],[(101,.rc m.sv)],tkC b⟩:=by
 have k1:((1:Nat):Int)=1:=rfl;have k4:((4:Nat):Int)=4:=rfl;have e1:=wsucc i (by omega);have hg:=rlsv_get rs i hi;have hel:=rlsv_len rs;have hxn:=hx _ (getD_mem' rs rl0 i hi);generalize rs.getD i rl0=x at*;unfold rAcc;have u1:=f117' B 1 x.kind (by omega) (by omega) (by omega);rw [k1]at u1;have n1:(B++bu 1 x.kind).length≤1000000001:=by rw [List.length_append,bu_len];omega
 generalize B++bu 1 x.kind=B1 at*;have u2:=f118 B1 x.text (by omega) (by omega);have n2:(blob B1 x.text).length≤1010000000:=by rw [blob_len];omega
 generalize blob B1 x.text=B2 at*;have u3:=f117' B2 4 x.lo (by omega) (by omega) (by omega);rw [k4]at u3;have n3:(B2++bu 4 x.lo).length≤1010000004:=by rw [List.length_append,bu_len];omega
 generalize B2++bu 4 x.lo=B3 at*;have u4:=f117' B3 4 x.hi (by omega) (by omega) (by omega);rw [k4]at u4;obtain⟨mv,m1,m2,m3,m4,es,rs'⟩:=m;obtain⟨x1,x2,x3,x4⟩:=x;simp only [Rul.sv,Man.sv]at*;rcases ht with⟨rfl,rfl⟩|⟨rfl,rfl⟩
 ·cases b with
  |false=>rw [run_loop];simp only [tkB,tkC];simp only [go_sem,Qb,Qc,Qd,Qe,Qg,Qh,Qi,Qj,Qk,reduceCtorEq,reduceIte,hi,e1,hg,hel,u1,u2,u3,u4,S_117,S_118]
  |true=>rw [run_loop];simp only [tkB,tkC];simp only [go_sem,Qb,Qc,Qd,Qe,Qg,Qh,Qi,Qj,Qk,reduceCtorEq,reduceIte,hi,e1,hg,hel,u1,u2,u3,u4,S_117,S_118]
 ·cases b with
  |false=>rw [run_loop];simp only [tkC];simp only [go_sem,Qb,Qc,Qd,Qe,Qg,Qh,Qi,Qj,Qk,reduceCtorEq,reduceIte,hi,e1,hg,hel,u1,u2,u3,u4,S_117,S_118]
  |true=>rw [run_loop];simp only [tkC];simp only [go_sem,Qb,Qc,Qd,Qe,Qg,Qh,Qi,Qj,Qk,reduceCtorEq,reduceIte,hi,e1,hg,hel,u1,u2,u3,u4,S_117,S_118]
theorem l101b (m:Man) (b:Bool) (rs:List Rul) (hx:∀x∈rs,x.text.length≤1000000) (hn:rs.length≤8):∀(n i t:Nat) (tk:List Nat) (B:List UInt8),(t=64060∧tk=tkB b)∨(t=86060∧tk=tkC b)→rs.length-i=n→i≤rs.length→B.length≤100000000+i*2000007→
 ∃t' tk',((t'=64060∧tk'=tkB b)∨(t'=86060∧tk'=tkC b))∧run T (.loop r101_22) ⟨[(3,.byt B (.id t)),(65,.lst 4 (rlsv rs) .no),(66,.int .i64 rs.length),(67,.int .i64 i)],[(101,.rc m.sv)],tk⟩=
 some (.x 2,⟨[(3,.byt ((rs.drop i).foldl rAcc B) (.id t'))],[(101,.rc m.sv)],tk'⟩):=by
 intro n;induction n with
 | zero=>
  intro i t tk B ht h0 h1 h2;have:i=rs.length:=by omega
  subst this;refine⟨t,tk,ht, ?_⟩;rw [List.drop_length,List.foldl_nil,run_loop];rcases ht with⟨rfl,rfl⟩|⟨rfl,rfl⟩
  ·cases b with
   |false=>simp only [tkB];simp only [go_sem,Qh,Qj,Qk,reduceIte]
   |true=>simp only [tkB];simp only [go_sem,Qh,Qj,Qk,reduceIte]
  ·cases b with
   |false=>simp only [tkC];simp only [go_sem,Qh,Qj,Qk,reduceIte]
   |true=>simp only [tkC];simp only [go_sem,Qh,Qj,Qk,reduceIte]
 |succ n ih=>
  intro i t tk B ht h0 h1 h2;have hi:i<rs.length:=by omega
  have hdr:rs.drop i=rs.getD i rl0::rs.drop (i+1):=by rw [List.drop_eq_getElem_cons hi,List.getD_eq_getElem?_getD,List.getElem?_eq_getElem hi];rfl
  have hl:=rAcc_len B (rs.getD i rl0) (hx _ (getD_mem' rs rl0 i hi));rw [s101b m b t tk ht rs hx (by omega) i hi B (by omega),hdr,List.foldl_cons];exact ih (i+1) 86060 _ _ (.inr ⟨rfl,rfl⟩) (by omega) (by omega) (by omega)
def encM (m:Man):List UInt8:=if manE m=0 then m.ruls.foldl rAcc (m.ents.foldl eAcc (hdM m)++bu 1 (m.ruls.length:Int))else []
theorem foldE_len:∀(l:List Ent) (B:List UInt8),(∀x∈l,x.name.length≤1000000∧x.dig.length≤1000000)→(l.foldl eAcc B).length≤B.length+l.length*2000007
 |[],B,_=>by simp
 |x::r,B,h=>by rw [List.foldl_cons,List.length_cons];have h1:=foldE_len r (eAcc B x) (fun y hy=>h y (List.mem_cons_of_mem _ hy));obtain⟨a,c⟩:=h x List.mem_cons_self;have h2:=eAcc_len B x a c;rw [Nat.add_mul];omega
theorem foldR_len:∀(l:List Rul) (B:List UInt8),(∀x∈l,x.text.length≤1000000)→B.length≤(l.foldl rAcc B).length∧(l.foldl rAcc B).length≤B.length+l.length*2000007
 |[],B,_=>by simp
 | x::r,B,h=>by
  rw [List.foldl_cons,List.length_cons];have h1:=foldR_len r (rAcc B x) (fun y hy=>h y (List.mem_cons_of_mem _ hy));have h2:=rAcc_len B x (h x List.mem_cons_self)
  have h3:B.length≤(rAcc B x).length:=by unfold rAcc;rw [List.length_append,List.length_append,blob_len,List.length_append];omega
  rw [Nat.add_mul];omega
theorem man_small {m:Man} (h:manE m=0):m.ents.length≤16∧m.ruls.length≤8:=by
 unfold manE at h
 repeat' split at h
 all_goals first|(exfalso;omega)|skip
 exact⟨by omega,by omega⟩
set_option maxHeartbeats 4000000 in
theorem f101 (m:Man) (hm:ManBd m):call T 101 [.agg m.sv] [] 0=some ⟨.byt (encM m) .no,[],[]⟩:=by
 have g1:=f44 m hm;have k1:((1:Nat):Int)=1:=rfl;have k4:((4:Nat):Int)=4:=rfl;have k6:((6:Nat):Int)=6:=rfl;have hvl:=hm.v;have hrn:=hm.rn;have hel:=ensv_len m.ents;have hrl:=rlsv_len m.ruls;unfold encM
 by_cases hv:manE m=0
 ·obtain⟨h16,h8⟩:=man_small hv
  rw [hv]at g1;rw [if_pos hv];unfold hdM;have u1:=f117' [] 1 21 (by omega) (by omega) (by decide);rw [k1]at u1;generalize hB1:([]++bu 1 21:List UInt8)=B1 at*;have n1:B1.length≤1000:=by rw [←hB1];simp [bu_len]
  have u2:=f118 B1 m.vendor (by omega) (by omega);generalize hB2:blob B1 m.vendor=B2 at*;have n2:B2.length≤10000000:=by rw [←hB2,blob_len];omega
  have u3:=f117' B2 4 m.ver (by omega) (by omega) (by omega);rw [k4]at u3;generalize hB3:B2++bu 4 m.ver=B3 at*;have n3:B3.length≤10000004:=by rw [←hB3,List.length_append,bu_len];omega
  have u4:=f117' B3 4 m.flr (by omega) (by omega) (by omega);rw [k4]at u4;generalize hB4:B3++bu 4 m.flr=B4 at*;have n4:B4.length≤10000008:=by rw [←hB4,List.length_append,bu_len];omega
  have u5:=f117' B4 6 m.frm (by omega) (by omega) (by omega);rw [k6]at u5;generalize hB5:B4++bu 6 m.frm=B5 at*;have n5:B5.length≤10000014:=by rw [←hB5,List.length_append,bu_len];omega
  have u6:=f117' B5 6 m.til (by omega) (by omega) (by omega);rw [k6]at u6;generalize hB6:B5++bu 6 m.til=B6 at*;have n6:B6.length≤10000020:=by rw [←hB6,List.length_append,bu_len];omega
  have u7:=f117' B6 1 (m.ents.length:Int) (by omega) (by omega) (by omega);rw [k1]at u7;generalize hB7:B6++bu 1 (m.ents.length:Int)=B7 at*;have n7:B7.length≤10000021:=by rw [←hB7,List.length_append,bu_len];omega
  obtain⟨b,la⟩:=l101a m hm h16 _ 0 false B7 rfl (by omega) (by omega);have n8:=foldE_len m.ents B7 hm.e;rw [List.drop_zero,Int.natCast_zero]at la;generalize m.ents.foldl eAcc B7=B8 at*;have u8:=f117' B8 1 (m.ruls.length:Int) (by omega) (by omega) (by omega);rw [k1]at u8;generalize hB9:B8++bu 1 (m.ruls.length:Int)=B9 at*;have n9:B9.length≤10000022+16*2000007:=by rw [←hB9,List.length_append,bu_len];omega
  obtain⟨t',tk',ht,lb⟩:=l101b m b m.ruls hm.r h8 _ 0 64060 (tkB b) B9 (.inl ⟨rfl,rfl⟩) rfl (by omega) (by omega);rw [List.drop_zero,Int.natCast_zero]at lb;generalize m.ruls.foldl rAcc B9=B10 at*;obtain⟨mv,m1,m2,m3,m4,es,rs⟩:=m;simp only [Man.sv]at*;rw [call_code T_101];cases b with
  | false=>
   rcases ht with⟨rfl,rfl⟩|⟨rfl,rfl⟩
   ·simp only [tkA,tkB]at la lb
    simp only [go_sem,Qb,Qc,Qd,Qe,Qg,Qh,Qi,Qj,Qk,reduceCtorEq,reduceIte,g1,S_44,u1,u2,u3,u4,u5,u6,u7,S_117,S_118,hel,la,u8,hrl,lb]
   ·simp only [tkA,tkB,tkC]at la lb
    simp only [go_sem,Qb,Qc,Qd,Qe,Qg,Qh,Qi,Qj,Qk,reduceCtorEq,reduceIte,g1,S_44,u1,u2,u3,u4,u5,u6,u7,S_117,S_118,hel,la,u8,hrl,lb]
  | true=>
   rcases ht with⟨rfl,rfl⟩|⟨rfl,rfl⟩
   ·simp only [tkA,tkB]at la lb
    simp only [go_sem,Qb,Qc,Qd,Qe,Qg,Qh,Qi,Qj,Qk,reduceCtorEq,reduceIte,g1,S_44,u1,u2,u3,u4,u5,u6,u7,S_117,S_118,hel,la,u8,hrl,lb]
   ·simp only [tkA,tkB,tkC]at la lb
    simp only [go_sem,Qb,Qc,Qd,Qe,Qg,Qh,Qi,Qj,Qk,reduceCtorEq,reduceIte,g1,S_44,u1,u2,u3,u4,u5,u6,u7,S_117,S_118,hel,la,u8,hrl,lb]
 ·rw [if_neg hv]
  obtain⟨mv,m1,m2,m3,m4,es,rs⟩:=m;simp only [Man.sv]at*;rw [call_code T_101];simp only [go_sem,Qe,Qh,Qi,Qj,Qk,reduceCtorEq,reduceIte,g1,S_44,hv]
def digM (m:Man):List UInt8:=if encM m=[]then []else hashV 21 (encM m)
theorem encM_len (m:Man) (hm:ManBd m):(encM m).length≤100000000:=by
 unfold encM
 by_cases hv:manE m=0
 ·rw [if_pos hv]
  obtain⟨h16,h8⟩:=man_small hv;have h1:=foldE_len m.ents (hdM m) hm.e;have h2:=foldR_len m.ruls (m.ents.foldl eAcc (hdM m)++bu 1 (m.ruls.length:Int)) hm.r
  have h3:(hdM m).length≤10000000:=by have:=hm.v;unfold hdM;simp only [List.length_append,blob_len,bu_len,List.length_nil];omega
  rw [List.length_append,bu_len]at h2;omega
 ·rw [if_neg hv];exact Nat.zero_le _
theorem f59 (m:Man) (hm:ManBd m):call T 59 [.agg m.sv] [] 0=some ⟨.byt (digM m) .no,[],[]⟩:=by
 have g1:=f101 m hm;have hl:=encM_len m hm;have g2:=f102 21 (encM m) (by omega);obtain⟨mv,m1,m2,m3,m4,es,rs⟩:=m;unfold digM;simp only [Man.sv]at*;rw [call_code T_59];generalize encM ⟨mv,m1,m2,m3,m4,es,rs⟩=E at*
 by_cases he:E=[]
 ·subst he
  simp only [go_sem,Qe,Qh,Qi,Qj,Qk,reduceCtorEq,reduceIte,g1,S_101]
 ·have hne:¬(E.length:Int)=0:=by
   intro h;exact he (List.length_eq_zero_iff.1 (by omega))
  rw [if_neg he];simp only [go_sem,Qe,Qh,Qi,Qj,Qk,reduceCtorEq,reduceIte,g1,S_101,hne,g2,S_102]
set_option maxHeartbeats 2000000 in
theorem f87 (a:Int) (ha:actv a) (b0 b1:UInt8):∃d0 d1:List UInt8,d0.length≤100∧d1.length≤100∧
 call T 87 [.int .i64 a,.byt [b0,b1] .no] [] 0=some ⟨.lst 1 (bls [d0,d1]) .no,[],[]⟩:=by
 have k1:IntKind.i64.wrap 1=1:=rfl;have k2:IntKind.i64.wrap 2=2:=rfl;have k12:IntKind.i64.wrap 12=12:=rfl;have k20:IntKind.i64.wrap 20=20:=rfl;have k32:IntKind.i64.wrap 32=32:=rfl;have k31:IntKind.i64.wrap 31=31:=rfl;have k19:IntKind.i64.wrap 19=19:=rfl;have k0:IntKind.i64.wrap 0=0:=rfl;have x0:(0:UInt8)^^^UInt8.ofInt 0=0:=by decide
 have x1:(0:UInt8)^^^UInt8.ofInt 1=1:=by decide
 have t0:IntKind.u64.wrap 0=0:=rfl;have t1:IntKind.u64.wrap 1=1:=rfl;have s10:ibits .and .i64 (Int.fdiv 1 (2^min 0 64)) 1=1:=rfl;have s20:ibits .and .i64 (Int.fdiv 2 (2^min 0 64)) 1=0:=rfl;have s30:ibits .and .i64 (Int.fdiv 3 (2^min 0 64)) 1=1:=rfl;have s11:ibits .and .i64 (Int.fdiv 1 (2^min 1 64)) 1=0:=rfl;have s21:ibits .and .i64 (Int.fdiv 2 (2^min 1 64)) 1=1:=rfl;have s31:ibits .and .i64 (Int.fdiv 3 (2^min 1 64)) 1=1:=rfl;have ha':=ha;unfold actv at ha';rcases ha' with rfl|rfl|rfl
 ·refine⟨[b0,b1,0,0,0,0,0,0,0,0,0,0,0,0,0,0,0,0,0,0],[],by simp,by simp, ?_⟩
  rw [call_code T_87];simp only [go_sem,Q2,Q3,Qa,Qe,Qh,Qi,Qj,Qk,reduceCtorEq,reduceIte,List.replicate]
  iterate 3
   rw [run_loop];simp only [go_sem,Q2,Q3,Q4,Q5,Q8,Q9,Qa,Qe,Qh,Qi,Qj,Qk,reduceCtorEq,reduceIte,k0,k1,k2,x0,x1,k12,k19,k31,k20,k32,t0,t1,s10,s11,setRow,List.replicate,bls]
 ·refine⟨[],[b0,b1,0,0,0,0,0,0,0,0,0,0,0,0,0,0,0,0,0,0,0,0,0,0,0,0,0,0,0,0,0,1],by simp,by simp, ?_⟩
  rw [call_code T_87];simp only [go_sem,Q2,Q3,Qa,Qe,Qh,Qi,Qj,Qk,reduceCtorEq,reduceIte,List.replicate]
  iterate 3
   rw [run_loop];simp only [go_sem,Q2,Q3,Q4,Q5,Q8,Q9,Qa,Qe,Qh,Qi,Qj,Qk,reduceCtorEq,reduceIte,k0,k1,k2,x0,x1,k12,k19,k31,k20,k32,t0,t1,s20,s21,setRow,List.replicate,bls]
 ·refine⟨[b0,b1,0,0,0,0,0,0,0,0,0,0,0,0,0,0,0,0,0,0],[b0,b1,0,0,0,0,0,0,0,0,0,0,0,0,0,0,0,0,0,0,0,0,0,0,0,0,0,0,0,0,0,1],by simp,by simp, ?_⟩
  rw [call_code T_87];simp only [go_sem,Q2,Q3,Qa,Qe,Qh,Qi,Qj,Qk,reduceCtorEq,reduceIte,List.replicate]
  iterate 3
   rw [run_loop];simp only [go_sem,Q2,Q3,Q4,Q8,Q9,Qa,Qe,Qh,Qi,Qj,Qk,reduceCtorEq,reduceIte,k0,k1,k2,x0,x1,k12,k19,k31,k20,k32,t0,t1,s30,s31,setRow,List.replicate,bls]
theorem nx37 (B:List UInt8) (hB:B.length≤1000) (j n:Nat) (hn:0<n):∃v j':Nat,v<n∧call T 37 [.ptr 0 0,.int .i64 (n:Int)] [codesO B j] 0=some ⟨.int .i64 (v:Int),[(0,codesO B j')],[]⟩:=
 ⟨nextV B j n,nextA B j,nextV_lt B j n hn,f37 B j n hn (by omega)⟩
theorem line_len (v:Nat):1≤(lineT v).length∧(lineT v).length≤8:=by unfold lineT;split<;>decide
theorem nx86 (B:List UInt8) (hB:B.length≤1000) (j:Nat):∃(d:List UInt8) (j':Nat),1≤d.length∧d.length≤8∧call T 86 [.ptr 0 0] [codesO B j] 0=some ⟨.byt d .no,[(0,codesO B j')],[]⟩:=
 ⟨_,nextA B j,(line_len _).1,(line_len _).2,f86 B j hB⟩
structure EvS (e:Ev):Prop where
 d2:e.dg.length=2
 b:e.data.length≤1000
 d0:(e.dg.getD 0 []).length≤1000
 d1:(e.dg.getD 1 []).length≤1000
theorem mkV_sv (r k a:Int) (d:List UInt8):(mkV r k a d).sv=[.int .i64 r,.int .i64 k,.lst 1 (bls (mkV r k a d).dg) .no,.byt d .no]:=rfl
theorem mkV_S (r k a:Int) (d:List UInt8) (h:d.length≤1000):EvS (mkV r k a d):=by
 have e1:=sha1_len d;have e2:=sha_len d
 by_cases hk:k=5
 ·refine⟨?_,h, ?_, ?_⟩<;>simp only [mkV,hk,if_true]<;>decide
 ·refine⟨?_,h, ?_, ?_⟩<;>simp only [mkV,hk,if_false]
  ·rfl
  ·rw [List.getD_cons_zero]
   split
   ·omega
   ·exact Nat.zero_le _
  ·rw [List.getD_cons_succ,List.getD_cons_zero]
   split
   ·omega
   ·exact Nat.zero_le _
theorem rg_get:∀v,v<8→∃r:Int,([[SV.int IntKind.i64 0],[SV.int IntKind.i64 0],[SV.int IntKind.i64 4],[SV.int IntKind.i64 8],[SV.int IntKind.i64 9],[SV.int IntKind.i64 9],[SV.int IntKind.i64 1],[SV.int IntKind.i64 11]]:List (List SV)).getD v []=[.int .i64 r]
 |0,_=>⟨_,rfl⟩
 |1,_=>⟨_,rfl⟩
 |2,_=>⟨_,rfl⟩
 |3,_=>⟨_,rfl⟩
 |4,_=>⟨_,rfl⟩
 |5,_=>⟨_,rfl⟩
 |6,_=>⟨_,rfl⟩
 |7,_=>⟨_,rfl⟩
 |n+8,h=>absurd h (by omega)
set_option maxHeartbeats 8000000 in
theorem f38 (B:List UInt8) (hB:B.length≤1000) (j:Nat) (a:Int) (ha:actv a):∃(e:Ev) (j':Nat),EvS e∧call T 38 [.ptr 0 0,.int .i64 a] [codesO B j] 0=some ⟨.agg e.sv,[(0,codesO B j')],[]⟩:=by
 have c8:((8:Nat):Int)=8:=rfl;have c2:((2:Nat):Int)=2:=rfl;obtain⟨d,j1,hd1,hd8,g1⟩:=nx86 B hB j;obtain⟨v2,j2,h2,g2⟩:=nx37 B hB j1 4 (by omega);rw [cz4]at g2;simp only [codesO]at g1 g2
 by_cases p2:v2=3
 ·have n2:(v2:Int)=3:=by omega
  obtain⟨v9,j9,h9,g0⟩:=nx37 B hB j2 2 (by omega);rw [c2]at g0;have l9:v9≤d.length:=by omega
  simp only [codesO]at g0;obtain⟨v3,j3,h3,g3⟩:=nx37 B hB j9 5 (by omega);rw [cz5]at g3;obtain⟨v4,j4,h4,g4⟩:=nx37 B hB j3 8 (by omega);rw [c8]at g4;obtain⟨r,hr⟩:=rg_get v4 h4;obtain⟨k,hk⟩:∃k:Int,k=1+(v3:Int):=⟨_,rfl⟩;have e1:IntKind.i64.wrap (1+(v3:Int))=k:=by rw [hk,w64 (by omega) (by omega)]
  have hv4:(v4:Int)<8:=by omega
  simp only [codesO]at g3 g4
  by_cases p3:k=2
  ·subst p3
   obtain⟨v5,j5,h5,g5⟩:=nx37 B hB j4 4 (by omega);rw [cz4]at g5;simp only [codesO]at g5
   by_cases p5:0<v5
   ·have p5':(0:Int)<(v5:Int):=by omega
    obtain⟨v6,j6,h6,g6⟩:=nx37 B hB j5 8 (by omega);rw [c8]at g6;simp only [codesO]at g6;have gm:=f76 (v6:Int) 2 a [0,0,0,0] ha (by decide);obtain⟨v7,j7,h7,g7⟩:=nx37 B hB j6 4 (by omega);rw [cz4]at g7;simp only [codesO]at g7
    by_cases p7:v7=3
    ·have p7':(v7:Int)=3:=by omega
     obtain⟨v8,j8,h8,g8⟩:=nx37 B hB j7 4 (by omega);rw [cz4]at g8;simp only [codesO]at g8;obtain⟨d0,d1,m0,m1,g9⟩:=f87 a ha (UInt8.ofInt (v8:Int)) (UInt8.ofInt 2);refine⟨⟨(v6:Int),2,[d0,d1],[0,0,0,0]⟩,j8,⟨rfl,Nat.le_of_ble_eq_true rfl,Nat.le_trans m0 (by decide),Nat.le_trans m1 (by decide)⟩, ?_⟩;rw [call_code T_38];rw [mkV_sv]at gm;simp only [Ev.sv];simp only [codesO]at gm ⊢;simp only [go_sem,Q2,Q3,Q5,Qe,Qg,Qh,Qi,Qj,Qk,reduceCtorEq,reduceIte,S_86,S_37,S_76,S_87,g1,g2,n2,g0,l9,g3,e1,g4,hv4,hr,g5,p5',g6,g7,p7',g8,g9,gm]
    ·have p7':¬(v7:Int)=3:=by omega
     refine⟨mkV (v6:Int) 2 a [0,0,0,0],j7,mkV_S _ _ _ _ (Nat.le_of_ble_eq_true rfl), ?_⟩;rw [call_code T_38];rw [mkV_sv]at gm;rw [mkV_sv];simp only [codesO]at gm ⊢;simp only [go_sem,Q2,Q3,Q5,Qe,Qg,Qh,Qi,Qj,Qk,reduceCtorEq,reduceIte,S_86,S_37,S_76,g1,g2,n2,g0,l9,g3,e1,g4,hv4,hr,g5,p5',g6,g7,p7',gm]
   ·have p5':¬(0:Int)<(v5:Int):=by omega
    have gm:=f76 r 2 a (d.take v9) ha (by rw [List.length_take];omega);obtain⟨v7,j7,h7,g7⟩:=nx37 B hB j5 4 (by omega);rw [cz4]at g7;simp only [codesO]at g7
    by_cases p7:v7=3
    ·have p7':(v7:Int)=3:=by omega
     obtain⟨v8,j8,h8,g8⟩:=nx37 B hB j7 4 (by omega);rw [cz4]at g8;simp only [codesO]at g8;obtain⟨d0,d1,m0,m1,g9⟩:=f87 a ha (UInt8.ofInt (v8:Int)) (UInt8.ofInt 2);refine⟨⟨r,2,[d0,d1],(d.take v9)⟩,j8,⟨rfl,by rw [List.length_take];omega,Nat.le_trans m0 (by decide),Nat.le_trans m1 (by decide)⟩, ?_⟩;rw [call_code T_38];rw [mkV_sv]at gm;simp only [Ev.sv];simp only [codesO]at gm ⊢;simp only [go_sem,Q2,Q3,Q5,Qe,Qg,Qh,Qi,Qj,Qk,reduceCtorEq,reduceIte,S_86,S_37,S_76,S_87,g1,g2,n2,g0,l9,g3,e1,g4,hv4,hr,g5,p5',g7,p7',g8,g9,gm]
    ·have p7':¬(v7:Int)=3:=by omega
     refine⟨mkV r 2 a (d.take v9),j7,mkV_S _ _ _ _ (by rw [List.length_take];omega), ?_⟩;rw [call_code T_38];rw [mkV_sv]at gm;rw [mkV_sv];simp only [codesO]at gm ⊢;simp only [go_sem,Q2,Q3,Q5,Qe,Qg,Qh,Qi,Qj,Qk,reduceCtorEq,reduceIte,S_86,S_37,S_76,g1,g2,n2,g0,l9,g3,e1,g4,hv4,hr,g5,p5',g7,p7',gm]
  ·have gm:=f76 r k a (d.take v9) ha (by rw [List.length_take];omega)
   by_cases p5:k=5
   ·subst p5
    refine⟨mkV r 5 a (d.take v9),j4,mkV_S _ _ _ _ (by rw [List.length_take];omega), ?_⟩;rw [call_code T_38];rw [mkV_sv]at gm;rw [mkV_sv];simp only [codesO]at gm ⊢;simp only [go_sem,Q2,Q3,Q5,Qe,Qg,Qh,Qi,Qj,Qk,reduceCtorEq,reduceIte,S_86,S_37,S_76,g1,g2,n2,g0,l9,g3,e1,g4,hv4,hr,gm]
   ·skip
    obtain⟨v7,j7,h7,g7⟩:=nx37 B hB j4 4 (by omega);rw [cz4]at g7;simp only [codesO]at g7
    by_cases p7:v7=3
    ·have p7':(v7:Int)=3:=by omega
     obtain⟨v8,j8,h8,g8⟩:=nx37 B hB j7 4 (by omega);rw [cz4]at g8;simp only [codesO]at g8;obtain⟨d0,d1,m0,m1,g9⟩:=f87 a ha (UInt8.ofInt (v8:Int)) (UInt8.ofInt k);refine⟨⟨r,k,[d0,d1],(d.take v9)⟩,j8,⟨rfl,by rw [List.length_take];omega,Nat.le_trans m0 (by decide),Nat.le_trans m1 (by decide)⟩, ?_⟩;rw [call_code T_38];rw [mkV_sv]at gm;simp only [Ev.sv];simp only [codesO]at gm ⊢;simp only [go_sem,Q2,Q3,Q4,Qe,Qg,Qh,Qi,Qj,Qk,reduceCtorEq,reduceIte,S_86,S_37,S_76,S_87,g1,g2,n2,g0,l9,g3,e1,g4,hv4,hr,p3,p5,g7,p7',g8,g9,gm]
    ·have p7':¬(v7:Int)=3:=by omega
     refine⟨mkV r k a (d.take v9),j7,mkV_S _ _ _ _ (by rw [List.length_take];omega), ?_⟩;rw [call_code T_38];rw [mkV_sv]at gm;rw [mkV_sv];simp only [codesO]at gm ⊢;simp only [go_sem,Q2,Q3,Qe,Qg,Qh,Qi,Qj,Qk,reduceCtorEq,reduceIte,S_86,S_37,S_76,g1,g2,n2,g0,l9,g3,e1,g4,hv4,hr,p3,p5,g7,p7',gm]
 ·have n2:¬(v2:Int)=3:=by omega
  obtain⟨v3,j3,h3,g3⟩:=nx37 B hB j2 5 (by omega);rw [cz5]at g3;obtain⟨v4,j4,h4,g4⟩:=nx37 B hB j3 8 (by omega);rw [c8]at g4;obtain⟨r,hr⟩:=rg_get v4 h4;obtain⟨k,hk⟩:∃k:Int,k=1+(v3:Int):=⟨_,rfl⟩;have e1:IntKind.i64.wrap (1+(v3:Int))=k:=by rw [hk,w64 (by omega) (by omega)]
  have hv4:(v4:Int)<8:=by omega
  simp only [codesO]at g3 g4
  by_cases p3:k=2
  ·subst p3
   obtain⟨v5,j5,h5,g5⟩:=nx37 B hB j4 4 (by omega);rw [cz4]at g5;simp only [codesO]at g5
   by_cases p5:0<v5
   ·have p5':(0:Int)<(v5:Int):=by omega
    obtain⟨v6,j6,h6,g6⟩:=nx37 B hB j5 8 (by omega);rw [c8]at g6;simp only [codesO]at g6;have gm:=f76 (v6:Int) 2 a [0,0,0,0] ha (by decide);obtain⟨v7,j7,h7,g7⟩:=nx37 B hB j6 4 (by omega);rw [cz4]at g7;simp only [codesO]at g7
    by_cases p7:v7=3
    ·have p7':(v7:Int)=3:=by omega
     obtain⟨v8,j8,h8,g8⟩:=nx37 B hB j7 4 (by omega);rw [cz4]at g8;simp only [codesO]at g8;obtain⟨d0,d1,m0,m1,g9⟩:=f87 a ha (UInt8.ofInt (v8:Int)) (UInt8.ofInt 2);refine⟨⟨(v6:Int),2,[d0,d1],[0,0,0,0]⟩,j8,⟨rfl,Nat.le_of_ble_eq_true rfl,Nat.le_trans m0 (by decide),Nat.le_trans m1 (by decide)⟩, ?_⟩;rw [call_code T_38];rw [mkV_sv]at gm;simp only [Ev.sv];simp only [codesO]at gm ⊢;simp only [go_sem,Q5,Qe,Qg,Qh,Qi,Qj,Qk,reduceCtorEq,reduceIte,S_86,S_37,S_76,S_87,g1,g2,n2,g3,e1,g4,hv4,hr,g5,p5',g6,g7,p7',g8,g9,gm]
    ·have p7':¬(v7:Int)=3:=by omega
     refine⟨mkV (v6:Int) 2 a [0,0,0,0],j7,mkV_S _ _ _ _ (Nat.le_of_ble_eq_true rfl), ?_⟩;rw [call_code T_38];rw [mkV_sv]at gm;rw [mkV_sv];simp only [codesO]at gm ⊢;simp only [go_sem,Q5,Qe,Qg,Qh,Qi,Qj,Qk,reduceCtorEq,reduceIte,S_86,S_37,S_76,g1,g2,n2,g3,e1,g4,hv4,hr,g5,p5',g6,g7,p7',gm]
   ·have p5':¬(0:Int)<(v5:Int):=by omega
    have gm:=f76 r 2 a d ha (by show d.length≤_;omega);obtain⟨v7,j7,h7,g7⟩:=nx37 B hB j5 4 (by omega);rw [cz4]at g7;simp only [codesO]at g7
    by_cases p7:v7=3
    ·have p7':(v7:Int)=3:=by omega
     obtain⟨v8,j8,h8,g8⟩:=nx37 B hB j7 4 (by omega);rw [cz4]at g8;simp only [codesO]at g8;obtain⟨d0,d1,m0,m1,g9⟩:=f87 a ha (UInt8.ofInt (v8:Int)) (UInt8.ofInt 2);refine⟨⟨r,2,[d0,d1],d⟩,j8,⟨rfl,by show d.length≤_;omega,Nat.le_trans m0 (by decide),Nat.le_trans m1 (by decide)⟩, ?_⟩;rw [call_code T_38];rw [mkV_sv]at gm;simp only [Ev.sv];simp only [codesO]at gm ⊢;simp only [go_sem,Q5,Qe,Qg,Qh,Qi,Qj,Qk,reduceCtorEq,reduceIte,S_86,S_37,S_76,S_87,g1,g2,n2,g3,e1,g4,hv4,hr,g5,p5',g7,p7',g8,g9,gm]
    ·have p7':¬(v7:Int)=3:=by omega
     refine⟨mkV r 2 a d,j7,mkV_S _ _ _ _ (by show d.length≤_;omega), ?_⟩;rw [call_code T_38];rw [mkV_sv]at gm;rw [mkV_sv];simp only [codesO]at gm ⊢;simp only [go_sem,Q5,Qe,Qg,Qh,Qi,Qj,Qk,reduceCtorEq,reduceIte,S_86,S_37,S_76,g1,g2,n2,g3,e1,g4,hv4,hr,g5,p5',g7,p7',gm]
  ·have gm:=f76 r k a d ha (by show d.length≤_;omega)
   by_cases p5:k=5
   ·subst p5
    refine⟨mkV r 5 a d,j4,mkV_S _ _ _ _ (by show d.length≤_;omega), ?_⟩;rw [call_code T_38];rw [mkV_sv]at gm;rw [mkV_sv];simp only [codesO]at gm ⊢;simp only [go_sem,Q5,Qe,Qg,Qh,Qi,Qj,Qk,reduceCtorEq,reduceIte,S_86,S_37,S_76,g1,g2,n2,g3,e1,g4,hv4,hr,gm]
   ·skip
    obtain⟨v7,j7,h7,g7⟩:=nx37 B hB j4 4 (by omega);rw [cz4]at g7;simp only [codesO]at g7
    by_cases p7:v7=3
    ·have p7':(v7:Int)=3:=by omega
     obtain⟨v8,j8,h8,g8⟩:=nx37 B hB j7 4 (by omega);rw [cz4]at g8;simp only [codesO]at g8;obtain⟨d0,d1,m0,m1,g9⟩:=f87 a ha (UInt8.ofInt (v8:Int)) (UInt8.ofInt k);refine⟨⟨r,k,[d0,d1],d⟩,j8,⟨rfl,by show d.length≤_;omega,Nat.le_trans m0 (by decide),Nat.le_trans m1 (by decide)⟩, ?_⟩;rw [call_code T_38];rw [mkV_sv]at gm;simp only [Ev.sv];simp only [codesO]at gm ⊢;simp only [go_sem,Q4,Qe,Qg,Qh,Qi,Qj,Qk,reduceCtorEq,reduceIte,S_86,S_37,S_76,S_87,g1,g2,n2,g3,e1,g4,hv4,hr,p3,p5,g7,p7',g8,g9,gm]
    ·have p7':¬(v7:Int)=3:=by omega
     refine⟨mkV r k a d,j7,mkV_S _ _ _ _ (by show d.length≤_;omega), ?_⟩;rw [call_code T_38];rw [mkV_sv]at gm;rw [mkV_sv];simp only [codesO]at gm ⊢;simp only [go_sem,Qe,Qg,Qh,Qi,Qj,Qk,reduceCtorEq,reduceIte,S_86,S_37,S_76,g1,g2,n2,g3,e1,g4,hv4,hr,p3,p5,g7,p7',gm]
end Go.Proofs.YtdafipacemgcoaaGreatDoor
